import PyProof.Rows.All
import Wide.All
import OpenK.AllK
import Wide.FinOn
import PyProof.EqAt
import PyProof.EqKinds
import PyProof.TupleCall
import HandS.ForMost
import HandS.Exc
import HandS.TryOnly
import HandS.ExcOwn
import HandS.WordsExc
import HandS.Evl
import HandS.IsInst
import HandS.Deep
import KE.KDictKeyed
import KE.KDictWalk
import HandS.TupAny
import HandS.TupMul
import HandS.CallSlots
import HandS.Wide
import HandS.Iter
import HandS.Zip
import KE.GoesEnum
import HandS.Conv
import HandS.Property
import HandS.TupLen
import HandS.ExcInit
import HandS.ExcIs
import HandS.ExcField
import HandS.TryMany
import KE.KExcIs
import HandS.EndBits
import HandS.Star
import HandS.Style
import KE.SortData
import KE.DataMinMax
import KE.KDictSum
import HandS.DictComp
import PyProof.TupleOfSeq
import HandS.TupSets
import PyProof.WalksMore
import HandS.SetFor
import HandS.Small
import HandS.SlotsOwn
import PySem.Challenge.RW_coverclasses_k01_plans_refused
set_option Elab.async false
set_option linter.all false
set_option maxRecDepth 100000
set_option maxHeartbeats 4000000
/-! A pure layer: data D, what represents it, what evaluates to it. -/
namespace PL
open PySem PySem.Spec PyProof.Rows L2
open Evl (Ex)

/-! ### data -/
inductive D where
  | non
  | bl (b : Bool)
  | int (i : Int)
  | str (x : Str)
  | tup (xs : List D)
  | lst (xs : List D)
  | dct (kvs : List (D × D))
  | dcn (kvs : List (D × D))
  | dcb (kvs : List (Bool × D))
  | ins (C : Str) (fs : List (Str × D))

/-- an error: its class's name, its fields -/
structure Exn where
  cls : Str
  fs : List (Str × D)

inductive Res where
  | ok (d : D)
  | er (x : Exn)

/-- what a slot holds: data that stands; a thing of the def's own that changes; the law's row -/
inductive Sl where
  | im (d : D)
  | ce (d : D)
  | row
abbrev Env := List (Option Sl)

/-- the state of the law's drawing -/
structure Row where
  sa : Addr
  scr : List Int
  ix : Int
  cl : Int
  sd : Int

abbrev EF := Env → Row → Option (Res × Row)

/-! ### representation -/
/-- the text's part and its classes by name -/
structure Gt where
  w : World
  K : PySem.W.Frag
  cls : Str → Option Addr

/-- a dict by its entries as they stand -/
def rawO (a : Addr) (L : List DictEntry) : HO := .ext fun h => ∃ es ep, h.DictRaw a es ep ∧ es.toList = L
/-- an entry whose key is a tuple (of tuples) -/
def entN (w : World) (x : PySem.NestedKey × Addr × Value) : DictEntry := ⟨x.1.hash w, .ref x.2.1, x.2.2⟩
/-- an entry whose key is True or False -/
def entB (w : World) (x : Bool × Value) : DictEntry := ⟨PySem.NestedKey.hash w (.num (if x.1 = true then 1 else 0)), .bool x.1, x.2⟩
mutual
/-- data as a key -/
def nkD : D → Option PySem.NestedKey
  | .non => some .none
  | .bl b => some (.num (if b = true then 1 else 0))
  | .int i => some (.num i)
  | .str x => some (.text x)
  | .tup xs => (nkDs xs).map .tup
  | _ => none
def nkDs : List D → Option (List PySem.NestedKey)
  | [] => some []
  | x :: xs => (nkD x).bind fun k => (nkDs xs).map fun ks => k :: ks
end
/-- a tuple that can be a key -/
def isTup : D → Bool
  | .tup _ => true
  | _ => false

def keyD : Key → D
  | .inl i => .int i
  | .inr x => .str x

mutual
inductive Rep (G : Gt) (H : Hp) : V → D → Prop
  | non : Rep G H .non .non
  | bl (b : Bool) : Rep G H (.bl b) (.bl b)
  | int (i : Int) : Rep G H (.int i) (.int i)
  | str (x : Str) : Rep G H (.str x) (.str x)
  | tup {a : Addr} {vs : List V} {ds : List D} : SqT G.K H a vs → Reps G H vs ds → vs.length ≤ sizeLine → Rep G H (.ref a) (.tup ds)
  | lst {a : Addr} {vs : List V} {ds : List D} : SqL G.K H a vs → H a = some (.lst vs) → Reps G H vs ds → vs.length ≤ sizeLine → Rep G H (.ref a) (.lst ds)
  | dK {a : Addr} {kvs : List (Key × V)} {ds : List (D × D)} : H a = some (.dK kvs) → RepK G H kvs ds → kvs.length ≤ sizeLine → Rep G H (.ref a) (.dct ds)
  | dN {a : Addr} {xs : List (PySem.NestedKey × Addr × Value)} {ds : List (D × D)} : (a == sysModules) = false → H a = some (rawO a (xs.map (entN G.w))) → RepN G H xs ds → (xs.map (·.1)).Nodup → xs.length ≤ sizeLine → Rep G H (.ref a) (.dcn ds)
  | dB {a : Addr} {xs : List (Bool × Value)} {ds : List (Bool × D)} : (a == sysModules) = false → H a = some (rawO a (xs.map (entB G.w))) → RepB G H xs ds → (xs.map (·.1)).Nodup → xs.length ≤ sizeLine → Rep G H (.ref a) (.dcb ds)
  | ins {a C dx : Addr} {nm : Str} {vs : List (Str × V)} {fs : List (Str × D)} : G.cls nm = some C → H a = some (.ins C dx vs) → RepF G H vs fs → Rep G H (.ref a) (.ins nm fs)
inductive Reps (G : Gt) (H : Hp) : List V → List D → Prop
  | nil : Reps G H [] []
  | cons {v : V} {d : D} {vs : List V} {ds : List D} : Rep G H v d → Reps G H vs ds → Reps G H (v :: vs) (d :: ds)
inductive RepK (G : Gt) (H : Hp) : List (Key × V) → List (D × D) → Prop
  | nil : RepK G H [] []
  | cons {k : Key} {v : V} {d : D} {vs : List (Key × V)} {ds : List (D × D)} : Rep G H v d → RepK G H vs ds → RepK G H ((k, v) :: vs) ((keyD k, d) :: ds)
inductive RepN (G : Gt) (H : Hp) : List (PySem.NestedKey × Addr × Value) → List (D × D) → Prop
  | nil : RepN G H [] []
  | cons {k : PySem.NestedKey} {b : Addr} {u : Value} {v : V} {dk d : D} {xs : List (PySem.NestedKey × Addr × Value)} {ds : List (D × D)} : isTup dk = true → nkD dk = some k → k.depth ≤ 8 → Rep G H (.ref b) dk → RelV v u → Rep G H v d → RepN G H xs ds → RepN G H ((k, b, u) :: xs) ((dk, d) :: ds)
inductive RepB (G : Gt) (H : Hp) : List (Bool × Value) → List (Bool × D) → Prop
  | nil : RepB G H [] []
  | cons {k : Bool} {u : Value} {v : V} {d : D} {xs : List (Bool × Value)} {ds : List (Bool × D)} : RelV v u → Rep G H v d → RepB G H xs ds → RepB G H ((k, u) :: xs) ((k, d) :: ds)
inductive RepF (G : Gt) (H : Hp) : List (Str × V) → List (Str × D) → Prop
  | nil : RepF G H [] []
  | cons {f : Str} {v : V} {d : D} {vs : List (Str × V)} {ds : List (Str × D)} : Rep G H v d → RepF G H vs ds → RepF G H ((f, v) :: vs) ((f, d) :: ds)
end

variable {G : Gt}
mutual
theorem Rep.mono {H H' : Hp} (e : Ex H H') : ∀ {v : V} {d : D}, Rep G H v d → Rep G H' v d
  | _, _, .non => .non
  | _, _, .bl b => .bl b
  | _, _, .int i => .int i
  | _, _, .str x => .str x
  | _, _, .tup h r l => .tup (Evl.ex_t e h) (Reps.mono e r) l
  | _, _, .lst h h' r l => .lst (Evl.ex_l e h) (e _ _ h') (Reps.mono e r) l
  | _, _, .dK h r l => .dK (e _ _ h) (RepK.mono e r) l
  | _, _, .dN m h r n l => .dN m (e _ _ h) (RepN.mono e r) n l
  | _, _, .dB m h r n l => .dB m (e _ _ h) (RepB.mono e r) n l
  | _, _, .ins c h r => .ins c (e _ _ h) (RepF.mono e r)
theorem Reps.mono {H H' : Hp} (e : Ex H H') : ∀ {vs : List V} {ds : List D}, Reps G H vs ds → Reps G H' vs ds
  | _, _, .nil => .nil
  | _, _, .cons r t => .cons (Rep.mono e r) (Reps.mono e t)
theorem RepK.mono {H H' : Hp} (e : Ex H H') : ∀ {vs : List (Key × V)} {ds : List (D × D)}, RepK G H vs ds → RepK G H' vs ds
  | _, _, .nil => .nil
  | _, _, .cons r t => .cons (Rep.mono e r) (RepK.mono e t)
theorem RepN.mono {H H' : Hp} (e : Ex H H') : ∀ {vs : List (PySem.NestedKey × Addr × Value)} {ds : List (D × D)}, RepN G H vs ds → RepN G H' vs ds
  | _, _, .nil => .nil
  | _, _, .cons a b c q r s t => .cons a b c (Rep.mono e q) r (Rep.mono e s) (RepN.mono e t)
theorem RepB.mono {H H' : Hp} (e : Ex H H') : ∀ {vs : List (Bool × Value)} {ds : List (Bool × D)}, RepB G H vs ds → RepB G H' vs ds
  | _, _, .nil => .nil
  | _, _, .cons r s t => .cons r (Rep.mono e s) (RepB.mono e t)
theorem RepF.mono {H H' : Hp} (e : Ex H H') : ∀ {vs : List (Str × V)} {ds : List (Str × D)}, RepF G H vs ds → RepF G H' vs ds
  | _, _, .nil => .nil
  | _, _, .cons r t => .cons (Rep.mono e r) (RepF.mono e t)
end
theorem Reps.length {H : Hp} : ∀ {vs : List V} {ds : List D}, Reps G H vs ds → vs.length = ds.length
  | _, _, .nil => rfl
  | _, _, .cons _ t => by rw [List.length_cons, List.length_cons, t.length]
theorem Reps.append {H : Hp} : ∀ {vs ws : List V} {ds es : List D}, Reps G H vs ds → Reps G H ws es → Reps G H (vs ++ ws) (ds ++ es)
  | _, _, _, _, .nil, s => s
  | _, _, _, _, .cons r t, s => .cons r (t.append s)
theorem Reps.get {H : Hp} : ∀ {vs : List V} {ds : List D} {i : Nat} {d : D}, Reps G H vs ds → ds[i]? = some d → ∃ v, vs[i]? = some v ∧ Rep G H v d
  | _, _, _, _, .nil, e => by simp at e
  | _, _, 0, _, .cons r _, e => by simp at e; subst e; exact ⟨_, rfl, r⟩
  | _, _, i + 1, d, .cons _ t, e => by
    obtain ⟨v, h1, h2⟩ := Reps.get (i := i) (d := d) t (by simpa using e)
    exact ⟨v, by simpa using h1, h2⟩
theorem Reps.getV {H : Hp} : ∀ {vs : List V} {ds : List D} {i : Nat} {v : V}, Reps G H vs ds → vs[i]? = some v → ∃ d, ds[i]? = some d ∧ Rep G H v d
  | _, _, _, _, .nil, e => by simp at e
  | _, _, 0, _, .cons r _, e => by simp at e; subst e; exact ⟨_, rfl, r⟩
  | _, _, i + 1, v, .cons _ t, e => by
    obtain ⟨d, h1, h2⟩ := Reps.getV (i := i) (v := v) t (by simpa using e)
    exact ⟨d, by simpa using h1, h2⟩
theorem Reps.take {H : Hp} : ∀ {vs : List V} {ds : List D} (n : Nat), Reps G H vs ds → Reps G H (vs.take n) (ds.take n)
  | _, _, 0, _ => by simpa using Reps.nil
  | _, _, _ + 1, .nil => .nil
  | _, _, n + 1, .cons r t => .cons r (Reps.take n t)
theorem Reps.drop {H : Hp} : ∀ {vs : List V} {ds : List D} (n : Nat), Reps G H vs ds → Reps G H (vs.drop n) (ds.drop n)
  | _, _, 0, r => r
  | _, _, _ + 1, .nil => .nil
  | _, _, n + 1, .cons _ t => Reps.drop n t
theorem Reps.set {H : Hp} {v : V} {d : D} (r : Rep G H v d) : ∀ {vs : List V} {ds : List D} (i : Nat), Reps G H vs ds → Reps G H (vs.set i v) (ds.set i d)
  | _, _, _, .nil => .nil
  | _, _, 0, .cons _ t => .cons r t
  | _, _, i + 1, .cons q t => .cons q (Reps.set r i t)
theorem Reps.dropLast {H : Hp} {vs : List V} {ds : List D} (r : Reps G H vs ds) : Reps G H vs.dropLast ds.dropLast := by
  rw [List.dropLast_eq_take, List.dropLast_eq_take, r.length]
  exact r.take _
theorem Reps.reverse {H : Hp} : ∀ {vs : List V} {ds : List D}, Reps G H vs ds → Reps G H vs.reverse ds.reverse
  | _, _, .nil => .nil
  | _, _, .cons r t => by
    rw [List.reverse_cons, List.reverse_cons]
    exact t.reverse.append (.cons r .nil)
theorem RepF.get {H : Hp} {f : Str} {d : D} : ∀ {vs : List (Str × V)} {fs : List (Str × D)}, RepF G H vs fs → fs.lookup f = some d → ∃ v, vs.lookup f = some v ∧ Rep G H v d
  | _, _, .nil, e => by simp at e
  | _, _, .cons (f := g) r t, e => by
    rw [List.lookup_cons] at e
    rw [List.lookup_cons]
    cases hb : f == g with
    | true => rw [hb] at e; cases e; exact ⟨_, rfl, r⟩
    | false => rw [hb] at e; exact RepF.get t e
theorem RepF.none_of {H : Hp} {f : Str} : ∀ {vs : List (Str × V)} {fs : List (Str × D)}, RepF G H vs fs → fs.lookup f = none → vs.lookup f = none
  | _, _, .nil, e => rfl
  | _, _, .cons (f := g) r t, e => by
    rw [List.lookup_cons] at e
    rw [List.lookup_cons]
    cases hb : f == g with
    | true => rw [hb] at e; cases e
    | false => rw [hb] at e; exact RepF.none_of t e

/-! ### data as the library's PyData -/
mutual
def py : D → PyData
  | .non => .none
  | .bl b => .bool b
  | .int i => .int i
  | .str x => .str x
  | .tup xs => .tuple (pys xs)
  | .lst xs => .list (pys xs)
  | .dct _ => .dict []
  | .dcn _ => .dict []
  | .dcb _ => .dict []
  | .ins _ _ => .dict []
def pys : List D → List PyData
  | [] => []
  | x :: xs => py x :: pys xs
end
mutual
/-- no dict and no instance is in it -/
def flat : D → Bool
  | .dct _ => false
  | .dcn _ => false
  | .dcb _ => false
  | .ins _ _ => false
  | .tup xs => flats xs
  | .lst xs => flats xs
  | _ => true
def flats : List D → Bool
  | [] => true
  | x :: xs => flat x && flats xs
end
mutual
theorem Rep.dp {H : Hp} : ∀ {v : V} {d : D}, Rep G H v d → flat d = true → Dp G.K H v (py d)
  | _, _, .non, _ => by rw [py]; exact .non
  | _, _, .bl b, _ => by rw [py]; exact .bl b
  | _, _, .int i, _ => by rw [py]; exact .int i
  | _, _, .str x, _ => by rw [py]; exact .str x
  | _, _, .tup h r _, f => by rw [py]; rw [flat] at f; exact .tup h (Reps.dp r f)
  | _, _, .lst h _ r _, f => by rw [py]; rw [flat] at f; exact .lst h (Reps.dp r f)
  | _, _, .dK _ _ _, f => by simp [flat] at f
  | _, _, .dN _ _ _ _ _, f => by simp [flat] at f
  | _, _, .dB _ _ _ _ _, f => by simp [flat] at f
  | _, _, .ins _ _ _, f => by simp [flat] at f
theorem Reps.dp {H : Hp} : ∀ {vs : List V} {ds : List D}, Reps G H vs ds → flats ds = true → DpAll G.K H vs (pys ds)
  | _, _, .nil, _ => by rw [pys]; exact .nil
  | _, _, .cons r t, f => by
    rw [pys]; rw [flats, Bool.and_eq_true] at f
    exact .cons (Rep.dp r f.1) (Reps.dp t f.2)
end

/-! ### steps: I what stands for good, H all that is tracked -/
structure Step (R : Option Addr) (I H I' H' : Hp) : Prop where
  ii : Ex I I'
  ih : Ex I' H'
  fr : ∀ a o, H a = some o → R ≠ some a → H' a = some o
  tr : ∀ a, H a ≠ none → H' a ≠ none
  nw : ∀ a, I' a ≠ none → I a ≠ none ∨ H a = none
theorem Step.refl {R : Option Addr} {I H : Hp} (e : Ex I H) : Step R I H I H := ⟨Ex.refl _, e, fun _ _ h _ => h, fun _ h => h, fun _ h => .inl h⟩
theorem Step.trans {R : Option Addr} {I H I1 H1 I2 H2 : Hp} (a : Step R I H I1 H1) (b : Step R I1 H1 I2 H2) : Step R I H I2 H2 where
  ii := a.ii.trans b.ii
  ih := b.ih
  fr := fun p o h n => b.fr p o (a.fr p o h n) n
  tr := fun p h => b.tr p (a.tr p h)
  nw := fun p h => by
    rcases b.nw p h with h | h
    · exact a.nw p h
    · right
      cases q : H p with
      | none => rfl
      | some o => exact absurd h (a.tr p (by rw [q]; simp))
theorem ex_updI {I H : Hp} {p : Addr} {o : HO} (e : Ex I H) (h : H p = none) : Ex (upd I p o) (upd H p o) := fun a u q => by
  by_cases hp : a = p
  · subst hp; rw [upd_same] at q ⊢; exact q
  · rw [upd_ne hp] at q ⊢; exact e a u q
theorem ex_none {I H : Hp} {p : Addr} (e : Ex I H) (h : H p = none) : I p = none := Evl.fresh_back e h
/-- a new thing is laid -/
theorem Step.new {R : Option Addr} {I H : Hp} {p : Addr} {o : HO} (e : Ex I H) (h : H p = none) : Step R I H (upd I p o) (upd H p o) where
  ii := Ex.new (ex_none e h)
  ih := ex_updI e h
  fr := fun a u q _ => Ex.new h a u q
  tr := fun a q => by
    by_cases hp : a = p
    · subst hp; rw [upd_same]; simp
    · rw [upd_ne hp]; exact q
  nw := fun a q => by
    by_cases hp : a = p
    · subst hp; exact .inr h
    · rw [upd_ne hp] at q; exact .inl q
theorem Step.row {I H I' H' : Hp} {R : Option Addr} (s : Step none I H I' H') : Step R I H I' H' := ⟨s.ii, s.ih, fun a o h _ => s.fr a o h (by simp), s.tr, s.nw⟩

/-! ### the row -/
structure Row.Ok (r : Row) : Prop where
  len : r.scr.length ≤ 63
  bits : ∀ z ∈ r.scr, Builtin.Int.intBits z ≤ 1048576
  ix : 0 ≤ r.ix ∧ r.ix ≤ 63
  cl : 0 ≤ r.cl ∧ Builtin.Int.intBits r.cl ≤ 1048576
  sd : 0 ≤ r.sd ∧ r.sd ≤ 2147483647
def RowOk (G : Gt) (R : Option Addr) (r : Row) (I H : Hp) : Prop :=
  match R with
  | none => True
  | some a => I a = none ∧ r.Ok ∧ H a = some (.lst [.ref r.sa, .int r.ix, .int r.cl, .int r.sd]) ∧ I r.sa = some (.lst (r.scr.map V.int))
theorem RowOk.step0 {R : Option Addr} {r : Row} {I H I' H' : Hp} (h : RowOk G R r I H) (s : Step none I H I' H') : RowOk G R r I' H' := by
  cases R with
  | none => trivial
  | some a =>
    obtain ⟨h1, ok, h2, h3⟩ := h
    refine ⟨?_, ok, s.fr _ _ h2 (by simp), s.ii _ _ h3⟩
    cases q : I' a with
    | none => rfl
    | some o =>
      rcases s.nw a (by rw [q]; simp) with z | z
      · exact absurd h1 z
      · rw [h2] at z; cases z

/-! ### slots -/
def Cell (G : Gt) (I H : Hp) (p : Addr) : D → Prop
  | .lst ds => ∃ vs, H p = some (.lst vs) ∧ Reps G I vs ds ∧ vs.length ≤ sizeLine
  | .dct ds => ∃ kvs, H p = some (.dK kvs) ∧ RepK G I kvs ds ∧ kvs.length ≤ sizeLine
  | .dcn ds => ∃ xs, (p == sysModules) = false ∧ H p = some (rawO p (xs.map (entN G.w))) ∧ RepN G I xs ds ∧ (xs.map (·.1)).Nodup ∧ xs.length ≤ sizeLine
  | .ins nm fs => ∃ C dx vs, G.cls nm = some C ∧ H p = some (.ins C dx vs) ∧ RepF G I vs fs
  | _ => False
theorem Cell.there {I H : Hp} {p : Addr} {d : D} (h : Cell G I H p d) : H p ≠ none := by
  cases d with
  | lst ds => obtain ⟨_, e, _⟩ := h; rw [e]; simp
  | dct ds => obtain ⟨_, e, _⟩ := h; rw [e]; simp
  | dcn ds => obtain ⟨_, _, e, _⟩ := h; rw [e]; simp
  | ins nm fs => obtain ⟨_, _, _, _, e, _⟩ := h; rw [e]; simp
  | _ => exact h.elim
theorem Cell.mono {I H I' H' : Hp} {p : Addr} {d : D} (h : Cell G I H p d) (e : Ex I I') (k : ∀ o, H p = some o → H' p = some o) : Cell G I' H' p d := by
  cases d with
  | lst ds => obtain ⟨_, q, r, l⟩ := h; exact ⟨_, k _ q, r.mono e, l⟩
  | dct ds => obtain ⟨_, q, r, l⟩ := h; exact ⟨_, k _ q, r.mono e, l⟩
  | dcn ds => obtain ⟨_, m, q, r, n, l⟩ := h; exact ⟨_, m, k _ q, r.mono e, n, l⟩
  | ins nm fs => obtain ⟨_, _, _, c, q, r⟩ := h; exact ⟨_, _, _, c, k _ q, r.mono e⟩
  | _ => exact h.elim

def SlOk (G : Gt) (R : Option Addr) (I H : Hp) (v : V) : Sl → Prop
  | .im d => Rep G I v d
  | .ce d => ∃ p, v = .ref p ∧ I p = none ∧ R ≠ some p ∧ Cell G I H p d
  | .row => ∃ a, R = some a ∧ v = .ref a
structure Slots (G : Gt) (R : Option Addr) (I H : Hp) (σ : L2.St) (ρ : Env) : Prop where
  len : ρ.length = σ.length
  at_ : ∀ (i : Nat) (s : Sl), ρ[i]? = some (some s) → ∃ v, σ[i]? = some (some v) ∧ SlOk G R I H v s
  ne : ∀ (i j : Nat) (p : Addr) (d e : D), ρ[i]? = some (some (.ce d)) → ρ[j]? = some (some (.ce e)) → σ[i]? = some (some (.ref p)) → σ[j]? = some (some (.ref p)) → i = j
theorem nw_none {R : Option Addr} {I H I' H' : Hp} {p : Addr} (s : Step R I H I' H') (h1 : I p = none) (h2 : H p ≠ none) : I' p = none := by
  cases q : I' p with
  | none => rfl
  | some o =>
    rcases s.nw p (by rw [q]; simp) with z | z
    · exact absurd h1 z
    · exact absurd z h2
theorem SlOk.step {R : Option Addr} {I H I' H' : Hp} {v : V} {s : Sl} (h : SlOk G R I H v s) (st : Step R I H I' H') : SlOk G R I' H' v s := by
  cases s with
  | im d => exact Rep.mono st.ii h
  | ce d =>
    obtain ⟨p, e, n, nR, c⟩ := h
    exact ⟨p, e, nw_none st n c.there, nR, c.mono st.ii fun o q => st.fr p o q nR⟩
  | row => exact h
theorem Slots.step {R : Option Addr} {I H I' H' : Hp} {σ : L2.St} {ρ : Env} (h : Slots G R I H σ ρ) (st : Step R I H I' H') : Slots G R I' H' σ ρ :=
  ⟨h.len, fun i s e => let ⟨v, a, b⟩ := h.at_ i s e; ⟨v, a, b.step st⟩, h.ne⟩

/-! ### errors -/
def XRep (G : Gt) (I H : Hp) (x : Exn) (c : Value) (dd : Option Addr) : Prop :=
  ∃ C, G.cls x.cls = some C ∧ c = .ref C ∧ ((x.fs = [] ∧ dd = none) ∨ ∃ a vs, dd = some a ∧ H a = some (.xd vs) ∧ ∀ f d, x.fs.lookup f = some d → ∃ v, vs.lookup f = some v ∧ Rep G I v d)

/-! ### what a reading evaluates to -/
def PostE (G : Gt) (R : Option Addr) (W : WX) (I H : Hp) (σ : L2.St) (s' : Row) (Q : VK) : Res → Prop
  | .ok d => ∀ v I' H', Step R I H I' H' → RowOk G R s' I' H' → Rep G I' v d → Q v H'
  | .er x => ∀ c dd I' H', Step R I H I' H' → RowOk G R s' I' H' → XRep G I' H' x c dd → W c dd σ H'
def RE (G : Gt) (R : Option Addr) (W : WX) (t : TE) (f : EF) : Prop :=
  ∀ (I H : Hp) (σ : L2.St) (ρ : Env) (s : Row), Ex I H → RowOk G R s I H → Slots G R I H σ ρ → ∀ (Q : VK) (r : Res) (s' : Row), f ρ s = some (r, s') → PostE G R W I H σ s' Q r → t σ H Q
/-- the same of an argument list -/
abbrev AF := Env → Row → Option (Except Exn (List D) × Row)
def PostA (G : Gt) (R : Option Addr) (W : WX) (I H : Hp) (σ : L2.St) (s' : Row) (Q : List V → Hp → Prop) : Except Exn (List D) → Prop
  | .ok ds => ∀ vs I' H', Step R I H I' H' → RowOk G R s' I' H' → Reps G I' vs ds → Q vs H'
  | .error x => ∀ c dd I' H', Step R I H I' H' → RowOk G R s' I' H' → XRep G I' H' x c dd → W c dd σ H'
def RA (G : Gt) (R : Option Addr) (W : WX) (t : TA) (f : AF) : Prop :=
  ∀ (I H : Hp) (σ : L2.St) (ρ : Env) (s : Row), Ex I H → RowOk G R s I H → Slots G R I H σ ρ → ∀ (Q : List V → Hp → Prop) r (s' : Row), f ρ s = some (r, s') → PostA G R W I H σ s' Q r → t σ H Q
/-- .. of a test -/
abbrev TF := Env → Row → Option (Except Exn Bool × Row)
def PostT (G : Gt) (R : Option Addr) (W : WX) (I H : Hp) (σ : L2.St) (s' : Row) (Q : Bool → Hp → Prop) : Except Exn Bool → Prop
  | .ok b => ∀ I' H', Step R I H I' H' → RowOk G R s' I' H' → Q b H'
  | .error x => ∀ c dd I' H', Step R I H I' H' → RowOk G R s' I' H' → XRep G I' H' x c dd → W c dd σ H'
def RT (G : Gt) (R : Option Addr) (W : WX) (t : TT) (f : TF) : Prop :=
  ∀ (I H : Hp) (σ : L2.St) (ρ : Env) (s : Row), Ex I H → RowOk G R s I H → Slots G R I H σ ρ → ∀ (Q : Bool → Hp → Prop) r (s' : Row), f ρ s = some (r, s') → PostT G R W I H σ s' Q r → t σ H Q

/-! ### families of contexts -/
/-- the written facts of a family of contexts -/
structure Fo {ι : Type} (X : ι → Cx) (G : Gt) (P : Program) (w : World) (mg : Str → Option Value) (base : Heap) (k : Nat) (N : List Str) (W : WX) : Prop where
  hK : ∀ i, (X i).K = G.K
  hP : ∀ i, (X i).prog = P
  hw : ∀ i, (X i).w = w
  gw : G.w = w
  hmg : ∀ i, (X i).mg = mg
  hbase : ∀ i, (X i).base = base
  hN : ∀ i, (X i).N = N
  nd : N.Nodup
  room : ∀ i, Room k (X i).A
  tk : ∀ i, Takes (X i) W

section
variable {ι : Type}
def PDE (X : ι → Cx) (G : Gt) (R : Option Addr) (W : WX) (e : Expr) (f : EF) : Prop := ∃ t, (∀ i, PE (X i) e t) ∧ RE G R W t f
def PDA (X : ι → Cx) (G : Gt) (R : Option Addr) (W : WX) (es : List Expr) (f : AF) : Prop := ∃ t, (∀ i, PA (X i) es t) ∧ RA G R W t f
def PDT (X : ι → Cx) (G : Gt) (R : Option Addr) (W : WX) (e : Expr) (f : TF) : Prop := ∃ t, (∀ i, PT (X i) e t) ∧ RT G R W t f
def PDW (X : ι → Cx) (G : Gt) (R : Option Addr) (W : WX) (e : Expr) (f : TF) : Prop := ∃ t, (∀ i, PW (X i) e t) ∧ RT G R W t f
end
end PL
set_option Elab.async false
set_option linter.all false
set_option maxRecDepth 100000
set_option maxHeartbeats 4000000
/-! Expressions of the pure layer. -/
namespace PL
open PySem PySem.Spec PyProof.Rows L2
open Evl (Ex)

/-! ### combinators -/
def bE {α : Type} (x : Option (Res × Row)) (er : Exn → α) (k : D → Row → Option (α × Row)) : Option (α × Row) :=
  match x with
  | none => none
  | some (.er e, s) => some (er e, s)
  | some (.ok d, s) => k d s
@[simp] theorem bE_none {α : Type} (er : Exn → α) (k : D → Row → Option (α × Row)) : bE none er k = none := rfl
@[simp] theorem bE_er {α : Type} (e : Exn) (s : Row) (er : Exn → α) (k : D → Row → Option (α × Row)) : bE (some (.er e, s)) er k = some (er e, s) := rfl
@[simp] theorem bE_ok {α : Type} (d : D) (s : Row) (er : Exn → α) (k : D → Row → Option (α × Row)) : bE (some (.ok d, s)) er k = k d s := rfl
def bA {α : Type} (x : Option (Except Exn (List D) × Row)) (er : Exn → α) (k : List D → Row → Option (α × Row)) : Option (α × Row) :=
  match x with
  | none => none
  | some (.error e, s) => some (er e, s)
  | some (.ok d, s) => k d s
@[simp] theorem bA_none {α : Type} (er : Exn → α) (k : List D → Row → Option (α × Row)) : bA none er k = none := rfl
@[simp] theorem bA_er {α : Type} (e : Exn) (s : Row) (er : Exn → α) (k : List D → Row → Option (α × Row)) : bA (some (.error e, s)) er k = some (er e, s) := rfl
@[simp] theorem bA_ok {α : Type} (d : List D) (s : Row) (er : Exn → α) (k : List D → Row → Option (α × Row)) : bA (some (.ok d, s)) er k = k d s := rfl
def bT {α : Type} (x : Option (Except Exn Bool × Row)) (er : Exn → α) (k : Bool → Row → Option (α × Row)) : Option (α × Row) :=
  match x with
  | none => none
  | some (.error e, s) => some (er e, s)
  | some (.ok d, s) => k d s
@[simp] theorem bT_none {α : Type} (er : Exn → α) (k : Bool → Row → Option (α × Row)) : bT none er k = none := rfl
@[simp] theorem bT_er {α : Type} (e : Exn) (s : Row) (er : Exn → α) (k : Bool → Row → Option (α × Row)) : bT (some (.error e, s)) er k = some (er e, s) := rfl
@[simp] theorem bT_ok {α : Type} (d : Bool) (s : Row) (er : Exn → α) (k : Bool → Row → Option (α × Row)) : bT (some (.ok d, s)) er k = k d s := rfl

/-- a value, done -/
def okR (o : Option D) (s : Row) : Option (Res × Row) := match o with | none => none | some d => some (.ok d, s)
@[simp] theorem okR_some (d : D) (s : Row) : okR (some d) s = some (.ok d, s) := rfl
@[simp] theorem okR_none (s : Row) : okR none s = none := rfl

def imAt (ρ : Env) (i : Nat) : Option D := match ρ[i]? with | some (some (.im d)) => some d | _ => none
def e_var (i : Nat) : EF := fun ρ s => okR (imAt ρ i) s
def e_c (d : D) : EF := fun _ s => some (.ok d, s)
def e_bin (op : D → D → Option D) (fa fb : EF) : EF := fun ρ s => bE (fa ρ s) .er fun x s1 => bE (fb ρ s1) .er fun y s2 => okR (op x y) s2
def e_un (op : D → Option D) (fa : EF) : EF := fun ρ s => bE (fa ρ s) .er fun x s1 => okR (op x) s1
def a_nil : AF := fun _ s => some (.ok [], s)
def a_cons (fa : EF) (fr : AF) : AF := fun ρ s => bE (fa ρ s) .error fun x s1 => bA (fr ρ s1) .error fun xs s2 => some (.ok (x :: xs), s2)
def e_args (op : List D → Option D) (fa : AF) : EF := fun ρ s => bA (fa ρ s) .er fun xs s1 => okR (op xs) s1
def tupD (xs : List D) : Option D := if xs.length ≤ sizeLine then some (.tup xs) else none
def lstD (xs : List D) : Option D := if xs.length ≤ sizeLine then some (.lst xs) else none
def notV : D → Option D
  | .bl b => some (.bl (!b))
  | _ => none
def t_of (fa : EF) : TF := fun ρ s => bE (fa ρ s) .error fun x s1 => match x with | .bl b => some (.ok b, s1) | _ => none
def t_not (fa : TF) : TF := fun ρ s => bT (fa ρ s) .error fun b s1 => some (.ok (!b), s1)
def t_and (fa fb : TF) : TF := fun ρ s => bT (fa ρ s) .error fun b s1 => if b = true then fb ρ s1 else some (.ok false, s1)
def t_or (fa fb : TF) : TF := fun ρ s => bT (fa ρ s) .error fun b s1 => if b = true then some (.ok true, s1) else fb ρ s1
def e_and (fa fb : EF) : EF := fun ρ s => bE (fa ρ s) .er fun x s1 => match x with | .bl true => fb ρ s1 | .bl false => some (.ok (.bl false), s1) | _ => none
def e_or (fa fb : EF) : EF := fun ρ s => bE (fa ρ s) .er fun x s1 => match x with | .bl true => some (.ok (.bl true), s1) | .bl false => fb ρ s1 | _ => none
def e_if (t : TF) (fa fb : EF) : EF := fun ρ s => bT (t ρ s) .er fun b s1 => if b = true then fa ρ s1 else fb ρ s1
def e_chain (op op' : D → D → Option D) (fa fb fc : EF) : EF := fun ρ s => bE (fa ρ s) .er fun x s1 => bE (fb ρ s1) .er fun y s2 =>
  match op x y with | some (.bl true) => bE (fc ρ s2) .er fun z s3 => okR (op' y z) s3 | some (.bl false) => some (.ok (.bl false), s2) | _ => none

/-! ### the pure theorems -/
section
variable {G : Gt} {R : Option Addr} {W : WX}
/-- the next evaluation behind one that gave a value -/
theorem bE_cases {α : Type} {x : Option (Res × Row)} {er : Exn → α} {k : D → Row → Option (α × Row)} {r : α} {s' : Row} (h : bE x er k = some (r, s')) :
    (∃ e, x = some (.er e, s') ∧ r = er e) ∨ ∃ d s1, x = some (.ok d, s1) ∧ k d s1 = some (r, s') := by
  cases x with
  | none => cases h
  | some p =>
    obtain ⟨q, s1⟩ := p
    cases q with
    | er e => rw [bE_er] at h; cases h; exact .inl ⟨e, rfl, rfl⟩
    | ok d => exact .inr ⟨d, s1, rfl, h⟩
theorem bA_cases {α : Type} {x : Option (Except Exn (List D) × Row)} {er : Exn → α} {k : List D → Row → Option (α × Row)} {r : α} {s' : Row} (h : bA x er k = some (r, s')) :
    (∃ e, x = some (.error e, s') ∧ r = er e) ∨ ∃ d s1, x = some (.ok d, s1) ∧ k d s1 = some (r, s') := by
  cases x with
  | none => cases h
  | some p =>
    obtain ⟨q, s1⟩ := p
    cases q with
    | error e => rw [bA_er] at h; cases h; exact .inl ⟨e, rfl, rfl⟩
    | ok d => exact .inr ⟨d, s1, rfl, h⟩
theorem bT_cases {α : Type} {x : Option (Except Exn Bool × Row)} {er : Exn → α} {k : Bool → Row → Option (α × Row)} {r : α} {s' : Row} (h : bT x er k = some (r, s')) :
    (∃ e, x = some (.error e, s') ∧ r = er e) ∨ ∃ d s1, x = some (.ok d, s1) ∧ k d s1 = some (r, s') := by
  cases x with
  | none => cases h
  | some p =>
    obtain ⟨q, s1⟩ := p
    cases q with
    | error e => rw [bT_er] at h; cases h; exact .inl ⟨e, rfl, rfl⟩
    | ok d => exact .inr ⟨d, s1, rfl, h⟩
theorem okR_cases {o : Option D} {s s' : Row} {r : Res} (h : okR o s = some (r, s')) : ∃ d, o = some d ∧ r = .ok d ∧ s' = s := by
  cases o with
  | none => cases h
  | some d => cases h; exact ⟨d, rfl, rfl, rfl⟩
theorem imAt_cases {ρ : Env} {i : Nat} {d : D} (h : imAt ρ i = some d) : ρ[i]? = some (some (.im d)) := by
  unfold imAt at h
  split at h
  · rename_i e; cases h; exact e
  · cases h

/-- evaluate t first (giving x), then go on -/
theorem re_seq {α : Type} {t : TE} {f : EF} (h : RE G R W t f) {I H : Hp} {σ : L2.St} {ρ : Env} {s : Row} (e : Ex I H) (rw_ : RowOk G R s I H) (sl : Slots G R I H σ ρ) {er : Exn → α} {k : D → Row → Option (α × Row)} {r : α} {s' : Row} {Q : VK}
    (hf : bE (f ρ s) er k = some (r, s'))
    (hx : ∀ x, r = er x → ∀ c dd I' H', Step R I H I' H' → RowOk G R s' I' H' → XRep G I' H' x c dd → W c dd σ H')
    (hk : ∀ d s1, k d s1 = some (r, s') → ∀ v I1 H1, Step R I H I1 H1 → RowOk G R s1 I1 H1 → Slots G R I1 H1 σ ρ → Rep G I1 v d → Q v H1) : t σ H Q := by
  rcases bE_cases hf with ⟨x, e1, e2⟩ | ⟨d, s1, e1, e2⟩
  · exact h I H σ ρ s e rw_ sl Q _ _ e1 (hx x e2)
  · refine h I H σ ρ s e rw_ sl Q _ _ e1 ?_
    intro v I1 H1 st ro rep
    exact hk d s1 e2 v I1 H1 st ro (sl.step st) rep
theorem ra_seq {α : Type} {t : TA} {f : AF} (h : RA G R W t f) {I H : Hp} {σ : L2.St} {ρ : Env} {s : Row} (e : Ex I H) (rw_ : RowOk G R s I H) (sl : Slots G R I H σ ρ) {er : Exn → α} {k : List D → Row → Option (α × Row)} {r : α} {s' : Row} {Q : List V → Hp → Prop}
    (hf : bA (f ρ s) er k = some (r, s'))
    (hx : ∀ x, r = er x → ∀ c dd I' H', Step R I H I' H' → RowOk G R s' I' H' → XRep G I' H' x c dd → W c dd σ H')
    (hk : ∀ d s1, k d s1 = some (r, s') → ∀ v I1 H1, Step R I H I1 H1 → RowOk G R s1 I1 H1 → Slots G R I1 H1 σ ρ → Reps G I1 v d → Q v H1) : t σ H Q := by
  rcases bA_cases hf with ⟨x, e1, e2⟩ | ⟨d, s1, e1, e2⟩
  · exact h I H σ ρ s e rw_ sl Q _ _ e1 (hx x e2)
  · refine h I H σ ρ s e rw_ sl Q _ _ e1 ?_
    intro v I1 H1 st ro rep
    exact hk d s1 e2 v I1 H1 st ro (sl.step st) rep
theorem rt_seq {α : Type} {t : TT} {f : TF} (h : RT G R W t f) {I H : Hp} {σ : L2.St} {ρ : Env} {s : Row} (e : Ex I H) (rw_ : RowOk G R s I H) (sl : Slots G R I H σ ρ) {er : Exn → α} {k : Bool → Row → Option (α × Row)} {r : α} {s' : Row} {Q : Bool → Hp → Prop}
    (hf : bT (f ρ s) er k = some (r, s'))
    (hx : ∀ x, r = er x → ∀ c dd I' H', Step R I H I' H' → RowOk G R s' I' H' → XRep G I' H' x c dd → W c dd σ H')
    (hk : ∀ d s1, k d s1 = some (r, s') → ∀ I1 H1, Step R I H I1 H1 → RowOk G R s1 I1 H1 → Slots G R I1 H1 σ ρ → Q d H1) : t σ H Q := by
  rcases bT_cases hf with ⟨x, e1, e2⟩ | ⟨d, s1, e1, e2⟩
  · exact h I H σ ρ s e rw_ sl Q _ _ e1 (hx x e2)
  · refine h I H σ ρ s e rw_ sl Q _ _ e1 ?_
    intro I1 H1 st ro
    exact hk d s1 e2 I1 H1 st ro (sl.step st)

theorem re_var {i : Nat} : RE G R W (tVar i) (e_var i) := fun I H σ ρ s e ro sl Q r s' hf hp => by
  obtain ⟨d, e1, e2, e3⟩ := okR_cases hf
  subst e2; subst e3
  obtain ⟨v, a, b⟩ := sl.at_ i _ (imAt_cases e1)
  exact ⟨v, a, hp v I H (Step.refl e) ro b⟩
theorem re_c {v : V} {d : D} (h : ∀ H, Rep G H v d) : RE G R W (tC v) (e_c d) := fun I H σ ρ s e ro sl Q r s' hf hp => by
  have hf' : some (Res.ok d, s) = some (r, s') := hf
  cases hf'
  exact hp v I H (Step.refl e) ro (h I)

/-- an operation by values -/
def OpS (G : Gt) (r : R2) (op : D → D → Option D) : Prop := ∀ (I H : Hp) (x y : V) (a b d : D), Ex I H → Rep G I x a → Rep G I y b → op a b = some d → ∀ Q : VK, (∀ v I' H', Step none I H I' H' → Rep G I' v d → Q v H') → r x y H Q
def UnS (G : Gt) (r : V → Hp → VK → Prop) (op : D → Option D) : Prop := ∀ (I H : Hp) (x : V) (a d : D), Ex I H → Rep G I x a → op a = some d → ∀ Q : VK, (∀ v I' H', Step none I H I' H' → Rep G I' v d → Q v H') → r x H Q
def LsS (G : Gt) (r : List V → Hp → VK → Prop) (op : List D → Option D) : Prop := ∀ (I H : Hp) (xs : List V) (as : List D) (d : D), Ex I H → Reps G I xs as → op as = some d → ∀ Q : VK, (∀ v I' H', Step none I H I' H' → Rep G I' v d → Q v H') → r xs H Q
theorem re_bin {r : R2} {op : D → D → Option D} {ta tb : TE} {fa fb : EF} (ho : OpS G r op) (ha : RE G R W ta fa) (hb : RE G R W tb fb) : RE G R W (tOp r ta tb) (e_bin op fa fb) := fun I H σ ρ s e ro sl Q res s' hf hp => by
  refine re_seq ha e ro sl hf (fun x ex => by subst ex; exact hp) fun x s1 h1 v I1 H1 st1 ro1 sl1 rv => ?_
  refine re_seq hb st1.ih ro1 sl1 h1 (fun z ez => by subst ez; exact fun c dd I' H' st => hp c dd I' H' (st1.trans st)) fun y s2 h2 u I2 H2 st2 ro2 sl2 ru => ?_
  obtain ⟨d, e1, e2, e3⟩ := okR_cases h2
  subst e2; subst e3
  refine ho I2 H2 v u x y d st2.ih (rv.mono st2.ii) ru e1 Q fun w I3 H3 st3 rw3 => ?_
  exact hp w I3 H3 ((st1.trans st2).trans st3.row) (ro2.step0 st3) rw3
theorem re_un {r : V → Hp → VK → Prop} {op : D → Option D} {ta : TE} {fa : EF} (ho : UnS G r op) (ha : RE G R W ta fa) : RE G R W (tUn r ta) (e_un op fa) := fun I H σ ρ s e ro sl Q res s' hf hp => by
  refine re_seq ha e ro sl hf (fun x ex => by subst ex; exact hp) fun x s1 h1 v I1 H1 st1 ro1 sl1 rv => ?_
  obtain ⟨d, e1, e2, e3⟩ := okR_cases h1
  subst e2; subst e3
  refine ho I1 H1 v x d st1.ih rv e1 Q fun w I3 H3 st3 rw3 => ?_
  exact hp w I3 H3 (st1.trans st3.row) (ro1.step0 st3) rw3
theorem ra_nil : RA G R W tNil a_nil := fun I H σ ρ s e ro sl Q r s' hf hp => by
  have hf' : some (Except.ok [], s) = some (r, s') := hf
  cases hf'
  exact hp [] I H (Step.refl e) ro .nil
theorem ra_cons {ta : TE} {tr : TA} {fa : EF} {fr : AF} (ha : RE G R W ta fa) (hr : RA G R W tr fr) : RA G R W (tCons ta tr) (a_cons fa fr) := fun I H σ ρ s e ro sl Q res s' hf hp => by
  refine re_seq ha e ro sl hf (fun x ex => by subst ex; exact hp) fun x s1 h1 v I1 H1 st1 ro1 sl1 rv => ?_
  refine ra_seq hr st1.ih ro1 sl1 h1 (fun z ez => by subst ez; exact fun c dd I' H' st => hp c dd I' H' (st1.trans st)) fun xs s2 h2 vs I2 H2 st2 ro2 sl2 rvs => ?_
  cases h2
  exact hp (v :: vs) I2 H2 (st1.trans st2) ro2 (.cons (rv.mono st2.ii) rvs)
/-- what is done with an argument list, by values -/
theorem re_args {r : List V → Hp → VK → Prop} {op : List D → Option D} {ta : TA} {fa : AF} (ho : LsS G r op) (ha : RA G R W ta fa) : RE G R W (fun σ H Q => ta σ H fun xs H1 => r xs H1 Q) (e_args op fa) := fun I H σ ρ s e ro sl Q res s' hf hp => by
  refine ra_seq ha e ro sl hf (fun x ex => by subst ex; exact hp) fun xs s1 h1 vs I1 H1 st1 ro1 sl1 rv => ?_
  obtain ⟨d, e1, e2, e3⟩ := okR_cases h1
  subst e2; subst e3
  refine ho I1 H1 vs xs d st1.ih rv e1 Q fun w I3 H3 st3 rw3 => ?_
  exact hp w I3 H3 (st1.trans st3.row) (ro1.step0 st3) rw3
theorem lss_tup : LsS G (fun xs H1 Q => xs.length ≤ sizeLine ∧ ∀ p, H1 p = none → Q (.ref p) (upd H1 p (.tup xs))) tupD := fun I H xs as d e rs ho Q hq => by
  unfold tupD at ho
  split at ho
  · rename_i hl
    cases ho
    have hl' : xs.length ≤ sizeLine := by rw [rs.length]; exact hl
    refine ⟨hl', fun p hp => hq _ (upd I p (.tup xs)) _ (Step.new e hp) (.tup (.inl (.inl upd_same)) (rs.mono (Ex.new (ex_none e hp))) hl')⟩
  · cases ho
theorem lss_lst : LsS G (fun xs H1 Q => xs.length ≤ sizeLine ∧ ∀ p, H1 p = none → Q (.ref p) (upd H1 p (.lst xs))) lstD := fun I H xs as d e rs ho Q hq => by
  unfold lstD at ho
  split at ho
  · rename_i hl
    cases ho
    have hl' : xs.length ≤ sizeLine := by rw [rs.length]; exact hl
    refine ⟨hl', fun p hp => hq _ (upd I p (.lst xs)) _ (Step.new e hp) (.lst (.inl (.inl upd_same)) upd_same (rs.mono (Ex.new (ex_none e hp))) hl')⟩
  · cases ho
theorem rt_of {te : TE} {fa : EF} (ha : RE G R W te fa) : RT G R W (tB te) (t_of fa) := fun I H σ ρ s e ro sl Q res s' hf hp => by
  refine re_seq ha e ro sl hf (fun x ex => by subst ex; exact hp) fun x s1 h1 v I1 H1 st1 ro1 sl1 rv => ?_
  cases x with
  | bl b =>
    cases h1
    cases rv
    exact ⟨b, rfl, hp I1 H1 st1 ro1⟩
  | _ => cases h1
theorem rt_test {te : TE} {fa : EF} (ha : RE G R W te fa) : RT G R W (tTest te) (t_of fa) := rt_of ha
theorem rt_not {t : TT} {f : TF} (h : RT G R W t f) : RT G R W (tNot t) (t_not f) := fun I H σ ρ s e ro sl Q res s' hf hp => by
  refine rt_seq h e ro sl hf (fun x ex => by subst ex; exact hp) fun b s1 h1 I1 H1 st1 ro1 sl1 => ?_
  cases h1
  exact hp I1 H1 st1 ro1
theorem rt_and {t u : TT} {f g : TF} (h : RT G R W t f) (h' : RT G R W u g) : RT G R W (tAnd t u) (t_and f g) := fun I H σ ρ s e ro sl Q res s' hf hp => by
  refine rt_seq h e ro sl hf (fun x ex => by subst ex; exact hp) fun b s1 h1 I1 H1 st1 ro1 sl1 => ?_
  cases b with
  | true =>
    refine iteT (h' I1 H1 σ ρ s1 st1.ih ro1 sl1 Q res s' h1 ?_)
    cases res with
    | ok c => exact fun I2 H2 st2 => hp I2 H2 (st1.trans st2)
    | error x => exact fun c dd I' H' st => hp c dd I' H' (st1.trans st)
  | false =>
    cases h1
    exact iteF (hp I1 H1 st1 ro1)
theorem rt_or {t u : TT} {f g : TF} (h : RT G R W t f) (h' : RT G R W u g) : RT G R W (tOr t u) (t_or f g) := fun I H σ ρ s e ro sl Q res s' hf hp => by
  refine rt_seq h e ro sl hf (fun x ex => by subst ex; exact hp) fun b s1 h1 I1 H1 st1 ro1 sl1 => ?_
  cases b with
  | false =>
    refine iteF (h' I1 H1 σ ρ s1 st1.ih ro1 sl1 Q res s' h1 ?_)
    cases res with
    | ok c => exact fun I2 H2 st2 => hp I2 H2 (st1.trans st2)
    | error x => exact fun c dd I' H' st => hp c dd I' H' (st1.trans st)
  | true =>
    cases h1
    exact iteT (hp I1 H1 st1 ro1)
theorem post_trans {I H I1 H1 : Hp} {σ : L2.St} {s' : Row} {Q : VK} {res : Res} (st1 : Step R I H I1 H1) (hp : PostE G R W I H σ s' Q res) : PostE G R W I1 H1 σ s' Q res := by
  cases res with
  | ok c => exact fun v I2 H2 st2 => hp v I2 H2 (st1.trans st2)
  | er x => exact fun c dd I' H' st => hp c dd I' H' (st1.trans st)
theorem re_and {ta tb : TE} {fa fb : EF} (h : RE G R W ta fa) (h' : RE G R W tb fb) : RE G R W (tAndV ta tb) (e_and fa fb) := fun I H σ ρ s e ro sl Q res s' hf hp => by
  refine re_seq h e ro sl hf (fun x ex => by subst ex; exact hp) fun x s1 h1 v I1 H1 st1 ro1 sl1 rv => ?_
  cases x with
  | bl b =>
    cases rv
    cases b with
    | true => exact ⟨true, rfl, iteT (h' I1 H1 σ ρ s1 st1.ih ro1 sl1 Q res s' h1 (post_trans st1 hp))⟩
    | false => cases h1; exact ⟨false, rfl, iteF (hp _ I1 H1 st1 ro1 (.bl false))⟩
  | _ => cases h1
theorem re_or {ta tb : TE} {fa fb : EF} (h : RE G R W ta fa) (h' : RE G R W tb fb) : RE G R W (tOrV ta tb) (e_or fa fb) := fun I H σ ρ s e ro sl Q res s' hf hp => by
  refine re_seq h e ro sl hf (fun x ex => by subst ex; exact hp) fun x s1 h1 v I1 H1 st1 ro1 sl1 rv => ?_
  cases x with
  | bl b =>
    cases rv
    cases b with
    | false => exact ⟨false, rfl, iteF (h' I1 H1 σ ρ s1 st1.ih ro1 sl1 Q res s' h1 (post_trans st1 hp))⟩
    | true => cases h1; exact ⟨true, rfl, iteT (hp _ I1 H1 st1 ro1 (.bl true))⟩
  | _ => cases h1
theorem re_notV {ta : TE} {fa : EF} (h : RE G R W ta fa) : RE G R W (tNotV ta) (e_un notV fa) := fun I H σ ρ s e ro sl Q res s' hf hp => by
  refine re_seq h e ro sl hf (fun x ex => by subst ex; exact hp) fun x s1 h1 v I1 H1 st1 ro1 sl1 rv => ?_
  obtain ⟨d, e1, e2, e3⟩ := okR_cases h1
  subst e2; subst e3
  cases x with
  | bl b => cases rv; cases e1; exact ⟨b, rfl, hp _ I1 H1 st1 ro1 (.bl _)⟩
  | _ => cases e1
theorem re_if {t : TT} {ta tb : TE} {f : TF} {fa fb : EF} (h : RT G R W t f) (ha : RE G R W ta fa) (hb : RE G R W tb fb) : RE G R W (tIf t ta tb) (e_if f fa fb) := fun I H σ ρ s e ro sl Q res s' hf hp => by
  refine rt_seq h e ro sl hf (fun x ex => by subst ex; exact hp) fun b s1 h1 I1 H1 st1 ro1 sl1 => ?_
  cases b with
  | true => exact iteT (ha I1 H1 σ ρ s1 st1.ih ro1 sl1 Q res s' h1 (post_trans st1 hp))
  | false => exact iteF (hb I1 H1 σ ρ s1 st1.ih ro1 sl1 Q res s' h1 (post_trans st1 hp))
theorem re_chain {r r' : R2} {op op' : D → D → Option D} {ta tb tc : TE} {fa fb fc : EF} (ho : OpS G r op) (ho' : OpS G r' op') (ha : RE G R W ta fa) (hb : RE G R W tb fb) (hc : RE G R W tc fc) : RE G R W (tChain r r' ta tb tc) (e_chain op op' fa fb fc) := fun I H σ ρ s e ro sl Q res s' hf hp => by
  refine re_seq ha e ro sl hf (fun x ex => by subst ex; exact hp) fun x s1 h1 v I1 H1 st1 ro1 sl1 rv => ?_
  refine re_seq hb st1.ih ro1 sl1 h1 (fun z ez => by subst ez; exact fun c dd I' H' st => hp c dd I' H' (st1.trans st)) fun y s2 h2 u I2 H2 st2 ro2 sl2 ru => ?_
  cases q : op x y with
  | none => rw [q] at h2; cases h2
  | some d =>
    rw [q] at h2
    refine ho I2 H2 v u x y d st2.ih (rv.mono st2.ii) ru q _ fun w I3 H3 st3 rw3 => ?_
    cases d with
    | bl b =>
      cases rw3
      refine ⟨b, rfl, ?_⟩
      have st123 := (st1.trans st2).trans (st3.row (R := R))
      cases b with
      | false => cases h2; exact iteF (hp _ I3 H3 st123 (ro2.step0 st3) (.bl false))
      | true =>
        refine iteT (re_seq hc st3.ih (ro2.step0 st3) (sl2.step st3.row) h2 (fun z ez => by subst ez; exact fun c dd I' H' st => hp c dd I' H' (st123.trans st)) fun z s4 h4 t I4 H4 st4 ro4 sl4 rt => ?_)
        obtain ⟨d, e1, e2, e3⟩ := okR_cases h4
        subst e2; subst e3
        refine ho' I4 H4 u t y z d st4.ih ((ru.mono st3.ii).mono st4.ii) rt e1 Q fun w I5 H5 st5 rw5 => ?_
        exact hp w I5 H5 ((st123.trans st4).trans st5.row) (ro4.step0 st5) rw5
    | _ => cases h2
end
end PL
set_option Elab.async false
set_option linter.all false
set_option maxRecDepth 100000
set_option maxHeartbeats 4000000
/-! Operators of the pure layer. -/
namespace PL
open PySem PySem.Spec PyProof.Rows L2
open Evl (Ex)

def addD : D → D → Option D
  | .int i, .int j => some (.int (i + j))
  | .int i, .bl k => some (.int (i + b2i k))
  | .str x, .str y => if x.length + y.length ≤ sizeLine then some (.str (x ++ y)) else none
  | .tup xs, .tup ys => if xs.length + ys.length ≤ sizeLine then some (.tup (xs ++ ys)) else none
  | .lst xs, .lst ys => if xs.length + ys.length ≤ sizeLine then some (.lst (xs ++ ys)) else none
  | _, _ => none
def subD : D → D → Option D
  | .int i, .int j => some (.int (i - j))
  | _, _ => none
def mulD : D → D → Option D
  | .int i, .int j => if (-(2 ^ 64) < i ∧ i < 2 ^ 64) ∨ (-(2 ^ 64) < j ∧ j < 2 ^ 64) then some (.int (i * j)) else none
  | .tup xs, .int k => if xs ≠ [] ∧ 2 ≤ k ∧ k ≤ 1000 ∧ xs.length ≤ 1000 then some (.tup (List.replicate k.toNat xs).flatten) else none
  | .lst xs, .int k => if -(2 ^ 63) ≤ k ∧ k < 2 ^ 63 ∧ xs.length * k.toNat ≤ sizeLine then some (.lst (List.replicate k.toNat xs).flatten) else none
  | _, _ => none
def fdivD : D → D → Option D
  | .int i, .int j => if 0 < j ∧ j < 18446744073709551616 then some (.int (i / j)) else none
  | _, _ => none
def modD : D → D → Option D
  | .int i, .int j => if 0 < j then some (.int (i % j)) else none
  | _, _ => none
def powD : D → D → Option D
  | .int i, .int j => if 0 ≤ j ∧ j ≤ 1000000 ∧ i.natAbs < 2 ^ 64 then some (.int (i ^ j.toNat)) else none
  | _, _ => none
def shlD : D → D → Option D
  | .int i, .int j => if 0 ≤ j ∧ j ≤ 1000000 ∧ i.natAbs < 2 ^ 64 then some (.int (i * 2 ^ j.toNat)) else none
  | _, _ => none
def andD : D → D → Option D
  | .int i, .int j => some (.int (Builtin.bitAnd i j))
  | _, _ => none
def orD : D → D → Option D
  | .int i, .int j => some (.int (Builtin.bitOr i j))
  | _, _ => none
def eqOk (a b : D) : Bool := flat a && flat b && SeqAt.shaped (py a) && SeqAt.shaped (py b)
def eqD (a b : D) : Option D := if eqOk a b = true then some (.bl (PyData.eqv (py a) (py b))) else none
def neD (a b : D) : Option D := if eqOk a b = true then some (.bl (!PyData.eqv (py a) (py b))) else none
def ltD : D → D → Option D
  | .int i, .int j => some (.bl (decide (i < j)))
  | _, _ => none
def leD : D → D → Option D
  | .int i, .int j => some (.bl (decide (i ≤ j)))
  | _, _ => none
def gtD : D → D → Option D
  | .int i, .int j => some (.bl (decide (j < i)))
  | _, _ => none
def geD : D → D → Option D
  | .int i, .int j => some (.bl (decide (j ≤ i)))
  | _, _ => none
/-- x in xs, a list or a tuple -/
def inD (a b : D) : Option D :=
  match b with
  | .lst xs => if eqOk a b = true then some (.bl ((pys xs).any fun z => PyData.eqv z (py a))) else none
  | .tup xs => if eqOk a b = true then some (.bl ((pys xs).any fun z => PyData.eqv z (py a))) else none
  | _ => none
def notinD (a b : D) : Option D :=
  match b with
  | .lst xs => if eqOk a b = true then some (.bl (!(pys xs).any fun z => PyData.eqv z (py a))) else none
  | .tup xs => if eqOk a b = true then some (.bl (!(pys xs).any fun z => PyData.eqv z (py a))) else none
  | _ => none
def isNone : D → Bool
  | .non => true
  | _ => false
def negD : D → Option D
  | .int i => some (.int (-i))
  | _ => none
def isND (a b : D) : Option D := match b with | .non => some (.bl (isNone a)) | _ => none
def notND (a b : D) : Option D := match b with | .non => some (.bl (!isNone a)) | _ => none
/-- xs[i] -/
def ixD : D → D → Option D
  | .lst xs, .int i => atI xs i
  | .tup xs, .int i => atI xs i
  | _, _ => none

section
variable {G : Gt}
theorem Rep.isNone {H : Hp} {v : V} {d : D} (r : Rep G H v d) : isNone d = decide (v = .non) := by
  cases r <;> simp [PL.isNone]
theorem Reps.nil_iff {H : Hp} {vs : List V} {ds : List D} (r : Reps G H vs ds) : vs = [] ↔ ds = [] := by
  cases r <;> simp
theorem Reps.flatten_rep {H : Hp} {vs : List V} {ds : List D} (r : Reps G H vs ds) : ∀ k : Nat, Reps G H (List.replicate k vs).flatten (List.replicate k ds).flatten
  | 0 => .nil
  | k + 1 => by
    rw [List.replicate_succ, List.replicate_succ, List.flatten_cons, List.flatten_cons]
    exact r.append (flatten_rep r k)
theorem flatten_rep_len {α : Type} (xs : List α) (k : Nat) : (List.replicate k xs).flatten.length = k * xs.length := by
  induction k with
  | zero => simp
  | succ k ih => rw [List.replicate_succ, List.flatten_cons, List.length_append, ih, Nat.succ_mul, Nat.add_comm]

/-- a new tuple, a new list -/
theorem new_tup {R : Option Addr} {I H : Hp} {p : Addr} {vs : List V} {ds : List D} (e : Ex I H) (hp : H p = none) (r : Reps G I vs ds) (l : vs.length ≤ sizeLine) : Step R I H (upd I p (.tup vs)) (upd H p (.tup vs)) ∧ Rep G (upd I p (.tup vs)) (.ref p) (.tup ds) :=
  ⟨Step.new e hp, .tup (.inl (.inl upd_same)) (r.mono (Ex.new (ex_none e hp))) l⟩
theorem new_lst {R : Option Addr} {I H : Hp} {p : Addr} {vs : List V} {ds : List D} (e : Ex I H) (hp : H p = none) (r : Reps G I vs ds) (l : vs.length ≤ sizeLine) : Step R I H (upd I p (.lst vs)) (upd H p (.lst vs)) ∧ Rep G (upd I p (.lst vs)) (.ref p) (.lst ds) :=
  ⟨Step.new e hp, .lst (.inl (.inl upd_same)) upd_same (r.mono (Ex.new (ex_none e hp))) l⟩

/-! ### + -/
def rAddU (K : PySem.W.Frag) : R2 := fun x y H Q =>
  rI0 (fun i j => .int (i + j)) x y H Q ∨ (∃ i k, x = .int i ∧ y = .bl k ∧ Q (.int (i + b2i k)) H) ∨ (∃ i j, x = .str i ∧ y = .str j ∧ i.length + j.length ≤ sizeLine ∧ Q (.str (i ++ j)) H) ∨ rCatA K x y H Q ∨ rCat x y H Q
theorem op_addU {X : Cx} : OpR X (binaryOp .Add) (rAddU X.K) := OpR.or op_add (OpR.or op_add_ib (OpR.or op_add_str (OpR.or op_catA op_cat)))
theorem ops_add : OpS G (rAddU G.K) addD := fun I H x y a b d e rx ry ho Q hq => by
  cases rx with
  | int i =>
    cases ry with
    | int j => cases ho; exact .inl ⟨i, j, rfl, rfl, hq _ I H (Step.refl e) (.int _)⟩
    | bl k => cases ho; exact .inr (.inl ⟨i, k, rfl, rfl, hq _ I H (Step.refl e) (.int _)⟩)
    | _ => cases ho
  | str i =>
    cases ry with
    | str j =>
      simp only [addD] at ho
      split at ho
      · rename_i hl; cases ho; exact .inr (.inr (.inl ⟨i, j, rfl, rfl, hl, hq _ I H (Step.refl e) (.str _)⟩))
      · cases ho
    | _ => cases ho
  | tup h1 r1 l1 =>
    cases ry with
    | tup h2 r2 l2 =>
      simp only [addD] at ho
      split at ho
      · rename_i hl
        cases ho
        refine .inr (.inr (.inr (.inl ⟨_, _, _, _, rfl, rfl, Evl.ex_t e h1, Evl.ex_t e h2, by rw [r1.length, r2.length]; exact hl, fun z => ?_, fun z1 z2 => ?_, fun z1 z2 p hp => ?_⟩)))
        · have z' := r1.nil_iff.mp z
          subst z'
          exact hq _ I H (Step.refl e) (.tup h2 (by simpa using r2) l2)
        · have z' := r2.nil_iff.mp z2
          subst z'
          exact hq _ I H (Step.refl e) (.tup h1 (by simpa using r1) l1)
        · have n := new_tup (R := none) e hp (r1.append r2) (by rw [List.length_append, r1.length, r2.length]; exact hl)
          exact hq _ _ _ n.1 n.2
      · cases ho
    | _ => cases ho
  | lst h1 h1' r1 l1 =>
    cases ry with
    | lst h2 h2' r2 l2 =>
      simp only [addD] at ho
      split at ho
      · rename_i hl
        cases ho
        refine .inr (.inr (.inr (.inr ⟨_, _, _, _, rfl, rfl, e _ _ h1', e _ _ h2', by rw [r1.length, r2.length]; exact hl, fun p hp => ?_⟩)))
        have n := new_lst (R := none) e hp (r1.append r2) (by rw [List.length_append, r1.length, r2.length]; exact hl)
        exact hq _ _ _ n.1 n.2
      · cases ho
    | _ => cases ho
  | _ => cases ho

/-! ### the other operators of ints -/
theorem ops_I0 {g : Int → Int → Int} {op : D → D → Option D} (h : ∀ i j, op (.int i) (.int j) = some (.int (g i j))) (h' : ∀ a b d, op a b = some d → ∃ i j, a = .int i ∧ b = .int j) : OpS G (rI0 fun i j => .int (g i j)) op := fun I H x y a b d e rx ry ho Q hq => by
  obtain ⟨i, j, rfl, rfl⟩ := h' a b d ho
  cases rx; cases ry
  rw [h] at ho; cases ho
  exact ⟨i, j, rfl, rfl, hq _ I H (Step.refl e) (.int _)⟩
theorem ops_B0 {g : Int → Int → Bool} {op : D → D → Option D} (h : ∀ i j, op (.int i) (.int j) = some (.bl (g i j))) (h' : ∀ a b d, op a b = some d → ∃ i j, a = .int i ∧ b = .int j) : OpS G (rI0 fun i j => .bl (g i j)) op := fun I H x y a b d e rx ry ho Q hq => by
  obtain ⟨i, j, rfl, rfl⟩ := h' a b d ho
  cases rx; cases ry
  rw [h] at ho; cases ho
  exact ⟨i, j, rfl, rfl, hq _ I H (Step.refl e) (.bl _)⟩
theorem ops_I {C : Int → Int → Prop} [∀ i j, Decidable (C i j)] {g : Int → Int → Int} {op : D → D → Option D} (h : ∀ i j, op (.int i) (.int j) = if C i j then some (.int (g i j)) else none) (h' : ∀ a b d, op a b = some d → ∃ i j, a = .int i ∧ b = .int j) : OpS G (rI C fun i j => .int (g i j)) op := fun I H x y a b d e rx ry ho Q hq => by
  obtain ⟨i, j, rfl, rfl⟩ := h' a b d ho
  cases rx; cases ry
  rw [h] at ho
  split at ho
  · rename_i c
    cases ho
    exact ⟨i, j, rfl, rfl, c, hq _ I H (Step.refl e) (.int _)⟩
  · cases ho
theorem ops_sub : OpS G (rI0 fun i j => .int (i - j)) subD := ops_I0 (fun _ _ => rfl) fun a b d h => by
  cases a <;> cases b <;> first | exact ⟨_, _, rfl, rfl⟩ | cases h
theorem ops_fdiv : OpS G (rI CDivW fun i j => .int (i / j)) fdivD := fun I H x y a b d e rx ry ho Q hq => by
  unfold fdivD at ho
  split at ho
  · rename_i i j
    split at ho
    · rename_i h
      cases ho; cases rx; cases ry
      exact ⟨_, _, rfl, rfl, wide_div h.1 (b := 64) (by omega) (by decide) (by decide), hq _ I H (Step.refl e) (.int _)⟩
    · cases ho
  · cases ho
theorem ops_mod : OpS G (rI (fun _ j => 0 < j) fun i j => .int (i % j)) modD := ops_I (fun _ _ => rfl) fun a b d h => by
  cases a <;> cases b <;> first | exact ⟨_, _, rfl, rfl⟩ | cases h
theorem ops_pow : OpS G (rI CPow fun i j => .int (i ^ j.toNat)) powD := @ops_I G CPow (fun _ j => by unfold CPow; infer_instance) _ _ (fun i j => by simp only [powD, CPow]) fun a b d h => by
  cases a <;> cases b <;> first | exact ⟨_, _, rfl, rfl⟩ | cases h
theorem ops_shl : OpS G (rI CPow fun i j => .int (i * 2 ^ j.toNat)) shlD := @ops_I G CPow (fun _ j => by unfold CPow; infer_instance) _ _ (fun i j => by simp only [shlD, CPow]) fun a b d h => by
  cases a <;> cases b <;> first | exact ⟨_, _, rfl, rfl⟩ | cases h
theorem ops_and : OpS G (rI0 fun i j => .int (Builtin.bitAnd i j)) andD := ops_I0 (fun _ _ => rfl) fun a b d h => by
  cases a <;> cases b <;> first | exact ⟨_, _, rfl, rfl⟩ | cases h
theorem ops_or : OpS G (rI0 fun i j => .int (Builtin.bitOr i j)) orD := ops_I0 (fun _ _ => rfl) fun a b d h => by
  cases a <;> cases b <;> first | exact ⟨_, _, rfl, rfl⟩ | cases h
theorem ops_lt : OpS G (rI0 fun i j => .bl (decide (i < j))) ltD := ops_B0 (fun _ _ => rfl) fun a b d h => by
  cases a <;> cases b <;> first | exact ⟨_, _, rfl, rfl⟩ | cases h
theorem ops_le : OpS G (rI0 fun i j => .bl (decide (i ≤ j))) leD := ops_B0 (fun _ _ => rfl) fun a b d h => by
  cases a <;> cases b <;> first | exact ⟨_, _, rfl, rfl⟩ | cases h
theorem ops_gt : OpS G (rI0 fun i j => .bl (decide (j < i))) gtD := ops_B0 (fun _ _ => rfl) fun a b d h => by
  cases a <;> cases b <;> first | exact ⟨_, _, rfl, rfl⟩ | cases h
theorem ops_ge : OpS G (rI0 fun i j => .bl (decide (j ≤ i))) geD := ops_B0 (fun _ _ => rfl) fun a b d h => by
  cases a <;> cases b <;> first | exact ⟨_, _, rfl, rfl⟩ | cases h
/-! ### * -/
def rMulU (K : PySem.W.Frag) : R2 := fun x y H Q => rI CMul (fun i j => .int (i * j)) x y H Q ∨ rRepT K x y H Q ∨ rRep x y H Q
theorem op_mulU {X : Cx} : OpR X (binaryOp .Mult) (rMulU X.K) := OpR.or op_mul (OpR.or op_repT op_rep)
theorem ops_mul : OpS G (rMulU G.K) mulD := fun I H x y a b d e rx ry ho Q hq => by
  cases rx with
  | int i =>
    cases ry with
    | int j =>
      simp only [mulD] at ho
      split at ho
      · rename_i hl; cases ho; exact .inl ⟨i, j, rfl, rfl, hl, hq _ I H (Step.refl e) (.int _)⟩
      · cases ho
    | _ => cases ho
  | tup h1 r1 l1 =>
    cases ry with
    | int k =>
      simp only [mulD] at ho
      split at ho
      · rename_i hl
        cases ho
        obtain ⟨a1, a2, a3, a4⟩ := hl
        refine .inr (.inl ⟨_, k, _, rfl, rfl, Evl.ex_t e h1, fun z => a1 (r1.nil_iff.mp z), a2, a3, by rw [r1.length]; exact a4, fun p hp => ?_⟩)
        have n := new_tup (R := none) e hp (r1.flatten_rep k.toNat) (by
          rw [flatten_rep_len, r1.length, sizeLine_eq]
          have h5 : k.toNat ≤ 1000 := by omega
          exact Nat.le_trans (Nat.mul_le_mul h5 a4) (by decide))
        exact hq _ _ _ n.1 n.2
      · cases ho
    | _ => cases ho
  | lst h1 h1' r1 l1 =>
    cases ry with
    | int k =>
      simp only [mulD] at ho
      split at ho
      · rename_i hl
        cases ho
        obtain ⟨a1, a2, a3⟩ := hl
        refine .inr (.inr ⟨_, k, _, rfl, rfl, e _ _ h1', a1, a2, by rw [r1.length]; exact a3, fun p hp => ?_⟩)
        have n := new_lst (R := none) e hp (r1.flatten_rep k.toNat) (by
          rw [flatten_rep_len, r1.length, Nat.mul_comm]
          exact a3)
        exact hq _ _ _ n.1 n.2
      · cases ho
    | _ => cases ho
  | _ => cases ho
/-! ### ==, in, is -/
theorem eqOk_parts {a b : D} (h : eqOk a b = true) : flat a = true ∧ flat b = true ∧ SeqAt.shaped (py a) = true ∧ SeqAt.shaped (py b) = true := by
  unfold eqOk at h
  simp only [Bool.and_eq_true] at h
  exact ⟨h.1.1.1, h.1.1.2, h.1.2, h.2⟩
theorem ops_eq : OpS G (rEqD G.K) eqD := fun I H x y a b d e rx ry ho Q hq => by
  unfold eqD at ho
  split at ho
  · rename_i h
    cases ho
    obtain ⟨f1, f2, s1, s2⟩ := eqOk_parts h
    exact ⟨_, _, (rx.mono e).dp f1, (ry.mono e).dp f2, s1, s2, hq _ I H (Step.refl e) (.bl _)⟩
  · cases ho
theorem ops_ne : OpS G (rNeD G.K) neD := fun I H x y a b d e rx ry ho Q hq => by
  unfold neD at ho
  split at ho
  · rename_i h
    cases ho
    obtain ⟨f1, f2, s1, s2⟩ := eqOk_parts h
    exact ⟨_, _, (rx.mono e).dp f1, (ry.mono e).dp f2, s1, s2, hq _ I H (Step.refl e) (.bl _)⟩
  · cases ho
def rInU (K : PySem.W.Frag) (neg : Bool) : R2 := fun x y H Q => ∃ d ds, Dp K H x d ∧ (Dp K H y (.list ds) ∨ Dp K H y (.tuple ds)) ∧ SeqAt.shaped d = true ∧ SeqAt.shaped (.list ds) = true ∧ Q (.bl (if neg then !(ds.any fun z => PyData.eqv z d) else ds.any fun z => PyData.eqv z d)) H
theorem op_inU {X : Cx} (hu : X.A.units + 65 < cLine) : OpR X (compareOp .In) (rInU X.K false) := by
  intro pins s σ H x y v u Q I rx ry h
  obtain ⟨d, ds, hd, he, sd, se, q⟩ := h
  obtain ⟨as, r1⟩ := Dp.reads I d x v hd rx
  rcases he with he | he
  · obtain ⟨bs, r2⟩ := Dp.reads I (.list ds) y u he ry
    exact SeqAt.in_list_reads r2 r1 (SeqAt.canLay_of_shaped se) (SeqAt.canLay_of_shaped sd) (room_in_shaped sd hu) ⟨.bl _, H, I, rfl, q⟩
  · obtain ⟨bs, r2⟩ := Dp.reads I (.tuple ds) y u he ry
    exact SeqAt.in_tuple_reads r2 r1 (SeqAt.canLay_of_shaped se) (SeqAt.canLay_of_shaped sd) (room_in_shaped sd hu) ⟨.bl _, H, I, rfl, q⟩
theorem op_notinU {X : Cx} (hu : X.A.units + 65 < cLine) : OpR X (compareOp .NotIn) (rInU X.K true) := by
  intro pins s σ H x y v u Q I rx ry h
  obtain ⟨d, ds, hd, he, sd, se, q⟩ := h
  obtain ⟨as, r1⟩ := Dp.reads I d x v hd rx
  rcases he with he | he
  · obtain ⟨bs, r2⟩ := Dp.reads I (.list ds) y u he ry
    exact SeqAt.notIn_list_reads r2 r1 (SeqAt.canLay_of_shaped se) (SeqAt.canLay_of_shaped sd) (room_in_shaped sd hu) ⟨.bl _, H, I, rfl, q⟩
  · obtain ⟨bs, r2⟩ := Dp.reads I (.tuple ds) y u he ry
    exact SeqAt.notIn_tuple_reads r2 r1 (SeqAt.canLay_of_shaped se) (SeqAt.canLay_of_shaped sd) (room_in_shaped sd hu) ⟨.bl _, H, I, rfl, q⟩
theorem shaped_tl {ds : List PyData} (h : SeqAt.shaped (.tuple ds) = true) : SeqAt.shaped (.list ds) = true := by
  unfold SeqAt.shaped at h ⊢
  simpa [PyData.canLay0, PyData.depth] using h
theorem ops_in : OpS G (rInU G.K false) inD := fun I H x y a b d e rx ry ho Q hq => by
  cases b with
  | lst xs =>
    simp only [inD] at ho
    split at ho
    · rename_i h
      cases ho
      obtain ⟨f1, f2, s1, s2⟩ := eqOk_parts h
      have r2 := (ry.mono e).dp f2
      rw [py] at r2 s2
      exact ⟨_, _, (rx.mono e).dp f1, .inl r2, s1, s2, hq _ I H (Step.refl e) (.bl _)⟩
    · cases ho
  | tup xs =>
    simp only [inD] at ho
    split at ho
    · rename_i h
      cases ho
      obtain ⟨f1, f2, s1, s2⟩ := eqOk_parts h
      have r2 := (ry.mono e).dp f2
      rw [py] at r2 s2
      exact ⟨_, _, (rx.mono e).dp f1, .inr r2, s1, shaped_tl s2, hq _ I H (Step.refl e) (.bl _)⟩
    · cases ho
  | _ => cases ho
theorem ops_notin : OpS G (rInU G.K true) notinD := fun I H x y a b d e rx ry ho Q hq => by
  cases b with
  | lst xs =>
    simp only [notinD] at ho
    split at ho
    · rename_i h
      cases ho
      obtain ⟨f1, f2, s1, s2⟩ := eqOk_parts h
      have r2 := (ry.mono e).dp f2
      rw [py] at r2 s2
      exact ⟨_, _, (rx.mono e).dp f1, .inl r2, s1, s2, hq _ I H (Step.refl e) (.bl _)⟩
    · cases ho
  | tup xs =>
    simp only [notinD] at ho
    split at ho
    · rename_i h
      cases ho
      obtain ⟨f1, f2, s1, s2⟩ := eqOk_parts h
      have r2 := (ry.mono e).dp f2
      rw [py] at r2 s2
      exact ⟨_, _, (rx.mono e).dp f1, .inr r2, s1, shaped_tl s2, hq _ I H (Step.refl e) (.bl _)⟩
    · cases ho
  | _ => cases ho
theorem ops_isN : OpS G (fun x y H Q => y = .non ∧ Q (.bl (decide (x = .non))) H) isND := fun I H x y a b d e rx ry ho Q hq => by
  cases b with
  | non => cases ho; cases ry; exact ⟨rfl, hq _ I H (Step.refl e) (by rw [rx.isNone]; exact .bl _)⟩
  | _ => cases ho
theorem ops_notN : OpS G (fun x y H Q => y = .non ∧ Q (.bl (!decide (x = .non))) H) notND := fun I H x y a b d e rx ry ho Q hq => by
  cases b with
  | non => cases ho; cases ry; exact ⟨rfl, hq _ I H (Step.refl e) (by rw [rx.isNone]; exact .bl _)⟩
  | _ => cases ho
/-! ### subscripts -/
theorem Reps.atI {H : Hp} {vs : List V} {ds : List D} {i : Int} {d : D} (r : Reps G H vs ds) (h : atI ds i = some d) : ∃ v, L2.atI vs i = some v ∧ Rep G H v d := by
  unfold L2.atI at h ⊢
  rw [r.length]
  cases q : ixN ds.length i with
  | none => rw [q] at h; cases h
  | some j =>
    rw [q] at h
    exact r.get h
theorem ops_ix : OpS G (rIx G.K) ixD := fun I H x y a b d e rx ry ho Q hq => by
  cases rx with
  | tup h1 r1 l1 =>
    cases ry with
    | int i =>
      obtain ⟨v, h, rv⟩ := r1.atI ho
      exact .inr (.inl ⟨_, _, i, v, rfl, rfl, Evl.ex_t e h1, h, hq _ I H (Step.refl e) rv⟩)
    | _ => cases ho
  | lst h1 h1' r1 l1 =>
    cases ry with
    | int i =>
      obtain ⟨v, h, rv⟩ := r1.atI ho
      exact .inl ⟨_, _, i, v, rfl, rfl, Evl.ex_l e h1, h, hq _ I H (Step.refl e) rv⟩
    | _ => cases ho
  | _ => cases ho
end

/-! ### the rules -/
section
variable {ι : Type} {X : ι → Cx} {G : Gt} {R : Option Addr} {W : WX} {P : Program} {w : World} {mg : Str → Option Value} {base : Heap} {k : Nat} {N : List Str}
variable {a b c e : Expr} {fa fb fc fe : EF} {pos : Pos}
theorem Fo.units (fo : Fo X G P w mg base k N W) (i : ι) : (X i).A.units + 65 < cLine := by
  have := (fo.room i).un
  omega
theorem pd_var (fo : Fo X G P w mg base k N W) (j : Nat) {x : Str} (hN : N[j]? = some x) (hv : ∀ i, Vis (X i).env.scope x) (hd : (x == ("__debug__" : Str)) = false := by decide) (hcd : (x == ("__classdict__" : Str)) = false := by decide) : PDE X G R W (.Name x pos) (e_var j) :=
  ⟨_, fun i => pe_var (by rw [fo.hN i]; exact hN) (hv i) hd hcd, re_var⟩
theorem pd_int {z : Int} {j : Nat} : PDE X G R W (.Constant (.int z) j pos) (e_c (.int z)) := ⟨_, fun _ => pe_int, re_c fun _ => .int _⟩
theorem pd_bl {z : Bool} {j : Nat} : PDE X G R W (.Constant (.bool z) j pos) (e_c (.bl z)) := ⟨_, fun _ => pe_bl, re_c fun _ => .bl _⟩
theorem pd_non {j : Nat} : PDE X G R W (.Constant .none j pos) (e_c .non) := ⟨_, fun _ => pe_non, re_c fun _ => .non⟩
theorem pd_str {z : Str} {j : Nat} : PDE X G R W (.Constant (.str z) j pos) (e_c (.str z)) := ⟨_, fun _ => pe_str, re_c fun _ => .str _⟩
/-- a constant of the module -/
theorem pd_gint (fo : Fo X G P w mg base k N W) {x : Str} {z : Int} {t : Tok} (hg : ∀ i, Gl (X i) x) (hm : mg x = some (.int z t)) (hd : (x == ("__debug__" : Str)) = false := by decide) : PDE X G R W (.Name x pos) (e_c (.int z)) :=
  ⟨tC (.int z), fun i => pe_glob (hg i) (by rw [fo.hmg i]; exact hm) ⟨t, rfl⟩ hd, re_c fun _ => .int _⟩
theorem pd_gstr (fo : Fo X G P w mg base k N W) {x z : Str} {t : Tok} (hg : ∀ i, Gl (X i) x) (hm : mg x = some (.str z t)) (hd : (x == ("__debug__" : Str)) = false := by decide) : PDE X G R W (.Name x pos) (e_c (.str z)) :=
  ⟨tC (.str z), fun i => pe_glob (hg i) (by rw [fo.hmg i]; exact hm) ⟨t, rfl⟩ hd, re_c fun _ => .str _⟩
theorem pd_bin {op : Operator} {r : R2} {opD : D → D → Option D} (ho : ∀ i, OpR (X i) (binaryOp op) r) (hs : OpS G r opD) (ha : PDE X G R W a fa) (hb : PDE X G R W b fb) : PDE X G R W (.BinOp a op b pos) (e_bin opD fa fb) :=
  let ⟨_, pa, ra⟩ := ha; let ⟨_, pb, rb⟩ := hb; ⟨_, fun i => pe_op (ho i) (pa i) (pb i), re_bin hs ra rb⟩
theorem pd_cmp {op : CmpOp} {r : R2} {opD : D → D → Option D} (ho : ∀ i, OpR (X i) (compareOp op) r) (hs : OpS G r opD) (hm : behindInMarks op b = false) (ha : PDE X G R W a fa) (hb : PDE X G R W b fb) : PDE X G R W (.Compare a [op] [b] pos) (e_bin opD fa fb) :=
  let ⟨_, pa, ra⟩ := ha; let ⟨_, pb, rb⟩ := hb; ⟨_, fun i => pe_cmpR (ho i) (pa i) (pb i) hm, re_bin hs ra rb⟩
theorem pd_add (fo : Fo X G P w mg base k N W) (ha : PDE X G R W a fa) (hb : PDE X G R W b fb) : PDE X G R W (.BinOp a .Add b pos) (e_bin addD fa fb) := pd_bin (fun i => by rw [← fo.hK i]; exact op_addU) ops_add ha hb
theorem pd_sub (ha : PDE X G R W a fa) (hb : PDE X G R W b fb) : PDE X G R W (.BinOp a .Sub b pos) (e_bin subD fa fb) := pd_bin (fun i => op_sub) ops_sub ha hb
theorem pd_mul (fo : Fo X G P w mg base k N W) (ha : PDE X G R W a fa) (hb : PDE X G R W b fb) : PDE X G R W (.BinOp a .Mult b pos) (e_bin mulD fa fb) := pd_bin (fun i => by rw [← fo.hK i]; exact op_mulU) ops_mul ha hb
theorem pd_fdiv (ha : PDE X G R W a fa) (hb : PDE X G R W b fb) : PDE X G R W (.BinOp a .FloorDiv b pos) (e_bin fdivD fa fb) := pd_bin (fun i => op_fdivW) ops_fdiv ha hb
theorem pd_mod (ha : PDE X G R W a fa) (hb : PDE X G R W b fb) : PDE X G R W (.BinOp a .Mod b pos) (e_bin modD fa fb) := pd_bin (fun i => op_mod) ops_mod ha hb
theorem pd_pow (ha : PDE X G R W a fa) (hb : PDE X G R W b fb) : PDE X G R W (.BinOp a .Pow b pos) (e_bin powD fa fb) := pd_bin (fun i => op_pow) ops_pow ha hb
theorem pd_shl (ha : PDE X G R W a fa) (hb : PDE X G R W b fb) : PDE X G R W (.BinOp a .LShift b pos) (e_bin shlD fa fb) := pd_bin (fun i => op_shl) ops_shl ha hb
theorem pd_bitand (ha : PDE X G R W a fa) (hb : PDE X G R W b fb) : PDE X G R W (.BinOp a .BitAnd b pos) (e_bin andD fa fb) := pd_bin (fun i => op_and) ops_and ha hb
theorem pd_bitor (ha : PDE X G R W a fa) (hb : PDE X G R W b fb) : PDE X G R W (.BinOp a .BitOr b pos) (e_bin orD fa fb) := pd_bin (fun i => op_or) ops_or ha hb
theorem pd_neg {fa : EF} (ha : PDE X G R W a fa) : PDE X G R W (.UnaryOp .USub a pos) (e_un negD fa) :=
  let ⟨_, pa, ra⟩ := ha; ⟨_, fun i => pe_un un_neg (pa i), re_un (fun I H x a d e rx ho Q hq => by
    cases rx with
    | int i => cases ho; exact ⟨i, rfl, hq _ I H (Step.refl e) (.int _)⟩
    | _ => cases ho) ra⟩
theorem pd_eq (fo : Fo X G P w mg base k N W) (ha : PDE X G R W a fa) (hb : PDE X G R W b fb) : PDE X G R W (.Compare a [.Eq] [b] pos) (e_bin eqD fa fb) := pd_cmp (fun i => by rw [← fo.hK i]; exact op_eqD (by have := fo.units i; omega)) ops_eq (nomark _) ha hb
theorem pd_ne (fo : Fo X G P w mg base k N W) (ha : PDE X G R W a fa) (hb : PDE X G R W b fb) : PDE X G R W (.Compare a [.NotEq] [b] pos) (e_bin neD fa fb) := pd_cmp (fun i => by rw [← fo.hK i]; exact op_neD (by have := fo.units i; omega)) ops_ne (nomark _) ha hb
theorem pd_lt (ha : PDE X G R W a fa) (hb : PDE X G R W b fb) : PDE X G R W (.Compare a [.Lt] [b] pos) (e_bin ltD fa fb) := pd_cmp (fun i => op_lt) ops_lt (nomark _) ha hb
theorem pd_le (ha : PDE X G R W a fa) (hb : PDE X G R W b fb) : PDE X G R W (.Compare a [.LtE] [b] pos) (e_bin leD fa fb) := pd_cmp (fun i => op_le) ops_le (nomark _) ha hb
theorem pd_gt (ha : PDE X G R W a fa) (hb : PDE X G R W b fb) : PDE X G R W (.Compare a [.Gt] [b] pos) (e_bin gtD fa fb) := pd_cmp (fun i => op_gt) ops_gt (nomark _) ha hb
theorem pd_ge (ha : PDE X G R W a fa) (hb : PDE X G R W b fb) : PDE X G R W (.Compare a [.GtE] [b] pos) (e_bin geD fa fb) := pd_cmp (fun i => op_ge) ops_ge (nomark _) ha hb
theorem pd_in (fo : Fo X G P w mg base k N W) (hm : behindInMarks .In b = false) (ha : PDE X G R W a fa) (hb : PDE X G R W b fb) : PDE X G R W (.Compare a [.In] [b] pos) (e_bin inD fa fb) := pd_cmp (fun i => by rw [← fo.hK i]; exact op_inU (fo.units i)) ops_in hm ha hb
theorem pd_notin (fo : Fo X G P w mg base k N W) (hm : behindInMarks .NotIn b = false) (ha : PDE X G R W a fa) (hb : PDE X G R W b fb) : PDE X G R W (.Compare a [.NotIn] [b] pos) (e_bin notinD fa fb) := pd_cmp (fun i => by rw [← fo.hK i]; exact op_notinU (fo.units i)) ops_notin hm ha hb
theorem pd_is (ha : PDE X G R W a fa) (hb : PDE X G R W b fb) : PDE X G R W (.Compare a [.Is] [b] pos) (e_bin isND fa fb) := pd_cmp (fun i => op_isN) ops_isN (nomark _) ha hb
theorem pd_isnot (ha : PDE X G R W a fa) (hb : PDE X G R W b fb) : PDE X G R W (.Compare a [.IsNot] [b] pos) (e_bin notND fa fb) := pd_cmp (fun i => op_notN) ops_notN (nomark _) ha hb
theorem pd_chainle (ha : PDE X G R W a fa) (hb : PDE X G R W b fb) (hc : PDE X G R W c fc) (hm : lastMarks [.LtE, .LtE] [b, c] = false := by with_unfolding_all rfl) : PDE X G R W (.Compare a [.LtE, .LtE] [b, c] pos) (e_chain leD leD fa fb fc) :=
  let ⟨_, pa, ra⟩ := ha; let ⟨_, pb, rb⟩ := hb; let ⟨_, pc, rc⟩ := hc; ⟨_, fun i => pe_chain op_le op_le (pa i) (pb i) (pc i) hm, re_chain ops_le ops_le ra rb rc⟩
theorem pd_chainlt (ha : PDE X G R W a fa) (hb : PDE X G R W b fb) (hc : PDE X G R W c fc) (hm : lastMarks [.Lt, .Lt] [b, c] = false := by with_unfolding_all rfl) : PDE X G R W (.Compare a [.Lt, .Lt] [b, c] pos) (e_chain ltD ltD fa fb fc) :=
  let ⟨_, pa, ra⟩ := ha; let ⟨_, pb, rb⟩ := hb; let ⟨_, pc, rc⟩ := hc; ⟨_, fun i => pe_chain op_lt op_lt (pa i) (pb i) (pc i) hm, re_chain ops_lt ops_lt ra rb rc⟩
theorem pd_ix (fo : Fo X G P w mg base k N W) (hs : PlainIx b) (ha : PDE X G R W a fa) (hb : PDE X G R W b fb) : PDE X G R W (.Subscript a b pos) (e_bin ixD fa fb) :=
  let ⟨_, pa, ra⟩ := ha; let ⟨_, pb, rb⟩ := hb; ⟨_, fun i => pe_ix (by rw [← fo.hK i]; exact ix_seq) (pa i) (pb i) hs, re_bin ops_ix ra rb⟩
theorem pda_nil : PDA X G R W [] a_nil := ⟨_, fun _ => pa_nil, ra_nil⟩
theorem pda_cons {es : List Expr} {fr : AF} (ha : PDE X G R W a fa) (hr : PDA X G R W es fr) (hs : ∀ i, starEach (a :: es) (X i).env = (false, eval a (X i).env) :: starEach es (X i).env) : PDA X G R W (a :: es) (a_cons fa fr) :=
  let ⟨_, pa, ra⟩ := ha; let ⟨_, pr, rr⟩ := hr; ⟨_, fun i => pa_cons (pa i) (pr i) (hs i), ra_cons ra rr⟩
theorem pd_tup {es : List Expr} {fr : AF} {x1 : Nat} (hr : PDA X G R W es fr) : PDE X G R W (.Tuple es x1 pos) (e_args tupD fr) :=
  let ⟨_, pr, rr⟩ := hr; ⟨_, fun i => pe_tup (pr i), re_args lss_tup rr⟩
theorem pd_lst {es : List Expr} {fr : AF} (hr : PDA X G R W es fr) : PDE X G R W (.List es pos) (e_args lstD fr) :=
  let ⟨_, pr, rr⟩ := hr; ⟨_, fun i => pe_lst (pr i), re_args lss_lst rr⟩
/-- tests -/
theorem pdt_val (ha : PDE X G R W a fa) (he : ∀ i whole, isTrue a (X i).env whole = (do let v ← whole; standAt a.pos; holding [v] (truthy v))) : PDT X G R W a (t_of fa) :=
  let ⟨_, pa, ra⟩ := ha; ⟨_, fun i => pt_val (pa i) (he i), rt_of ra⟩
theorem pdt_cmp {op : CmpOp} {r : R2} {opD : D → D → Option D} (ho : ∀ i, OpR (X i) (compareOp op) r) (hs : OpS G r opD) (hm : behindInMarks op b = false) (ha : PDE X G R W a fa) (hb : PDE X G R W b fb) : PDT X G R W (.Compare a [op] [b] pos) (t_of (e_bin opD fa fb)) :=
  let ⟨_, pa, ra⟩ := ha; let ⟨_, pb, rb⟩ := hb; ⟨_, fun i => pt_cmpR (ho i) (pa i) (pb i) hm, rt_of (re_bin hs ra rb)⟩
theorem pdt_eq (fo : Fo X G P w mg base k N W) (ha : PDE X G R W a fa) (hb : PDE X G R W b fb) : PDT X G R W (.Compare a [.Eq] [b] pos) (t_of (e_bin eqD fa fb)) := pdt_cmp (fun i => by rw [← fo.hK i]; exact op_eqD (by have := fo.units i; omega)) ops_eq (nomark _) ha hb
theorem pdt_ne (fo : Fo X G P w mg base k N W) (ha : PDE X G R W a fa) (hb : PDE X G R W b fb) : PDT X G R W (.Compare a [.NotEq] [b] pos) (t_of (e_bin neD fa fb)) := pdt_cmp (fun i => by rw [← fo.hK i]; exact op_neD (by have := fo.units i; omega)) ops_ne (nomark _) ha hb
theorem pdt_lt (ha : PDE X G R W a fa) (hb : PDE X G R W b fb) : PDT X G R W (.Compare a [.Lt] [b] pos) (t_of (e_bin ltD fa fb)) := pdt_cmp (fun i => op_lt) ops_lt (nomark _) ha hb
theorem pdt_le (ha : PDE X G R W a fa) (hb : PDE X G R W b fb) : PDT X G R W (.Compare a [.LtE] [b] pos) (t_of (e_bin leD fa fb)) := pdt_cmp (fun i => op_le) ops_le (nomark _) ha hb
theorem pdt_gt (ha : PDE X G R W a fa) (hb : PDE X G R W b fb) : PDT X G R W (.Compare a [.Gt] [b] pos) (t_of (e_bin gtD fa fb)) := pdt_cmp (fun i => op_gt) ops_gt (nomark _) ha hb
theorem pdt_ge (ha : PDE X G R W a fa) (hb : PDE X G R W b fb) : PDT X G R W (.Compare a [.GtE] [b] pos) (t_of (e_bin geD fa fb)) := pdt_cmp (fun i => op_ge) ops_ge (nomark _) ha hb
theorem pdt_in (fo : Fo X G P w mg base k N W) (hm : behindInMarks .In b = false) (ha : PDE X G R W a fa) (hb : PDE X G R W b fb) : PDT X G R W (.Compare a [.In] [b] pos) (t_of (e_bin inD fa fb)) := pdt_cmp (fun i => by rw [← fo.hK i]; exact op_inU (fo.units i)) ops_in hm ha hb
theorem pdt_notin (fo : Fo X G P w mg base k N W) (hm : behindInMarks .NotIn b = false) (ha : PDE X G R W a fa) (hb : PDE X G R W b fb) : PDT X G R W (.Compare a [.NotIn] [b] pos) (t_of (e_bin notinD fa fb)) := pdt_cmp (fun i => by rw [← fo.hK i]; exact op_notinU (fo.units i)) ops_notin hm ha hb
theorem pdt_is (ha : PDE X G R W a fa) (hb : PDE X G R W b fb) : PDT X G R W (.Compare a [.Is] [b] pos) (t_of (e_bin isND fa fb)) := pdt_cmp (fun i => op_isN) ops_isN (nomark _) ha hb
theorem pdt_isnot (ha : PDE X G R W a fa) (hb : PDE X G R W b fb) : PDT X G R W (.Compare a [.IsNot] [b] pos) (t_of (e_bin notND fa fb)) := pdt_cmp (fun i => op_notN) ops_notN (nomark _) ha hb
theorem pdt_not {f : TF} (h : PDT X G R W a f) : PDT X G R W (.UnaryOp .Not a pos) (t_not f) := let ⟨_, p, r⟩ := h; ⟨_, fun i => pt_not (p i), rt_not r⟩
theorem pdw_and1 {f : TF} (h : PDT X G R W a f) : PDW X G R W (.BoolOp .And [a] pos) f := let ⟨_, p, r⟩ := h; ⟨_, fun i => pw_and1 (p i), r⟩
theorem pdw_or1 {f : TF} (h : PDT X G R W a f) : PDW X G R W (.BoolOp .Or [a] pos) f := let ⟨_, p, r⟩ := h; ⟨_, fun i => pw_or1 (p i), r⟩
theorem pdw_and {f g : TF} {rest : List Expr} (h : PDT X G R W a f) (h' : PDW X G R W (.BoolOp .And (b :: rest) pos) g) : PDW X G R W (.BoolOp .And (a :: b :: rest) pos) (t_and f g) := let ⟨_, p, r⟩ := h; let ⟨_, p', r'⟩ := h'; ⟨_, fun i => pw_and (p i) (p' i), rt_and r r'⟩
theorem pdw_or {f g : TF} {rest : List Expr} (h : PDT X G R W a f) (h' : PDW X G R W (.BoolOp .Or (b :: rest) pos) g) : PDW X G R W (.BoolOp .Or (a :: b :: rest) pos) (t_or f g) := let ⟨_, p, r⟩ := h; let ⟨_, p', r'⟩ := h'; ⟨_, fun i => pw_or (p i) (p' i), rt_or r r'⟩
theorem PDW.pt {f : TF} (h : PDW X G R W a f) : PDT X G R W a f := let ⟨_, p, r⟩ := h; ⟨_, fun i => (p i).pt, r⟩
/-- a written comparison, as a test: by its value -/
theorem pt_cmp_val {Y : Cx} {op : CmpOp} {t : TE} {a b : Expr} {pos : Pos} (h : PE Y (.Compare a [op] [b] pos) t) (he : ∀ whole, isTrue (.Compare a [op] [b] pos) Y.env whole = (do let v ← whole; standAt (Expr.Compare a [op] [b] pos).pos; holding [v] (truthy v))) : PT Y (.Compare a [op] [b] pos) (tB t) := pt_val h he
/-- bools by and, or, not, as values -/
theorem pd_one {op : BoolOp} (h : PDE X G R W a fa) : PDE X G R W (.BoolOp op [a] pos) fa := let ⟨_, p, r⟩ := h; ⟨_, fun i => pe_one (p i), r⟩
theorem pd_and {rest : List Expr} (h : PDE X G R W a fa) (h' : PDE X G R W (.BoolOp .And (b :: rest) pos) fb) : PDE X G R W (.BoolOp .And (a :: b :: rest) pos) (e_and fa fb) := let ⟨_, p, r⟩ := h; let ⟨_, p', r'⟩ := h'; ⟨_, fun i => pe_and (p i) (p' i), re_and r r'⟩
theorem pd_or {rest : List Expr} (h : PDE X G R W a fa) (h' : PDE X G R W (.BoolOp .Or (b :: rest) pos) fb) : PDE X G R W (.BoolOp .Or (a :: b :: rest) pos) (e_or fa fb) := let ⟨_, p, r⟩ := h; let ⟨_, p', r'⟩ := h'; ⟨_, fun i => pe_or (p i) (p' i), re_or r r'⟩
theorem pd_not (h : PDE X G R W a fa) : PDE X G R W (.UnaryOp .Not a pos) (e_un notV fa) := let ⟨_, p, r⟩ := h; ⟨_, fun i => pe_not (p i), re_notV r⟩
theorem pd_if {f : TF} (hc : PDT X G R W c f) (ha : PDE X G R W a fa) (hb : PDE X G R W b fb) : PDE X G R W (.IfExp c a b pos) (e_if f fa fb) := let ⟨_, pc, rc⟩ := hc; let ⟨_, pa, ra⟩ := ha; let ⟨_, pb, rb⟩ := hb; ⟨_, fun i => pe_ifExp (pc i) (pa i) (pb i), re_if rc ra rb⟩
end
end PL
set_option Elab.async false
set_option linter.all false
set_option maxRecDepth 100000
set_option maxHeartbeats 4000000
namespace PL
open PySem PySem.Spec PyProof.Rows L2
/-! enumerate over a tuple -/
theorem meets_enumerate_newT (l : Addr) (items : Array Value) :
    Meets (Builtin.«enumerate.__new__» ⟨[.type "enumerate", .ref l], []⟩) (fun _ R s => s.heap.IsTuple l items ∧
      R (.ok (.ret (.ref (s.heap.push { cls := .type "tuple_iterator", data := .fields #[.ref l, .int 0 0] }).objs.size)))
        { s with heap := (s.heap.push { cls := .type "tuple_iterator", data := .fields #[.ref l, .int 0 0] }).push { cls := .type "enumerate", data := .fields #[.none, .bool false, .ref s.heap.objs.size, rawInt 0, .none, .none] } }) :=
  .of_wp fun prog w A R s h => by
    obtain ⟨hp, g, d, tk, os⟩ := s; obtain ⟨hL, h⟩ := h
    have hsub := sub_enumerate
    have q1 : ∀ {A' : Around} {E : Value → Shared → Prop} {Q : Value → Shared → Prop}, Q (.ref hp.objs.size) ⟨hp.push { cls := .type "tuple_iterator", data := .fields #[.ref l, .int 0 0] }, g, d, tk, os⟩ → wpAny (model prog w) A' (pyIter (.ref l)) Q E ⟨hp, g, d, tk, os⟩ :=
      fun q => wpAny_pyIter_tuple hL q
    wp_walk using q1
    refine wpAny_stack_any fun st => wpAny_pure ?_
    split
    · rename_i c _ _ _ _ _
      cases (c == Value.type "enumerate")
      · wp_walk using q1
        exact ⟨_, rfl, h⟩
      · wp_walk using q1
        exact ⟨_, rfl, h⟩
    · wp_walk using q1
      exact ⟨_, rfl, h⟩
section
variable {prog : Program} {w : World} {A : Around} {E : Value → Shared → Prop} {s : Shared}
theorem call_enumerate_tuple {l : Addr} {items : Array Value} {Q : Value → Shared → Prop} (hL : s.heap.IsTuple l items)
    (h : ∀ h', IsEnum h' (s.heap.objs.size + 1) s.heap.objs.size 0 .none → h'.IsTupleIter s.heap.objs.size l 0 → h'.objs.size = s.heap.objs.size + 2 →
      (∀ b o, s.heap.get? b = some o → h'.get? b = some o) → Q (.ref (s.heap.objs.size + 1)) { s with heap := h' }) :
    wpAny (model prog w) A (call (.type "enumerate") [.ref l]) Q E s := by
  refine callType_new F.called_enumerate (by decide) (F.typeCall_enumerate_1 _) (F.newCall_enumerate_1 _) (fun obj => F.args_object_init_2 obj _) F.entry_enumerate_new
    (meets_enumerate_newT l items) ⟨hL, ?_⟩
  have hz : (s.heap.push { cls := .type "tuple_iterator", data := .fields #[.ref l, .int 0 0] }).objs.size = s.heap.objs.size + 1 := Heap.size_push ..
  show _ ∧ _
  rw [hz]
  have he : IsEnum ((s.heap.push { cls := .type "tuple_iterator", data := .fields #[.ref l, .int 0 0] }).push
      { cls := .type "enumerate", data := .fields #[.none, .bool false, .ref s.heap.objs.size, rawInt 0, .none, .none] }) (s.heap.objs.size + 1) s.heap.objs.size 0 .none := by
    have := Heap.get?_push_size (s.heap.push { cls := .type "tuple_iterator", data := .fields #[.ref l, .int 0 0] })
      (o := { cls := .type "enumerate", data := .fields #[.none, .bool false, .ref s.heap.objs.size, rawInt 0, .none, .none] }) rfl
    rw [hz] at this; exact this
  refine ⟨⟨_, he, rfl⟩, h _ he ⟨_, Heap.get?_push_of_some _ (Heap.get?_push_size _ rfl), rfl, rfl⟩ (by rw [Heap.size_push, hz]) fun b o x => Heap.get?_push_of_some _ (Heap.get?_push_of_some _ x)⟩
end
theorem enumT_end {prog : Program} {w : World} {A : Around} {E : Value → Shared → Prop} {s : Shared} {e it l : Addr} {i : Nat} {items : Array Value} {old : Value} {Q : Option Value → Shared → Prop} (hh : A.handled = none)
    (he : IsEnum s.heap e it i old) (hit : s.heap.IsTupleIter it l i) (hl : s.heap.IsTuple l items) (hx : items[i]? = none)
    (hQ : ∀ h', Heap.ExtBut it s.heap h' → Q none { s with heap := h' }) : wpAny (model prog w) A (pyNext (.ref e)) Q E s := by
  have hT : s.TypeIs (.ref e) "enumerate" := ⟨_, he, rfl⟩
  unfold pyNext
  refine wpAny_bind (wpAny_attempt (wpAny_callSpecial?_slot (name := Str.ofString "__next__") hT F.slot_enumerate_next
    (wpAny_call_entry F.slot_enumerate_next hT F.entry_enumerate_next ?_ (F.args_enumerate_next_1 _))))
  show wpAny _ _ (field (.ref e) 2 >>= _) _ _ _
  refine wpAny_bind (wpAny_field he rfl (x := .ref it) rfl ?_)
  refine wpAny_bind (wpAny_nextOf_tuple_end hh hit hl hx fun h' x he' hx' => ?_)
  obtain ⟨o, ho, hc⟩ := hx'
  refine wpAny_bind (wpAny_isInstance (T := "StopIteration") (b := true) ⟨o, ho, hc⟩ isSubtype_stop ?_)
  exact wpAny_pure (hQ _ he')
/-- the tuple at a, each item in a new pair -/
def IteT (K : PySem.W.Frag) (a : Addr) : It :=
  ⟨fun i H => ∃ (xs : List V) (x : V), SqT K H a xs ∧ xs[i]? = some x, fun i H v H' => ∃ T x, v = .ref T ∧ H T = none ∧ H' = upd H T (.tup [.int (i : Nat), x]) ∧ ∀ xs, SqT K H a xs → xs[i]? = some x, fun i H => ∃ xs : List V, SqT K H a xs ∧ xs.length ≤ i⟩
theorem turn_enumT {P : Program} {w : World} {K : PySem.W.Frag} {elts : List Expr} {kk : Nat} {tpos : Pos} (a e it : Addr) (hai : a ≠ it) :
    Turn P w K (.Tuple elts kk tpos) (IteT K a) [e, it] e (fun i h => (∃ old, IsEnum h e it ((i : Nat) : Int) old) ∧ h.IsTupleIter it a i ∧ e ≠ it ∧ e ≠ a) where
  mem := by simp
  obj := fun i h st b hb => by
    obtain ⟨⟨old, he⟩, ⟨o, ho, hc, hd⟩, _⟩ := st
    have e' : b = e ∨ b = it := by simpa using hb
    rcases e' with z | z
    · rw [z]; exact ⟨_, he, fun v q => nomatch q⟩
    · rw [z]; exact ⟨o, ho, fun v q => by rw [hd] at q; cases q⟩
  keep := fun i h h' st k => let ⟨⟨old, he⟩, hi, hne⟩ := st; ⟨⟨old, k e (by simp) _ he⟩, hi.at fun o q => k it (by simp) o q, hne⟩
  item := by
    intro X hP hw hK hc i pins s σ H E I hf st hg
    subst hP hw hK
    obtain ⟨⟨old, he⟩, hit, hne, hea⟩ := st
    obtain ⟨xs, x, hq, hx⟩ := hg
    obtain ⟨its, rv, p, hz⟩ := I.tuple hq
    obtain ⟨u, hu, ru⟩ := rv.get hx
    have hel : e < s.heap.objs.size := Heap.lt_size he
    have hil : it < s.heap.objs.size := by obtain ⟨_, q, _⟩ := hit; exact Heap.lt_size q
    have hi : i < its.toArray.size := by
      have hu' : its.toArray[i]? = some u := by simpa using hu
      exact (Array.getElem?_eq_some_iff.mp hu').1
    have D := Draws.tuple (prog := X.prog) (w := X.w) (A := X.A.in1) (I.ok.hd hc) it a hai its.toArray
    refine wpAny_pyNext_enum_itemD D he ⟨hit, p⟩ hi hne (by simp [hne, hea]) fun x' h' tk hPx ho hit' hT hsz hk => ?_
    have hxu : x' = u := by
      have hu' : its.toArray[i]? = some u := by simpa using hu
      rw [hu'] at hPx; exact (Option.some.inj hPx).symm
    subst hxu
    refine ⟨_, rfl, wpAny_letOwnedTupleGo_enum (s := { s with heap := h', toks := tk + 1 }) ho fun h'' he' sb => ?_⟩
    have hT2 : h''.get? s.heap.objs.size = some { cls := .type "tuple", data := .seq #[.int i tk, x'] } := (sb.2 _ (Nat.ne_of_gt hel)).trans hT
    have new : ObjOk X.prog X.w (upd H s.heap.objs.size (.tup [.int (i : Nat), x])) h'' s.heap.objs.size (.tup [.int (i : Nat), x]) :=
      ⟨by show 2 ≤ sizeLine; decide, [.int i tk, x'], .cons ⟨_, rfl⟩ (.cons ru .nil), ⟨_, hT2, rfl, _, rfl⟩⟩
    have I1 : Inv X pins σ (upd H s.heap.objs.size (.tup [.int (i : Nat), x])) { s with heap := h'', toks := tk + 1 } :=
      I.turnedNew (ch := [e, it]) (fun b ob hb q => (sb.2 b (fun z => hb (by simp [z]))).trans (hk b ob (fun z => hb (by simp [z])) (fun z => hb (by simp [z])) q)) hf (Nat.le_refl _) new
    refine ⟨.ref s.heap.objs.size, _, I1, rfl, ⟨_, x, rfl, I.hok.fresh (Nat.le_refl _), rfl, fun ys hy => by rw [I.tuple_inj hy hq]; exact hx⟩, ⟨⟨x', ?_⟩, hit'.1.at fun o q => (sb.2 it (Ne.symm hne)).trans q, hne, hea⟩, fun b hb => ?_⟩
    · have e1 : ((i + 1 : Nat) : Int) = (i : Int) + 1 := by omega
      rw [e1]; exact he'
    · have hb' : b < s.heap.objs.size := by
        have e' : b = e ∨ b = it := by simpa using hb
        rcases e' with z | z
        · rw [z]; exact hel
        · rw [z]; exact hil
      rw [upd_ne (Nat.ne_of_lt hb')]
      exact (hf b hb).1
  done := by
    intro X hP hw hK hc i pins s σ H E I hf st hg
    subst hP hw hK
    obtain ⟨⟨old, he⟩, hit, hne, hea⟩ := st
    obtain ⟨xs, hq, hx⟩ := hg
    obtain ⟨its, rv, p, hz⟩ := I.tuple hq
    obtain ⟨f0, f1, f2, f3, f4, f5⟩ := hf it (by simp)
    have hl := rv.length
    have hle : its.length ≤ i := by omega
    refine enumT_end (I.ok.hd hc) he hit p (by simp; omega) fun h' eb => ⟨rfl, I.turned (t' := s.toks) (fun b o hb q => eb b o hb q) f0 f1 f3 f4 f5⟩
  self := fun A i s Q E st h => let ⟨⟨_, he⟩, _⟩ := st; wpAny_pyIter_enum he h

/-- enumerate(e), e a list or a tuple -/
def iEnumA (K : PySem.W.Frag) (ta : TA) : TI := fun σ H R => ta σ H fun vs H1 => ∃ a xs, vs = [.ref a] ∧ ((SqL K H1 a xs ∧ R (Ite K a) H1) ∨ (SqT K H1 a xs ∧ R (IteT K a) H1))
theorem pi_enumA {X : Cx} {e : Expr} {ta : TA} {p pos tpos : Pos} {elts : List Expr} {kk : Nat} (hg : Gl X "enumerate") (hm : X.mg "enumerate" = none) (ha : PA X [e] ta) (hs : starEach [e] X.env = [(false, eval e X.env)] := by rfl) :
    PI X (.Tuple elts kk tpos) (.Call (.Name "enumerate" p) [e] [] pos) (iEnumA X.K ta) := by
  refine ⟨fun pins s σ H R I h => ?_⟩
  refine Call_ (ld_blt I hg hm boot_enumerate (PyProof.Rows.callWith_type1 (thn (ha.run pos pins s σ H _ I h) fun us s1 ⟨vs, H1, I1, r1, q1⟩ => ?_) hs rfl))
  obtain ⟨a, xs, ex, q⟩ := q1
  subst ex
  cases r1 with
  | cons r rr =>
    cases rr
    cases r
    have fresh2 : ∀ b, b ∈ [s1.heap.objs.size + 1, s1.heap.objs.size] → FpOk X pins H1 b := fun b hb => by
      have e' : b = s1.heap.objs.size + 1 ∨ b = s1.heap.objs.size := by simpa using hb
      have hle : s1.heap.objs.size ≤ b := by
        rcases e' with z | z
        · rw [z]; exact Nat.le_add_right _ _
        · rw [z]; exact Nat.le_refl _
      exact I1.fpOk hle (I1.hok.fresh hle)
    rcases q with ⟨hq, q⟩ | ⟨hq, q⟩
    · obtain ⟨its, rv, p', hz⟩ := I1.list hq
      refine call_enumerate_list p'.isList fun h' he hit hsz hk => wpAny_pyIter_enum he ?_
      have I2 : Inv X pins σ H1 { s1 with heap := h' } := I1.kept (t' := s1.toks) hk
      exact ⟨s1.heap.objs.size + 1, [s1.heap.objs.size + 1, s1.heap.objs.size], _, _, H1, rfl, I2, turn_enum a (s1.heap.objs.size + 1) s1.heap.objs.size, ⟨⟨.none, he⟩, hit, Nat.succ_ne_self _⟩, fresh2, q⟩
    · obtain ⟨its, rv, p', hz⟩ := I1.tuple hq
      have hlt : a < s1.heap.objs.size := p'.lt
      refine call_enumerate_tuple (show s1.heap.IsTuple a its.toArray from p') fun h' he hit hsz hk => wpAny_pyIter_enum he ?_
      have I2 : Inv X pins σ H1 { s1 with heap := h' } := I1.kept (t' := s1.toks) hk
      exact ⟨s1.heap.objs.size + 1, [s1.heap.objs.size + 1, s1.heap.objs.size], _, _, H1, rfl, I2, turn_enumT a (s1.heap.objs.size + 1) s1.heap.objs.size (Nat.ne_of_lt hlt), ⟨⟨.none, he⟩, hit, Nat.succ_ne_self _, Nat.ne_of_gt (Nat.lt_succ_of_lt hlt)⟩, fresh2, q⟩
/-- a list or a tuple, walked -/
def iSeq (K : PySem.W.Frag) (tl : TE) : TI := fun σ H R => tl σ H fun x H1 => ∃ a, x = .ref a ∧ ((∃ xs, SqL K H1 a xs ∧ R (Itl K a) H1) ∨ (∃ xs, SqT K H1 a xs ∧ R (Itt K a) H1))
theorem pi_seq {X : Cx} {tg l : Expr} {tl : TE} (hl : PE X l tl) : PI X tg l (iSeq X.K tl) := by
  refine ⟨fun pins s σ H R I h => ?_⟩
  refine thn (hl.run pins s σ H _ I h) fun v s1 ⟨x, H1, I1, r1, q1⟩ => ?_
  obtain ⟨a, e, q1⟩ := q1
  subst e
  cases r1
  have fr1 : ∀ b, b ∈ [s1.heap.objs.size] → FpOk X pins H1 b := fun b hb => by
    have e : b = s1.heap.objs.size := by simpa using hb
    subst e
    exact I1.fpOk (Nat.le_refl _) (I1.hok.fresh (Nat.le_refl _))
  rcases q1 with ⟨xs, hq, q⟩ | ⟨xs, hq, q⟩
  · obtain ⟨its, rv, p, hz⟩ := I1.list hq
    refine wpAny_pyIter_list p.isList ?_
    exact ⟨s1.heap.objs.size, [s1.heap.objs.size], _, _, H1, rfl, I1.kept (t' := s1.toks) fun b o e => Heap.get?_push_of_some _ e, turn_list a _, ⟨_, Heap.get?_push_size _ rfl, rfl, rfl⟩, fr1, q⟩
  · obtain ⟨its, rv, p, hz⟩ := I1.tuple hq
    refine wpAny_pyIter_tuple (show s1.heap.IsTuple a its.toArray from p) ?_
    exact ⟨s1.heap.objs.size, [s1.heap.objs.size], _, _, H1, rfl, I1.kept (t' := s1.toks) fun b o e => Heap.get?_push_of_some _ e, turn_tuple a _, ⟨_, Heap.get?_push_size _ rfl, rfl, rfl⟩, fr1, q⟩
end PL
set_option Elab.async false
set_option linter.all false
set_option maxRecDepth 100000
set_option maxHeartbeats 4000000
/-! What is walked; comprehensions. -/
namespace PL
open PySem PySem.Spec PyProof.Rows L2
open Evl (Ex)

/-- the walk J gives xs, one after the other -/
def ItOk (G : Gt) (J : It) (I0 : Hp) (xs : List D) : Prop :=
  ∀ (i : Nat) (I H : Hp), Ex I0 I → Ex I H → (∀ d, xs[i]? = some d → J.go i H ∧ ∀ x H', J.yld i H x H' → ∃ I', Step none I H I' H' ∧ Rep G I' x d) ∧ (xs.length ≤ i → J.stop i H)
def PostI (G : Gt) (R : Option Addr) (W : WX) (I H : Hp) (σ : L2.St) (s' : Row) (Q : It → Hp → Prop) : Except Exn (List D) → Prop
  | .ok xs => ∀ J I' H', Step R I H I' H' → RowOk G R s' I' H' → ItOk G J I' xs → xs.length ≤ sizeLine → Q J H'
  | .error x => ∀ c dd I' H', Step R I H I' H' → RowOk G R s' I' H' → XRep G I' H' x c dd → W c dd σ H'
def RI (G : Gt) (R : Option Addr) (W : WX) (t : TI) (f : AF) : Prop :=
  ∀ (I H : Hp) (σ : L2.St) (ρ : Env) (s : Row), Ex I H → RowOk G R s I H → Slots G R I H σ ρ → ∀ (Q : It → Hp → Prop) r (s' : Row), f ρ s = some (r, s') → PostI G R W I H σ s' Q r → t σ H Q
def PDI {ι : Type} (X : ι → Cx) (G : Gt) (R : Option Addr) (W : WX) (tg it : Expr) (f : AF) : Prop := ∃ t, (∀ i, PI (X i) tg it t) ∧ RI G R W t f

/-- the items of a list or a tuple -/
def i_seq (fa : EF) : AF := fun ρ s => bE (fa ρ s) .error fun x s1 => match x with | .lst xs => some (.ok xs, s1) | .tup xs => some (.ok xs, s1) | _ => none
def rangeL (lo hi : Int) : List D := (List.range (hi - lo).toNat).map fun (i : Nat) => D.int (lo + i)
def i_range1 (fa : EF) : AF := fun ρ s => bE (fa ρ s) .error fun x s1 => match x with | .int j => if -(2 ^ 62) ≤ j ∧ j.toNat ≤ sizeLine then some (.ok (rangeL 0 j), s1) else none | _ => none
def i_range2 (fa fb : EF) : AF := fun ρ s => bE (fa ρ s) .error fun x s1 => bE (fb ρ s1) .error fun y s2 => match x, y with | .int i, .int j => if (-(2 ^ 62) ≤ i ∧ i < 2 ^ 62 ∧ -(2 ^ 62) ≤ j ∧ j < 2 ^ 62) ∧ (j - i).toNat ≤ sizeLine then some (.ok (rangeL i j), s2) else none | _, _ => none
def rangeC (i c : Int) (n : Nat) : List D := (List.range n).map fun (m : Nat) => D.int (i + m * c)
/-- range(i, j, c), c above 0 -/
def i_range3 (fa fb fc : EF) : AF := fun ρ s => bE (fa ρ s) .error fun x s1 => bE (fb ρ s1) .error fun y s2 => bE (fc ρ s2) .error fun z s3 => match x, y, z with
  | .int i, .int j, .int c => if (c ≠ 0 ∧ c.natAbs < 1073741824 ∧ Builtin.Range.small i j c = true) ∧ 0 ≤ Builtin.Range.rangeSize i j c ∧ (Builtin.Range.rangeSize i j c).toNat ≤ sizeLine then some (.ok (rangeC i c (Builtin.Range.rangeSize i j c).toNat), s3) else none | _, _, _ => none
def enumL (xs : List D) : List D := xs.zipIdx.map fun p => D.tup [.int (p.2 : Nat), p.1]
def i_enum (fa : AF) : AF := fun ρ s => bA (fa ρ s) .error fun x s1 => match x with | [.lst xs] => some (.ok (enumL xs), s1) | [.tup xs] => some (.ok (enumL xs), s1) | _ => none
def zipL (xs ys : List D) : List D := (xs.zip ys).map fun p => D.tup [p.1, p.2]
def i_zip (fa : AF) : AF := fun ρ s => bA (fa ρ s) .error fun x s1 => match x with | [.lst xs, .lst ys] => some (.ok (zipL xs ys), s1) | [.tup xs, .tup ys] => some (.ok (zipL xs ys), s1) | _ => none

section
variable {G : Gt} {R : Option Addr} {W : WX}
theorem itOk_tup {a : Addr} {vs : List V} {ds : List D} {I0 : Hp} (h : SqT G.K I0 a vs) (r : Reps G I0 vs ds) : ItOk G (Itt G.K a) I0 ds := fun i I H e e' =>
  ⟨fun d hd => by
    obtain ⟨v, hv, rv⟩ := r.get hd
    refine ⟨⟨vs, v, Evl.ex_t e' (Evl.ex_t e h), hv⟩, fun x H' ⟨e1, hy⟩ => ?_⟩
    subst e1
    have q := hy vs (Evl.ex_t e' (Evl.ex_t e h))
    rw [hv] at q; cases q
    exact ⟨I, Step.refl e', rv.mono e⟩, fun hl => ⟨vs, Evl.ex_t e' (Evl.ex_t e h), by rw [r.length]; exact hl⟩⟩
theorem itOk_list' {a : Addr} {vs : List V} {ds : List D} {I0 : Hp} (h : SqL G.K I0 a vs) (r : Reps G I0 vs ds) : ItOk G (Itl G.K a) I0 ds := fun i I H e e' =>
  ⟨fun d hd => by
    obtain ⟨v, hv, rv⟩ := r.get hd
    refine ⟨⟨vs, v, Evl.ex_l e' (Evl.ex_l e h), hv⟩, fun x H' ⟨e1, hy⟩ => ?_⟩
    subst e1
    have q := hy vs (Evl.ex_l e' (Evl.ex_l e h))
    rw [hv] at q; cases q
    exact ⟨I, Step.refl e', rv.mono e⟩, fun hl => ⟨vs, Evl.ex_l e' (Evl.ex_l e h), by rw [r.length]; exact hl⟩⟩
theorem ri_seq {tl : TE} {fa : EF} (ha : RE G R W tl fa) : RI G R W (iSeq G.K tl) (i_seq fa) := fun I H σ ρ s e ro sl Q res s' hf hp => by
  refine re_seq ha e ro sl hf (fun x ex => by subst ex; exact hp) fun x s1 h1 v I1 H1 st1 ro1 sl1 rv => ?_
  cases rv with
  | tup h r l =>
    cases h1
    exact ⟨_, rfl, .inr ⟨_, Evl.ex_t st1.ih h, hp _ I1 H1 st1 ro1 (itOk_tup h r) (by rw [← r.length]; exact l)⟩⟩
  | lst h h' r l =>
    cases h1
    exact ⟨_, rfl, .inl ⟨_, Evl.ex_l st1.ih h, hp _ I1 H1 st1 ro1 (itOk_list' h r) (by rw [← r.length]; exact l)⟩⟩
  | _ => cases h1
theorem itOk_range {lo : Int} {n : Nat} {I0 : Hp} : ItOk G (Itr lo n) I0 ((List.range n).map fun (i : Nat) => D.int (lo + i)) := fun i I H e e' =>
  ⟨fun d hd => by
    rw [List.getElem?_map] at hd
    by_cases hi : i < n
    · rw [List.getElem?_range hi] at hd
      cases hd
      exact ⟨hi, fun x H' ⟨e1, e2⟩ => by subst e1; subst e2; exact ⟨I, Step.refl e', .int _⟩⟩
    · rw [List.getElem?_eq_none (by simpa using hi)] at hd
      exact absurd hd (by simp), fun hl => show n ≤ i by simpa using hl⟩
theorem itOk_rangeC {lo c : Int} {n : Nat} {I0 : Hp} : ItOk G (Itc lo c n) I0 (rangeC lo c n) := fun i I H e e' =>
  ⟨fun d hd => by
    unfold rangeC at hd
    rw [List.getElem?_map] at hd
    by_cases hi : i < n
    · rw [List.getElem?_range hi] at hd
      cases hd
      exact ⟨hi, fun x H' ⟨e1, e2⟩ => by subst e1; subst e2; exact ⟨I, Step.refl e', .int _⟩⟩
    · rw [List.getElem?_eq_none (by simpa using hi)] at hd
      exact absurd hd (by simp), fun hl => show n ≤ i by simpa [rangeC] using hl⟩
theorem ri_range1 {ta : TE} {fa : EF} (ha : RE G R W ta fa) : RI G R W (iRng1 (tCons ta tNil)) (i_range1 fa) := fun I H σ ρ s e ro sl Q res s' hf hp => by
  refine re_seq ha e ro sl hf (fun x ex => by subst ex; exact hp) fun x s1 h1 v I1 H1 st1 ro1 sl1 rv => ?_
  cases rv with
  | int j =>
    simp only [] at h1
    split at h1
    · rename_i hj
      cases h1
      refine ⟨j, rfl, hj.1, ?_, hp _ I1 H1 st1 ro1 ?_ ?_⟩
      · have := hj.2
        rw [sizeLine_eq] at this
        omega
      · have q := itOk_range (G := G) (lo := 0) (n := j.toNat) (I0 := I1)
        unfold rangeL
        rw [show (j - 0).toNat = j.toNat by omega]
        exact q
      · unfold rangeL
        rw [List.length_map, List.length_range, show (j - 0).toNat = j.toNat by omega]
        exact hj.2
    · cases h1
  | _ => cases h1
theorem ri_range2 {ta tb : TE} {fa fb : EF} (ha : RE G R W ta fa) (hb : RE G R W tb fb) : RI G R W (iRng2 (tCons ta (tCons tb tNil))) (i_range2 fa fb) := fun I H σ ρ s e ro sl Q res s' hf hp => by
  refine re_seq ha e ro sl hf (fun x ex => by subst ex; exact hp) fun x s1 h1 v I1 H1 st1 ro1 sl1 rv => ?_
  refine re_seq hb st1.ih ro1 sl1 h1 (fun z ez => by subst ez; exact fun c dd I' H' st => hp c dd I' H' (st1.trans st)) fun y s2 h2 u I2 H2 st2 ro2 sl2 ru => ?_
  cases x with
  | int i =>
    cases y with
    | int j =>
      simp only [] at h2
      split at h2
      · rename_i hj
        cases h2
        cases rv; cases ru
        refine ⟨i, j, rfl, hj.1, hp _ I2 H2 (st1.trans st2) ro2 itOk_range ?_⟩
        unfold rangeL
        rw [List.length_map, List.length_range]
        exact hj.2
      · cases h2
    | _ => cases h2
  | _ => cases h2
theorem ri_range3 {ta tb tc : TE} {fa fb fc : EF} (ha : RE G R W ta fa) (hb : RE G R W tb fb) (hc : RE G R W tc fc) : RI G R W (iRng3 (tCons ta (tCons tb (tCons tc tNil)))) (i_range3 fa fb fc) := fun I H σ ρ s e ro sl Q res s' hf hp => by
  refine re_seq ha e ro sl hf (fun x ex => by subst ex; exact hp) fun x s1 h1 v I1 H1 st1 ro1 sl1 rv => ?_
  refine re_seq hb st1.ih ro1 sl1 h1 (fun z ez => by subst ez; exact fun c dd I' H' st => hp c dd I' H' (st1.trans st)) fun y s2 h2 u I2 H2 st2 ro2 sl2 ru => ?_
  refine re_seq hc st2.ih ro2 sl2 h2 (fun z ez => by subst ez; exact fun c dd I' H' st => hp c dd I' H' ((st1.trans st2).trans st)) fun z s3 h3 t I3 H3 st3 ro3 sl3 rt => ?_
  cases x with
  | int i =>
    cases y with
    | int j =>
      cases z with
      | int c =>
        simp only [] at h3
        split at h3
        · rename_i hj
          cases h3
          cases rv; cases ru; cases rt
          refine ⟨i, j, c, (Builtin.Range.rangeSize i j c).toNat, rfl, ⟨hj.1.1, hj.1.2.1, hj.1.2.2, (Int.toNat_of_nonneg hj.2.1).symm⟩, hp _ I3 H3 ((st1.trans st2).trans st3) ro3 itOk_rangeC ?_⟩
          unfold rangeC
          rw [List.length_map, List.length_range]
          exact hj.2.2
        · cases h3
      | _ => cases h3
    | _ => cases h3
  | _ => cases h3
theorem enumL_get {xs : List D} {i : Nat} {d : D} (h : (enumL xs)[i]? = some d) : ∃ x, xs[i]? = some x ∧ d = .tup [.int (i : Nat), x] := by
  unfold enumL at h
  rw [List.getElem?_map, List.getElem?_zipIdx] at h
  cases q : xs[i]? with
  | none => rw [q] at h; cases h
  | some x => rw [q] at h; simp at h; exact ⟨x, rfl, h.symm⟩
theorem enumL_len (xs : List D) : (enumL xs).length = xs.length := by unfold enumL; simp
/-- a new pair is given out -/
theorem pair_new {I H : Hp} {T : Addr} {x y : V} {d d' : D} (e : Ex I H) (hT : H T = none) (r : Rep G I x d) (r' : Rep G I y d') : Step none I H (upd I T (.tup [x, y])) (upd H T (.tup [x, y])) ∧ Rep G (upd I T (.tup [x, y])) (.ref T) (.tup [d, d']) :=
  new_tup e hT (.cons r (.cons r' .nil)) (by show 2 ≤ sizeLine; decide)
theorem itOk_enumL {a : Addr} {vs : List V} {ds : List D} {I0 : Hp} (h : SqL G.K I0 a vs) (r : Reps G I0 vs ds) : ItOk G (Ite G.K a) I0 (enumL ds) := fun i I H e e' =>
  ⟨fun d hd => by
    obtain ⟨x, hx, rfl⟩ := enumL_get hd
    obtain ⟨v, hv, rv⟩ := r.get hx
    refine ⟨⟨vs, v, Evl.ex_l e' (Evl.ex_l e h), hv⟩, fun y H' ⟨T, z, e1, e2, e3, hy⟩ => ?_⟩
    subst e1; subst e3
    have q := hy vs (Evl.ex_l e' (Evl.ex_l e h))
    rw [hv] at q; cases q
    have n := pair_new e' e2 (.int (i : Nat)) (rv.mono e)
    exact ⟨_, n.1, n.2⟩, fun hl => ⟨vs, Evl.ex_l e' (Evl.ex_l e h), by rw [r.length]; rw [enumL_len] at hl; exact hl⟩⟩
theorem itOk_enumT {a : Addr} {vs : List V} {ds : List D} {I0 : Hp} (h : SqT G.K I0 a vs) (r : Reps G I0 vs ds) : ItOk G (IteT G.K a) I0 (enumL ds) := fun i I H e e' =>
  ⟨fun d hd => by
    obtain ⟨x, hx, rfl⟩ := enumL_get hd
    obtain ⟨v, hv, rv⟩ := r.get hx
    refine ⟨⟨vs, v, Evl.ex_t e' (Evl.ex_t e h), hv⟩, fun y H' ⟨T, z, e1, e2, e3, hy⟩ => ?_⟩
    subst e1; subst e3
    have q := hy vs (Evl.ex_t e' (Evl.ex_t e h))
    rw [hv] at q; cases q
    have n := pair_new e' e2 (.int (i : Nat)) (rv.mono e)
    exact ⟨_, n.1, n.2⟩, fun hl => ⟨vs, Evl.ex_t e' (Evl.ex_t e h), by rw [r.length]; rw [enumL_len] at hl; exact hl⟩⟩
theorem ri_enum {ta : TA} {fa : AF} (ha : RA G R W ta fa) : RI G R W (iEnumA G.K ta) (i_enum fa) := fun I H σ ρ s e ro sl Q res s' hf hp => by
  refine ra_seq ha e ro sl hf (fun x ex => by subst ex; exact hp) fun xs s1 h1 vs I1 H1 st1 ro1 sl1 rv => ?_
  cases rv with
  | nil => cases h1
  | cons r1 rr =>
    cases rr with
    | cons _ _ => cases r1 <;> cases h1
    | nil =>
      cases r1 with
      | tup h r l =>
        cases h1
        exact ⟨_, _, rfl, .inr ⟨Evl.ex_t st1.ih h, hp _ I1 H1 st1 ro1 (itOk_enumT h r) (by rw [enumL_len, ← r.length]; exact l)⟩⟩
      | lst h h' r l =>
        cases h1
        exact ⟨_, _, rfl, .inl ⟨Evl.ex_l st1.ih h, hp _ I1 H1 st1 ro1 (itOk_enumL h r) (by rw [enumL_len, ← r.length]; exact l)⟩⟩
      | _ => cases h1
theorem zipL_get {xs ys : List D} {i : Nat} {d : D} (h : (zipL xs ys)[i]? = some d) : ∃ x y, xs[i]? = some x ∧ ys[i]? = some y ∧ d = .tup [x, y] := by
  unfold zipL at h
  rw [List.getElem?_map] at h
  cases q : (xs.zip ys)[i]? with
  | none => rw [q] at h; cases h
  | some p =>
    rw [q] at h
    obtain ⟨h1, h2⟩ := List.getElem?_zip_eq_some.mp q
    exact ⟨p.1, p.2, h1, h2, by cases h; rfl⟩
theorem zipL_len (xs ys : List D) : (zipL xs ys).length = min xs.length ys.length := by unfold zipL; simp
theorem itOk_zipT {a b : Addr} {vs us : List V} {ds es : List D} {I0 : Hp} (h : SqT G.K I0 a vs) (r : Reps G I0 vs ds) (h2 : SqT G.K I0 b us) (r2 : Reps G I0 us es) : ItOk G (RZ.ItzT G.K a b) I0 (zipL ds es) := fun i I H e e' =>
  ⟨fun d hd => by
    obtain ⟨x, y, hx, hy, rfl⟩ := zipL_get hd
    obtain ⟨v, hv, rv⟩ := r.get hx
    obtain ⟨u, hu, ru⟩ := r2.get hy
    refine ⟨⟨vs, us, v, u, Evl.ex_t e' (Evl.ex_t e h), Evl.ex_t e' (Evl.ex_t e h2), hv, hu⟩, fun z H' ⟨T, p, q, e1, e2, e3, k1, k2⟩ => ?_⟩
    subst e1; subst e3
    have q1 := k1 vs (Evl.ex_t e' (Evl.ex_t e h))
    have q2 := k2 us (Evl.ex_t e' (Evl.ex_t e h2))
    rw [hv] at q1; cases q1
    rw [hu] at q2; cases q2
    have n := pair_new e' e2 (rv.mono e) (ru.mono e)
    exact ⟨_, n.1, n.2⟩, fun hl => ⟨vs, us, Evl.ex_t e' (Evl.ex_t e h), Evl.ex_t e' (Evl.ex_t e h2), by rw [r.length, r2.length]; rw [zipL_len] at hl; omega⟩⟩
theorem itOk_zipL {a b : Addr} {vs us : List V} {ds es : List D} {I0 : Hp} (h : SqL G.K I0 a vs) (r : Reps G I0 vs ds) (h2 : SqL G.K I0 b us) (r2 : Reps G I0 us es) : ItOk G (Itz G.K a b) I0 (zipL ds es) := fun i I H e e' =>
  ⟨fun d hd => by
    obtain ⟨x, y, hx, hy, rfl⟩ := zipL_get hd
    obtain ⟨v, hv, rv⟩ := r.get hx
    obtain ⟨u, hu, ru⟩ := r2.get hy
    refine ⟨⟨vs, us, v, u, Evl.ex_l e' (Evl.ex_l e h), Evl.ex_l e' (Evl.ex_l e h2), hv, hu⟩, fun z H' ⟨T, p, q, e1, e2, e3, k1, k2⟩ => ?_⟩
    subst e1; subst e3
    have q1 := k1 vs (Evl.ex_l e' (Evl.ex_l e h))
    have q2 := k2 us (Evl.ex_l e' (Evl.ex_l e h2))
    rw [hv] at q1; cases q1
    rw [hu] at q2; cases q2
    have n := pair_new e' e2 (rv.mono e) (ru.mono e)
    exact ⟨_, n.1, n.2⟩, fun hl => ⟨vs, us, Evl.ex_l e' (Evl.ex_l e h), Evl.ex_l e' (Evl.ex_l e h2), by rw [r.length, r2.length]; rw [zipL_len] at hl; omega⟩⟩
theorem ri_zip {ta : TA} {fa : AF} (ha : RA G R W ta fa) : RI G R W (RZ.iZipA G.K ta) (i_zip fa) := fun I H σ ρ s e ro sl Q res s' hf hp => by
  refine ra_seq ha e ro sl hf (fun x ex => by subst ex; exact hp) fun xs s1 h1 vs I1 H1 st1 ro1 sl1 rv => ?_
  split at h1
  · cases h1
    cases rv with
    | cons r1 rr =>
      cases rr with
      | cons r2 r3 =>
        cases r3
        cases r1 with
        | lst h _ r l =>
          cases r2 with
          | lst h2 _ r2 l2 => exact ⟨_, _, _, _, rfl, .inl ⟨Evl.ex_l st1.ih h, Evl.ex_l st1.ih h2, hp _ I1 H1 st1 ro1 (itOk_zipL h r h2 r2) (by rw [zipL_len, ← r.length, ← r2.length]; omega)⟩⟩
  · cases h1
    cases rv with
    | cons r1 rr =>
      cases rr with
      | cons r2 r3 =>
        cases r3
        cases r1 with
        | tup h r l =>
          cases r2 with
          | tup h2 r2 l2 => exact ⟨_, _, _, _, rfl, .inr ⟨Evl.ex_t st1.ih h, Evl.ex_t st1.ih h2, hp _ I1 H1 st1 ro1 (itOk_zipT h r h2 r2) (by rw [zipL_len, ← r.length, ← r2.length]; omega)⟩⟩
  · cases h1
end
end PL
set_option Elab.async false
set_option linter.all false
set_option maxRecDepth 100000
set_option maxHeartbeats 4000000
/-! Targets and comprehensions. -/
namespace PL
open PySem PySem.Spec PyProof.Rows L2
open Evl (Ex)

abbrev GF := D → Env → Option Env
abbrev GFs := List D → Env → Option Env
def g_name (j : Nat) : GF := fun d ρ => if j < ρ.length then some (ρ.set j (some (.im d))) else none
def gs_nil : GFs := fun ds ρ => match ds with | [] => some ρ | _ => none
def gs_cons (g : GF) (r : GFs) : GFs := fun ds ρ => match ds with | d :: ds => (g d ρ).bind (r ds) | [] => none
def g_tup (r : GFs) : GF := fun d ρ => match d with | .tup ds => r ds ρ | _ => none
def wipeE (ρ : Env) : List Nat → Env
  | [] => ρ
  | v :: vs => (wipeE ρ vs).set v none

section
variable {G : Gt} {R : Option Addr}
/-- a target stores at the slots js alone -/
def RG (G : Gt) (g : TG) (f : GF) (js : List Nat) : Prop := ∀ (R : Option Addr) (I H : Hp) (σ : L2.St) (ρ ρ' : Env) (x : V) (d : D), Ex I H → Slots G R I H σ ρ → Rep G I x d → f d ρ = some ρ' →
  ∀ Q : L2.St → Hp → Prop, (∀ σ', Slots G R I H σ' ρ' → (∀ vs : List Nat, (∀ j ∈ js, j ∈ vs) → wipe σ' vs = wipe σ vs) → Q σ' H) → g x σ H Q
structure RGs (G : Gt) (g : TGs) (f : GFs) (js : List Nat) (n : Nat) : Prop where
  len : ∀ (ds : List D) (ρ ρ' : Env), f ds ρ = some ρ' → ds.length = n
  rd : ∀ (R : Option Addr) (I H : Hp) (σ : L2.St) (ρ ρ' : Env) (xs : List V) (ds : List D), Ex I H → Slots G R I H σ ρ → Reps G I xs ds → f ds ρ = some ρ' →
    ∀ Q : L2.St → Hp → Prop, (∀ σ', Slots G R I H σ' ρ' → (∀ vs : List Nat, (∀ j ∈ js, j ∈ vs) → wipe σ' vs = wipe σ vs) → Q σ' H) → g xs σ H Q
theorem wipe_set {σ : L2.St} {j : Nat} {x : Option V} : ∀ {vs : List Nat}, j ∈ vs → wipe (σ.set j x) vs = wipe σ vs
  | v :: vs, h => by
    unfold wipe
    rcases List.mem_cons.mp h with e | e
    · subst e
      by_cases hv : j ∈ vs
      · rw [wipe_set hv]
      · have q : ∀ (vs : List Nat), j ∉ vs → wipe (σ.set j x) vs = (wipe σ vs).set j x := by
          intro vs
          induction vs with
          | nil => intro _; rfl
          | cons u us ih =>
            intro hn
            have h1 : j ≠ u := fun z => hn (by simp [z])
            have h2 : j ∉ us := fun z => hn (by simp [z])
            unfold wipe
            rw [ih h2, List.set_comm _ _ h1]
        rw [q vs hv, List.set_set]
    · rw [wipe_set e]
theorem Slots.set {I H : Hp} {σ : L2.St} {ρ : Env} {j : Nat} {v : V} {d : D} (h : Slots G R I H σ ρ) (r : Rep G I v d) : Slots G R I H (σ.set j (some v)) (ρ.set j (some (.im d))) where
  len := by rw [List.length_set, List.length_set]; exact h.len
  at_ := fun i s e => by
    by_cases hij : j = i
    · subst hij
      have hl : j < ρ.length := by
        have := (List.getElem?_eq_some_iff.mp e).1
        simpa using this
      rw [List.getElem?_set_self hl] at e
      cases e
      exact ⟨v, by rw [List.getElem?_set_self (by rw [← h.len]; exact hl)], r⟩
    · rw [List.getElem?_set_ne hij] at e
      rw [List.getElem?_set_ne hij]
      exact h.at_ i s e
  ne := fun i i' p d e e1 e2 e3 e4 => by
    have a1 : i ≠ j := fun z => by
      subst z
      have hl : i < ρ.length := by
        have := (List.getElem?_eq_some_iff.mp e1).1
        simpa using this
      rw [List.getElem?_set_self hl] at e1
      cases e1
    have a2 : i' ≠ j := fun z => by
      subst z
      have hl : i' < ρ.length := by
        have := (List.getElem?_eq_some_iff.mp e2).1
        simpa using this
      rw [List.getElem?_set_self hl] at e2
      cases e2
    rw [List.getElem?_set_ne (Ne.symm a1)] at e1 e3
    rw [List.getElem?_set_ne (Ne.symm a2)] at e2 e4
    exact h.ne i i' p _ _ e1 e2 e3 e4
theorem Slots.del {I H : Hp} {σ : L2.St} {ρ : Env} {j : Nat} {x : Option V} (h : Slots G R I H σ ρ) : Slots G R I H (σ.set j x) (ρ.set j none) where
  len := by rw [List.length_set, List.length_set]; exact h.len
  at_ := fun i s e => by
    by_cases hij : j = i
    · subst hij
      have hl : j < ρ.length := by
        have := (List.getElem?_eq_some_iff.mp e).1
        simpa using this
      rw [List.getElem?_set_self hl] at e
      cases e
    · rw [List.getElem?_set_ne hij] at e
      rw [List.getElem?_set_ne hij]
      exact h.at_ i s e
  ne := fun i i' p d e e1 e2 e3 e4 => by
    have a1 : i ≠ j := fun z => by
      subst z
      have hl : i < ρ.length := by
        have := (List.getElem?_eq_some_iff.mp e1).1
        simpa using this
      rw [List.getElem?_set_self hl] at e1
      cases e1
    have a2 : i' ≠ j := fun z => by
      subst z
      have hl : i' < ρ.length := by
        have := (List.getElem?_eq_some_iff.mp e2).1
        simpa using this
      rw [List.getElem?_set_self hl] at e2
      cases e2
    rw [List.getElem?_set_ne (Ne.symm a1)] at e1 e3
    rw [List.getElem?_set_ne (Ne.symm a2)] at e2 e4
    exact h.ne i i' p _ _ e1 e2 e3 e4
theorem Slots.wipe {I H : Hp} {σ : L2.St} {ρ : Env} (h : Slots G R I H σ ρ) : ∀ vs : List Nat, Slots G R I H (wipe σ vs) (wipeE ρ vs)
  | [] => h
  | v :: vs => (Slots.wipe h vs).del
theorem rg_name {j : Nat} : RG G (gName j) (g_name j) [j] := fun R I H σ ρ ρ' x d e sl r hf Q hq => by
  unfold g_name at hf
  split at hf
  · cases hf
    exact hq _ (sl.set r) fun vs hv => wipe_set (hv j (by simp))
  · cases hf
theorem rgs_nil : RGs G gNil gs_nil [] 0 where
  len := fun ds ρ ρ' hf => by
    cases ds with
    | nil => rfl
    | cons _ _ => cases hf
  rd := fun R I H σ ρ ρ' xs ds e sl r hf Q hq => by
    cases ds with
    | nil => cases hf; cases r; exact ⟨rfl, hq σ sl fun _ _ => rfl⟩
    | cons _ _ => cases hf
theorem gs_cons_cases {f : GF} {fs : GFs} {ds : List D} {ρ ρ' : Env} (hf : gs_cons f fs ds ρ = some ρ') : ∃ d r ρ1, ds = d :: r ∧ f d ρ = some ρ1 ∧ fs r ρ1 = some ρ' := by
  cases ds with
  | nil => cases hf
  | cons d ds =>
    have hf' : (f d ρ).bind (fs ds) = some ρ' := hf
    cases q : f d ρ with
    | none => rw [q] at hf'; cases hf'
    | some ρ1 => rw [q] at hf'; exact ⟨d, ds, ρ1, rfl, q, hf'⟩
theorem rgs_cons {g : TG} {f : GF} {js ks : List Nat} {gs : TGs} {fs : GFs} {n : Nat} (h : RG G g f js) (hr : RGs G gs fs ks n) : RGs G (gCons g gs) (gs_cons f fs) (js ++ ks) (n + 1) where
  len := fun ds ρ ρ' hf => by
    obtain ⟨d, r, ρ1, rfl, h1, h2⟩ := gs_cons_cases hf
    rw [List.length_cons, hr.len r ρ1 ρ' h2]
  rd := fun R I H σ ρ ρ' xs ds e sl r hf Q hq => by
    obtain ⟨d, ds', ρ1, rfl, h1, h2⟩ := gs_cons_cases hf
    cases r with
    | cons rv rr =>
      refine ⟨_, _, rfl, h R I H σ ρ ρ1 _ d e sl rv h1 _ fun σ1 s1 w1 => ?_⟩
      refine hr.rd R I H σ1 ρ1 ρ' _ ds' e s1 rr h2 _ fun σ2 s2 w2 => ?_
      exact hq σ2 s2 fun vs hv => (w2 vs fun j hj => hv j (List.mem_append_right _ hj)).trans (w1 vs fun j hj => hv j (List.mem_append_left _ hj))
theorem rg_tup {gs : TGs} {fs : GFs} {ks : List Nat} {n : Nat} (hr : RGs G gs fs ks n) : RG G (gTup G.K n gs) (g_tup fs) ks := fun R I H σ ρ ρ' x d e sl r hf Q hq => by
  cases d with
  | tup ds =>
    have hf' : fs ds ρ = some ρ' := hf
    cases r with
    | tup h rs l =>
      exact ⟨_, _, rfl, Evl.ex_t e h, by rw [rs.length]; exact hr.len ds ρ ρ' hf', hr.rd R I H σ ρ ρ' _ ds e sl rs hf' Q hq⟩
  | _ => cases hf

/-! ### comprehensions -/
def lcGo (g : GF) (tf : TF) (fe : EF) (ρw : Env) : List D → Row → Option (List D × Row)
  | [], s => some ([], s)
  | x :: xs, s => (g x ρw).bind fun ρ1 =>
    match tf ρ1 s with
    | some (.ok true, s1) => (match fe ρ1 s1 with
      | some (.ok y, s2) => (lcGo g tf fe ρw xs s2).map fun p => (y :: p.1, p.2)
      | _ => none)
    | some (.ok false, s1) => lcGo g tf fe ρw xs s1
    | _ => none
def e_lc (vs : List Nat) (fi : AF) (g : GF) (tf : TF) (fe : EF) : EF := fun ρ s => bA (fi ρ s) .er fun xs s1 =>
  match lcGo g tf fe (wipeE ρ vs) xs s1 with
  | some p => some (.ok (.lst p.1), p.2)
  | none => none
def t_yes : TF := fun _ s => some (.ok true, s)
theorem rt_yes {W : WX} : RT G R W tYes t_yes := fun I H σ ρ s e ro sl Q r s' hf hp => by
  have hf' : some (Except.ok true, s) = some (r, s') := hf
  cases hf'
  exact hp I H (Step.refl e) ro
/-- one turn, cut -/
theorem lcGo_cons {g : GF} {tf : TF} {fe : EF} {ρw : Env} {x : D} {xs : List D} {s s' : Row} {ys : List D} (h : lcGo g tf fe ρw (x :: xs) s = some (ys, s')) :
    ∃ ρ1, g x ρw = some ρ1 ∧ ((∃ s1 y s2 zs, tf ρ1 s = some (.ok true, s1) ∧ fe ρ1 s1 = some (.ok y, s2) ∧ lcGo g tf fe ρw xs s2 = some (zs, s') ∧ ys = y :: zs) ∨ ∃ s1, tf ρ1 s = some (.ok false, s1) ∧ lcGo g tf fe ρw xs s1 = some (ys, s')) := by
  rw [lcGo] at h
  cases q : g x ρw with
  | none => rw [q] at h; cases h
  | some ρ1 =>
    rw [q] at h
    refine ⟨ρ1, rfl, ?_⟩
    rw [Option.bind_some] at h
    split at h
    · rename_i s1 e1
      split at h
      · rename_i y s2 e2
        cases q2 : lcGo g tf fe ρw xs s2 with
        | none => rw [q2] at h; cases h
        | some p =>
          rw [q2] at h
          cases h
          exact .inl ⟨s1, y, s2, p.1, e1, e2, q2, rfl⟩
      · cases h
    · rename_i s1 e1
      exact .inr ⟨s1, e1, h⟩
    · cases h
/-- the state within a comprehension: the new list stands at D -/
structure LcOk (G : Gt) (R : Option Addr) (I1 H1 : Hp) (D0 : Addr) (acc : List D) (I H : Hp) : Prop where
  st : Step R I1 H1 I H
  nD : I D0 = none
  at_ : ∃ vs, H D0 = some (.lst vs) ∧ Reps G I vs acc ∧ vs.length = acc.length
theorem LcOk.ne {I1 H1 I H : Hp} {D0 : Addr} {s : Row} (ro : RowOk G R s I1 H1) (h0 : H1 D0 = none) : R ≠ some D0 := fun z => by
  subst z
  obtain ⟨_, _, e, _⟩ := ro
  rw [h0] at e; cases e
/-- an item is put behind -/
theorem LcOk.add {I1 H1 I H I2 H2 : Hp} {D0 : Addr} {acc : List D} {v : V} {y : D} {s s2 : Row} (h0 : H1 D0 = none) (ro : RowOk G R s I1 H1) (k : LcOk G R I1 H1 D0 acc I H) (st : Step R I H I2 H2) (ro2 : RowOk G R s2 I2 H2) (rv : Rep G I2 v y) :
    ∃ vs, H2 D0 = some (.lst vs) ∧ vs.length = acc.length ∧ LcOk G R I1 H1 D0 (acc ++ [y]) I2 (upd H2 D0 (.lst (vs ++ [v]))) ∧ RowOk G R s2 I2 (upd H2 D0 (.lst (vs ++ [v]))) := by
  have hR := LcOk.ne (I := I) (H := H) ro h0
  obtain ⟨vs, e1, e2, e3⟩ := k.at_
  have e4 : H2 D0 = some (.lst vs) := st.fr _ _ e1 hR
  have n2 : I2 D0 = none := nw_none st k.nD (by rw [e1]; simp)
  have s12 := k.st.trans st
  refine ⟨vs, e4, e3, ⟨⟨s12.ii, fun a o q => ?_, fun a o q n => ?_, fun a q => ?_, s12.nw⟩, n2, ⟨vs ++ [v], upd_same, (e2.mono st.ii).append (.cons rv .nil), by simp [e3]⟩⟩, ?_⟩
  · rw [upd_ne (fun z => by subst z; rw [n2] at q; cases q)]; exact s12.ih a o q
  · rw [upd_ne (fun z => by subst z; rw [h0] at q; cases q)]; exact s12.fr a o q n
  · by_cases hz : a = D0
    · subst hz; rw [upd_same]; simp
    · rw [upd_ne hz]; exact s12.tr a q
  · cases R with
    | none => trivial
    | some r =>
      obtain ⟨b1, b2, b3, b4⟩ := ro2
      exact ⟨b1, b2, by rw [upd_ne (fun z => hR (by rw [z]))]; exact b3, b4⟩
theorem LcOk.start {I1 H1 : Hp} {D0 : Addr} {s : Row} (e : Ex I1 H1) (h0 : H1 D0 = none) (ro : RowOk G R s I1 H1) : LcOk G R I1 H1 D0 [] I1 (upd H1 D0 (.lst [])) ∧ RowOk G R s I1 (upd H1 D0 (.lst [])) := by
  have hR := LcOk.ne (I := I1) (H := H1) ro h0
  refine ⟨⟨⟨Ex.refl _, fun a o q => Ex.new h0 a o (e a o q), fun a o q _ => Ex.new h0 a o q, fun a q => ?_, fun a q => .inl q⟩, ex_none e h0, [], upd_same, .nil, rfl⟩, ?_⟩
  · by_cases hz : a = D0
    · subst hz; rw [upd_same]; simp
    · rw [upd_ne hz]; exact q
  · cases R with
    | none => trivial
    | some r =>
      obtain ⟨b1, b2, b3, b4⟩ := ro
      exact ⟨b1, b2, by rw [upd_ne (fun z => hR (by rw [z]))]; exact b3, b4⟩
/-- the list is told -/
theorem LcOk.done {I1 H1 I H : Hp} {D0 : Addr} {acc : List D} {s : Row} (h0 : H1 D0 = none) (k : LcOk G R I1 H1 D0 acc I H) (ro : RowOk G R s I H) (ro1 : ∃ s0, RowOk G R s0 I1 H1) (hl : acc.length ≤ sizeLine) :
    ∃ I', Step R I1 H1 I' H ∧ RowOk G R s I' H ∧ Rep G I' (.ref D0) (.lst acc) := by
  obtain ⟨vs, e1, e2, e3⟩ := k.at_
  obtain ⟨s0, ro0⟩ := ro1
  have hR := LcOk.ne (I := I) (H := H) ro0 h0
  refine ⟨upd I D0 (.lst vs), ⟨k.st.ii.trans (Ex.new k.nD), fun a o q => ?_, k.st.fr, k.st.tr, fun a q => ?_⟩, ?_, .lst (.inl (.inl upd_same)) upd_same (e2.mono (Ex.new k.nD)) (by rw [e3]; exact hl)⟩
  · by_cases hz : a = D0
    · subst hz; rw [upd_same] at q; cases q; exact e1
    · rw [upd_ne hz] at q; exact k.st.ih a o q
  · by_cases hz : a = D0
    · subst hz; exact .inr h0
    · rw [upd_ne hz] at q; exact k.st.nw a q
  · cases R with
    | none => trivial
    | some r =>
      obtain ⟨b1, b2, b3, b4⟩ := ro
      have hS : s.sa ≠ D0 := fun z => by rw [z, k.nD] at b4; cases b4
      exact ⟨by rw [upd_ne (fun z => hR (by rw [z]))]; exact b1, b2, b3, by rw [upd_ne hS]; exact b4⟩
theorem lcGo_len {g : GF} {tf : TF} {fe : EF} {ρw : Env} : ∀ {xs : List D} {s s' : Row} {ys : List D}, lcGo g tf fe ρw xs s = some (ys, s') → ys.length ≤ xs.length
  | [], s, s', ys, h => by cases h; exact Nat.le_refl _
  | x :: xs, s, s', ys, h => by
    obtain ⟨ρ1, _, h1 | h1⟩ := lcGo_cons h
    · obtain ⟨s1, y, s2, zs, _, _, e, rfl⟩ := h1
      have := lcGo_len e
      simp; omega
    · obtain ⟨s1, _, e⟩ := h1
      have := lcGo_len e
      simp; omega
/-- the loop of a comprehension, from a state on: what is left to be walked, and what it gives. Nx: what stands behind the turn; end: what is wanted when the walk stops -/
theorem lc_turn {g : TG} {gf : GF} {js vs : List Nat} {tt : TT} {tf : TF} {te : TE} {fe : EF} (hg : RG G g gf js) (hj : ∀ j ∈ js, j ∈ vs) (ht : RT G R (fun _ _ _ _ => False) tt tf) (he : RE G R (fun _ _ _ _ => False) te fe)
    {I1 H1 I H I' H' : Hp} {D0 : Addr} {acc zs : List D} {σ : L2.St} {ρ : Env} {x : D} {xs : List D} {v : V} {s s0 sf : Row} {Nx : Hp → Prop}
    (h0 : H1 D0 = none) (ro1 : RowOk G R s0 I1 H1) (sl : Slots G R I H σ ρ) (k : LcOk G R I1 H1 D0 acc I H) (ro : RowOk G R s I H) (hgo : lcGo gf tf fe (wipeE ρ vs) (x :: xs) s = some (zs, sf))
    (st : Step none I H I' H') (rv : Rep G I' v x) (hl : acc.length + zs.length ≤ sizeLine)
    (hNx : ∀ (I3 H3 : Hp) (acc' zs' : List D) (s3 : Row), Ex I I3 → LcOk G R I1 H1 D0 acc' I3 H3 → RowOk G R s3 I3 H3 → lcGo gf tf fe (wipeE ρ vs) xs s3 = some (zs', sf) → acc' ++ zs' = acc ++ zs → Nx H3) :
    g v (wipe σ vs) H' fun σ2 H2 => wipe σ2 vs = wipe σ vs ∧ tt σ2 H2 fun b H3 => if b = true then te σ2 H3 fun y H4 => ∃ a, H4 D0 = some (.lst a) ∧ a.length < sizeLine ∧ Nx (upd H4 D0 (.lst (a ++ [y]))) else Nx H3 := by
  obtain ⟨ρ1, hg1, h1⟩ := lcGo_cons hgo
  have hR := LcOk.ne (I := I) (H := H) ro1 h0
  have ro' := ro.step0 st
  have st' := st.row (R := R)
  have k' : LcOk G R I1 H1 D0 acc I' H' := by
    obtain ⟨vs, e1, e2, e3⟩ := k.at_
    exact ⟨k.st.trans st', nw_none st' k.nD (by rw [e1]; simp), vs, st'.fr _ _ e1 hR, e2.mono st'.ii, e3⟩
  have sl' := (sl.step st').wipe vs
  refine hg R I' H' (wipe σ vs) (wipeE ρ vs) ρ1 v x st.ih sl' rv hg1 _ fun σ2 sl2 w2 => ?_
  refine ⟨(w2 vs hj).trans ?_, ?_⟩
  · -- wiping twice
    have : ∀ us : List Nat, (∀ u ∈ us, u ∈ vs) → wipe (wipe σ us) vs = wipe σ vs := by
      intro us
      induction us with
      | nil => intro _; rfl
      | cons u us ih =>
        intro hu
        show wipe ((wipe σ us).set u none) vs = wipe σ vs
        rw [wipe_set (hu u (by simp))]
        exact ih fun z hz => hu z (by simp [hz])
    exact this vs fun _ h => h
  · rcases h1 with ⟨s1, y, s2, zs', e1, e2, e3, e4⟩ | ⟨s1, e1, e3⟩
    · refine ht I' H' σ2 ρ1 s st.ih ro' sl2 _ _ _ e1 fun I2 H2 st2 ro2 => iteT ?_
      refine he I2 H2 σ2 ρ1 s1 st2.ih ro2 (sl2.step st2) _ _ _ e2 fun u I3 H3 st3 ro3 ru => ?_
      obtain ⟨ws, a1, a2, a3, a4⟩ := k'.add h0 ro1 (st2.trans st3) ro3 ru
      refine ⟨ws, a1, ?_, hNx I3 _ (acc ++ [y]) zs' s2 ((st.ii.trans st2.ii).trans st3.ii) a3 a4 e3 (by rw [e4]; simp)⟩
      rw [a2]
      rw [e4, List.length_cons] at hl
      omega
    · refine ht I' H' σ2 ρ1 s st.ih ro' sl2 _ _ _ e1 fun I2 H2 st2 ro2 => iteF ?_
      refine hNx I2 H2 acc zs s1 (st.ii.trans st2.ii) ?_ ro2 e3 rfl
      obtain ⟨ws, b1, b2, b3⟩ := k'.at_
      exact ⟨k'.st.trans st2, nw_none st2 k'.nD (by rw [b1]; simp), ws, st2.fr _ _ b1 hR, b2.mono st2.ii, b3⟩
theorem re_lc {wi : TI} {fi : AF} {g : TG} {gf : GF} {js vs : List Nat} {tt : TT} {tf : TF} {te : TE} {fe : EF} {W : WX} (hi : RI G R W wi fi) (hg : RG G g gf js) (hj : ∀ j ∈ js, j ∈ vs)
    (ht : RT G R (fun _ _ _ _ => False) tt tf) (he : RE G R (fun _ _ _ _ => False) te fe) : RE G R W (tLc wi g tt te vs) (e_lc vs fi gf tf fe) := fun I H σ ρ s e ro sl Q res s' hf hp => by
  rcases bA_cases hf with ⟨x, e1, e2⟩ | ⟨xs, s1, e1, e2⟩
  · subst e2
    exact hi I H σ ρ s e ro sl _ _ _ e1 hp
  · refine hi I H σ ρ s e ro sl _ _ _ e1 fun J I1 H1 st1 ro1 it hz => fun D0 hD => ?_
    have sl1 := sl.step st1
    split at e2
    · rename_i p hgo
      cases e2
      obtain ⟨ys, sf⟩ := p
      have hlen := lcGo_len hgo
      refine ⟨fun i m H' => m = xs.length - i ∧ i ≤ xs.length ∧ ∃ I' s' acc zs, LcOk G R I1 H1 D0 acc I' H' ∧ RowOk G R s' I' H' ∧ lcGo gf tf fe (wipeE ρ vs) (xs.drop i) s' = some (zs, sf) ∧ acc ++ zs = ys, ⟨_, rfl, Nat.zero_le _, ?_⟩, ?_⟩
      · have k := LcOk.start st1.ih hD ro1
        exact ⟨I1, s1, [], ys, k.1, k.2, hgo, rfl⟩
      · rintro i m H' ⟨hm, hi', I', s2, acc, zs, k, ro2, hgo2, hys⟩
        have itk := it i I' H' k.st.ii k.st.ih
        by_cases hlt : i < xs.length
        · right
          have hx : xs[i]? = some xs[i] := List.getElem?_eq_getElem hlt
          obtain ⟨hgo3, hy⟩ := itk.1 _ hx
          refine ⟨hgo3, fun H3 => ∃ m', m' < m ∧ m' = xs.length - (i + 1) ∧ i + 1 ≤ xs.length ∧ ∃ I' s' acc zs, LcOk G R I1 H1 D0 acc I' H3 ∧ RowOk G R s' I' H3 ∧ lcGo gf tf fe (wipeE ρ vs) (xs.drop (i + 1)) s' = some (zs, sf) ∧ acc ++ zs = ys, fun H3 ⟨m', a1, a2, a3, a4⟩ => ⟨m', a1, a2, a3, a4⟩, fun v H3 hy2 => ?_⟩
          obtain ⟨I3, st3, rv⟩ := hy v H3 hy2
          rw [List.drop_eq_getElem_cons hlt] at hgo2
          refine lc_turn hg hj ht he hD ro1 (sl1.step k.st) k ro2 hgo2 st3 rv ?_ fun I4 H4 acc' zs' s4 _ k4 ro4 hgo4 hys4 => ?_
          · rw [← List.length_append, hys]; omega
          · exact ⟨xs.length - (i + 1), by omega, rfl, by omega, I4, s4, acc', zs', k4, ro4, hgo4, by rw [hys4, hys]⟩
        · left
          have hie : i = xs.length := by omega
          refine ⟨itk.2 (by omega), ?_⟩
          rw [hie, List.drop_length] at hgo2
          cases hgo2
          have hacc : acc = ys := by rw [← hys, List.append_nil]
          subst hacc
          obtain ⟨I5, st5, ro5, rep⟩ := k.done hD ro2 ⟨s1, ro1⟩ (by omega)
          exact hp _ I5 H' (st1.trans st5) ro5 rep
    · cases e2
end
end PL
set_option Elab.async false
set_option linter.all false
set_option maxRecDepth 100000
set_option maxHeartbeats 4000000
/-! The rules for what is walked, targets, comprehensions. -/
namespace PL
open PySem PySem.Spec PyProof.Rows L2
open Evl (Ex)
section
variable {ι : Type}
def PDG (X : ι → Cx) (G : Gt) (e : Expr) (f : GF) (js : List Nat) : Prop := ∃ g, (∀ i, PG (X i) e g) ∧ RG G g f js
def PDGs (X : ι → Cx) (G : Gt) (es : List Expr) (f : GFs) (js : List Nat) (n : Nat) : Prop := ∃ g, (∀ i, PGs (X i) es g) ∧ RGs G g f js n
def PDTs (X : ι → Cx) (G : Gt) (R : Option Addr) (W : WX) (es : List Expr) (f : TF) : Prop := ∃ t, (∀ i, PTs (X i) es t) ∧ RT G R W t f
/-- the blocks of a comprehension -/
abbrev blkF (X : ι → Cx) (scope : Scope) : (ι × Shared × Hp × Addr × List (Str × Addr) × List Addr) → Cx :=
  fun p => (X p.1).blk p.2.1 p.2.2.1 scope (compEnvC scope p.2.2.2.2.1 p.2.2.2.1 (X p.1).env) p.2.2.2.2.2
abbrev W0 : WX := fun _ _ _ _ => False
variable {X : ι → Cx} {G : Gt} {R : Option Addr} {W : WX} {P : Program} {w : World} {mg : Str → Option Value} {base : Heap} {k : Nat} {N : List Str}
theorem Fo.blk (fo : Fo X G P w mg base k N W) (scope : Scope) : Fo (blkF X scope) G P w mg base k N W0 where
  hK := fun p => fo.hK p.1
  hP := fun p => fo.hP p.1
  hw := fun p => fo.hw p.1
  gw := fo.gw
  hmg := fun p => fo.hmg p.1
  hbase := fun p => fo.hbase p.1
  hN := fun p => fo.hN p.1
  nd := fo.nd
  room := fun p => fo.room p.1
  tk := fun p => takes0
variable {a b c e tg iter elt : Expr} {fa fb fc fe : EF} {fl fi : AF} {tf : TF} {gf : GF} {gfs : GFs} {js ks : List Nat} {pos p : Pos} {n : Nat}
theorem pdg_name (fo : Fo X G P w mg base k N W) (j : Nat) {x : Str} (hN : N[j]? = some x) (hx : ∀ i, Loc (X i).env.scope x) (hf : ∀ i, (X i).fn x = true ∨ (X i).env.scope.names.lookup x = some .local) : PDG X G (.Name x pos) (g_name j) [j] :=
  ⟨_, fun i => pg_name (by rw [fo.hN i]; exact fo.nd) (by rw [fo.hN i]; exact hN) (hx i) (hf i), rg_name⟩
theorem pdgs_nil : PDGs X G [] gs_nil [] 0 := ⟨_, fun _ => pgs_nil, rgs_nil⟩
theorem pdgs_cons {es : List Expr} (h : PDG X G e gf js) (hr : PDGs X G es gfs ks n) (hs : ∀ i, (assignEach (e :: es) (X i).env).map (·.2) = assign e (X i).env :: (assignEach es (X i).env).map (·.2)) : PDGs X G (e :: es) (gs_cons gf gfs) (js ++ ks) (n + 1) :=
  let ⟨_, p, r⟩ := h; let ⟨_, p', r'⟩ := hr; ⟨_, fun i => pgs_cons (p i) (p' i) (hs i), rgs_cons r r'⟩
theorem pdg_tup (fo : Fo X G P w mg base k N W) {es : List Expr} {kk : Nat} (hc : ∀ i, (X i).calm = true) (h : PDGs X G es gfs js n) (hn : ∀ i, (assignEach es (X i).env).length = n) (hst : ∀ i, (assignEach es (X i).env).findIdx? (·.1) = none) : PDG X G (.Tuple es kk pos) (g_tup gfs) js :=
  let ⟨_, p, r⟩ := h; ⟨_, fun i => by rw [← fo.hK i]; exact pg_tup (hc i) (p i) (hn i) (hst i), rg_tup r⟩
/-! ### what is walked -/
theorem pdi_seq (fo : Fo X G P w mg base k N W) (h : PDE X G R W iter fa) : PDI X G R W tg iter (i_seq fa) :=
  let ⟨_, p, r⟩ := h; ⟨_, fun i => by rw [← fo.hK i]; exact pi_seq (p i), ri_seq r⟩
theorem pdi_range1 (fo : Fo X G P w mg base k N W) (hg : ∀ i, Gl (X i) "range") (hm : mg "range" = none) (h : PDE X G R W a fa) (hs : ∀ i, starEach [a] (X i).env = [(false, eval a (X i).env)]) : PDI X G R W tg (.Call (.Name "range" p) [a] [] pos) (i_range1 fa) :=
  let ⟨_, pa, r⟩ := h; ⟨_, fun i => pi_range1 (hg i) (by rw [fo.hmg i]; exact hm) (pa_cons (pa i) pa_nil (hs i)) (hs i), ri_range1 r⟩
theorem pdi_range2 (fo : Fo X G P w mg base k N W) (hg : ∀ i, Gl (X i) "range") (hm : mg "range" = none) (h : PDE X G R W a fa) (h' : PDE X G R W b fb) (hs : ∀ i, starEach [a, b] (X i).env = [(false, eval a (X i).env), (false, eval b (X i).env)]) (hs2 : ∀ i, starEach [b] (X i).env = [(false, eval b (X i).env)]) : PDI X G R W tg (.Call (.Name "range" p) [a, b] [] pos) (i_range2 fa fb) :=
  let ⟨_, pa, r⟩ := h; let ⟨_, pb, r'⟩ := h'
  ⟨_, fun i => pi_range2 (hg i) (by rw [fo.hmg i]; exact hm) (pa_cons (pa i) (pa_cons (pb i) pa_nil (hs2 i)) (by rw [hs i, hs2 i])) (hs i) (hs2 i), ri_range2 r r'⟩
theorem pdi_range3 (fo : Fo X G P w mg base k N W) (hg : ∀ i, Gl (X i) "range") (hm : mg "range" = none) (h : PDE X G R W a fa) (h' : PDE X G R W b fb) (h'' : PDE X G R W c fc) (hs : ∀ i, starEach [a, b, c] (X i).env = (false, eval a (X i).env) :: starEach [b, c] (X i).env) (hs2 : ∀ i, starEach [b, c] (X i).env = (false, eval b (X i).env) :: starEach [c] (X i).env) (hs3 : ∀ i, starEach [c] (X i).env = [(false, eval c (X i).env)]) (hpl : ∀ i, (backTo pos (starEach [b, c] (X i).env)).any (·.1) = false) : PDI X G R W tg (.Call (.Name "range" p) [a, b, c] [] pos) (i_range3 fa fb fc) :=
  let ⟨_, pa, r⟩ := h; let ⟨_, pb, r'⟩ := h'; let ⟨_, pc, r''⟩ := h''
  ⟨_, fun i => pi_range3 (hg i) (by rw [fo.hmg i]; exact hm) (pa_cons (pa i) (pa_cons (pb i) (pa_cons (pc i) pa_nil (hs3 i)) (hs2 i)) (hs i)) (hs i) (hpl i), ri_range3 r r' r''⟩
theorem pdi_enum (fo : Fo X G P w mg base k N W) {elts : List Expr} {kk : Nat} {tpos : Pos} (hg : ∀ i, Gl (X i) "enumerate") (hm : mg "enumerate" = none) (h : PDE X G R W a fa) (hs : ∀ i, starEach [a] (X i).env = [(false, eval a (X i).env)]) : PDI X G R W (.Tuple elts kk tpos) (.Call (.Name "enumerate" p) [a] [] pos) (i_enum (a_cons fa a_nil)) :=
  let ⟨_, pa, r⟩ := h; ⟨_, fun i => by rw [← fo.hK i]; exact pi_enumA (hg i) (by rw [fo.hmg i]; exact hm) (pa_cons (pa i) pa_nil (hs i)) (hs i), ri_enum (ra_cons r ra_nil)⟩
theorem pdi_zip (fo : Fo X G P w mg base k N W) {elts : List Expr} {kk : Nat} {tpos : Pos} (hg : ∀ i, Gl (X i) "zip") (hm : mg "zip" = none) (h : PDE X G R W a fa) (h' : PDE X G R W b fb) (hs : ∀ i, starEach [a, b] (X i).env = (false, eval a (X i).env) :: starEach [b] (X i).env) (hs2 : ∀ i, starEach [b] (X i).env = [(false, eval b (X i).env)]) (hpl : ∀ i, (backTo pos (starEach [b] (X i).env)).any (·.1) = false) : PDI X G R W (.Tuple elts kk tpos) (.Call (.Name "zip" p) [a, b] [] pos) (i_zip (a_cons fa (a_cons fb a_nil))) :=
  let ⟨_, pa, r⟩ := h; let ⟨_, pb, r'⟩ := h'
  ⟨_, fun i => by rw [← fo.hK i]; exact RZ.pi_zipA (hg i) (by rw [fo.hmg i]; exact hm) (pa_cons (pa i) (pa_cons (pb i) pa_nil (hs2 i)) (hs i)) (hs i) (hpl i), ri_zip (ra_cons r (ra_cons r' ra_nil))⟩
theorem pdts_nil : PDTs X G R W [] t_yes := ⟨_, fun _ => pts_nil, rt_yes⟩
theorem pdts_one (h : PDT X G R W a tf) : PDTs X G R W [a] tf := let ⟨_, p, r⟩ := h; ⟨_, fun i => pts_one (p i), r⟩
/-! ### comprehensions: the parts -/
def PDL (X : ι → Cx) (G : Gt) (R : Option Addr) (W : WX) (elt tg iter : Expr) (ifs : List Expr) (scope : Scope) (vs : List Nat) (F : EF) : Prop :=
  ∃ wi g tt te, (∀ i, PI (X i) tg iter wi) ∧ (∀ i (s : Shared) (H : Hp) (C : Addr) (cl : List (Str × Addr)) (fp : List Addr), PG ((X i).blk s H scope (compEnvC scope cl C (X i).env) fp) tg g) ∧
    (∀ i (s : Shared) (H : Hp) (C : Addr) (cl : List (Str × Addr)) (fp : List Addr), PTs ((X i).blk s H scope (compEnvC scope cl C (X i).env) fp) ifs tt) ∧
    (∀ i (s : Shared) (H : Hp) (C : Addr) (cl : List (Str × Addr)) (fp : List Addr), PE ((X i).blk s H scope (compEnvC scope cl C (X i).env) fp) elt te) ∧ RE G R W (tLc wi g tt te vs) F
theorem pdl_mk {ifs : List Expr} {scope : Scope} {vs : List Nat} (hi : PDI X G R W tg iter fi) (hg : PDG (blkF X scope) G tg gf js) (ht : PDTs (blkF X scope) G R W0 ifs tf) (he : PDE (blkF X scope) G R W0 elt fe) (hj : ∀ j ∈ js, j ∈ vs) : PDL X G R W elt tg iter ifs scope vs (e_lc vs fi gf tf fe) :=
  let ⟨wi, p1, r1⟩ := hi; let ⟨g, p2, r2⟩ := hg; let ⟨tt, p3, r3⟩ := ht; let ⟨te, p4, r4⟩ := he
  ⟨wi, g, tt, te, p1, fun i s H C cl fp => p2 (i, s, H, C, cl, fp), fun i s H C cl fp => p3 (i, s, H, C, cl, fp), fun i s H C cl fp => p4 (i, s, H, C, cl, fp), re_lc r1 r2 hj r3 r4⟩
theorem pd_lc (fo : Fo X G P w mg base k N W) {ifs : List Expr} {scope : Scope} {own : List (Str × Nat)} {F : EF} (hc : ∀ i, (X i).calm = true) (ok : ∀ i, BlkOk N (X i).env.scope scope own) (h : PDL X G R W elt tg iter ifs scope (own.map (·.2)) F)
    (hs : ∀ i x, foldedSetIterable iter (X i).env x = pure x) : PDE X G R W (.ListComp elt [⟨tg, iter, ifs, 0⟩] scope pos) F :=
  let ⟨wi, g, tt, te, p1, p2, p3, p4, r⟩ := h
  ⟨_, fun i => pe_lc (hc i) (by rw [fo.hN i]; exact fo.nd) (p1 i) (by rw [fo.hN i]; exact ok i) (p2 i) (p3 i) (p4 i) (hs i), r⟩
end
end PL
set_option Elab.async false
set_option linter.all false
set_option maxRecDepth 100000
set_option maxHeartbeats 4000000
/-! Statements. -/
namespace PL
open PySem PySem.Spec PyProof.Rows L2
open Evl (Ex)

inductive Out where
  | nx (ρ : Env)
  | rt (d : D) (ρ : Env)
  | er (x : Exn) (ρ : Env)
abbrev SF := Env → Row → Option (Out × Row)

/-- where a def's body stands, from its entry I0, H0: ps, the arguments that it may change -/
structure Bs (R : Option Addr) (ps : List Addr) (I0 H0 I H : Hp) : Prop where
  ii : Ex I0 I
  ih : Ex I H
  fr : ∀ a o, H0 a = some o → R ≠ some a → a ∉ ps → H a = some o
  tr : ∀ a, H0 a ≠ none → H a ≠ none
  nw : ∀ a, I a ≠ none → I0 a ≠ none ∨ H0 a = none ∨ a ∈ ps
def isIns : D → Bool
  | .ins _ _ => true
  | _ => false
structure SS (G : Gt) (R : Option Addr) (ps : List Addr) (I0 H0 I H : Hp) (σ : L2.St) (ρ : Env) (s : Row) : Prop where
  bs : Bs R ps I0 H0 I H
  ro : RowOk G R s I H
  sl : Slots G R I H σ ρ
  cf : ∀ (i : Nat) (d : D) (p : Addr), ρ[i]? = some (some (.ce d)) → σ[i]? = some (some (.ref p)) → (H0 p = none ∧ isIns d = false) ∨ p ∈ ps
def PostS (G : Gt) (R : Option Addr) (W : WX) (ps : List Addr) (I0 H0 : Hp) (s' : Row) (Dn : Ends) : Out → Prop
  | .nx ρ' => ∀ σ' I' H', SS G R ps I0 H0 I' H' σ' ρ' s' → Dn.nx σ' H'
  | .rt d ρ' => ∀ v σ' I' H', SS G R ps I0 H0 I' H' σ' ρ' s' → Rep G I' v d → Dn.rt v H'
  | .er x ρ' => ∀ c dd σ' I' H', SS G R ps I0 H0 I' H' σ' ρ' s' → XRep G I' H' x c dd → W c dd σ' H'
def RS (G : Gt) (R : Option Addr) (W : WX) (t : TS) (F : SF) : Prop :=
  ∀ (ps : List Addr) (I0 H0 I H : Hp) (σ : L2.St) (ρ : Env) (s : Row), SS G R ps I0 H0 I H σ ρ s → ∀ (Dn : Ends) (o : Out) (s' : Row), F ρ s = some (o, s') → PostS G R W ps I0 H0 s' Dn o → t Dn σ H

section
variable {G : Gt} {R : Option Addr} {W : WX}
theorem Bs.step {ps : List Addr} {I0 H0 I H I' H' : Hp} (b : Bs R ps I0 H0 I H) (st : Step R I H I' H') : Bs R ps I0 H0 I' H' where
  ii := b.ii.trans st.ii
  ih := st.ih
  fr := fun a o h n p => st.fr a o (b.fr a o h n p) n
  tr := fun a h => st.tr a (b.tr a h)
  nw := fun a h => by
    rcases st.nw a h with q | q
    · exact b.nw a q
    · right; left
      cases z : H0 a with
      | none => rfl
      | some o => exact absurd q (b.tr a (by rw [z]; simp))
theorem SS.step {ps : List Addr} {I0 H0 I H I' H' : Hp} {σ : L2.St} {ρ : Env} {s s' : Row} (x : SS G R ps I0 H0 I H σ ρ s) (st : Step R I H I' H') (ro : RowOk G R s' I' H') : SS G R ps I0 H0 I' H' σ ρ s' :=
  ⟨x.bs.step st, ro, x.sl.step st, x.cf⟩
/-- the ground is where we stand -/
theorem SS.rebase {ps : List Addr} {I0 H0 I H : Hp} {σ : L2.St} {ρ : Env} {s : Row} (x : SS G R ps I0 H0 I H σ ρ s) : SS G R ps I H0 I H σ ρ s :=
  ⟨⟨Ex.refl _, x.bs.ih, x.bs.fr, x.bs.tr, fun a h => .inl h⟩, x.ro, x.sl, x.cf⟩
theorem SS.back {ps : List Addr} {I0 H0 I1 I H H1 : Hp} {σ : L2.St} {ρ : Env} {s : Row} (b : Bs R ps I0 H0 I1 H1) (x : SS G R ps I1 H0 I H σ ρ s) : SS G R ps I0 H0 I H σ ρ s :=
  ⟨⟨b.ii.trans x.bs.ii, x.bs.ih, x.bs.fr, x.bs.tr, fun a h => (x.bs.nw a h).elim (b.nw a) fun z => .inr z⟩, x.ro, x.sl, x.cf⟩
theorem PostS.back {ps : List Addr} {I0 H0 I1 H1 : Hp} {s' : Row} {Dn : Ends} {o : Out} (b : Bs R ps I0 H0 I1 H1) (h : PostS G R W ps I0 H0 s' Dn o) : PostS G R W ps I1 H0 s' Dn o := by
  cases o with
  | nx ρ' => exact fun σ' I' H' x => h σ' I' H' (x.back b)
  | rt d ρ' => exact fun v σ' I' H' x => h v σ' I' H' (x.back b)
  | er x ρ' => exact fun c dd σ' I' H' x => h c dd σ' I' H' (x.back b)

/-! ### combinators -/
def s_skip : SF := fun ρ s => some (.nx ρ, s)
def s_seq (f g : SF) : SF := fun ρ s => match f ρ s with | some (.nx ρ1, s1) => g ρ1 s1 | r => r
def s_expr (fe : EF) : SF := fun ρ s => bE (fe ρ s) (.er · ρ) fun _ s1 => some (.nx ρ, s1)
def s_ret (fe : EF) : SF := fun ρ s => bE (fe ρ s) (.er · ρ) fun d s1 => some (.rt d ρ, s1)
def s_retN : SF := fun ρ s => some (.rt .non ρ, s)
def s_if (t : TF) (f g : SF) : SF := fun ρ s => bT (t ρ s) (.er · ρ) fun b s1 => if b = true then f ρ s1 else g ρ s1
def s_asg (fe : EF) (g : GF) : SF := fun ρ s => bE (fe ρ s) (.er · ρ) fun d s1 => (g d ρ).map fun ρ' => (.nx ρ', s1)
def s_par (i j : Nat) (fa fb : EF) : SF := fun ρ s => bE (fa ρ s) (.er · ρ) fun x s1 => bE (fb ρ s1) (.er · ρ) fun y s2 => if i < ρ.length ∧ j < ρ.length then some (.nx ((ρ.set i (some (.im x))).set j (some (.im y))), s2) else none
def s_aug (i : Nat) (op : D → D → Option D) (fe : EF) : SF := fun ρ s => match imAt ρ i with
  | none => none
  | some x => bE (fe ρ s) (.er · ρ) fun y s1 => (op x y).map fun z => (.nx (ρ.set i (some (.im z))), s1)
def forGo (g : GF) (f : SF) : List D → Env → Row → Option (Out × Row)
  | [], ρ, s => some (.nx ρ, s)
  | x :: xs, ρ, s => (g x ρ).bind fun ρ1 => match f ρ1 s with
    | some (.nx ρ2, s2) => forGo g f xs ρ2 s2
    | r => r
def s_for (fi : AF) (g : GF) (f : SF) : SF := fun ρ s => bA (fi ρ s) (.er · ρ) fun xs s1 => forGo g f xs ρ s1
def whileGo (t : TF) (f : SF) : Nat → Env → Row → Option (Out × Row)
  | 0, _, _ => none
  | n + 1, ρ, s => bT (t ρ s) (.er · ρ) fun b s1 => if b = true then (match f ρ s1 with
    | some (.nx ρ2, s2) => whileGo t f n ρ2 s2
    | r => r) else some (.nx ρ, s1)
def s_while (n : Nat) (t : TF) (f : SF) : SF := fun ρ s => whileGo t f n ρ s

/-! ### the theorems -/
/-- an evaluation at a statement -/
theorem rs_eval {t : TE} {f : EF} (h : RE G R W t f) {ps : List Addr} {I0 H0 I H : Hp} {σ : L2.St} {ρ : Env} {s s' : Row} (x : SS G R ps I0 H0 I H σ ρ s) {k : D → Row → Option (Out × Row)} {o : Out} {Dn : Ends} {Q : VK}
    (hf : bE (f ρ s) (.er · ρ) k = some (o, s')) (hp : PostS G R W ps I0 H0 s' Dn o)
    (hk : ∀ d s1, k d s1 = some (o, s') → ∀ v I1 H1, Step R I H I1 H1 → SS G R ps I0 H0 I1 H1 σ ρ s1 → Rep G I1 v d → Q v H1) : t σ H Q := by
  refine re_seq h x.bs.ih x.ro x.sl hf (fun y ey => ?_) fun d s1 h1 v I1 H1 st1 ro1 sl1 rv => hk d s1 h1 v I1 H1 st1 (x.step st1 ro1) rv
  subst ey
  exact fun c dd I' H' st ro xr => hp c dd σ I' H' (x.step st ro) xr
theorem rs_test {t : TT} {f : TF} (h : RT G R W t f) {ps : List Addr} {I0 H0 I H : Hp} {σ : L2.St} {ρ : Env} {s s' : Row} (x : SS G R ps I0 H0 I H σ ρ s) {k : Bool → Row → Option (Out × Row)} {o : Out} {Dn : Ends} {Q : Bool → Hp → Prop}
    (hf : bT (f ρ s) (.er · ρ) k = some (o, s')) (hp : PostS G R W ps I0 H0 s' Dn o)
    (hk : ∀ d s1, k d s1 = some (o, s') → ∀ I1 H1, Step R I H I1 H1 → SS G R ps I0 H0 I1 H1 σ ρ s1 → Q d H1) : t σ H Q := by
  refine rt_seq h x.bs.ih x.ro x.sl hf (fun y ey => ?_) fun d s1 h1 I1 H1 st1 ro1 sl1 => hk d s1 h1 I1 H1 st1 (x.step st1 ro1)
  subst ey
  exact fun c dd I' H' st ro xr => hp c dd σ I' H' (x.step st ro) xr
theorem rs_skip : RS G R W tNext s_skip := fun ps I0 H0 I H σ ρ s x Dn o s' hf hp => by
  have hf' : some (Out.nx ρ, s) = some (o, s') := hf
  cases hf'
  exact hp σ I H x
theorem rs_seq {t u : TS} {f g : SF} (h : RS G R W t f) (h' : RS G R W u g) : RS G R W (tSeq t u) (s_seq f g) := fun ps I0 H0 I H σ ρ s x Dn o s' hf hp => by
  have hf' : (match f ρ s with | some (.nx ρ1, s1) => g ρ1 s1 | r => r) = some (o, s') := hf
  split at hf'
  · rename_i ρ1 s1 e1
    refine h ps I0 H0 I H σ ρ s x _ _ _ e1 fun σ1 I1 H1 x1 => ?_
    exact h' ps I0 H0 I1 H1 σ1 ρ1 s1 x1 Dn o s' hf' hp
  · rename_i hne
    refine h ps I0 H0 I H σ ρ s x _ _ _ hf' ?_
    cases o with
    | nx ρ' => exact (hne _ _ hf').elim
    | rt d ρ' => exact hp
    | er y ρ' => exact hp
theorem rs_expr {te : TE} {fe : EF} (he : RE G R W te fe) : RS G R W (tDrop te) (s_expr fe) := fun ps I0 H0 I H σ ρ s x Dn o s' hf hp => by
  refine rs_eval he x hf hp fun d s1 h1 v I1 H1 st1 x1 rv => ?_
  cases h1
  exact hp σ I1 H1 x1
theorem rs_ret {te : TE} {fe : EF} (he : RE G R W te fe) : RS G R W (tRet te) (s_ret fe) := fun ps I0 H0 I H σ ρ s x Dn o s' hf hp => by
  refine rs_eval he x hf hp fun d s1 h1 v I1 H1 st1 x1 rv => ?_
  cases h1
  exact hp v σ I1 H1 x1 rv
theorem rs_retN : RS G R W tRetN s_retN := fun ps I0 H0 I H σ ρ s x Dn o s' hf hp => by
  have hf' : some (Out.rt .non ρ, s) = some (o, s') := hf
  cases hf'
  exact hp .non σ I H x .non
theorem rs_if {t : TT} {tf : TF} {u v : TS} {f g : SF} (ht : RT G R W t tf) (h : RS G R W u f) (h' : RS G R W v g) : RS G R W (tIfS t u v) (s_if tf f g) := fun ps I0 H0 I H σ ρ s x Dn o s' hf hp => by
  refine rs_test ht x hf hp fun b s1 h1 I1 H1 st1 x1 => ?_
  cases b with
  | true => exact iteT (h ps I0 H0 I1 H1 σ ρ s1 x1 Dn o s' h1 hp)
  | false => exact iteF (h' ps I0 H0 I1 H1 σ ρ s1 x1 Dn o s' h1 hp)
/-- what a target leaves of the cells -/
def GOk (gf : GF) (js : List Nat) : Prop := ∀ (d : D) (ρ ρ' : Env), gf d ρ = some ρ' → ∀ (i : Nat) (e : D), ρ'[i]? = some (some (.ce e)) → ρ[i]? = some (some (.ce e)) ∧ i ∉ js
theorem wipe_all {σ σ' : L2.St} {js : List Nat} (h : ∀ vs : List Nat, (∀ j ∈ js, j ∈ vs) → wipe σ' vs = wipe σ vs) {i : Nat} (hi : i ∉ js) : σ'[i]? = σ[i]? := by
  have q := h js fun j hj => hj
  have key : ∀ (τ : L2.St) (us : List Nat), i ∉ us → (wipe τ us)[i]? = τ[i]? := by
    intro τ us
    induction us with
    | nil => intro _; rfl
    | cons u us ih =>
      intro hn
      show ((wipe τ us).set u none)[i]? = τ[i]?
      rw [List.getElem?_set_ne (fun z => hn (by simp [z]))]
      exact ih fun z => hn (by simp [z])
  rw [← key σ' js hi, q, key σ js hi]
theorem rs_asg {te : TE} {fe : EF} {g : TG} {gf : GF} {js : List Nat} (he : RE G R W te fe) (hg : RG G g gf js) (hk : GOk gf js) : RS G R W (tAsg te g) (s_asg fe gf) := fun ps I0 H0 I H σ ρ s x Dn o s' hf hp => by
  refine rs_eval he x hf hp fun d s1 h1 v I1 H1 st1 x1 rv => ?_
  cases q : gf d ρ with
  | none => rw [q] at h1; cases h1
  | some ρ' =>
    rw [q] at h1
    cases h1
    refine hg R I1 H1 σ ρ ρ' v d x1.bs.ih x1.sl rv q _ fun σ' sl' w' => ?_
    refine hp σ' I1 H1 ⟨x1.bs, x1.ro, sl', fun i e p e1 e2 => ?_⟩
    obtain ⟨a1, a2⟩ := hk d ρ ρ' q i e e1
    rw [wipe_all w' a2] at e2
    exact x1.cf i e p a1 e2
theorem gok_name {j : Nat} : GOk (g_name j) [j] := fun d ρ ρ' h i e h1 => by
  unfold g_name at h
  split at h
  · rename_i hl
    cases h
    by_cases hij : j = i
    · subst hij
      rw [List.getElem?_set_self hl] at h1
      cases h1
    · rw [List.getElem?_set_ne hij] at h1
      exact ⟨h1, by simp [Ne.symm hij]⟩
  · cases h
def GOks (gf : GFs) (js : List Nat) : Prop := ∀ (d : List D) (ρ ρ' : Env), gf d ρ = some ρ' → ∀ (i : Nat) (e : D), ρ'[i]? = some (some (.ce e)) → ρ[i]? = some (some (.ce e)) ∧ i ∉ js
theorem goks_nil : GOks gs_nil [] := fun d ρ ρ' h i e h1 => by
  cases d with
  | nil => cases h; exact ⟨h1, by simp⟩
  | cons _ _ => cases h
theorem goks_cons {gf : GF} {gfs : GFs} {js ks : List Nat} (h : GOk gf js) (h' : GOks gfs ks) : GOks (gs_cons gf gfs) (js ++ ks) := fun d ρ ρ' hf i e h1 => by
  obtain ⟨d, r, ρ1, rfl, a1, a2⟩ := gs_cons_cases hf
  obtain ⟨b1, b2⟩ := h' r ρ1 ρ' a2 i e h1
  obtain ⟨c1, c2⟩ := h d ρ ρ1 a1 i e b1
  exact ⟨c1, by simp [b2, c2]⟩
theorem gok_tup {gfs : GFs} {js : List Nat} (h : GOks gfs js) : GOk (g_tup gfs) js := fun d ρ ρ' hf => by
  cases d with
  | tup ds => exact h ds ρ ρ' hf
  | _ => cases hf
theorem SS.set {ps : List Addr} {I0 H0 I H : Hp} {σ : L2.St} {ρ : Env} {s : Row} {j : Nat} {v : V} {d : D} (x : SS G R ps I0 H0 I H σ ρ s) (r : Rep G I v d) : SS G R ps I0 H0 I H (σ.set j (some v)) (ρ.set j (some (.im d))) s :=
  ⟨x.bs, x.ro, x.sl.set r, fun i e p e1 e2 => by
    by_cases hij : j = i
    · subst hij
      have hl : j < ρ.length := by
        have := (List.getElem?_eq_some_iff.mp e1).1
        simpa using this
      rw [List.getElem?_set_self hl] at e1
      cases e1
    · rw [List.getElem?_set_ne hij] at e1 e2
      exact x.cf i e p e1 e2⟩
theorem rs_par {i j : Nat} {ta tb : TE} {fa fb : EF} (ha : RE G R W ta fa) (hb : RE G R W tb fb) : RS G R W (tPar i j (tCons ta (tCons tb tNil))) (s_par i j fa fb) := fun ps I0 H0 I H σ ρ s x Dn o s' hf hp => by
  refine rs_eval ha x hf hp fun d s1 h1 v I1 H1 st1 x1 rv => ?_
  refine rs_eval hb x1 h1 hp fun d2 s2 h2 u I2 H2 st2 x2 ru => ?_
  split at h2
  · cases h2
    exact ⟨v, u, rfl, hp _ I2 H2 ((x2.set (rv.mono st2.ii)).set ru)⟩
  · cases h2
theorem rs_aug {i : Nat} {te : TE} {fe : EF} {r : R2} {op : D → D → Option D} (ho : OpS G r op) (he : RE G R W te fe) : RS G R W (tAug i te r) (s_aug i op fe) := fun ps I0 H0 I H σ ρ s x Dn o s' hf hp => by
  unfold s_aug at hf
  split at hf
  · cases hf
  · rename_i a ea
    obtain ⟨v, h1, h2⟩ := x.sl.at_ i _ (imAt_cases ea)
    refine ⟨v, h1, rs_eval he x hf hp fun d s1 h3 u I1 H1 st1 x1 ru => ?_⟩
    cases q : op a d with
    | none => rw [q] at h3; cases h3
    | some z =>
      rw [q] at h3
      cases h3
      refine ho I1 H1 v u a d z x1.bs.ih (Rep.mono st1.ii h2) ru q _ fun w I2 H2 st2 rw2 => ?_
      exact hp _ I2 H2 ((x1.step st2.row (x1.ro.step0 st2)).set rw2)
theorem forGo_cons {g : GF} {f : SF} {x : D} {xs : List D} {ρ : Env} {s s' : Row} {o : Out} (h : forGo g f (x :: xs) ρ s = some (o, s')) :
    ∃ ρ1, g x ρ = some ρ1 ∧ ((∃ ρ2 s2, f ρ1 s = some (.nx ρ2, s2) ∧ forGo g f xs ρ2 s2 = some (o, s')) ∨ ((∀ ρ2, o ≠ .nx ρ2) ∧ f ρ1 s = some (o, s'))) := by
  rw [forGo] at h
  cases q : g x ρ with
  | none => rw [q] at h; cases h
  | some ρ1 =>
    rw [q] at h
    refine ⟨ρ1, rfl, ?_⟩
    rw [Option.bind_some] at h
    split at h
    · rename_i ρ2 s2 e
      exact .inl ⟨ρ2, s2, e, h⟩
    · rename_i hne
      exact .inr ⟨fun ρ2 z => by subst z; exact hne _ _ h, h⟩
theorem rs_for {wi : TI} {fi : AF} {g : TG} {gf : GF} {js : List Nat} {tb : TS} {f : SF} (hi : RI G R W wi fi) (hg : RG G g gf js) (hk : GOk gf js) (hb : RS G R W tb f) : RS G R W (tFor wi g tb) (s_for fi gf f) := fun ps I0 H0 I H σ ρ s x Dn o s' hf hp => by
  rcases bA_cases hf with ⟨y, e1, e2⟩ | ⟨xs, s1, e1, e2⟩
  · subst e2
    exact hi I H σ ρ s x.bs.ih x.ro x.sl _ _ _ e1 fun c dd I' H' st ro xr => hp c dd σ I' H' (x.step st ro) xr
  · refine hi I H σ ρ s x.bs.ih x.ro x.sl _ _ _ e1 fun J I1 H1 st1 ro1 it hz => ?_
    have x1 := x.step st1 ro1
    refine ⟨fun i m σ' H' => m = xs.length - i ∧ i ≤ xs.length ∧ ∃ I' ρ' s2, SS G R ps I1 H0 I' H' σ' ρ' s2 ∧ forGo gf f (xs.drop i) ρ' s2 = some (o, s'), ⟨_, rfl, Nat.zero_le _, I1, ρ, s1, x1.rebase, e2⟩, ?_⟩
    rintro i m σ' H' ⟨hm, hi', I', ρ', s2, x2, hgo⟩
    have itk := it i I' H' x2.bs.ii x2.bs.ih
    by_cases hlt : i < xs.length
    · right
      obtain ⟨hgo3, hy⟩ := itk.1 _ (List.getElem?_eq_getElem hlt)
      refine ⟨hgo3, fun σ3 H3 => ∃ m', m' < m ∧ m' = xs.length - (i + 1) ∧ i + 1 ≤ xs.length ∧ ∃ I' ρ' s2, SS G R ps I1 H0 I' H3 σ3 ρ' s2 ∧ forGo gf f (xs.drop (i + 1)) ρ' s2 = some (o, s'), fun σ3 H3 ⟨m', a1, a2, a3, a4⟩ => ⟨m', a1, a2, a3, a4⟩, fun v H3 hy2 => ?_⟩
      obtain ⟨I3, st3, rv⟩ := hy v H3 hy2
      rw [List.drop_eq_getElem_cons hlt] at hgo
      obtain ⟨ρ1, hg1, h1⟩ := forGo_cons hgo
      have x3 := x2.step st3.row (x2.ro.step0 st3)
      refine hg R I3 H3 σ' ρ' ρ1 v _ x3.bs.ih x3.sl rv hg1 _ fun σ4 sl4 w4 => ?_
      have x4 : SS G R ps I1 H0 I3 H3 σ4 ρ1 s2 := ⟨x3.bs, x3.ro, sl4, fun k e p e1 e2 => by
        obtain ⟨a1, a2⟩ := hk _ ρ' ρ1 hg1 k e e1
        rw [wipe_all w4 a2] at e2
        exact x3.cf k e p a1 e2⟩
      rcases h1 with ⟨ρ2, s3, e3, e4⟩ | ⟨hne, e3⟩
      · refine hb ps I1 H0 I3 H3 σ4 ρ1 s2 x4 _ _ _ e3 fun σ5 I5 H5 x5 => ?_
        exact ⟨xs.length - (i + 1), by omega, rfl, by omega, I5, ρ2, s3, x5, e4⟩
      · refine hb ps I1 H0 I3 H3 σ4 ρ1 s2 x4 _ _ _ e3 ?_
        have hp' := hp.back x1.bs
        cases o with
        | nx ρ2 => exact (hne ρ2 rfl).elim
        | rt d ρ2 => exact hp'
        | er y ρ2 => exact hp'
    · left
      have hie : i = xs.length := by omega
      refine ⟨itk.2 (by omega), ?_⟩
      rw [hie, List.drop_length] at hgo
      cases hgo
      exact hp σ' I' H' (x2.back x1.bs)
theorem whileGo_succ {t : TF} {f : SF} {n : Nat} {ρ : Env} {s : Row} : whileGo t f (n + 1) ρ s = bT (t ρ s) (.er · ρ) fun b s1 => if b = true then (match f ρ s1 with | some (.nx ρ2, s2) => whileGo t f n ρ2 s2 | r => r) else some (.nx ρ, s1) := rfl
theorem rs_while {n : Nat} {t : TT} {tf : TF} {tb : TS} {f : SF} (ht : RT G R W t tf) (hb : RS G R W tb f) : RS G R W (tWhile t tb) (s_while n tf f) := fun ps I0 H0 I H σ ρ s x Dn o s' hf hp => by
  refine ⟨fun m σ' H' => ∃ I' ρ' s2, SS G R ps I0 H0 I' H' σ' ρ' s2 ∧ whileGo tf f m ρ' s2 = some (o, s'), ⟨n, I, ρ, s, x, hf⟩, ?_⟩
  rintro m σ' H' ⟨I', ρ', s2, x2, hgo⟩
  cases m with
  | zero => cases hgo
  | succ m =>
    rw [whileGo_succ] at hgo
    refine rs_test ht x2 hgo hp fun b s3 h3 I3 H3 st3 x3 => ?_
    cases b with
    | false =>
      refine iteF ?_
      have h3' : some (Out.nx ρ', s3) = some (o, s') := h3
      cases h3'
      exact hp σ' I3 H3 x3
    | true =>
      refine iteT ⟨fun σ4 H4 => ∃ m', m' < m + 1 ∧ ∃ I' ρ' s2, SS G R ps I0 H0 I' H4 σ4 ρ' s2 ∧ whileGo tf f m' ρ' s2 = some (o, s'), fun σ4 H4 ⟨m', a, b⟩ => ⟨m', a, b⟩, ?_⟩
      have h3' : (match f ρ' s3 with | some (.nx ρ2, s2) => whileGo tf f m ρ2 s2 | r => r) = some (o, s') := h3
      split at h3'
      · rename_i ρ2 s4 e4
        exact hb ps I0 H0 I3 H3 σ' ρ' s3 x3 _ _ _ e4 fun σ5 I5 H5 x5 => ⟨m, Nat.lt_succ_self m, I5, ρ2, s4, x5, h3'⟩
      · rename_i hne
        refine hb ps I0 H0 I3 H3 σ' ρ' s3 x3 _ _ _ h3' ?_
        cases o with
        | nx ρ2 => exact (hne _ _ h3').elim
        | rt d ρ2 => exact hp
        | er y ρ2 => exact hp
end
end PL
set_option Elab.async false
set_option linter.all false
set_option maxRecDepth 100000
set_option maxHeartbeats 4000000
/-! The rules for statements; defs and their calls. -/
namespace PL
open PySem PySem.Spec PyProof.Rows L2
open Evl (Ex)
section
variable {ι : Type}
def PDS (X : ι → Cx) (G : Gt) (R : Option Addr) (W : WX) (st : Stmt) (F : SF) : Prop := ∃ t, (∀ i, PS (X i) st t) ∧ RS G R W t F
def PDB (X : ι → Cx) (G : Gt) (R : Option Addr) (W : WX) (sts : List Stmt) (F : SF) : Prop := ∃ t, (∀ i, PSs (X i) sts t) ∧ RS G R W t F
/-- the written facts of a family of bodies -/
structure Fb (X : ι → Cx) (G : Gt) (P : Program) (w : World) (mg : Str → Option Value) (base : Heap) (k : Nat) (N : List Str) (W : WX) (sc : Scope) : Prop where
  fo : Fo X G P w mg base k N W
  calm : ∀ i, (X i).calm = true
  po : ∀ i, PassesOwn (model (X i).prog (X i).w) (X i).A (X i).env (X i).xe
  fn : ∀ i x, (X i).fn x = true
  stk : ∀ i, (X i).stack = (X i).env :: (X i).outer
  frm : ∀ i, (X i).env.frame = some (X i).env.locals
  sc : ∀ i, (X i).env.scope = sc
variable {X : ι → Cx} {G : Gt} {R : Option Addr} {W : WX} {P : Program} {w : World} {mg : Str → Option Value} {base : Heap} {k : Nat} {N : List Str} {sc : Scope}
variable {a b c e tg iter : Expr} {fa fb fc fe : EF} {fl fi : AF} {tf : TF} {gf : GF} {gfs : GFs} {js ks : List Nat} {pos p : Pos} {n : Nat} {st : Stmt} {rest body orelse : List Stmt} {F F' : SF}
theorem pdb_nil : PDB X G R W [] s_skip := ⟨_, fun _ => pss_nil, rs_skip⟩
theorem pdb_cons (h : PDS X G R W st F) (h' : PDB X G R W rest F') : PDB X G R W (st :: rest) (s_seq F F') := let ⟨_, p, r⟩ := h; let ⟨_, p', r'⟩ := h'; ⟨_, fun i => pss_cons (p i) (p' i), rs_seq r r'⟩
theorem pdb_one (h : PDS X G R W st F) : PDB X G R W [st] F := let ⟨_, p, r⟩ := h; ⟨_, fun i => pss_one (p i), r⟩
theorem pds_pass : PDS X G R W (.Pass pos) s_skip := ⟨_, fun _ => ps_pass, rs_skip⟩
theorem pds_doc {x : Str} {j : Nat} {pos' : Pos} : PDS X G R W (.Expr (.Constant (.str x) j pos) pos') s_skip := ⟨_, fun _ => ps_doc, rs_skip⟩
theorem pds_expr (h : PDE X G R W e fe) (hs : ∀ i, swapsWith e none pos.line (X i).env = pure false) : PDS X G R W (.Expr e pos) (s_expr fe) := let ⟨_, p, r⟩ := h; ⟨_, fun i => ps_expr (p i) (hs i), rs_expr r⟩
theorem pds_ret (h : PDE X G R W e fe) : PDS X G R W (.Return (some e) pos) (s_ret fe) := let ⟨_, p, r⟩ := h; ⟨_, fun i => ps_ret (p i), rs_ret r⟩
theorem pds_retN : PDS X G R W (.Return none pos) s_retN := ⟨_, fun _ => ps_retN, rs_retN⟩
theorem pds_if (hc : PDT X G R W c tf) (h : PDB X G R W body F) (h' : PDB X G R W orelse F') : PDS X G R W (.If c body orelse pos) (s_if tf F F') := let ⟨_, p, r⟩ := hc; let ⟨_, p1, r1⟩ := h; let ⟨_, p2, r2⟩ := h'; ⟨_, fun i => ps_if (p i) (p1 i) (p2 i), rs_if r r1 r2⟩
theorem pds_set (fb : Fb X G P w mg base k N W sc) (j : Nat) {x : Str} {pos' : Pos} (hN : N[j]? = some x) (hx : Loc sc x) (h : PDE X G R W e fe) (hs : ∀ i, swapsWith e (some (.Name x pos')) pos.line (X i).env = pure false) : PDS X G R W (.Assign [.Name x pos'] e pos) (s_asg fe (g_name j)) :=
  let ⟨_, p, r⟩ := h; ⟨_, fun i => ps_set (by rw [fb.fo.hN i]; exact fb.fo.nd) (by rw [fb.fo.hN i]; exact hN) (by rw [fb.sc i]; exact hx) (p i) (hs i) (.inl (fb.fn i x)), rs_asg r rg_name gok_name⟩
/-- name = [.. for ..] on one line, the name a local -/
theorem pds_setLc (fb : Fb X G P w mg base k N W sc) (j : Nat) {x : Str} {py spos : Pos} {elt : Expr} {ifs : List Expr} {scope : Scope} {own : List (Str × Nat)} {fe : EF} (hN : N[j]? = some x) (hx : sc.names.lookup x = some .local) (hsw : ∀ i, swapsWith (.ListComp elt [⟨tg, iter, ifs, 0⟩] scope pos) (some (.Name x py)) spos.line (X i).env = pure true)
    (ok : BlkOk N sc scope own) (h : PDL X G R W elt tg iter ifs scope (own.map (·.2)) fe) (hs : ∀ i x, foldedSetIterable iter (X i).env x = pure x) : PDS X G R W (.Assign [.Name x py] (.ListComp elt [⟨tg, iter, ifs, 0⟩] scope pos) spos) (s_asg fe (g_name j)) :=
  let ⟨wi, g, tt, te, p1, p2, p3, p4, r⟩ := h
  ⟨_, fun i => ps_setLc (fb.calm i) (by rw [fb.fo.hN i]; exact fb.fo.nd) (by rw [fb.fo.hN i]; exact hN) (by rw [fb.sc i]; exact hx) (hsw i) (p1 i) (by rw [fb.fo.hN i, fb.sc i]; exact ok) (p2 i) (p3 i) (p4 i) (hs i), rs_asg r rg_name gok_name⟩
theorem pds_asg (h : PDE X G R W e fe) (hg : PDG X G tg gf js) (hk : GOk gf js) (hs : ∀ i, swapsWithSole [tg] e pos.line (X i).env = pure false) (hw : ∀ i, swappedStores [tg] e (X i).env = pure none) (h1 : ∀ i, (assignEach [tg] (X i).env).map (·.2) = [assign tg (X i).env]) : PDS X G R W (.Assign [tg] e pos) (s_asg fe gf) :=
  let ⟨_, p, r⟩ := h; let ⟨_, p', r'⟩ := hg; ⟨_, fun i => ps_asg (p i) (p' i) (hs i) (hw i) (h1 i), rs_asg r r' hk⟩
theorem pds_par (fb : Fb X G P w mg base k N W sc) (i j : Nat) {x y : Str} {px py pt pt2 : Pos} {kt k2 : Nat} (hi : N[i]? = some x) (hj : N[j]? = some y) (hij : i ≠ j) (hx : sc.names.lookup x = some .local) (hy : sc.names.lookup y = some .local) (ha : PDE X G R W a fa) (hb : PDE X G R W b fc)
    (hs1 : ∀ i, starEach [a, b] (X i).env = (false, eval a (X i).env) :: starEach [b] (X i).env) (hs2 : ∀ i, starEach [b] (X i).env = (false, eval b (X i).env) :: starEach [] (X i).env)
    (hw : ∀ i, swappedStores [.Tuple [.Name x px, .Name y py] kt pt] (.Tuple [a, b] k2 pt2) (X i).env = pure (some [x, y])) (hs : ∀ i, swapsWithSole [.Tuple [.Name x px, .Name y py] kt pt] (.Tuple [a, b] k2 pt2) pos.line (X i).env = pure false) :
    PDS X G R W (.Assign [.Tuple [.Name x px, .Name y py] kt pt] (.Tuple [a, b] k2 pt2) pos) (s_par i j fa fc) :=
  let ⟨_, p, r⟩ := ha; let ⟨_, p', r'⟩ := hb
  ⟨_, fun z => ps_par (fb.calm z) (by rw [fb.fo.hN z]; exact fb.fo.nd) (by rw [fb.fo.hN z]; exact hi) (by rw [fb.fo.hN z]; exact hj) hij (by rw [fb.sc z]; exact hx) (by rw [fb.sc z]; exact hy) (pa_cons (p z) (pa_cons (p' z) pa_nil (hs2 z)) (hs1 z)) (hw z) (hs z), rs_par r r'⟩
def addI : D → D → Option D
  | .int i, .int j => some (.int (i + j))
  | _, _ => none
theorem ops_addI {G : Gt} : OpS G (ipI fun i j => i + j) addI := ops_I0 (fun _ _ => rfl) fun a b d h => by
  cases a <;> cases b <;> first | exact ⟨_, _, rfl, rfl⟩ | cases h
theorem pds_aug (fb : Fb X G P w mg base k N W sc) (j : Nat) {x : Str} {pos' : Pos} (hN : N[j]? = some x) (hx : Loc sc x) (h : PDE X G R W e fe) : PDS X G R W (.AugAssign (.Name x pos') .Add e pos) (s_aug j addI fe) :=
  let ⟨_, p, r⟩ := h
  ⟨tAug j _ (ipI fun i j => i + j), fun i => ps_aug (by rw [fb.fo.hN i]; exact fb.fo.nd) (by rw [fb.fo.hN i]; exact hN) (by rw [fb.sc i]; exact hx) (p i) ip_add (.inl (fb.fn i x)), rs_aug ops_addI r⟩
theorem pds_for (fb : Fb X G P w mg base k N W sc) (hi : PDI X G R W tg iter fi) (hg : PDG X G tg gf js) (hk : GOk gf js) (hb : PDB X G R W body F) (hs : ∀ i x, foldedSetIterable iter (X i).env x = pure x) : PDS X G R W (.For tg iter body [] pos) (s_for fi gf F) :=
  let ⟨_, p, r⟩ := hi; let ⟨_, p', r'⟩ := hg; let ⟨_, p2, r2⟩ := hb; ⟨_, fun i => ps_for (fb.po i) (fb.calm i) (p i) (p' i) (p2 i) (hs i), rs_for r r' hk r2⟩
theorem pds_while (n : Nat) (fb : Fb X G P w mg base k N W sc) (hc : PDT X G R W c tf) (hb : PDB X G R W body F) : PDS X G R W (.While c body [] pos) (s_while n tf F) :=
  let ⟨_, p, r⟩ := hc; let ⟨_, p2, r2⟩ := hb; ⟨_, fun i => ps_while (fb.po i) (p i) (p2 i), rs_while r r2⟩
end

/-! ### defs -/
def row0 : Row := ⟨0, [], 0, 0, 0⟩
def env0 (n : Nat) (ds : List D) : Env := ds.map (fun d => some (.im d)) ++ List.replicate (n - ds.length) none
def env0R (n : Nat) (ds : List D) : Env := some .row :: (ds.map (fun d => some (.im d)) ++ List.replicate (n - (ds.length + 1)) none)
def outR (o : Option (Out × Row)) : Option (Res × Row) := match o with
  | some (.rt d _, s) => some (.ok d, s)
  | some (.nx _, s) => some (.ok .non, s)
  | some (.er x _, s) => some (.er x, s)
  | none => none
/-- a def of n parameters, m names, its body F -/
def fnD (m n : Nat) (F : SF) : List D → Option Res := fun ds => if ds.length = n then (outR (F (env0 m ds) row0)).map (·.1) else none
def fnR (m n : Nat) (F : SF) : List D → Row → Option (Res × Row) := fun ds s => if ds.length + 1 = n then outR (F (env0R m ds) s) else none
def sp0 (G : Gt) (n : Nat) (F : List D → Option Res) : Sp := fun vs H Q E => vs.length = n ∧ ∃ I ds r, Ex I H ∧ Reps G I vs ds ∧ F ds = some r ∧
  (match r with
  | .ok d => ∀ v I' H', Step none I H I' H' → Rep G I' v d → Q v H'
  | .er x => ∀ c dd I' H', Step none I H I' H' → XRep G I' H' x c dd → E c dd H')
def spR (G : Gt) (n : Nat) (F : List D → Row → Option (Res × Row)) : Sp := fun vs H Q E => vs.length = n ∧ ∃ a vs' I ds s r s', vs = .ref a :: vs' ∧ Ex I H ∧ RowOk G (some a) s I H ∧ Reps G I vs' ds ∧ F ds s = some (r, s') ∧
  (match r with
  | .ok d => ∀ v I' H', Step (some a) I H I' H' → RowOk G (some a) s' I' H' → Rep G I' v d → Q v H'
  | .er x => ∀ c dd I' H', Step (some a) I H I' H' → RowOk G (some a) s' I' H' → XRep G I' H' x c dd → E c dd H')
theorem slots_start {G : Gt} {R : Option Addr} {I H : Hp} {N : List Str} {vs : List V} {ds : List D} (r : Reps G I vs ds) : Slots G R I H (L2.start N vs) (env0 N.length ds) := by
  have key : ∀ (i : Nat) (s : Sl), (env0 N.length ds)[i]? = some (some s) → ∃ d, ds[i]? = some d ∧ s = .im d := fun i s e => by
    unfold env0 at e
    by_cases hi : i < ds.length
    · rw [List.getElem?_append_left (by simpa using hi), List.getElem?_map] at e
      rw [List.getElem?_eq_getElem hi] at e ⊢
      cases e; exact ⟨_, rfl, rfl⟩
    · rw [List.getElem?_append_right (by simpa using hi)] at e
      rw [List.getElem?_replicate] at e
      split at e <;> cases e
  refine ⟨?_, fun i s e => ?_, fun i j p d e e1 => ?_⟩
  · unfold env0 L2.start
    simp [r.length]
  · obtain ⟨d, e1, rfl⟩ := key i s e
    obtain ⟨v, e2, rv⟩ := r.get e1
    have hi : i < vs.length := (List.getElem?_eq_some_iff.mp e2).1
    refine ⟨v, ?_, rv⟩
    unfold L2.start
    rw [List.getElem?_append_left (by simpa using hi), List.getElem?_map, e2]
    rfl
  · obtain ⟨d', _, h⟩ := key i _ e1
    cases h
theorem slots_startR {G : Gt} {a : Addr} {I H : Hp} {N : List Str} {vs : List V} {ds : List D} (r : Reps G I vs ds) : Slots G (some a) I H (L2.start N (.ref a :: vs)) (env0R N.length ds) := by
  have key : ∀ (i : Nat) (s : Sl), (env0R N.length ds)[i]? = some (some s) → (i = 0 ∧ s = .row) ∨ ∃ j d, i = j + 1 ∧ ds[j]? = some d ∧ s = .im d := fun i s e => by
    unfold env0R at e
    cases i with
    | zero => simp at e; exact .inl ⟨rfl, e.symm⟩
    | succ i =>
      rw [List.getElem?_cons_succ] at e
      right
      by_cases hi : i < ds.length
      · rw [List.getElem?_append_left (by simpa using hi), List.getElem?_map] at e
        rw [List.getElem?_eq_getElem hi] at e
        cases e; exact ⟨i, _, rfl, List.getElem?_eq_getElem hi, rfl⟩
      · rw [List.getElem?_append_right (by simpa using hi)] at e
        rw [List.getElem?_replicate] at e
        split at e <;> cases e
  refine ⟨?_, fun i s e => ?_, fun i j p d e e1 => ?_⟩
  · unfold env0R L2.start
    simp [r.length]
  · rcases key i s e with ⟨rfl, rfl⟩ | ⟨j, d, rfl, e1, rfl⟩
    · exact ⟨.ref a, by unfold L2.start; simp, a, rfl, rfl⟩
    · obtain ⟨v, e2, rv⟩ := r.get e1
      have hi : j < vs.length := (List.getElem?_eq_some_iff.mp e2).1
      refine ⟨v, ?_, rv⟩
      unfold L2.start
      rw [List.getElem?_append_left (by simpa using hi), List.getElem?_map, List.getElem?_cons_succ, e2]
      rfl
  · rcases key i _ e1 with ⟨_, h⟩ | ⟨_, _, _, _, h⟩ <;> cases h
section
variable {P : Program} {w : World} {G : Gt} {mg : Str → Option Value} {base : Heap} {k : Nat}
abbrev bodyX (P : Program) (w : World) (G : Gt) (mg : Str → Option Value) (base : Heap) (N : List Str) (qual : Str) (st : Stmt) (f : Addr) (cdv : Value) (A : Around) (outer : List PySem.Env) (s : Shared) (H : Hp) (E : XK) : Unit → Cx :=
  fun _ => cxOf (L2.CX P w) P w G.K mg base N qual (defScope st) f cdv A outer s H E
abbrev WD (E : XK) : WX := fun c d _ H' => E c d H'
theorem fb_body {N ps : List Str} {qual : Str} {st : Stmt} {f : Addr} {cdv : Value} {A : Around} {outer : List PySem.Env} {s : Shared} {H : Hp} {E : XK} (S : FnScope N ps (defScope st)) (hr : Room k (A.deeper (envOfC qual (defScope st) s.heap.objs.size f cdv))) (gw : G.w = w) :
    Fb (bodyX P w G mg base N qual st f cdv A outer s H E) G P w mg base k N (WD E) (defScope st) where
  fo := ⟨fun _ => rfl, fun _ => rfl, fun _ => rfl, gw, fun _ => rfl, fun _ => rfl, fun _ => rfl, S.nd, fun _ => hr, fun _ => takes_of rfl rfl rfl rfl⟩
  calm := fun _ => rfl
  po := fun _ => passes_of rfl
  fn := fun _ _ => rfl
  stk := fun _ => rfl
  frm := fun _ => rfl
  sc := fun _ => rfl
/-- a def without the row -/
theorem fn0 {x qual : Str} {st : Stmt} {f : Addr} {fd : FuncData} {N ps : List Str} {F : SF} (Fn : Fun G.K x qual st f fd) (S : FnScope N ps (defScope st))
    (hb : ∀ (cdv : Value) (A : Around) (outer : List PySem.Env) (s : Shared) (H : Hp) (E : XK), Fb (bodyX P w G mg base N qual st f cdv A outer s H E) G P w mg base k N (WD E) (defScope st) → PDB (bodyX P w G mg base N qual st f cdv A outer s H E) G none (WD E) (defBody st) F) (gw : G.w = w := by rfl) :
    FnOk P w G.K mg base (L2.CX P w) (k + 1) f fd ps (sp0 G ps.length (fnD N.length ps.length F)) := by
  refine Fn.okX S (fun vs H Q E h => h.1) fun cdv A outer s H vs Q E hr h => ?_
  obtain ⟨hl, I, ds, r, e, rs, hF, hp⟩ := h
  obtain ⟨t, pt, rt⟩ := hb cdv A outer s H E (fb_body S hr gw)
  refine ⟨t, pt (), ?_⟩
  unfold fnD at hF
  split at hF
  · cases q : F (env0 N.length ds) row0 with
    | none => rw [q] at hF; cases hF
    | some o =>
      obtain ⟨o, s'⟩ := o
      rw [q] at hF
      have ss : SS G none [] I H I H (L2.start N vs) (env0 N.length ds) row0 := ⟨⟨Ex.refl _, e, fun _ _ h _ _ => h, fun _ h => h, fun _ h => .inl h⟩, trivial, slots_start rs, fun i d p e1 _ => by
        have := (slots_start (N := N) (R := none) (H := H) rs).at_ i _ e1
        obtain ⟨v, h1, h2⟩ := this
        obtain ⟨p', _, h3, _⟩ := h2
        unfold env0 at e1
        by_cases hi : i < ds.length
        · rw [List.getElem?_append_left (by simpa using hi), List.getElem?_map, List.getElem?_eq_getElem hi] at e1
          cases e1
        · rw [List.getElem?_append_right (by simpa using hi), List.getElem?_replicate] at e1
          split at e1 <;> cases e1⟩
      have stp : ∀ {I' H' : Hp} {σ' : L2.St} {ρ' : Env}, SS G none [] I H I' H' σ' ρ' s' → Step none I H I' H' := fun x => ⟨x.bs.ii, x.bs.ih, fun a o h n => x.bs.fr a o h n (by simp), x.bs.tr, fun a h => (x.bs.nw a h).imp id fun z => z.resolve_right (by simp)⟩
      refine rt [] I H I H (L2.start N vs) (env0 N.length ds) row0 ss _ o s' q ?_
      cases o with
      | nx ρ' => cases hF; exact fun σ' I' H' x => hp .non I' H' (stp x) .non
      | rt d ρ' => cases hF; exact fun v σ' I' H' x rv => hp v I' H' (stp x) rv
      | er y ρ' => cases hF; exact fun c dd σ' I' H' x xr => hp c dd I' H' (stp x) xr
  · cases hF
/-- a def whose first argument is the row -/
theorem fnRow {x qual : Str} {st : Stmt} {f : Addr} {fd : FuncData} {N ps : List Str} {F : SF} (Fn : Fun G.K x qual st f fd) (S : FnScope N ps (defScope st))
    (hb : ∀ (a : Addr) (cdv : Value) (A : Around) (outer : List PySem.Env) (s : Shared) (H : Hp) (E : XK), Fb (bodyX P w G mg base N qual st f cdv A outer s H E) G P w mg base k N (WD E) (defScope st) → PDB (bodyX P w G mg base N qual st f cdv A outer s H E) G (some a) (WD E) (defBody st) F) (gw : G.w = w := by rfl) :
    FnOk P w G.K mg base (L2.CX P w) (k + 1) f fd ps (spR G ps.length (fnR N.length ps.length F)) := by
  refine Fn.okX S (fun vs H Q E h => h.1) fun cdv A outer s H vs Q E hr h => ?_
  obtain ⟨hl, a, vs', I, ds, s0, r, s', rfl, e, ro, rs, hF, hp⟩ := h
  obtain ⟨t, pt, rt⟩ := hb a cdv A outer s H E (fb_body S hr gw)
  refine ⟨t, pt (), ?_⟩
  unfold fnR at hF
  split at hF
  · cases q : F (env0R N.length ds) s0 with
    | none => rw [q] at hF; cases hF
    | some o =>
      obtain ⟨o, s''⟩ := o
      rw [q] at hF
      have ss : SS G (some a) [] I H I H (L2.start N (.ref a :: vs')) (env0R N.length ds) s0 := ⟨⟨Ex.refl _, e, fun _ _ h _ _ => h, fun _ h => h, fun _ h => .inl h⟩, ro, slots_startR rs, fun i d p e1 _ => by
        unfold env0R at e1
        cases i with
        | zero => simp at e1
        | succ i =>
          rw [List.getElem?_cons_succ] at e1
          by_cases hi : i < ds.length
          · rw [List.getElem?_append_left (by simpa using hi), List.getElem?_map, List.getElem?_eq_getElem hi] at e1
            cases e1
          · rw [List.getElem?_append_right (by simpa using hi), List.getElem?_replicate] at e1
            split at e1 <;> cases e1⟩
      have stp : ∀ {I' H' : Hp} {σ' : L2.St} {ρ' : Env}, SS G (some a) [] I H I' H' σ' ρ' s'' → Step (some a) I H I' H' := fun x => ⟨x.bs.ii, x.bs.ih, fun a o h n => x.bs.fr a o h n (by simp), x.bs.tr, fun a h => (x.bs.nw a h).imp id fun z => z.resolve_right (by simp)⟩
      refine rt [] I H I H (L2.start N (.ref a :: vs')) (env0R N.length ds) s0 ss _ o s'' q ?_
      cases o with
      | nx ρ' => cases hF; exact fun σ' I' H' x => hp .non I' H' (stp x) x.ro .non
      | rt d ρ' => cases hF; exact fun v σ' I' H' x rv => hp v I' H' (stp x) x.ro rv
      | er y ρ' => cases hF; exact fun c dd σ' I' H' x xr => hp c dd I' H' (stp x) x.ro xr
  · cases hF
end

/-! ### calls of defs -/
def e_call (F : List D → Option Res) (fa : AF) : EF := fun ρ s => bA (fa ρ s) .er fun ds s1 => match F ds with | some r => some (r, s1) | none => none
def e_call0 (F : List D → Option Res) : EF := fun _ s => match F [] with | some (.ok d) => some (.ok d, s) | _ => none
def e_callR (i : Nat) (F : List D → Row → Option (Res × Row)) (fa : AF) : EF := fun ρ s => match ρ[i]? with
  | some (some .row) => bA (fa ρ s) .er fun ds s1 => F ds s1
  | _ => none
section
variable {G : Gt} {R : Option Addr} {W : WX}
theorem re_call {n : Nat} {F : List D → Option Res} {ta : TA} {fa : AF} (hn : ∀ ds r, F ds = some r → ds.length = n) (ha : RA G R W ta fa) : RE G R W (tCallS (sp0 G n F) (WE W) ta) (e_call F fa) := fun I H σ ρ s e ro sl Q res s' hf hp => by
  refine ra_seq ha e ro sl hf (fun x ex => by subst ex; exact hp) fun ds s1 h1 vs I1 H1 st1 ro1 sl1 rv => ?_
  split at h1
  · rename_i r hr
    cases h1
    refine ⟨by rw [rv.length]; exact hn _ _ hr, I1, ds, res, st1.ih, rv, hr, ?_⟩
    cases res with
    | ok d => exact fun v I' H' st rw_ => hp v I' H' (st1.trans st.row) (ro1.step0 st) rw_
    | er x => exact fun c dd I' H' st xr => hp c dd I' H' (st1.trans st.row) (ro1.step0 st) xr
  · cases h1
theorem re_call0 {F : List D → Option Res} : RE G R W (tCall (sp0 G 0 F) [] E0 tNil) (e_call0 F) := fun I H σ ρ s e ro sl Q res s' hf hp => by
  unfold e_call0 at hf
  split at hf
  · rename_i d hr
    cases hf
    exact ⟨rfl, I, [], .ok d, e, .nil, hr, fun v I' H' st rw_ => hp v I' H' st.row (ro.step0 st) rw_⟩
  · cases hf
theorem re_callR {i n : Nat} {F : List D → Row → Option (Res × Row)} {ta : TA} {fa : AF} (hn : ∀ ds s r, F ds s = some r → ds.length + 1 = n) (ha : RA G R W ta fa) : RE G R W (tCallS (spR G n F) (WE W) (tCons (tVar i) ta)) (e_callR i F fa) := fun I H σ ρ s e ro sl Q res s' hf hp => by
  unfold e_callR at hf
  split at hf
  · rename_i hi
    obtain ⟨v, hv, a, rfl, rfl⟩ := sl.at_ i _ hi
    refine ⟨.ref a, hv, ra_seq ha e ro sl hf (fun x ex => by subst ex; exact hp) fun ds s1 h1 vs I1 H1 st1 ro1 sl1 rv => ?_⟩
    refine ⟨by rw [List.length_cons, rv.length]; exact hn _ _ _ h1, a, vs, I1, ds, s1, res, s', rfl, st1.ih, ro1, rv, h1, ?_⟩
    cases res with
    | ok d => exact fun v I' H' st ro' rw_ => hp v I' H' (st1.trans st) ro' rw_
    | er x => exact fun c dd I' H' st ro' xr => hp c dd I' H' (st1.trans st) ro' xr
  · cases hf
theorem fnD_len {m n : Nat} {F : SF} : ∀ ds r, fnD m n F ds = some r → ds.length = n := fun ds r h => by
  unfold fnD at h
  split at h
  · assumption
  · cases h
theorem fnR_len {m n : Nat} {F : SF} : ∀ ds s r, fnR m n F ds s = some r → ds.length + 1 = n := fun ds s r h => by
  unfold fnR at h
  split at h
  · assumption
  · cases h
variable {ι : Type} {X : ι → Cx} {P : Program} {w : World} {mg : Str → Option Value} {base : Heap} {k j n : Nat} {N : List Str} {e : Expr} {es : List Expr} {fa : AF} {f : Addr} {fd : FuncData} {ps : List Str} {x : Str} {p pos : Pos}
theorem Fo.fnOk (fo : Fo X G P w mg base k N W) {sp : Sp} (Fn : FnOk P w G.K mg base (L2.CX P w) j f fd ps sp) (i : ι) : FnOk (X i).prog (X i).w (X i).K (X i).mg (X i).base (L2.CX (X i).prog (X i).w) j f fd ps sp := by
  rw [fo.hP i, fo.hw i, fo.hK i, fo.hmg i, fo.hbase i]; exact Fn
theorem pd_call (fo : Fo X G P w mg base k N W) {F : List D → Option Res} (Fn : FnOk P w G.K mg base (L2.CX P w) j f fd ps (sp0 G n F)) (hn : ∀ ds r, F ds = some r → ds.length = n) (hj : j ≤ k) (hm : mg x = some (.ref f)) (hk : PySem.W.keepIn G.K (.ref f) = true) (hb : Binds G.K fd ps [])
    (hg : ∀ i, Gl (X i) x) (ha : PDA X G R W (e :: es) fa) (he : ∀ i, starEach (e :: es) (X i).env = (false, eval e (X i).env) :: starEach es (X i).env) (hpl : ∀ i, (backTo pos (starEach es (X i).env)).any (·.1) = false) (hdb : (x == ("__debug__" : Str)) = false := by decide) :
    PDE X G R W (.Call (.Name x p) (e :: es) [] pos) (e_call F fa) :=
  let ⟨_, pa, ra⟩ := ha
  ⟨_, fun i => pe_callS (E := WE W) (fo.fnOk Fn i) ((fo.room i).mono hj) (hg i) (by rw [fo.hmg i]; exact hm) (by rw [fo.hK i]; exact hk) (by rw [fo.hK i]; exact hb) (fun σ => passAt (fo.tk i) σ) (pa i) hdb (he i) (hpl i), re_call hn ra⟩
theorem pd_call0 (fo : Fo X G P w mg base k N W) {F : List D → Option Res} (Fn : FnOk P w G.K mg base (L2.CX P w) j f fd ps (sp0 G 0 F)) (hj : j ≤ k) (hm : mg x = some (.ref f)) (hk : PySem.W.keepIn G.K (.ref f) = true) (hb : Binds G.K fd ps [])
    (hg : ∀ i, Gl (X i) x) (hdb : (x == ("__debug__" : Str)) = false := by decide) : PDE X G R W (.Call (.Name x p) [] [] pos) (e_call0 F) :=
  ⟨_, fun i => pe_call0 (fo.fnOk Fn i) ((fo.room i).mono hj) (hg i) (by rw [fo.hmg i]; exact hm) (by rw [fo.hK i]; exact hk) (by rw [fo.hK i]; exact hb) .nil passL hdb, re_call0⟩
/-- a call that hands the row on -/
theorem pd_callR (fo : Fo X G P w mg base k N W) (i0 : Nat) {F : List D → Row → Option (Res × Row)} (Fn : FnOk P w G.K mg base (L2.CX P w) j f fd ps (spR G n F)) (hn : ∀ ds s r, F ds s = some r → ds.length + 1 = n) (hj : j ≤ k) (hm : mg x = some (.ref f)) (hk : PySem.W.keepIn G.K (.ref f) = true) (hb : Binds G.K fd ps [])
    (hg : ∀ i, Gl (X i) x) {y : Str} {yp : Pos} (hN : N[i0]? = some y) (hv : ∀ i, Vis (X i).env.scope y) (ha : PDA X G R W es fa) (he : ∀ i, starEach (.Name y yp :: es) (X i).env = (false, eval (.Name y yp) (X i).env) :: starEach es (X i).env) (hpl : ∀ i, (backTo pos (starEach es (X i).env)).any (·.1) = false)
    (hd : (y == ("__debug__" : Str)) = false := by decide) (hcd : (y == ("__classdict__" : Str)) = false := by decide) (hdb : (x == ("__debug__" : Str)) = false := by decide) :
    PDE X G R W (.Call (.Name x p) (.Name y yp :: es) [] pos) (e_callR i0 F fa) :=
  let ⟨_, pa, ra⟩ := ha
  ⟨_, fun i => pe_callS (E := WE W) (fo.fnOk Fn i) ((fo.room i).mono hj) (hg i) (by rw [fo.hmg i]; exact hm) (by rw [fo.hK i]; exact hk) (by rw [fo.hK i]; exact hb) (fun σ => passAt (fo.tk i) σ) (pa_cons (pe_var (by rw [fo.hN i]; exact hN) (hv i) hd hcd) (pa i) (he i)) hdb (he i) (hpl i), re_callR hn ra⟩
end
end PL
set_option Elab.async false
set_option linter.all false
set_option maxRecDepth 100000
set_option maxHeartbeats 4000000
/-! Built-in functions, slices, fields. -/
namespace PL
open PySem PySem.Spec PyProof.Rows L2
open Evl (Ex)

def lenD : List D → Option D
  | [.lst xs] => some (.int (xs.length : Nat))
  | [.tup xs] => some (.int (xs.length : Nat))
  | [.dct xs] => some (.int (xs.length : Nat))
  | [.str x] => if x.length ≤ sizeLine then some (.int (x.length : Nat)) else none
  | _ => none
def listD : List D → Option D
  | [.lst xs] => some (.lst xs)
  | [.tup xs] => some (.lst xs)
  | _ => none
def tupleD : List D → Option D
  | [.lst xs] => some (.tup xs)
  | [.tup xs] => some (.tup xs)
  | _ => none
def intD : List D → Option D
  | [.int i] => some (.int i)
  | [.bl b] => some (.int (if b then 1 else 0))
  | _ => none
def strD : List D → Option D
  | [.int i] => if i.natAbs.log2 < 1920 then some (.str (toString i)) else none
  | _ => none
def max2D : List D → Option D
  | [.int i, .int j] => some (.int (if j > i then j else i))
  | _ => none
def min2D : List D → Option D
  | [.int i, .int j] => some (.int (if j < i then j else i))
  | _ => none
/-- the ints, the truth values of a list -/
def intsOf : List D → Option (List Int)
  | [] => some []
  | .int i :: r => (intsOf r).map (i :: ·)
  | _ => none
def blsOf : List D → Option (List Bool)
  | [] => some []
  | .bl i :: r => (blsOf r).map (i :: ·)
  | _ => none
def sumD : List D → Option D
  | [.lst xs] => (intsOf xs).map fun ns => .int ns.sum
  | _ => none
def allD : List D → Option D
  | [.lst xs] => (blsOf xs).map fun bs => .bl (bs.all id)
  | _ => none
def anyD : List D → Option D
  | [.lst xs] => (blsOf xs).map fun bs => .bl (bs.any id)
  | _ => none
def maxL : List Int → Option Int
  | [] => none
  | i :: r => some (r.foldl max i)
def minL : List Int → Option Int
  | [] => none
  | i :: r => some (r.foldl min i)
def maxD : List D → Option D
  | [.lst xs] => (intsOf xs).bind fun ns => (maxL ns).map .int
  | _ => none
def minD : List D → Option D
  | [.lst xs] => (intsOf xs).bind fun ns => (minL ns).map .int
  | _ => none
/-- the built-in type of data -/
def tyD : D → Option String
  | .non => some "NoneType"
  | .bl _ => some "bool"
  | .int _ => some "int"
  | .str _ => some "str"
  | .tup _ => some "tuple"
  | .lst _ => some "list"
  | .dct _ => some "dict"
  | .dcn _ => none
  | .dcb _ => none
  | .ins _ _ => none
def isB (T : String) (d : D) : Option D := (tyD d).bind fun a => (kitB a T).map .bl
def cutD (xs : List D) (lo hi : Option Int) : List D := (xs.drop (HT.sIx xs.length 0 lo)).take (HT.sIx xs.length xs.length hi - HT.sIx xs.length 0 lo)
def slD (d : D) (lo hi : Option Int) : Option D := match d with
  | .lst xs => some (.lst (cutD xs lo hi))
  | .tup xs => some (.tup (cutD xs lo hi))
  | _ => none

section
variable {G : Gt} {R : Option Addr} {W : WX}
theorem Reps.cutV {H : Hp} {vs : List V} {ds : List D} (r : Reps G H vs ds) (lo hi : Option Int) : Reps G H (cutV vs lo hi) (cutD ds lo hi) := by
  unfold L2.cutV cutD
  rw [r.length]
  exact (r.drop _).take _
theorem reps1 {H : Hp} {vs : List V} {d : D} (r : Reps G H vs [d]) : ∃ v, vs = [v] ∧ Rep G H v d := by
  cases r with
  | cons a b => cases b; exact ⟨_, rfl, a⟩
theorem reps2 {H : Hp} {vs : List V} {d e : D} (r : Reps G H vs [d, e]) : ∃ v u, vs = [v, u] ∧ Rep G H v d ∧ Rep G H u e := by
  cases r with
  | cons a b =>
    obtain ⟨u, rfl, h⟩ := reps1 b
    exact ⟨_, _, rfl, a, h⟩
/-- len -/
def rLenU (K : PySem.W.Frag) : List V → Hp → VK → Prop := fun xs H Q => (∃ p ys, xs = [.ref p] ∧ (SqL K H p ys ∨ SqT K H p ys) ∧ Q (.int ys.length) H) ∨ (∃ z, xs = [.str z] ∧ z.length ≤ sizeLine ∧ Q (.int z.length) H) ∨ (∃ d kvs, xs = [.ref d] ∧ H d = some (.dK kvs) ∧ Q (.int kvs.length) H) ∨ rLenT xs H Q
theorem call_lenK {X : Cx} : CallR X (.builtin "len") (fun xs H Q => ∃ d kvs, xs = [.ref d] ∧ H d = some (.dK kvs) ∧ Q (.int kvs.length) H) := by
  intro pins s σ H xs us Q I r h
  obtain ⟨d, kvs, rfl, e, q⟩ := h
  obtain ⟨u, rfl, ru⟩ := vals1 r
  cases ru
  exact d_len I (.inl e) fun t s' I' => ⟨.int _, H, I', ⟨t, rfl⟩, q⟩
theorem call_lenU {X : Cx} : CallR X (.builtin "len") (rLenU X.K) := CallR.or call_len_seq (CallR.or call_len_str (CallR.or call_lenK call_len_dT))
theorem lss_len : LsS G (rLenU G.K) lenD := fun I H xs as d e rs ho Q hq => by
  cases as with
  | nil => cases ho
  | cons a r =>
    cases r with
    | cons _ _ => cases a <;> cases ho
    | nil =>
      obtain ⟨v, rfl, rv⟩ := reps1 rs
      cases rv with
      | lst h h' r l => cases ho; exact .inl ⟨_, _, rfl, .inl (Evl.ex_l e h), by rw [r.length]; exact hq _ I H (Step.refl e) (.int _)⟩
      | tup h r l => cases ho; exact .inl ⟨_, _, rfl, .inr (Evl.ex_t e h), by rw [r.length]; exact hq _ I H (Step.refl e) (.int _)⟩
      | str x =>
        simp only [lenD] at ho
        split at ho
        · rename_i hl; cases ho; exact .inr (.inl ⟨x, rfl, hl, hq _ I H (Step.refl e) (.int _)⟩)
        · cases ho
      | dK h r l =>
        cases ho
        refine .inr (.inr (.inl ⟨_, _, rfl, e _ _ h, ?_⟩))
        have : ∀ {ks : List (Key × V)} {ds : List (D × D)}, RepK G I ks ds → ks.length = ds.length := by
          intro ks ds q
          induction q using RepK.rec (motive_1 := fun _ _ _ => True) (motive_2 := fun _ _ _ => True) (motive_4 := fun _ _ _ => True) (motive_5 := fun _ _ _ => True) (motive_6 := fun _ _ _ => True) <;> simp_all
        rw [this r]
        exact hq _ I H (Step.refl e) (.int _)
      | _ => cases ho
theorem lss_list : LsS G (fun xs H Q => ∃ p ys, xs = [.ref p] ∧ (SqL G.K H p ys ∨ SqT G.K H p ys) ∧ ∀ l, H l = none → Q (.ref l) (upd H l (.lst ys))) listD := fun I H xs as d e rs ho Q hq => by
  cases as with
  | nil => cases ho
  | cons a r =>
    cases r with
    | cons _ _ => cases a <;> cases ho
    | nil =>
      obtain ⟨v, rfl, rv⟩ := reps1 rs
      cases rv with
      | lst h h' r l => cases ho; exact ⟨_, _, rfl, .inl (Evl.ex_l e h), fun p hp => let n := new_lst e hp r l; hq _ _ _ n.1 n.2⟩
      | tup h r l => cases ho; exact ⟨_, _, rfl, .inr (Evl.ex_t e h), fun p hp => let n := new_lst e hp r l; hq _ _ _ n.1 n.2⟩
      | _ => cases ho
theorem lss_tuple : LsS G (fun xs H Q => ∃ p ys, xs = [.ref p] ∧ ((SqL G.K H p ys ∧ ∀ l, H l = none → Q (.ref l) (upd H l (.tup ys))) ∨ (SqT G.K H p ys ∧ Q (.ref p) H))) tupleD := fun I H xs as d e rs ho Q hq => by
  cases as with
  | nil => cases ho
  | cons a r =>
    cases r with
    | cons _ _ => cases a <;> cases ho
    | nil =>
      obtain ⟨v, rfl, rv⟩ := reps1 rs
      cases rv with
      | lst h h' r l => cases ho; exact ⟨_, _, rfl, .inl ⟨Evl.ex_l e h, fun p hp => let n := new_tup e hp r l; hq _ _ _ n.1 n.2⟩⟩
      | tup h r l => cases ho; exact ⟨_, _, rfl, .inr ⟨Evl.ex_t e h, hq _ I H (Step.refl e) (.tup h r l)⟩⟩
      | _ => cases ho
theorem lss_int : LsS G (fun xs H Q => (∃ i, xs = [.int i] ∧ Q (.int i) H) ∨ ∃ k, xs = [.bl k] ∧ Q (.int (if k then 1 else 0)) H) intD := fun I H xs as d e rs ho Q hq => by
  cases as with
  | nil => cases ho
  | cons a r =>
    cases r with
    | cons _ _ => cases a <;> cases ho
    | nil =>
      obtain ⟨v, rfl, rv⟩ := reps1 rs
      cases rv with
      | int i => cases ho; exact .inl ⟨i, rfl, hq _ I H (Step.refl e) (.int _)⟩
      | bl i => cases ho; exact .inr ⟨i, rfl, hq _ I H (Step.refl e) (.int _)⟩
      | _ => cases ho
theorem lss_str : LsS G (fun xs H Q => ∃ i, xs = [.int i] ∧ i.natAbs.log2 < 1920 ∧ Q (.str (toString i)) H) strD := fun I H xs as d e rs ho Q hq => by
  cases as with
  | nil => cases ho
  | cons a r =>
    cases r with
    | cons _ _ => cases a <;> cases ho
    | nil =>
      obtain ⟨v, rfl, rv⟩ := reps1 rs
      cases rv with
      | int i =>
        simp only [strD] at ho
        split at ho
        · rename_i hl; cases ho; exact ⟨i, rfl, hl, hq _ I H (Step.refl e) (.str _)⟩
        · cases ho
      | _ => cases ho
theorem ii_cases {f : Int → Int → D} {as : List D} {d : D} {op : List D → Option D} (h : ∀ as d, op as = some d → ∃ i j, as = [.int i, .int j]) (ho : op as = some d) : ∃ i j, as = [.int i, .int j] := h as d ho
theorem lss_max2 : LsS G (fun xs H Q => ∃ i j, xs = [.int i, .int j] ∧ Q (.int (if j > i then j else i)) H) max2D := fun I H xs as d e rs ho Q hq => by
  unfold max2D at ho
  split at ho
  · cases ho
    obtain ⟨v, u, rfl, rv, ru⟩ := reps2 rs
    cases rv; cases ru
    exact ⟨_, _, rfl, hq _ I H (Step.refl e) (.int _)⟩
  · cases ho
theorem lss_min2 : LsS G (fun xs H Q => ∃ i j, xs = [.int i, .int j] ∧ Q (.int (if j < i then j else i)) H) min2D := fun I H xs as d e rs ho Q hq => by
  unfold min2D at ho
  split at ho
  · cases ho
    obtain ⟨v, u, rfl, rv, ru⟩ := reps2 rs
    cases rv; cases ru
    exact ⟨_, _, rfl, hq _ I H (Step.refl e) (.int _)⟩
  · cases ho
theorem Reps.ints {H : Hp} : ∀ {ds : List D} {vs : List V} {ns : List Int}, Reps G H vs ds → intsOf ds = some ns → vs = ns.map V.int
  | [], vs, ns, r, h => by cases r; cases h; rfl
  | d :: ds, vs, ns, r, h => by
    cases r with
    | cons a b =>
      cases a with
      | int i =>
        simp only [intsOf] at h
        cases q : intsOf ds with
        | none => rw [q] at h; cases h
        | some ms => rw [q] at h; cases h; rw [Reps.ints b q]; rfl
      | _ => cases h
theorem Reps.bls {H : Hp} : ∀ {ds : List D} {vs : List V} {ns : List Bool}, Reps G H vs ds → blsOf ds = some ns → vs = ns.map V.bl
  | [], vs, ns, r, h => by cases r; cases h; rfl
  | d :: ds, vs, ns, r, h => by
    cases r with
    | cons a b =>
      cases a with
      | bl i =>
        simp only [blsOf] at h
        cases q : blsOf ds with
        | none => rw [q] at h; cases h
        | some ms => rw [q] at h; cases h; rw [Reps.bls b q]; rfl
      | _ => cases h
theorem one_list {f : List D → Option D} {as : List D} {d : D} {I : Hp} {xs : List V} (h : ∀ as d, (match as with | [D.lst xs] => f xs | _ => none) = some d → ∃ xs, as = [.lst xs] ∧ f xs = some d) : True := trivial
theorem lss_sum : LsS G (rSum G.K) sumD := fun I H xs as d e rs ho Q hq => by
  unfold sumD at ho
  split at ho
  · rename_i ds
    cases q : intsOf ds with
    | none => rw [q] at ho; cases ho
    | some ns =>
      rw [q] at ho; cases ho
      obtain ⟨v, rfl, rv⟩ := reps1 rs
      cases rv with
      | lst h h' r l => exact ⟨_, ns, rfl, by rw [← r.ints q]; exact Evl.ex_l e h, hq _ I H (Step.refl e) (.int _)⟩
  · cases ho
theorem lss_all : LsS G (rAll G.K) allD := fun I H xs as d e rs ho Q hq => by
  unfold allD at ho
  split at ho
  · rename_i ds
    cases q : blsOf ds with
    | none => rw [q] at ho; cases ho
    | some ns =>
      rw [q] at ho; cases ho
      obtain ⟨v, rfl, rv⟩ := reps1 rs
      cases rv with
      | lst h h' r l => exact ⟨_, ns, rfl, by rw [← r.bls q]; exact Evl.ex_l e h, hq _ I H (Step.refl e) (.bl _)⟩
  · cases ho
theorem lss_any : LsS G (rAny G.K) anyD := fun I H xs as d e rs ho Q hq => by
  unfold anyD at ho
  split at ho
  · rename_i ds
    cases q : blsOf ds with
    | none => rw [q] at ho; cases ho
    | some ns =>
      rw [q] at ho; cases ho
      obtain ⟨v, rfl, rv⟩ := reps1 rs
      cases rv with
      | lst h h' r l => exact ⟨_, ns, rfl, by rw [← r.bls q]; exact Evl.ex_l e h, hq _ I H (Step.refl e) (.bl _)⟩
  · cases ho
theorem foldl_max_spec : ∀ (r : List Int) (i : Int), (r.foldl max i = i ∨ r.foldl max i ∈ r) ∧ i ≤ r.foldl max i ∧ ∀ y ∈ r, y ≤ r.foldl max i
  | [], i => ⟨.inl rfl, Int.le_refl _, fun y h => by cases h⟩
  | j :: r, i => by
    obtain ⟨a, b, c⟩ := foldl_max_spec r (max i j)
    rw [List.foldl_cons]
    refine ⟨?_, by omega, fun y hy => ?_⟩
    · rcases a with a | a
      · rw [a]
        by_cases h : i ≤ j
        · right; rw [Int.max_eq_right h]; simp
        · left; omega
      · right; simp [a]
    · rcases List.mem_cons.mp hy with e | e
      · subst e; omega
      · exact c y e
theorem foldl_min_spec : ∀ (r : List Int) (i : Int), (r.foldl min i = i ∨ r.foldl min i ∈ r) ∧ r.foldl min i ≤ i ∧ ∀ y ∈ r, r.foldl min i ≤ y
  | [], i => ⟨.inl rfl, Int.le_refl _, fun y h => by cases h⟩
  | j :: r, i => by
    obtain ⟨a, b, c⟩ := foldl_min_spec r (min i j)
    rw [List.foldl_cons]
    refine ⟨?_, by omega, fun y hy => ?_⟩
    · rcases a with a | a
      · rw [a]
        by_cases h : i ≤ j
        · left; omega
        · right; rw [Int.min_eq_right (by omega)]; simp
      · right; simp [a]
    · rcases List.mem_cons.mp hy with e | e
      · subst e; omega
      · exact c y e
theorem lss_max : LsS G (rMax G.K) maxD := fun I H xs as d e rs ho Q hq => by
  unfold maxD at ho
  split at ho
  · rename_i ds
    cases q : intsOf ds with
    | none => rw [q] at ho; cases ho
    | some ns =>
      rw [q] at ho
      cases ns with
      | nil => cases ho
      | cons i r0 =>
        have ho' : d = .int (r0.foldl max i) := (Option.some.inj ho).symm
        subst ho'
        obtain ⟨v, rfl, rv⟩ := reps1 rs
        cases rv with
        | lst h h' r l =>
          refine ⟨_, i :: r0, rfl, by rw [← r.ints q]; exact Evl.ex_l e h, by simp, fun m hm hle => ?_⟩
          obtain ⟨a1, a2, a3⟩ := foldl_max_spec r0 i
          have h1 : r0.foldl max i ≤ m := hle _ (by rcases a1 with a1 | a1 <;> simp [a1])
          have h2 : m ≤ r0.foldl max i := by
            rcases List.mem_cons.mp hm with z | z
            · subst z; exact a2
            · exact a3 m z
          rw [Int.le_antisymm h2 h1]
          exact hq _ I H (Step.refl e) (.int _)
  · cases ho
theorem lss_min : LsS G (rMin G.K) minD := fun I H xs as d e rs ho Q hq => by
  unfold minD at ho
  split at ho
  · rename_i ds
    cases q : intsOf ds with
    | none => rw [q] at ho; cases ho
    | some ns =>
      rw [q] at ho
      cases ns with
      | nil => cases ho
      | cons i r0 =>
        have ho' : d = .int (r0.foldl min i) := (Option.some.inj ho).symm
        subst ho'
        obtain ⟨v, rfl, rv⟩ := reps1 rs
        cases rv with
        | lst h h' r l =>
          refine ⟨_, i :: r0, rfl, by rw [← r.ints q]; exact Evl.ex_l e h, by simp, fun m hm hle => ?_⟩
          obtain ⟨a1, a2, a3⟩ := foldl_min_spec r0 i
          have h1 : m ≤ r0.foldl min i := hle _ (by rcases a1 with a1 | a1 <;> simp [a1])
          have h2 : r0.foldl min i ≤ m := by
            rcases List.mem_cons.mp hm with z | z
            · subst z; exact a2
            · exact a3 m z
          rw [Int.le_antisymm h1 h2]
          exact hq _ I H (Step.refl e) (.int _)
  · cases ho
theorem Rep.tyX {I : Hp} {H : Hp} {v : V} {d : D} {a : String} (e : Ex I H) (r : Rep G I v d) (h : tyD d = some a) : TyX G.K H v (.type a) := by
  cases r with
  | non => cases h; exact .base .non
  | bl b => cases h; exact .base (.bl b)
  | int i => cases h; exact .base (.int i)
  | str x => cases h; exact .base (.str x)
  | lst h1 h2 r l => cases h; exact .base (.lst (e _ _ h2))
  | tup h1 r l =>
    cases h
    rcases h1 with (h1 | ⟨o, h1⟩) | ⟨o, its, n, h1, hc, _⟩
    · exact .base (.tup (e _ _ h1))
    · exact .fTuple (e _ _ h1)
    · exact .kTuple h1 hc
  | dK h1 r l => cases h; exact .base (.dK (e _ _ h1))
  | dN _ _ _ _ _ => cases h
  | dB _ _ _ _ _ => cases h
  | ins _ _ _ => cases h
theorem re_isB {T : String} {te : TE} {fe : EF} (he : RE G R W te fe) : RE G R W (tCB (rIsi G.K) (tCons te (tCons (tC (.ty T)) tNil))) (e_un (isB T) fe) := fun I H σ ρ s e ro sl Q res s' hf hp => by
  refine re_seq he e ro sl hf (fun x ex => by subst ex; exact hp) fun x s1 h1 v I1 H1 st1 ro1 sl1 rv => ?_
  obtain ⟨d, e1, e2, e3⟩ := okR_cases h1
  subst e2; subst e3
  unfold isB at e1
  cases q : tyD x with
  | none => rw [q] at e1; cases e1
  | some a =>
    rw [q] at e1
    cases q2 : kitB a T with
    | none => rw [Option.bind_some, q2] at e1; cases e1
    | some b =>
      rw [Option.bind_some, q2] at e1
      cases e1
      exact ⟨v, .ty T, .type a, .type T, b, rfl, .ty T, rv.tyX st1.ih q, kit_ty q2, hp _ I1 H1 st1 ro1 (.bl b)⟩
end

section
variable {ι : Type} {X : ι → Cx} {G : Gt} {R : Option Addr} {W : WX} {P : Program} {w : World} {mg : Str → Option Value} {base : Heap} {k : Nat} {N : List Str}
variable {a b c e : Expr} {es : List Expr} {fa fb fc fe : EF} {fl : AF} {pos p : Pos} {x : Str}
theorem pd_callB (fo : Fo X G P w mg base k N W) {id : String} {r : List V → Hp → VK → Prop} {op : List D → Option D} (hc : ∀ i, CallR (X i) (.builtin id) r) (ho : LsS G r op) (hv : bootBuiltins x = some (.builtin id)) (hm : mg x = none) (hg : ∀ i, Gl (X i) x) (ha : PDA X G R W (e :: es) fl)
    (he : ∀ i, starEach (e :: es) (X i).env = (false, eval e (X i).env) :: starEach es (X i).env) (hpl : ∀ i, (backTo pos (starEach es (X i).env)).any (·.1) = false) (hn : x ≠ "__name__" := by decide) (hdb : (x == ("__debug__" : Str)) = false := by decide) : PDE X G R W (.Call (.Name x p) (e :: es) [] pos) (e_args op fl) :=
  let ⟨_, pa, ra⟩ := ha; ⟨_, fun i => pe_callB (hc i) (hg i) (by rw [fo.hmg i]; exact hm) hv (pa i) hn hdb (he i) (hpl i), re_args ho ra⟩
theorem pd_callTy (fo : Fo X G P w mg base k N W) {T : String} {r : List V → Hp → VK → Prop} {op : List D → Option D} (hc : ∀ i, CallR (X i) (.type T) r) (ho : LsS G r op) (hv : bootBuiltins x = some (.type T)) (hm : mg x = none) (hg : ∀ i, Gl (X i) x) (ha : PDA X G R W (e :: es) fl)
    (he : ∀ i, starEach (e :: es) (X i).env = (false, eval e (X i).env) :: starEach es (X i).env) (hpl : ∀ i, (backTo pos (starEach es (X i).env)).any (·.1) = false) (hn : x ≠ "__name__" := by decide) (hdb : (x == ("__debug__" : Str)) = false := by decide) : PDE X G R W (.Call (.Name x p) (e :: es) [] pos) (e_args op fl) :=
  let ⟨_, pa, ra⟩ := ha; ⟨_, fun i => pe_callTy (hc i) (hg i) (by rw [fo.hmg i]; exact hm) hv (pa i) hn hdb (he i) (hpl i), re_args ho ra⟩
theorem call_lenF (fo : Fo X G P w mg base k N W) (i : ι) : CallR (X i) (.builtin "len") (rLenU G.K) := by rw [← fo.hK i]; exact call_lenU
theorem call_listF (fo : Fo X G P w mg base k N W) (i : ι) : CallR (X i) (.type "list") (fun xs H Q => ∃ p ys, xs = [.ref p] ∧ (SqL G.K H p ys ∨ SqT G.K H p ys) ∧ ∀ l, H l = none → Q (.ref l) (upd H l (.lst ys))) := by rw [← fo.hK i]; exact call_list_of
theorem call_tupleF (fo : Fo X G P w mg base k N W) (i : ι) : CallR (X i) (.type "tuple") (fun xs H Q => ∃ p ys, xs = [.ref p] ∧ ((SqL G.K H p ys ∧ ∀ l, H l = none → Q (.ref l) (upd H l (.tup ys))) ∨ (SqT G.K H p ys ∧ Q (.ref p) H))) := by rw [← fo.hK i]; exact call_tuple_of
theorem call_sumF (fo : Fo X G P w mg base k N W) (hc : ∀ i, (X i).calm = true) (i : ι) : CallR (X i) (.builtin "sum") (rSum G.K) := by rw [← fo.hK i]; exact cr_sum (hc i)
theorem call_allF (fo : Fo X G P w mg base k N W) (hc : ∀ i, (X i).calm = true) (i : ι) : CallR (X i) (.builtin "all") (rAll G.K) := by rw [← fo.hK i]; exact cr_all (hc i)
theorem call_anyF (fo : Fo X G P w mg base k N W) (hc : ∀ i, (X i).calm = true) (i : ι) : CallR (X i) (.builtin "any") (rAny G.K) := by rw [← fo.hK i]; exact cr_any (hc i)
theorem call_maxF (fo : Fo X G P w mg base k N W) (hc : ∀ i, (X i).calm = true) (i : ι) : CallR (X i) (.builtin "max") (rMax G.K) := by rw [← fo.hK i]; exact cr_max (hc i)
theorem call_minF (fo : Fo X G P w mg base k N W) (hc : ∀ i, (X i).calm = true) (i : ι) : CallR (X i) (.builtin "min") (rMin G.K) := by rw [← fo.hK i]; exact cr_min (hc i)
/-- isinstance(x, T), T a built-in type -/
theorem pd_isB (fo : Fo X G P w mg base k N W) {T : Str} {Ts : String} {q : Pos} (hm : mg "isinstance" = none) (hT : mg T = none) (hv : bootBuiltins T = some (.type Ts)) (hg : ∀ i, Gl (X i) "isinstance") (hgT : ∀ i, Gl (X i) T) (he : PDE X G R W e fe)
    (hs : ∀ i, starEach [e, .Name T q] (X i).env = (false, eval e (X i).env) :: starEach [.Name T q] (X i).env) (hs2 : ∀ i, starEach [.Name T q] (X i).env = (false, eval (.Name T q) (X i).env) :: starEach [] (X i).env) (hpl : ∀ i, (backTo pos (starEach [.Name T q] (X i).env)).any (·.1) = false)
    (hb : bootBuiltins "isinstance" = some (.builtin "isinstance") := by decide +kernel) (hn : T ≠ "__name__" := by decide) (hdb : (T == ("__debug__" : Str)) = false := by decide) : PDE X G R W (.Call (.Name "isinstance" p) [e, .Name T q] [] pos) (e_un (isB Ts) fe) :=
  let ⟨_, pe, re⟩ := he
  ⟨_, fun i => pe_callB (by rw [← fo.hK i]; exact call_isi) (hg i) (by rw [fo.hmg i]; exact hm) hb (pa_cons (pe i) (pa_cons (pe_bltn (v := .ty Ts) (hgT i) (by rw [fo.hmg i]; exact hT) hv rfl hn hdb) pa_nil (hs2 i)) (hs i)) (by decide) (by decide) (hs i) (hpl i), re_isB re⟩
/-! ### slices -/
abbrev OF := Env → Row → Option (Except Exn (Option Int) × Row)
def o_none : OF := fun _ s => some (.ok none, s)
def o_some (fe : EF) : OF := fun ρ s => bE (fe ρ s) .error fun d s1 => match d with | .int i => some (.ok (some i), s1) | _ => none
def bO {α : Type} (x : Option (Except Exn (Option Int) × Row)) (er : Exn → α) (k : Option Int → Row → Option (α × Row)) : Option (α × Row) :=
  match x with
  | none => none
  | some (.error e, s) => some (er e, s)
  | some (.ok d, s) => k d s
@[simp] theorem bO_none {α : Type} (er : Exn → α) (k : Option Int → Row → Option (α × Row)) : bO none er k = none := rfl
@[simp] theorem bO_er {α : Type} (e : Exn) (s : Row) (er : Exn → α) (k : Option Int → Row → Option (α × Row)) : bO (some (.error e, s)) er k = some (er e, s) := rfl
@[simp] theorem bO_ok {α : Type} (d : Option Int) (s : Row) (er : Exn → α) (k : Option Int → Row → Option (α × Row)) : bO (some (.ok d, s)) er k = k d s := rfl
def PostO (G : Gt) (R : Option Addr) (W : WX) (I H : Hp) (σ : L2.St) (s' : Row) (Q : Option Int → Hp → Prop) : Except Exn (Option Int) → Prop
  | .ok d => ∀ I' H', Step R I H I' H' → RowOk G R s' I' H' → Q d H'
  | .error x => ∀ c dd I' H', Step R I H I' H' → RowOk G R s' I' H' → XRep G I' H' x c dd → W c dd σ H'
def RO (G : Gt) (R : Option Addr) (W : WX) (t : TO) (f : OF) : Prop :=
  ∀ (I H : Hp) (σ : L2.St) (ρ : Env) (s : Row), Ex I H → RowOk G R s I H → Slots G R I H σ ρ → ∀ (Q : Option Int → Hp → Prop) r (s' : Row), f ρ s = some (r, s') → PostO G R W I H σ s' Q r → t σ H Q
def PDO {ι : Type} (X : ι → Cx) (G : Gt) (R : Option Addr) (W : WX) (e : Option Expr) (f : OF) : Prop := ∃ t, (∀ i, PO (X i) e t) ∧ RO G R W t f
theorem ro_none : RO G R W tNoPart o_none := fun I H σ ρ s e ro sl Q r s' hf hp => by
  have hf' : some (Except.ok (none : Option Int), s) = some (r, s') := hf
  cases hf'
  exact hp I H (Step.refl e) ro
theorem ro_some {te : TE} {fe : EF} (h : RE G R W te fe) : RO G R W (tPart te) (o_some fe) := fun I H σ ρ s e ro sl Q res s' hf hp => by
  refine re_seq h e ro sl hf (fun x ex => by subst ex; exact hp) fun x s1 h1 v I1 H1 st1 ro1 sl1 rv => ?_
  cases rv with
  | int i => cases h1; exact ⟨i, rfl, hp I1 H1 st1 ro1⟩
  | _ => cases h1
theorem pdo_none : PDO X G R W none o_none := ⟨_, fun _ => po_none, ro_none⟩
theorem pdo_some (h : PDE X G R W e fe) : PDO X G R W (some e) (o_some fe) := let ⟨_, p, r⟩ := h; ⟨_, fun i => po_some (p i), ro_some r⟩
theorem bO_cases {α : Type} {x : Option (Except Exn (Option Int) × Row)} {er : Exn → α} {k : Option Int → Row → Option (α × Row)} {r : α} {s' : Row} (h : bO x er k = some (r, s')) :
    (∃ e, x = some (.error e, s') ∧ r = er e) ∨ ∃ d s1, x = some (.ok d, s1) ∧ k d s1 = some (r, s') := by
  cases x with
  | none => cases h
  | some p =>
    obtain ⟨q, s1⟩ := p
    cases q with
    | error e => rw [bO_er] at h; cases h; exact .inl ⟨e, rfl, rfl⟩
    | ok d => exact .inr ⟨d, s1, rfl, h⟩
theorem ro_seq {α : Type} {t : TO} {f : OF} (h : RO G R W t f) {I H : Hp} {σ : L2.St} {ρ : Env} {s : Row} (e : Ex I H) (rw_ : RowOk G R s I H) (sl : Slots G R I H σ ρ) {er : Exn → α} {k : Option Int → Row → Option (α × Row)} {r : α} {s' : Row} {Q : Option Int → Hp → Prop}
    (hf : bO (f ρ s) er k = some (r, s'))
    (hx : ∀ x, r = er x → ∀ c dd I' H', Step R I H I' H' → RowOk G R s' I' H' → XRep G I' H' x c dd → W c dd σ H')
    (hk : ∀ d s1, k d s1 = some (r, s') → ∀ I1 H1, Step R I H I1 H1 → RowOk G R s1 I1 H1 → Slots G R I1 H1 σ ρ → Q d H1) : t σ H Q := by
  rcases bO_cases hf with ⟨x, e1, e2⟩ | ⟨d, s1, e1, e2⟩
  · exact h I H σ ρ s e rw_ sl Q _ _ e1 (hx x e2)
  · refine h I H σ ρ s e rw_ sl Q _ _ e1 ?_
    intro I1 H1 st ro
    exact hk d s1 e2 I1 H1 st ro (sl.step st)
def e_sl (fa : EF) (fl fh : OF) : EF := fun ρ s => bE (fa ρ s) .er fun x s1 => bO (fl ρ s1) .er fun lo s2 => bO (fh ρ s2) .er fun hi s3 => okR (slD x lo hi) s3
def rSlU (K : PySem.W.Frag) : V → Option Int → Option Int → Hp → VK → Prop := fun x lo hi H Q => rSlL K x lo hi H Q ∨ rSlA K x lo hi H Q
theorem re_sl {te : TE} {fa : EF} {tl th : TO} {fl fh : OF} (ha : RE G R W te fa) (hl : RO G R W tl fl) (hh : RO G R W th fh) : RE G R W (tSl (rSlU G.K) te tl th) (e_sl fa fl fh) := fun I H σ ρ s e ro sl Q res s' hf hp => by
  refine re_seq ha e ro sl hf (fun x ex => by subst ex; exact hp) fun x s1 h1 v I1 H1 st1 ro1 sl1 rv => ?_
  refine ro_seq hl st1.ih ro1 sl1 h1 (fun z ez => by subst ez; exact fun c dd I' H' st => hp c dd I' H' (st1.trans st)) fun lo s2 h2 I2 H2 st2 ro2 sl2 => ?_
  refine ro_seq hh st2.ih ro2 sl2 h2 (fun z ez => by subst ez; exact fun c dd I' H' st => hp c dd I' H' ((st1.trans st2).trans st)) fun hi s3 h3 I3 H3 st3 ro3 sl3 => ?_
  obtain ⟨d, e1, e2, e3⟩ := okR_cases h3
  subst e2; subst e3
  have st := (st1.trans st2).trans st3
  have rv' := (rv.mono st2.ii).mono st3.ii
  cases rv' with
  | lst h h' r l =>
    cases e1
    refine .inl ⟨_, _, rfl, Evl.ex_l st3.ih h, fun q hq => ?_⟩
    have n := new_lst (R := R) st3.ih hq (r.cutV lo hi) (Nat.le_trans (cutV_length _ _ _) l)
    exact hp _ _ _ (st.trans n.1) (ro3.step0 (new_lst (R := none) st3.ih hq (r.cutV lo hi) (Nat.le_trans (cutV_length _ _ _) l)).1) n.2
  | tup h r l =>
    cases e1
    refine .inr ⟨_, _, rfl, Evl.ex_t st3.ih h, fun hw => ?_, fun _ q hq => ?_⟩
    · refine hp _ I3 H3 st ro3 (.tup h ?_ l)
      have hc : cutV _ lo hi = _ := show ((_ : List V).drop _).take _ = _ by rw [hw.1, hw.2, List.drop_zero, Nat.sub_zero, List.take_length]
      have q := r.cutV lo hi
      rw [hc] at q
      exact q
    · have n := new_tup (R := R) st3.ih hq (r.cutV lo hi) (Nat.le_trans (cutV_length _ _ _) l)
      exact hp _ _ _ (st.trans n.1) (ro3.step0 (new_tup (R := none) st3.ih hq (r.cutV lo hi) (Nat.le_trans (cutV_length _ _ _) l)).1) n.2
  | _ => cases e1
theorem pd_sl (fo : Fo X G P w mg base k N W) {lo hi : Option Expr} {fl fh : OF} {p2 : Pos} (ha : PDE X G R W a fa) (hl : PDO X G R W lo fl) (hh : PDO X G R W hi fh) : PDE X G R W (.Subscript a (.Slice lo hi none p2) pos) (e_sl fa fl fh) :=
  let ⟨_, pa, ra⟩ := ha; let ⟨_, pl, rl⟩ := hl; let ⟨_, ph, rh⟩ := hh
  ⟨_, fun i => pe_slice (by rw [← fo.hK i]; exact SlR.or sl_list sl_tupA) (pa i) (pl i) (ph i), re_sl ra rl rh⟩
/-! ### fields -/
def fldD (nm f : Str) (d : D) : Option D := match d with | .ins n fs => if n = nm then fs.lookup f else none | _ => none
theorem re_fld {te : TE} {nm f : Str} {C : Addr} (hC : G.cls nm = some C) (c : Cls G.K C) (hn : NoAttr G.K C f) (h : RE G R W te fe) : RE G R W (tFld G.K te f) (e_un (fldD nm f) fe) := fun I H σ ρ s e ro sl Q res s' hf hp => by
  refine re_seq h e ro sl hf (fun x ex => by subst ex; exact hp) fun x s1 h1 v I1 H1 st1 ro1 sl1 rv => ?_
  obtain ⟨d, e1, e2, e3⟩ := okR_cases h1
  subst e2; subst e3
  cases rv with
  | ins hc hH rf =>
    simp only [fldD] at e1
    split at e1
    · rename_i hnm
      subst hnm
      rw [hC] at hc; cases hc
      obtain ⟨u, h1, h2⟩ := rf.get e1
      exact ⟨_, C, _, _, u, rfl, st1.ih _ _ hH, c, hn, h1, hp _ I1 H1 st1 ro1 h2⟩
    · cases e1
  | _ => cases e1
theorem pd_fld (fo : Fo X G P w mg base k N W) {nm f : Str} {C : Addr} (hC : G.cls nm = some C) (c : Cls G.K C) (hn : NoAttr G.K C f) (h : PDE X G R W e fe) (hb : ∀ i, attributeBase e f (X i).env (eval e (X i).env) = eval e (X i).env) : PDE X G R W (.Attribute e f pos) (e_un (fldD nm f) fe) :=
  let ⟨t, p, r⟩ := h; ⟨tFld G.K t f, fun i => by rw [← fo.hK i]; exact pe_fld (p i) (hb i), re_fld hC c hn r⟩
/-- a property that reads a field -/
theorem re_prop {te : TE} {nm f : Str} {C : Addr} (hC : G.cls nm = some C) (h : RE G R W te fe) : RE G R W (tProp C (getSp C f) [] E0 te) (e_un (fldD nm f) fe) := fun I H σ ρ s e ro sl Q res s' hf hp => by
  refine re_seq h e ro sl hf (fun x ex => by subst ex; exact hp) fun x s1 h1 v I1 H1 st1 ro1 sl1 rv => ?_
  obtain ⟨d, e1, e2, e3⟩ := okR_cases h1
  subst e2; subst e3
  cases rv with
  | ins hc hH rf =>
    simp only [fldD] at e1
    split at e1
    · rename_i hnm
      subst hnm
      rw [hC] at hc; cases hc
      obtain ⟨u, h1, h2⟩ := rf.get e1
      exact ⟨_, _, _, rfl, st1.ih _ _ hH, _, _, _, u, rfl, st1.ih _ _ hH, h1, hp _ I1 H1 st1 ro1 h2⟩
    · cases e1
  | _ => cases e1
theorem pd_prop (fo : Fo X G P w mg base k N W) {nm f pn : Str} {C pr g : Addr} {j : Nat} {fd : FuncData} (hC : G.cls nm = some C) (c : Cls G.K C) (hp : PropOf G.K C pn pr g) (Fn : FnOk P w G.K mg base (L2.CX P w) j g fd ["self"] (getSp C f)) (hj : j + 1 ≤ k) (hb : Binds G.K fd ["self"] []) (h : PDE X G R W e fe)
    (hab : ∀ i, attributeBase e pn (X i).env (eval e (X i).env) = eval e (X i).env) : PDE X G R W (.Attribute e pn pos) (e_un (fldD nm f) fe) :=
  let ⟨_, p, r⟩ := h; ⟨_, fun i => pe_prop (p i) (by rw [fo.hK i]; exact c) (by rw [fo.hK i]; exact hp) (fo.fnOk Fn i) ((fo.room i).mono hj) (by rw [fo.hK i]; exact hb) .nil passL (hab i), re_prop hC r⟩
end
end PL
set_option Elab.async false
set_option linter.all false
set_option maxRecDepth 100000
set_option maxHeartbeats 4000000
/-! Things of the def's own that change. -/
namespace PL
open PySem PySem.Spec PyProof.Rows L2
open Evl (Ex)

/-- a thing just made: it stands at p, not yet among what stands for good -/
def PostF (G : Gt) (R : Option Addr) (W : WX) (I H : Hp) (σ : L2.St) (s' : Row) (Q : VK) : Res → Prop
  | .ok d => ∀ p I' H', Step R I H I' H' → RowOk G R s' I' H' → H p = none → I' p = none → R ≠ some p → Cell G I' H' p d → isIns d = false → Q (.ref p) H'
  | .er x => ∀ c dd I' H', Step R I H I' H' → RowOk G R s' I' H' → XRep G I' H' x c dd → W c dd σ H'
def RF (G : Gt) (R : Option Addr) (W : WX) (t : TE) (f : EF) : Prop :=
  ∀ (I H : Hp) (σ : L2.St) (ρ : Env) (s : Row), Ex I H → RowOk G R s I H → Slots G R I H σ ρ → ∀ (Q : VK) (r : Res) (s' : Row), f ρ s = some (r, s') → PostF G R W I H σ s' Q r → t σ H Q
def PDF {ι : Type} (X : ι → Cx) (G : Gt) (R : Option Addr) (W : WX) (e : Expr) (f : EF) : Prop := ∃ t, (∀ i, PE (X i) e t) ∧ RF G R W t f

def catL : D → D → Option D
  | .lst xs, .lst ys => if xs.length + ys.length ≤ sizeLine then some (.lst (xs ++ ys)) else none
  | _, _ => none
def repL : D → D → Option D
  | .lst xs, .int k => if -(2 ^ 63) ≤ k ∧ k < 2 ^ 63 ∧ xs.length * k.toNat ≤ sizeLine then some (.lst (List.replicate k.toNat xs).flatten) else none
  | _, _ => none
def ceAt (ρ : Env) (i : Nat) : Option D := match ρ[i]? with | some (some (.ce d)) => some d | _ => none
def setS (ρ : Env) (i : Nat) (x : Sl) (s : Row) : Option (Out × Row) := if i < ρ.length then some (.nx (ρ.set i (some x)), s) else none
def s_new (i : Nat) (f : EF) : SF := fun ρ s => bE (f ρ s) (.er · ρ) fun d s1 => setS ρ i (.ce d) s1
/-- i, j = a, b; ci, cj: which of them is a thing that changes -/
def s_parC (i j : Nat) (ci cj : Bool) (fa fb : EF) : SF := fun ρ s => bE (fa ρ s) (.er · ρ) fun x s1 => bE (fb ρ s1) (.er · ρ) fun y s2 => if i < ρ.length ∧ j < ρ.length then some (.nx ((ρ.set i (some (if ci then .ce x else .im x))).set j (some (if cj then .ce y else .im y))), s2) else none
def s_append (i : Nat) (fe : EF) : SF := fun ρ s => match ceAt ρ i with
  | some (.lst ds) => bE (fe ρ s) (.er · ρ) fun d s1 => if ds.length < sizeLine then setS ρ i (.ce (.lst (ds ++ [d]))) s1 else none
  | _ => none
def s_extend (i : Nat) (fe : EF) : SF := fun ρ s => match ceAt ρ i with
  | some (.lst ds) => bE (fe ρ s) (.er · ρ) fun d s1 => (match d with | .lst es => if ds.length + es.length ≤ sizeLine then setS ρ i (.ce (.lst (ds ++ es))) s1 else none | _ => none)
  | _ => none
def s_setitem (i : Nat) (fx fe : EF) : SF := fun ρ s => match ceAt ρ i with
  | some (.lst ds) => bE (fe ρ s) (.er · ρ) fun d s1 => bE (fx ρ s1) (.er · ρ) fun z s2 => (match z with
    | .int k => (match ixN ds.length k with | some j => setS ρ i (.ce (.lst (ds.set j d))) s2 | none => none)
    | _ => none)
  | _ => none
/-- x = y.pop() -/
def s_pop (j i : Nat) : SF := fun ρ s => match ceAt ρ i with
  | some (.lst ds) => (match ds[ds.length - 1]? with | some d => if i < ρ.length ∧ j < ρ.length then some (.nx ((ρ.set i (some (.ce (.lst ds.dropLast)))).set j (some (.im d))), s) else none | none => none)
  | _ => none
def putFD (f : Str) (v : D) : List (Str × D) → List (Str × D)
  | [] => [(f, v)]
  | (g, x) :: r => if g = f then (g, v) :: r else (g, x) :: putFD f v r
/-- self.f = e -/
def s_setattr (i : Nat) (nm f : Str) (fe : EF) : SF := fun ρ s => match ceAt ρ i with
  | some (.ins n fs) => if n = nm ∧ fs.length < 900 then bE (fe ρ s) (.er · ρ) fun d s1 => setS ρ i (.ce (.ins n (putFD f d fs))) s1 else none
  | _ => none
/-- from here on it doesn't change -/
def frz (i : Nat) (ρ : Env) : Env := match ceAt ρ i with | some d => ρ.set i (some (.im d)) | none => ρ
def s_frz (i : Nat) (F : SF) : SF := fun ρ s => F (frz i ρ) s
/-- nothing in it changes: no list, no dict, no instance -/
def noLst : D → Bool
  | .lst _ => false
  | .dct _ => false
  | .dcn _ => false
  | .dcb _ => false
  | .ins _ _ => false
  | .tup xs => noLsts xs
  | _ => true
where noLsts : List D → Bool
  | [] => true
  | x :: xs => noLst x && noLsts xs
/-- e, the thing in slot i being read meanwhile -/
def e_peek (i : Nat) (fe : EF) : EF := fun ρ s => match fe (frz i ρ) s with
  | some (.ok d, s1) => if noLst d = true ∧ s1.sa = s.sa then some (.ok d, s1) else none
  | _ => none
/-- .. giving a new list -/
def e_peekF (i : Nat) (fe : EF) : EF := fun ρ s => match fe (frz i ρ) s with
  | some (.ok (.lst ds), s1) => if noLst.noLsts ds = true ∧ s1.sa = s.sa then some (.ok (.lst ds), s1) else none
  | _ => none

section
variable {G : Gt} {R : Option Addr} {W : WX}
theorem ceAt_cases {ρ : Env} {i : Nat} {d : D} (h : ceAt ρ i = some d) : ρ[i]? = some (some (.ce d)) := by
  unfold ceAt at h
  split at h
  · rename_i e; cases h; exact e
  · cases h
/-- what is just made stands for good -/
theorem RF.re {t : TE} {f : EF} (h : RF G R W t f) (hl : ∀ ρ s d s', f ρ s = some (.ok d, s') → ∃ ds, d = .lst ds) : RE G R W t f := fun I H σ ρ s e ro sl Q r s' hf hp => by
  refine h I H σ ρ s e ro sl Q r s' hf ?_
  cases r with
  | er x => exact hp
  | ok d =>
    obtain ⟨ds, rfl⟩ := hl ρ s d s' hf
    intro p I' H' st ro' hn hi hR c _
    obtain ⟨vs, q, rs, l⟩ := c
    refine hp (.ref p) (upd I' p (.lst vs)) H' ⟨st.ii.trans (Ex.new hi), fun a o z => ?_, st.fr, st.tr, fun a z => ?_⟩ ?_ (.lst (.inl (.inl upd_same)) upd_same (rs.mono (Ex.new hi)) l)
    · by_cases ha : a = p
      · subst ha; rw [upd_same] at z; cases z; exact q
      · rw [upd_ne ha] at z; exact st.ih a o z
    · by_cases ha : a = p
      · subst ha; exact .inr hn
      · rw [upd_ne ha] at z; exact st.nw a z
    · cases R with
      | none => trivial
      | some r =>
        obtain ⟨b1, b2, b3, b4⟩ := ro'
        exact ⟨by rw [upd_ne (fun z => hR (by rw [z]))]; exact b1, b2, b3, by rw [upd_ne (fun z => by rw [z, hi] at b4; cases b4)]; exact b4⟩
theorem rowNe {s : Row} {I H : Hp} {p : Addr} (ro : RowOk G R s I H) (h : H p = none) : R ≠ some p := fun z => by
  subst z
  obtain ⟨_, _, e, _⟩ := ro
  rw [h] at e; cases e
/-- a new object at p that is not told -/
theorem new_cell {s : Row} {I H : Hp} {p : Addr} {o : HO} (e : Ex I H) (ro : RowOk G R s I H) (h : H p = none) : Step R I H I (upd H p o) ∧ RowOk G R s I (upd H p o) ∧ I p = none := by
  have hR := rowNe ro h
  refine ⟨⟨Ex.refl _, fun a u q => Ex.new h a u (e a u q), fun a u q _ => Ex.new h a u q, fun a q => ?_, fun a q => .inl q⟩, ?_, ex_none e h⟩
  · by_cases hz : a = p
    · subst hz; rw [upd_same]; simp
    · rw [upd_ne hz]; exact q
  · cases R with
    | none => trivial
    | some r =>
      obtain ⟨b1, b2, b3, b4⟩ := ro
      exact ⟨b1, b2, by rw [upd_ne (fun z => hR (by rw [z]))]; exact b3, b4⟩
theorem rf_lst {ta : TA} {fa : AF} (ha : RA G R W ta fa) : RF G R W (tLst ta) (e_args lstD fa) := fun I H σ ρ s e ro sl Q res s' hf hp => by
  refine ra_seq ha e ro sl hf (fun x ex => by subst ex; exact hp) fun xs s1 h1 vs I1 H1 st1 ro1 sl1 rv => ?_
  obtain ⟨d, e1, e2, e3⟩ := okR_cases h1
  subst e2; subst e3
  unfold lstD at e1
  split at e1
  · rename_i hl
    cases e1
    have hl' : vs.length ≤ sizeLine := by rw [rv.length]; exact hl
    refine ⟨hl', fun p hp' => ?_⟩
    obtain ⟨n1, n2, n3⟩ := new_cell (o := .lst vs) st1.ih ro1 hp'
    have hn : H p = none := by
      cases q : H p with
      | none => rfl
      | some o => exact absurd hp' (st1.tr p (by rw [q]; simp))
    exact hp p I1 _ (st1.trans n1) n2 hn n3 (rowNe ro1 hp') ⟨vs, upd_same, rv, hl'⟩ rfl
  · cases e1
theorem rf_dnewK : RF G R W tDNewK (e_c (.dct [])) := fun I H σ ρ s e ro sl Q res s' hf hp => by
  have hf' : some (Res.ok (.dct []), s) = some (res, s') := hf
  cases hf'
  intro p hp'
  obtain ⟨n1, n2, n3⟩ := new_cell (o := .dK []) e ro hp'
  exact hp p I _ n1 n2 hp' n3 (rowNe ro hp') ⟨[], upd_same, .nil, Nat.zero_le _⟩ rfl
theorem hnone {I H I1 H1 : Hp} {p : Addr} (st : Step R I H I1 H1) (h : H1 p = none) : H p = none := by
  cases q : H p with
  | none => rfl
  | some o => exact absurd h (st.tr p (by rw [q]; simp))
theorem rf_cat {ta tb : TE} {fa fb : EF} (ha : RE G R W ta fa) (hb : RE G R W tb fb) : RF G R W (tOp rCat ta tb) (e_bin catL fa fb) := fun I H σ ρ s e ro sl Q res s' hf hp => by
  refine re_seq ha e ro sl hf (fun x ex => by subst ex; exact hp) fun x s1 h1 v I1 H1 st1 ro1 sl1 rv => ?_
  refine re_seq hb st1.ih ro1 sl1 h1 (fun z ez => by subst ez; exact fun c dd I' H' st => hp c dd I' H' (st1.trans st)) fun y s2 h2 u I2 H2 st2 ro2 sl2 ru => ?_
  obtain ⟨d, e1, e2, e3⟩ := okR_cases h2
  subst e2; subst e3
  unfold catL at e1
  split at e1
  · split at e1
    · rename_i hl
      cases e1
      have rv' := rv.mono st2.ii
      cases rv' with
      | lst h h' r l =>
        cases ru with
        | lst k k' r' l' =>
          refine ⟨_, _, _, _, rfl, rfl, st2.ih _ _ h', st2.ih _ _ k', by rw [r.length, r'.length]; exact hl, fun p hp' => ?_⟩
          obtain ⟨n1, n2, n3⟩ := new_cell (o := .lst (_ ++ _)) st2.ih ro2 hp'
          have st := st1.trans st2
          exact hp p I2 _ (st.trans n1) n2 (hnone st hp') n3 (rowNe ro2 hp') ⟨_, upd_same, r.append r', by rw [List.length_append, r.length, r'.length]; exact hl⟩ rfl
    · cases e1
  · cases e1
theorem rf_rep {ta tb : TE} {fa fb : EF} (ha : RE G R W ta fa) (hb : RE G R W tb fb) : RF G R W (tOp rRep ta tb) (e_bin repL fa fb) := fun I H σ ρ s e ro sl Q res s' hf hp => by
  refine re_seq ha e ro sl hf (fun x ex => by subst ex; exact hp) fun x s1 h1 v I1 H1 st1 ro1 sl1 rv => ?_
  refine re_seq hb st1.ih ro1 sl1 h1 (fun z ez => by subst ez; exact fun c dd I' H' st => hp c dd I' H' (st1.trans st)) fun y s2 h2 u I2 H2 st2 ro2 sl2 ru => ?_
  obtain ⟨d, e1, e2, e3⟩ := okR_cases h2
  subst e2; subst e3
  unfold repL at e1
  split at e1
  · split at e1
    · rename_i hl
      cases e1
      have rv' := rv.mono st2.ii
      cases rv' with
      | lst h h' r l =>
        cases ru
        obtain ⟨a1, a2, a3⟩ := hl
        refine ⟨_, _, _, rfl, rfl, st2.ih _ _ h', a1, a2, by rw [r.length]; exact a3, fun p hp' => ?_⟩
        obtain ⟨n1, n2, n3⟩ := new_cell (o := .lst (List.replicate _ _).flatten) st2.ih ro2 hp'
        have st := st1.trans st2
        exact hp p I2 _ (st.trans n1) n2 (hnone st hp') n3 (rowNe ro2 hp') ⟨_, upd_same, r.flatten_rep _, by rw [flatten_rep_len, r.length, Nat.mul_comm]; exact a3⟩ rfl
    · cases e1
  · cases e1
/-- a slot takes a thing just made -/
theorem SS.setC {ps : List Addr} {I0 H0 I H I' H' : Hp} {σ : L2.St} {ρ : Env} {s s' : Row} {j : Nat} {p : Addr} {d : D} (x : SS G R ps I0 H0 I H σ ρ s) (st : Step R I H I' H') (ro : RowOk G R s' I' H') (hn : H p = none) (hi : I' p = none) (hR : R ≠ some p) (c : Cell G I' H' p d) (ni : isIns d = false) :
    SS G R ps I0 H0 I' H' (σ.set j (some (.ref p))) (ρ.set j (some (.ce d))) s' := by
  have x1 := x.step st ro
  have other : ∀ (i : Nat) (e : D) (q : Addr), ρ[i]? = some (some (.ce e)) → σ[i]? = some (some (.ref q)) → q ≠ p := fun i e q e1 e2 z => by
    subst z
    obtain ⟨v, h1, q', h2, _, _, h3⟩ := x.sl.at_ i _ e1
    rw [e2] at h1; cases h1; cases h2
    exact h3.there hn
  have H0p : H0 p = none := by
    cases q : H0 p with
    | none => rfl
    | some o => exact absurd hn (x.bs.tr p (by rw [q]; simp))
  refine ⟨x1.bs, x1.ro, ⟨?_, fun i sl e => ?_, fun i i' q d1 d2 e1 e2 e3 e4 => ?_⟩, fun i d1 q e1 e2 => ?_⟩
  · rw [List.length_set, List.length_set]; exact x.sl.len
  · by_cases hij : j = i
    · subst hij
      have hl : j < ρ.length := by simpa using (List.getElem?_eq_some_iff.mp e).1
      rw [List.getElem?_set_self hl] at e
      cases e
      exact ⟨.ref p, by rw [List.getElem?_set_self (by rw [← x.sl.len]; exact hl)], p, rfl, hi, hR, c⟩
    · rw [List.getElem?_set_ne hij] at e
      rw [List.getElem?_set_ne hij]
      exact x1.sl.at_ i sl e
  · have self : ∀ (a b : Nat) (q : Addr) (da db : D), a ≠ j → b = j → (ρ.set j (some (.ce d)))[a]? = some (some (.ce da)) → (σ.set j (some (.ref p)))[a]? = some (some (.ref q)) → (ρ.set j (some (.ce d)))[b]? = some (some (.ce db)) → (σ.set j (some (.ref p)))[b]? = some (some (.ref q)) → False := fun a b q da db ha hb h1 h2 h3 h4 => by
      subst hb
      have hl : b < ρ.length := by simpa using (List.getElem?_eq_some_iff.mp h3).1
      rw [List.getElem?_set_self (by rw [← x.sl.len]; exact hl)] at h4
      cases h4
      rw [List.getElem?_set_ne (Ne.symm ha)] at h1 h2
      exact other a da p h1 h2 rfl
    by_cases a1 : i = j
    · by_cases a2 : i' = j
      · rw [a1, a2]
      · exact (self i' i q d2 d1 a2 a1 e2 e4 e1 e3).elim
    · by_cases a2 : i' = j
      · exact (self i i' q d1 d2 a1 a2 e1 e3 e2 e4).elim
      · rw [List.getElem?_set_ne (Ne.symm a1)] at e1 e3
        rw [List.getElem?_set_ne (Ne.symm a2)] at e2 e4
        exact x1.sl.ne i i' q d1 d2 e1 e2 e3 e4
  · by_cases hij : j = i
    · subst hij
      have hl : j < ρ.length := by simpa using (List.getElem?_eq_some_iff.mp e1).1
      rw [List.getElem?_set_self (by rw [← x.sl.len]; exact hl)] at e2
      cases e2
      rw [List.getElem?_set_self hl] at e1
      cases e1
      exact .inl ⟨H0p, ni⟩
    · rw [List.getElem?_set_ne hij] at e1 e2
      exact x1.cf i d1 q e1 e2
theorem rf_eval {t : TE} {f : EF} (h : RF G R W t f) {ps : List Addr} {I0 H0 I H : Hp} {σ : L2.St} {ρ : Env} {s s' : Row} (x : SS G R ps I0 H0 I H σ ρ s) {k : D → Row → Option (Out × Row)} {o : Out} {Dn : Ends} {Q : VK}
    (hf : bE (f ρ s) (.er · ρ) k = some (o, s')) (hp : PostS G R W ps I0 H0 s' Dn o)
    (hk : ∀ d s1, k d s1 = some (o, s') → ∀ p I1 H1, Step R I H I1 H1 → RowOk G R s1 I1 H1 → H p = none → I1 p = none → R ≠ some p → Cell G I1 H1 p d → isIns d = false → Q (.ref p) H1) : t σ H Q := by
  rcases bE_cases hf with ⟨y, e1, e2⟩ | ⟨d, s1, e1, e2⟩
  · subst e2
    exact h I H σ ρ s x.bs.ih x.ro x.sl Q _ _ e1 fun c dd I' H' st ro xr => hp c dd σ I' H' (x.step st ro) xr
  · exact h I H σ ρ s x.bs.ih x.ro x.sl Q _ _ e1 fun p I1 H1 st ro hn hi hR c ni => hk d s1 e2 p I1 H1 st ro hn hi hR c ni
theorem setS_cases {ρ : Env} {i : Nat} {x : Sl} {s s' : Row} {o : Out} (h : setS ρ i x s = some (o, s')) : i < ρ.length ∧ o = .nx (ρ.set i (some x)) ∧ s' = s := by
  unfold setS at h
  split at h
  · cases h; exact ⟨by assumption, rfl, rfl⟩
  · cases h
theorem rs_new {i : Nat} {te : TE} {fe : EF} (he : RF G R W te fe) : RS G R W (tAsg te (gName i)) (s_new i fe) := fun ps I0 H0 I H σ ρ s x Dn o s' hf hp => by
  refine rf_eval he x hf hp fun d s1 h1 p I1 H1 st ro hn hi hR c ni => ?_
  obtain ⟨_, rfl, rfl⟩ := setS_cases h1
  exact hp _ I1 H1 (x.setC st ro hn hi hR c ni)
theorem rs_parIF {i j : Nat} {ta tb : TE} {fa fb : EF} (ha : RE G R W ta fa) (hb : RF G R W tb fb) : RS G R W (tPar i j (tCons ta (tCons tb tNil))) (s_parC i j false true fa fb) := fun ps I0 H0 I H σ ρ s x Dn o s' hf hp => by
  refine rs_eval ha x hf hp fun d s1 h1 v I1 H1 st1 x1 rv => ?_
  refine rf_eval hb x1 h1 hp fun d2 s2 h2 p I2 H2 st2 ro2 hn hi hR c ni => ?_
  split at h2
  · cases h2
    refine ⟨v, .ref p, rfl, hp _ I2 H2 ?_⟩
    exact (x1.set (j := i) rv).setC st2 ro2 hn hi hR c ni
  · cases h2
theorem rs_parFI {i j : Nat} {ta tb : TE} {fa fb : EF} (hij : i ≠ j) (ha : RF G R W ta fa) (hb : RE G R W tb fb) : RS G R W (tPar i j (tCons ta (tCons tb tNil))) (s_parC i j true false fa fb) := fun ps I0 H0 I H σ ρ s x Dn o s' hf hp => by
  refine rf_eval ha x hf hp fun d s1 h1 p I1 H1 st1 ro1 hn hi hR c ni => ?_
  have x1 := x.step st1 ro1
  refine rs_eval hb x1 h1 hp fun d2 s2 h2 v I2 H2 st2 x2 rv => ?_
  split at h2
  · cases h2
    refine ⟨.ref p, v, rfl, hp _ I2 H2 ?_⟩
    exact (x.setC (j := i) (st1.trans st2) x2.ro hn (nw_none st2 hi c.there) hR (c.mono st2.ii fun o q => st2.fr p o q hR) ni).set rv
  · cases h2
theorem rs_parFF {i j : Nat} {ta tb : TE} {fa fb : EF} (hij : i ≠ j) (ha : RF G R W ta fa) (hb : RF G R W tb fb) : RS G R W (tPar i j (tCons ta (tCons tb tNil))) (s_parC i j true true fa fb) := fun ps I0 H0 I H σ ρ s x Dn o s' hf hp => by
  refine rf_eval ha x hf hp fun d s1 h1 p I1 H1 st1 ro1 hn hi hR c ni => ?_
  have x1 := x.step st1 ro1
  refine rf_eval hb x1 h1 hp fun d2 s2 h2 q I2 H2 st2 ro2 hn2 hi2 hR2 c2 ni2 => ?_
  split at h2
  · cases h2
    refine ⟨.ref p, .ref q, rfl, hp _ I2 H2 ?_⟩
    exact (x.setC (j := i) st1 ro1 hn hi hR c ni).setC st2 ro2 hn2 hi2 hR2 c2 ni2
  · cases h2
/-- a thing in a slot changes -/
theorem SS.upd {ps : List Addr} {I0 H0 I H : Hp} {σ : L2.St} {ρ : Env} {s : Row} {i : Nat} {p : Addr} {d d' : D} {o : HO} (x : SS G R ps I0 H0 I H σ ρ s) (h1 : ρ[i]? = some (some (.ce d))) (h2 : σ[i]? = some (some (.ref p))) (c : Cell G I (L2.upd H p o) p d') (ni : isIns d' = isIns d := by rfl) :
    SS G R ps I0 H0 I (L2.upd H p o) σ (ρ.set i (some (.ce d'))) s := by
  obtain ⟨v, a1, q, rfl, a3, a4, a5⟩ := x.sl.at_ i _ h1
  rw [h2] at a1; cases a1
  have cf := x.cf i d p h1 h2
  refine ⟨⟨x.bs.ii, fun a u z => ?_, fun a u z n m => ?_, fun a z => ?_, x.bs.nw⟩, ?_, ⟨?_, fun k sl e => ?_, fun k k' q d1 d2 e1 e2 e3 e4 => ?_⟩, fun k d1 q e1 e2 => ?_⟩
  · rw [upd_ne (fun y => by subst y; rw [a3] at z; cases z)]; exact x.bs.ih a u z
  · rw [upd_ne (fun y => by subst y; rcases cf with ⟨cf, _⟩ | cf; · rw [cf] at z; cases z
                            · exact m cf)]
    exact x.bs.fr a u z n m
  · by_cases y : a = p
    · subst y; rw [upd_same]; simp
    · rw [upd_ne y]; exact x.bs.tr a z
  · have ro := x.ro
    cases R with
    | none => trivial
    | some r =>
      obtain ⟨b1, b2, b3, b4⟩ := ro
      exact ⟨b1, b2, by rw [upd_ne (fun z => a4 (by rw [z]))]; exact b3, b4⟩
  · rw [List.length_set]; exact x.sl.len
  · by_cases hij : i = k
    · subst hij
      have hl : i < ρ.length := by simpa using (List.getElem?_eq_some_iff.mp e).1
      rw [List.getElem?_set_self hl] at e
      cases e
      exact ⟨.ref p, h2, p, rfl, a3, a4, c⟩
    · rw [List.getElem?_set_ne hij] at e
      obtain ⟨v, b1, b2⟩ := x.sl.at_ k sl e
      refine ⟨v, b1, ?_⟩
      cases sl with
      | im d => exact b2
      | row => exact b2
      | ce d2 =>
        obtain ⟨q, rfl, c2, c3, c4⟩ := b2
        have hne : q ≠ p := fun z => by subst z; exact hij (x.sl.ne i k q d d2 h1 e h2 b1)
        exact ⟨q, rfl, c2, c3, c4.mono (Ex.refl _) fun o z => by rw [upd_ne hne]; exact z⟩
  · have key : ∀ (a : Nat) (da : D), (ρ.set i (some (.ce d')))[a]? = some (some (.ce da)) → ∃ db, ρ[a]? = some (some (.ce db)) := fun a da ea => by
      by_cases hia : i = a
      · subst hia; exact ⟨d, h1⟩
      · rw [List.getElem?_set_ne hia] at ea; exact ⟨da, ea⟩
    obtain ⟨u1, f1⟩ := key k d1 e1
    obtain ⟨u2, f2⟩ := key k' d2 e2
    exact x.sl.ne k k' q u1 u2 f1 f2 e3 e4
  · by_cases hij : i = k
    · subst hij
      rw [h2] at e2; cases e2
      have hl : i < ρ.length := by simpa using (List.getElem?_eq_some_iff.mp e1).1
      rw [List.getElem?_set_self hl] at e1
      cases e1
      rw [ni]; exact cf
    · rw [List.getElem?_set_ne hij] at e1
      exact x.cf k d1 q e1 e2
theorem ce_at {ps : List Addr} {I0 H0 I H : Hp} {σ : L2.St} {ρ : Env} {s : Row} {i : Nat} {d : D} (x : SS G R ps I0 H0 I H σ ρ s) (h : ceAt ρ i = some d) : ∃ p, ρ[i]? = some (some (.ce d)) ∧ σ[i]? = some (some (.ref p)) ∧ I p = none ∧ R ≠ some p ∧ Cell G I H p d := by
  have h1 := ceAt_cases h
  obtain ⟨v, a1, p, rfl, a3, a4, a5⟩ := x.sl.at_ i _ h1
  exact ⟨p, h1, a1, a3, a4, a5⟩
theorem rs_append {i : Nat} {te : TE} {fe : EF} (he : RE G R W te fe) : RS G R W (tDrop (tBM G.K "list" rAppend (tVar i) (tCons te tNil))) (s_append i fe) := fun ps I0 H0 I H σ ρ s x Dn o s' hf hp => by
  unfold s_append at hf
  split at hf
  · rename_i ds q
    obtain ⟨p, a1, a2, a3, a4, vs, a5, a6, a7⟩ := ce_at x q
    refine ⟨.ref p, a2, .inl ⟨rfl, vs, .inl (.inl a5)⟩, rs_eval he x hf hp fun d s1 h1 u I1 H1 st1 x1 ru => ?_⟩
    split at h1
    · rename_i hl
      obtain ⟨_, rfl, rfl⟩ := setS_cases h1
      have h5 : H1 p = some (.lst vs) := st1.fr p _ a5 a4
      have hz : vs.length < sizeLine := by rw [a6.length]; exact hl
      refine ⟨p, vs, u, rfl, rfl, h5, hz, ?_⟩
      exact hp _ I1 _ (x1.upd a1 a2 ⟨_, upd_same, (a6.mono st1.ii).append (.cons ru .nil), by simp; omega⟩)
    · cases h1
  · cases hf
theorem rs_extend {i : Nat} {te : TE} {fe : EF} (he : RE G R W te fe) : RS G R W (tDrop (tBM G.K "list" rExtend (tVar i) (tCons te tNil))) (s_extend i fe) := fun ps I0 H0 I H σ ρ s x Dn o s' hf hp => by
  unfold s_extend at hf
  split at hf
  · rename_i ds q
    obtain ⟨p, a1, a2, a3, a4, vs, a5, a6, a7⟩ := ce_at x q
    refine ⟨.ref p, a2, .inl ⟨rfl, vs, .inl (.inl a5)⟩, rs_eval he x hf hp fun d s1 h1 u I1 H1 st1 x1 ru => ?_⟩
    split at h1
    · split at h1
      · rename_i hl
        obtain ⟨_, rfl, rfl⟩ := setS_cases h1
        have h5 : H1 p = some (.lst vs) := st1.fr p _ a5 a4
        cases ru with
        | lst k k' r l =>
          refine ⟨p, _, vs, _, rfl, rfl, h5, x1.bs.ih _ _ k', by rw [a6.length, r.length]; exact hl, ?_⟩
          exact hp _ I1 _ (x1.upd a1 a2 ⟨_, upd_same, (a6.mono st1.ii).append r, by rw [List.length_append, a6.length, r.length]; exact hl⟩)
      · cases h1
    · cases h1
  · cases hf
theorem ceAt_some {ρ : Env} {i : Nat} {d : D} (h : ρ[i]? = some (some (.ce d))) : ceAt ρ i = some d := by unfold ceAt; rw [h]
theorem rs_setitem {i : Nat} {te ti : TE} {fe fx : EF} (he : RE G R W te fe) (hx : RE G R W ti fx) : RS G R W (tAsg te (gSub (tVar i) ti rSetL)) (s_setitem i fx fe) := fun ps I0 H0 I H σ ρ s x Dn o s' hf hp => by
  unfold s_setitem at hf
  split at hf
  · rename_i ds q
    obtain ⟨p, a1, a2, a3, a4, vs, a5, a6, a7⟩ := ce_at x q
    refine rs_eval he x hf hp fun d s1 h1 u I1 H1 st1 x1 ru => ?_
    refine ⟨.ref p, a2, rs_eval hx x1 h1 hp fun z s2 h2 w I2 H2 st2 x2 rw_ => ?_⟩
    split at h2
    · split at h2
      · rename_i j hj
        obtain ⟨_, rfl, rfl⟩ := setS_cases h2
        cases rw_
        have h5 : H2 p = some (.lst vs) := st2.fr p _ (st1.fr p _ a5 a4) a4
        refine ⟨p, vs, _, j, rfl, rfl, h5, by rw [a6.length]; exact hj, ?_⟩
        exact hp _ I2 _ (x2.upd a1 a2 ⟨_, upd_same, Reps.set (ru.mono st2.ii) j ((a6.mono st1.ii).mono st2.ii), by rw [List.length_set]; exact a7⟩)
      · cases h2
    · cases h2
  · cases hf
theorem rs_pop {i j : Nat} (hij : i ≠ j) : RS G R W (tAsg (tBM0 G.K "list" rPop (tVar i)) (gName j)) (s_pop j i) := fun ps I0 H0 I H σ ρ s x Dn o s' hf hp => by
  unfold s_pop at hf
  split at hf
  · rename_i ds q
    obtain ⟨p, a1, a2, a3, a4, vs, a5, a6, a7⟩ := ce_at x q
    split at hf
    · rename_i d hd
      split at hf
      · rename_i hl
        cases hf
        obtain ⟨v, hv, rv⟩ := a6.get hd
        refine ⟨.ref p, a2, .inl ⟨rfl, vs, .inl (.inl a5)⟩, p, vs, v, rfl, rfl, a5, by rw [a6.length]; exact hv, ?_⟩
        have x1 := x.upd a1 a2 (o := .lst vs.dropLast) (d' := .lst ds.dropLast) ⟨_, upd_same, a6.dropLast, by simp; omega⟩
        exact hp _ I _ (x1.set rv)
      · cases hf
    · cases hf
  · cases hf
theorem RepF.put {H : Hp} {f : Str} {v : V} {d : D} (r : Rep G H v d) : ∀ {vs : List (Str × V)} {fs : List (Str × D)}, RepF G H vs fs → RepF G H (putF f v vs) (putFD f d fs)
  | _, _, .nil => .cons r .nil
  | _, _, .cons (f := g) a b => by
    unfold putF putFD
    split
    · exact .cons r b
    · exact .cons a (RepF.put r b)
theorem RepF.length {H : Hp} : ∀ {vs : List (Str × V)} {fs : List (Str × D)}, RepF G H vs fs → vs.length = fs.length
  | _, _, .nil => rfl
  | _, _, .cons _ b => by rw [List.length_cons, List.length_cons, RepF.length b]
theorem rs_setattr {i : Nat} {nm f : Str} {C : Addr} {te : TE} {fe : EF} (hC : G.cls nm = some C) (c : Cls G.K C) (hn : NoAttr G.K C f) (he : RE G R W te fe) : RS G R W (sFld G.K (tVar i) te f) (s_setattr i nm f fe) := fun ps I0 H0 I H σ ρ s x Dn o s' hf hp => by
  unfold s_setattr at hf
  split at hf
  · rename_i n fs q
    obtain ⟨p, a1, a2, a3, a4, C', dx, vs, a5, a6, a7⟩ := ce_at x q
    split at hf
    · rename_i hnm
      obtain ⟨rfl, hl⟩ := hnm
      rw [hC] at a5; cases a5
      refine rs_eval he x hf hp fun d s1 h1 u I1 H1 st1 x1 ru => ?_
      obtain ⟨_, rfl, rfl⟩ := setS_cases h1
      have h5 : H1 p = some (.ins C dx vs) := st1.fr p _ a6 a4
      refine ⟨.ref p, a2, p, C, dx, vs, rfl, h5, c, hn, by rw [a7.length]; omega, ?_⟩
      exact hp _ I1 _ (x1.upd a1 a2 ⟨C, dx, _, hC, upd_same, (a7.mono st1.ii).put ru⟩)
    · cases hf
  · cases hf
theorem Cell.frz {I H : Hp} {p : Addr} {d : D} (c : Cell G I H p d) (n : I p = none) : ∃ o, H p = some o ∧ (∀ u ys, some o = some u → u ≠ .tup ys ∧ ∀ f, u ≠ .frz f (.tup ys)) ∧ Rep G (L2.upd I p o) (.ref p) d := by
  cases d with
  | lst ds => obtain ⟨vs, q, r, l⟩ := c; exact ⟨_, q, (fun u ys z => by cases z; exact ⟨by simp, by simp⟩), .lst (.inl (.inl upd_same)) upd_same (r.mono (Ex.new n)) l⟩
  | dct ds => obtain ⟨_, q, r, l⟩ := c; exact ⟨_, q, (fun u ys z => by cases z; exact ⟨by simp, by simp⟩), .dK upd_same (r.mono (Ex.new n)) l⟩
  | dcn ds => obtain ⟨_, m, q, r, nd, l⟩ := c; exact ⟨_, q, (fun u ys z => by cases z; exact ⟨by simp [rawO], by simp [rawO]⟩), .dN m upd_same (r.mono (Ex.new n)) nd l⟩
  | ins nm fs => obtain ⟨C, dx, vs, q, q2, r⟩ := c; exact ⟨_, q2, (fun u ys z => by cases z; exact ⟨by simp, by simp⟩), .ins q upd_same (r.mono (Ex.new n))⟩
  | _ => exact c.elim
theorem ex_frz {I H : Hp} {p : Addr} {o : HO} (e : Ex I H) (h : H p = some o) : Ex (L2.upd I p o) H := fun a u z => by
  by_cases y : a = p
  · subst y; rw [upd_same] at z; cases z; exact h
  · rw [upd_ne y] at z; exact e a u z
theorem row_frz {I H : Hp} {p : Addr} {o : HO} {s : Row} (ro : RowOk G R s I H) (n : I p = none) (hR : R ≠ some p) : RowOk G R s (L2.upd I p o) H := by
  cases R with
  | none => trivial
  | some r =>
    obtain ⟨b1, b2, b3, b4⟩ := ro
    exact ⟨by rw [upd_ne (fun z => hR (by rw [z]))]; exact b1, b2, b3, by rw [upd_ne (fun z => by rw [z, n] at b4; cases b4)]; exact b4⟩
theorem Slots.frz {I H : Hp} {σ : L2.St} {ρ : Env} {i : Nat} {p : Addr} {d : D} {o : HO} (x : Slots G R I H σ ρ) (h1 : ρ[i]? = some (some (.ce d))) (h2 : σ[i]? = some (some (.ref p))) (n : I p = none) (rp : Rep G (L2.upd I p o) (.ref p) d) : Slots G R (L2.upd I p o) H σ (ρ.set i (some (.im d))) where
  len := by rw [List.length_set]; exact x.len
  at_ := fun k sl e => by
    by_cases hij : i = k
    · subst hij
      have hl : i < ρ.length := by simpa using (List.getElem?_eq_some_iff.mp e).1
      rw [List.getElem?_set_self hl] at e
      cases e
      exact ⟨.ref p, h2, rp⟩
    · rw [List.getElem?_set_ne hij] at e
      obtain ⟨v, b1, b2⟩ := x.at_ k sl e
      refine ⟨v, b1, ?_⟩
      cases sl with
      | im d => exact Rep.mono (Ex.new n) b2
      | row => exact b2
      | ce d2 =>
        obtain ⟨q, rfl, c2, c3, c4⟩ := b2
        have hne : q ≠ p := fun z => by subst z; exact hij (x.ne i k q d d2 h1 e h2 b1)
        exact ⟨q, rfl, by rw [upd_ne hne]; exact c2, c3, c4.mono (Ex.new n) fun o z => z⟩
  ne := fun k k' q d1 d2 e1 e2 e3 e4 => by
    have key : ∀ (a : Nat) (da : D), (ρ.set i (some (.im d)))[a]? = some (some (.ce da)) → ρ[a]? = some (some (.ce da)) := fun a da ea => by
      by_cases hia : i = a
      · subst hia
        have hl : i < ρ.length := by simpa using (List.getElem?_eq_some_iff.mp ea).1
        rw [List.getElem?_set_self hl] at ea; cases ea
      · rw [List.getElem?_set_ne hia] at ea; exact ea
    exact x.ne k k' q d1 d2 (key _ _ e1) (key _ _ e2) e3 e4
/-- from here on it stands for good -/
theorem SS.frz {ps : List Addr} {I0 H0 I H : Hp} {σ : L2.St} {ρ : Env} {s : Row} (x : SS G R ps I0 H0 I H σ ρ s) (i : Nat) : ∃ I', SS G R ps I0 H0 I' H σ (PL.frz i ρ) s := by
  cases q : ceAt ρ i with
  | none => exact ⟨I, by unfold PL.frz; rw [q]; exact x⟩
  | some d =>
    obtain ⟨p, a1, a2, a3, a4, a5⟩ := ce_at x q
    have cf := x.cf i d p a1 a2
    obtain ⟨o, ho, _, rp⟩ := a5.frz a3
    unfold PL.frz
    rw [q]
    refine ⟨L2.upd I p o, ⟨x.bs.ii.trans (Ex.new a3), ex_frz x.bs.ih ho, x.bs.fr, x.bs.tr, fun a z => ?_⟩, row_frz x.ro a3 a4, x.sl.frz a1 a2 a3 rp, fun k d1 q e1 e2 => ?_⟩
    · by_cases y : a = p
      · subst y; exact .inr (cf.imp (fun z => z.1) id)
      · rw [upd_ne y] at z; exact x.bs.nw a z
    · by_cases hia : i = k
      · subst hia
        have hl : i < ρ.length := by simpa using (List.getElem?_eq_some_iff.mp e1).1
        rw [List.getElem?_set_self hl] at e1; cases e1
      · rw [List.getElem?_set_ne hia] at e1; exact x.cf k d1 q e1 e2
/-! ### reading a thing meanwhile -/
def drop (I : Hp) (p : Addr) : Hp := fun a => if a = p then none else I a
theorem drop_ne {I : Hp} {p a : Addr} (h : a ≠ p) : drop I p a = I a := by unfold drop; rw [if_neg h]
theorem drop_same {I : Hp} {p : Addr} : drop I p p = none := by unfold drop; rw [if_pos rfl]
mutual
theorem Rep.dropH {I : Hp} {p : Addr} (hp : ∀ u ys, I p = some u → u ≠ .tup ys ∧ ∀ o, u ≠ .frz o (.tup ys)) : ∀ {v : V} {d : D}, Rep G I v d → noLst d = true → Rep G (PL.drop I p) v d
  | _, _, .non, _ => .non
  | _, _, .bl b, _ => .bl b
  | _, _, .int i, _ => .int i
  | _, _, .str x, _ => .str x
  | _, _, .tup (a := a) (vs := vs) h r l, n => by
    rw [noLst] at n
    refine .tup ?_ (Reps.dropH hp r n) l
    rcases h with (h | ⟨o, h⟩) | h
    · exact .inl (.inl (by rw [drop_ne (fun z => by subst z; exact (hp _ vs h).1 rfl)]; exact h))
    · exact .inl (.inr ⟨o, by rw [drop_ne (fun z => by subst z; exact (hp _ vs h).2 o rfl)]; exact h⟩)
    · exact .inr h
  | _, _, .lst _ _ _ _, n => by simp [noLst] at n
  | _, _, .dK _ _ _, n => by simp [noLst] at n
  | _, _, .dN _ _ _ _ _, n => by simp [noLst] at n
  | _, _, .dB _ _ _ _ _, n => by simp [noLst] at n
  | _, _, .ins _ _ _, n => by simp [noLst] at n
theorem Reps.dropH {I : Hp} {p : Addr} (hp : ∀ u ys, I p = some u → u ≠ .tup ys ∧ ∀ o, u ≠ .frz o (.tup ys)) : ∀ {vs : List V} {ds : List D}, Reps G I vs ds → noLst.noLsts ds = true → Reps G (PL.drop I p) vs ds
  | _, _, .nil, _ => .nil
  | _, _, .cons r t, n => by
    rw [noLst.noLsts, Bool.and_eq_true] at n
    exact .cons (Rep.dropH hp r n.1) (Reps.dropH hp t n.2)
end
theorem step_drop {I H I' H' : Hp} {p : Addr} {o : HO} (n : I p = none) (ho : H p = some o) (st : Step R (L2.upd I p o) H I' H') : Step R I H (PL.drop I' p) H' where
  ii := fun a u z => by
    have hne : a ≠ p := fun y => by subst y; rw [n] at z; cases z
    rw [drop_ne hne]
    exact st.ii a u (by rw [upd_ne hne]; exact z)
  ih := fun a u z => by
    by_cases y : a = p
    · subst y; rw [drop_same] at z; cases z
    · rw [drop_ne y] at z; exact st.ih a u z
  fr := st.fr
  tr := st.tr
  nw := fun a z => by
    by_cases y : a = p
    · subst y; rw [drop_same] at z; exact absurd rfl z
    · rw [drop_ne y] at z
      rcases st.nw a z with q | q
      · rw [upd_ne y] at q; exact .inl q
      · exact .inr q
theorem row_drop {I H : Hp} {p : Addr} {s : Row} (ro : RowOk G R s I H) (hne : ∀ r, R = some r → s.sa ≠ p) : RowOk G R s (PL.drop I p) H := by
  cases R with
  | none => trivial
  | some r =>
    obtain ⟨b1, b2, b3, b4⟩ := ro
    refine ⟨?_, b2, b3, by rw [drop_ne (hne r rfl)]; exact b4⟩
    by_cases y : r = p
    · subst y; exact drop_same
    · rw [drop_ne y]; exact b1
theorem row_sa {I H : Hp} {p r : Addr} {s : Row} (ro : RowOk G (some r) s I H) (n : I p = none) : s.sa ≠ p := fun z => by
  obtain ⟨b1, b2, b3, b4⟩ := ro
  rw [z, n] at b4; cases b4
theorem frz_eq {ρ : Env} {i : Nat} {d : D} (h : ceAt ρ i = some d) : PL.frz i ρ = ρ.set i (some (.im d)) := by unfold PL.frz; rw [h]
theorem re_peek {i : Nat} {t : TE} {f : EF} (h : RE G R W t f) : RE G R W t (e_peek i f) := fun I H σ ρ s e ro sl Q res s' hf hp => by
  cases q : ceAt ρ i with
  | none =>
    have hz : PL.frz i ρ = ρ := by unfold PL.frz; rw [q]
    unfold e_peek at hf
    rw [hz] at hf
    refine h I H σ ρ s e ro sl Q res s' ?_ hp
    split at hf
    · rename_i e1
      split at hf
      · cases hf; exact e1
      · cases hf
    · cases hf
  | some d =>
    have h1 := ceAt_cases q
    obtain ⟨v, a1, p, rfl, a3, a4, a5⟩ := sl.at_ i _ h1
    obtain ⟨o, ho, hot, rp⟩ := a5.frz a3
    unfold e_peek at hf
    rw [frz_eq q] at hf
    have sl2 := sl.frz h1 a1 a3 rp
    have ro2 := row_frz (o := o) ro a3 a4
    have hh := h (L2.upd I p o) H σ (ρ.set i (some (.im d))) s (ex_frz e ho) ro2 sl2 Q
    split at hf
    · rename_i d' s1 e1
      split at hf
      · rename_i hn
        cases hf
        refine hh _ _ e1 fun v I' H' st ro' rv => ?_
        have hI' : I' p = some o := st.ii p o upd_same
        refine hp v (PL.drop I' p) H' (step_drop a3 ho st) (row_drop ro' fun r hr => ?_) (Rep.dropH (fun u ys z => ?_) rv hn.1)
        · subst hr
          rw [hn.2]
          exact row_sa ro a3
        · rw [hI'] at z; exact hot u ys z
      · cases hf
    · cases hf
theorem rf_peek {i : Nat} {t : TE} {f : EF} (h : RF G R W t f) : RF G R W t (e_peekF i f) := fun I H σ ρ s e ro sl Q res s' hf hp => by
  cases q : ceAt ρ i with
  | none =>
    have hz : PL.frz i ρ = ρ := by unfold PL.frz; rw [q]
    unfold e_peekF at hf
    rw [hz] at hf
    refine h I H σ ρ s e ro sl Q res s' ?_ hp
    split at hf
    · rename_i e1
      split at hf
      · cases hf; exact e1
      · cases hf
    · cases hf
  | some d =>
    have h1 := ceAt_cases q
    obtain ⟨v, a1, p, rfl, a3, a4, a5⟩ := sl.at_ i _ h1
    obtain ⟨o, ho, hot, rp⟩ := a5.frz a3
    unfold e_peekF at hf
    rw [frz_eq q] at hf
    have sl2 := sl.frz h1 a1 a3 rp
    have ro2 := row_frz (o := o) ro a3 a4
    have hh := h (L2.upd I p o) H σ (ρ.set i (some (.im d))) s (ex_frz e ho) ro2 sl2 Q
    split at hf
    · rename_i ds s1 e1
      split at hf
      · rename_i hn
        cases hf
        refine hh _ _ e1 fun pn I' H' st ro' hn1 hn2 hn3 c ni => ?_
        have hI' : I' p = some o := st.ii p o upd_same
        obtain ⟨vs, c1, c2, c3⟩ := c
        refine hp pn (PL.drop I' p) H' (step_drop a3 ho st) (row_drop ro' fun r hr => ?_) hn1 ?_ hn3 ⟨vs, c1, Reps.dropH (fun u ys z => ?_) c2 hn.1, c3⟩ ni
        · subst hr
          rw [hn.2]
          exact row_sa ro a3
        · by_cases y : pn = p
          · subst y; exact drop_same
          · rw [drop_ne y]; exact hn2
        · rw [hI'] at z; exact hot u ys z
      · cases hf
    · cases hf
theorem rs_frz {i : Nat} {t : TS} {F : SF} (h : RS G R W t F) : RS G R W t (s_frz i F) := fun ps I0 H0 I H σ ρ s x Dn o s' hf hp => by
  obtain ⟨I', x'⟩ := x.frz i
  exact h ps I0 H0 I' H σ (PL.frz i ρ) s x' Dn o s' hf hp
end
end PL
set_option Elab.async false
set_option linter.all false
set_option maxRecDepth 100000
set_option maxHeartbeats 4000000
/-! The rules for things that change; instances made; errors raised. -/
namespace PL
open PySem PySem.Spec PyProof.Rows L2
open Evl (Ex)
section
variable {ι : Type} {X : ι → Cx} {G : Gt} {R : Option Addr} {W : WX} {P : Program} {w : World} {mg : Str → Option Value} {base : Heap} {k : Nat} {N : List Str} {sc : Scope}
variable {a b c e : Expr} {es : List Expr} {fa fb fc fe : EF} {fl : AF} {pos p apos cpos : Pos} {x y : Str} {F : SF}
theorem pdf_lst (hr : PDA X G R W es fl) : PDF X G R W (.List es pos) (e_args lstD fl) := let ⟨_, pr, rr⟩ := hr; ⟨_, fun i => pe_lst (pr i), rf_lst rr⟩
theorem pdf_dictK : PDF X G R W (.Dict [] [] pos) (e_c (.dct [])) := ⟨_, fun _ => pe_dnewK, rf_dnewK⟩
theorem pdf_cat (ha : PDE X G R W a fa) (hb : PDE X G R W b fb) : PDF X G R W (.BinOp a .Add b pos) (e_bin catL fa fb) := let ⟨_, p, r⟩ := ha; let ⟨_, p', r'⟩ := hb; ⟨_, fun i => pe_op op_cat (p i) (p' i), rf_cat r r'⟩
theorem pdf_rep (ha : PDE X G R W a fa) (hb : PDE X G R W b fb) : PDF X G R W (.BinOp a .Mult b pos) (e_bin repL fa fb) := let ⟨_, p, r⟩ := ha; let ⟨_, p', r'⟩ := hb; ⟨_, fun i => pe_op op_rep (p i) (p' i), rf_rep r r'⟩
theorem pd_peek (j : Nat) (h : PDE X G R W e fe) : PDE X G R W e (e_peek j fe) := let ⟨_, p, r⟩ := h; ⟨_, p, re_peek r⟩
theorem pdf_peek (j : Nat) (h : PDF X G R W e fe) : PDF X G R W e (e_peekF j fe) := let ⟨_, p, r⟩ := h; ⟨_, p, rf_peek r⟩
theorem pds_frz {st : Stmt} (j : Nat) (h : PDS X G R W st F) : PDS X G R W st (s_frz j F) := let ⟨_, p, r⟩ := h; ⟨_, p, rs_frz r⟩
theorem pdb_frz {sts : List Stmt} (j : Nat) (h : PDB X G R W sts F) : PDB X G R W sts (s_frz j F) := let ⟨_, p, r⟩ := h; ⟨_, p, rs_frz r⟩
theorem pds_new (fb : Fb X G P w mg base k N W sc) (j : Nat) {pos' : Pos} (hN : N[j]? = some x) (hx : Loc sc x) (h : PDF X G R W e fe) (hs : ∀ i, swapsWith e (some (.Name x pos')) pos.line (X i).env = pure false) : PDS X G R W (.Assign [.Name x pos'] e pos) (s_new j fe) :=
  let ⟨_, p, r⟩ := h; ⟨_, fun i => ps_set (by rw [fb.fo.hN i]; exact fb.fo.nd) (by rw [fb.fo.hN i]; exact hN) (by rw [fb.sc i]; exact hx) (p i) (hs i) (.inl (fb.fn i x)), rs_new r⟩
section
variable {px py pt pt2 : Pos} {kt k2 : Nat} {i j : Nat}
theorem pds_parIF (fb : Fb X G P w mg base k N W sc) (i j : Nat) (hi : N[i]? = some x) (hj : N[j]? = some y) (hij : i ≠ j) (hx : sc.names.lookup x = some .local) (hy : sc.names.lookup y = some .local) (ha : PDE X G R W a fa) (hb : PDF X G R W b fc)
    (hs1 : ∀ i, starEach [a, b] (X i).env = (false, eval a (X i).env) :: starEach [b] (X i).env) (hs2 : ∀ i, starEach [b] (X i).env = (false, eval b (X i).env) :: starEach [] (X i).env)
    (hw : ∀ i, swappedStores [.Tuple [.Name x px, .Name y py] kt pt] (.Tuple [a, b] k2 pt2) (X i).env = pure (some [x, y])) (hs : ∀ i, swapsWithSole [.Tuple [.Name x px, .Name y py] kt pt] (.Tuple [a, b] k2 pt2) pos.line (X i).env = pure false) :
    PDS X G R W (.Assign [.Tuple [.Name x px, .Name y py] kt pt] (.Tuple [a, b] k2 pt2) pos) (s_parC i j false true fa fc) :=
  let ⟨_, p, r⟩ := ha; let ⟨_, p', r'⟩ := hb
  ⟨_, fun z => ps_par (fb.calm z) (by rw [fb.fo.hN z]; exact fb.fo.nd) (by rw [fb.fo.hN z]; exact hi) (by rw [fb.fo.hN z]; exact hj) hij (by rw [fb.sc z]; exact hx) (by rw [fb.sc z]; exact hy) (pa_cons (p z) (pa_cons (p' z) pa_nil (hs2 z)) (hs1 z)) (hw z) (hs z), rs_parIF r r'⟩
theorem pds_parFI (fb : Fb X G P w mg base k N W sc) (i j : Nat) (hi : N[i]? = some x) (hj : N[j]? = some y) (hij : i ≠ j) (hx : sc.names.lookup x = some .local) (hy : sc.names.lookup y = some .local) (ha : PDF X G R W a fa) (hb : PDE X G R W b fc)
    (hs1 : ∀ i, starEach [a, b] (X i).env = (false, eval a (X i).env) :: starEach [b] (X i).env) (hs2 : ∀ i, starEach [b] (X i).env = (false, eval b (X i).env) :: starEach [] (X i).env)
    (hw : ∀ i, swappedStores [.Tuple [.Name x px, .Name y py] kt pt] (.Tuple [a, b] k2 pt2) (X i).env = pure (some [x, y])) (hs : ∀ i, swapsWithSole [.Tuple [.Name x px, .Name y py] kt pt] (.Tuple [a, b] k2 pt2) pos.line (X i).env = pure false) :
    PDS X G R W (.Assign [.Tuple [.Name x px, .Name y py] kt pt] (.Tuple [a, b] k2 pt2) pos) (s_parC i j true false fa fc) :=
  let ⟨_, p, r⟩ := ha; let ⟨_, p', r'⟩ := hb
  ⟨_, fun z => ps_par (fb.calm z) (by rw [fb.fo.hN z]; exact fb.fo.nd) (by rw [fb.fo.hN z]; exact hi) (by rw [fb.fo.hN z]; exact hj) hij (by rw [fb.sc z]; exact hx) (by rw [fb.sc z]; exact hy) (pa_cons (p z) (pa_cons (p' z) pa_nil (hs2 z)) (hs1 z)) (hw z) (hs z), rs_parFI hij r r'⟩
theorem pds_parFF (fb : Fb X G P w mg base k N W sc) (i j : Nat) (hi : N[i]? = some x) (hj : N[j]? = some y) (hij : i ≠ j) (hx : sc.names.lookup x = some .local) (hy : sc.names.lookup y = some .local) (ha : PDF X G R W a fa) (hb : PDF X G R W b fc)
    (hs1 : ∀ i, starEach [a, b] (X i).env = (false, eval a (X i).env) :: starEach [b] (X i).env) (hs2 : ∀ i, starEach [b] (X i).env = (false, eval b (X i).env) :: starEach [] (X i).env)
    (hw : ∀ i, swappedStores [.Tuple [.Name x px, .Name y py] kt pt] (.Tuple [a, b] k2 pt2) (X i).env = pure (some [x, y])) (hs : ∀ i, swapsWithSole [.Tuple [.Name x px, .Name y py] kt pt] (.Tuple [a, b] k2 pt2) pos.line (X i).env = pure false) :
    PDS X G R W (.Assign [.Tuple [.Name x px, .Name y py] kt pt] (.Tuple [a, b] k2 pt2) pos) (s_parC i j true true fa fc) :=
  let ⟨_, p, r⟩ := ha; let ⟨_, p', r'⟩ := hb
  ⟨_, fun z => ps_par (fb.calm z) (by rw [fb.fo.hN z]; exact fb.fo.nd) (by rw [fb.fo.hN z]; exact hi) (by rw [fb.fo.hN z]; exact hj) hij (by rw [fb.sc z]; exact hx) (by rw [fb.sc z]; exact hy) (pa_cons (p z) (pa_cons (p' z) pa_nil (hs2 z)) (hs1 z)) (hw z) (hs z), rs_parFF hij r r'⟩
end
/-- how a method call of a built-in is written -/
structure Mw (X : ι → Cx) (o : Expr) (name : Str) (e : Expr) (apos cpos : Pos) : Prop where
  base : ∀ i, attributeBase o name (X i).env (eval o (X i).env) = eval o (X i).env
  few : ∀ i, ((backTo cpos (starEach [e] (X i).env)).all (fun x => !x.1) && (backToKw cpos (keywordEach [] (X i).env)).all (fun x => x.1.isSome) && decide (([e] : List Expr).length + ([] : List Keyword).length + (if ([] : List Keyword).isEmpty then 0 else 1) < 30)) = true
  line : (apos.endLine == cpos.line) = true
  star : ∀ i, starEach [e] (X i).env = (false, eval e (X i).env) :: starEach [] (X i).env
theorem pds_append (fo : Fo X G P w mg base k N W) (j : Nat) {yp : Pos} (hN : N[j]? = some y) (hv : ∀ i, Vis (X i).env.scope y) (h : PDE X G R W e fe) (m : Mw X (.Name y yp) "append" e apos cpos) (hs : ∀ i, swapsWith (.Call (.Attribute (.Name y yp) "append" apos) [e] [] cpos) none pos.line (X i).env = pure false)
    (hd : (y == ("__debug__" : Str)) = false := by decide) (hcd : (y == ("__classdict__" : Str)) = false := by decide) : PDS X G R W (.Expr (.Call (.Attribute (.Name y yp) "append" apos) [e] [] cpos) pos) (s_append j fe) :=
  let ⟨t, p, r⟩ := h
  ⟨tDrop (tBM G.K "list" rAppend (tVar j) (tCons t tNil)), fun i => ps_expr (by
    rw [← fo.hK i]
    exact pe_bm PySem.F.plainAttrs_list PySem.F.slot_list_append PySem.F.type_list_append mt_append (pe_var (by rw [fo.hN i]; exact hN) (hv i) hd hcd) (pa_cons (p i) pa_nil (m.star i)) (m.base i) (m.few i) m.line (m.star i) rfl) (hs i), rs_append r⟩
theorem pds_extend (fo : Fo X G P w mg base k N W) (j : Nat) {yp : Pos} (hN : N[j]? = some y) (hv : ∀ i, Vis (X i).env.scope y) (h : PDE X G R W e fe) (m : Mw X (.Name y yp) "extend" e apos cpos) (hs : ∀ i, swapsWith (.Call (.Attribute (.Name y yp) "extend" apos) [e] [] cpos) none pos.line (X i).env = pure false)
    (hd : (y == ("__debug__" : Str)) = false := by decide) (hcd : (y == ("__classdict__" : Str)) = false := by decide) : PDS X G R W (.Expr (.Call (.Attribute (.Name y yp) "extend" apos) [e] [] cpos) pos) (s_extend j fe) :=
  let ⟨t, p, r⟩ := h
  ⟨tDrop (tBM G.K "list" rExtend (tVar j) (tCons t tNil)), fun i => ps_expr (by
    rw [← fo.hK i]
    exact pe_bm PySem.F.plainAttrs_list PySem.F.slot_list_extend PySem.F.type_list_extend mt_extend (pe_var (by rw [fo.hN i]; exact hN) (hv i) hd hcd) (pa_cons (p i) pa_nil (m.star i)) (m.base i) (m.few i) m.line (m.star i) rfl) (hs i), rs_extend r⟩
theorem pds_pop (fb : Fb X G P w mg base k N W sc) (j i0 : Nat) {yp pos' : Pos} (hN : N[j]? = some x) (hx : Loc sc x) (hN2 : N[i0]? = some y) (hv : Vis sc y) (hij : i0 ≠ j)
    (hb : ∀ i, attributeBase (.Name y yp) "pop" (X i).env (eval (.Name y yp) (X i).env) = eval (.Name y yp) (X i).env) (hline : (apos.endLine == cpos.line) = true) (hs : ∀ i, swapsWith (.Call (.Attribute (.Name y yp) "pop" apos) [] [] cpos) (some (.Name x pos')) pos.line (X i).env = pure false)
    (hd : (y == ("__debug__" : Str)) = false := by decide) (hcd : (y == ("__classdict__" : Str)) = false := by decide) : PDS X G R W (.Assign [.Name x pos'] (.Call (.Attribute (.Name y yp) "pop" apos) [] [] cpos) pos) (s_pop j i0) :=
  ⟨tAsg (tBM0 G.K "list" rPop (tVar i0)) (gName j), fun i => ps_set (by rw [fb.fo.hN i]; exact fb.fo.nd) (by rw [fb.fo.hN i]; exact hN) (by rw [fb.sc i]; exact hx) (by
    rw [← fb.fo.hK i]
    exact pe_bm0 PySem.F.plainAttrs_list PySem.F.slot_list_pop PySem.F.type_list_pop mt_pop (pe_var (by rw [fb.fo.hN i]; exact hN2) (by rw [fb.sc i]; exact hv) hd hcd) (hb i) hline) (hs i) (.inl (fb.fn i x)), rs_pop hij⟩
theorem pds_setitem (fo : Fo X G P w mg base k N W) (j : Nat) {yp sp : Pos} (hN : N[j]? = some y) (hv : ∀ i, Vis (X i).env.scope y) (hi : PDE X G R W a fa) (h : PDE X G R W e fe)
    (ha : ∀ i v, assign (.Subscript (.Name y yp) a sp) (X i).env v = (do
      let ov ← holding [v] (eval (.Name y yp) (X i).env)
      let iv ← holding [v, ov] (eval a (X i).env)
      standAt sp
      holding [v, ov, iv] (setItem ov iv v)
      release [v, ov, iv] []))
    (hs : ∀ i, swapsWithSole [.Subscript (.Name y yp) a sp] e pos.line (X i).env = pure false) (hw : ∀ i, swappedStores [.Subscript (.Name y yp) a sp] e (X i).env = pure none) (h1 : ∀ i, (assignEach [.Subscript (.Name y yp) a sp] (X i).env).map (·.2) = [assign (.Subscript (.Name y yp) a sp) (X i).env])
    (hd : (y == ("__debug__" : Str)) = false := by decide) (hcd : (y == ("__classdict__" : Str)) = false := by decide) : PDS X G R W (.Assign [.Subscript (.Name y yp) a sp] e pos) (s_setitem j fa fe) :=
  let ⟨_, p, r⟩ := h; let ⟨_, p', r'⟩ := hi
  ⟨_, fun i => ps_asg (p i) (pg_sub (pe_var (by rw [fo.hN i]; exact hN) (hv i) hd hcd) (p' i) set_list (ha i)) (hs i) (hw i) (h1 i), rs_setitem r r'⟩
theorem pds_setattr (fo : Fo X G P w mg base k N W) (j : Nat) {nm f : Str} {C : Addr} {yp pos' : Pos} (hC : G.cls nm = some C) (c : Cls G.K C) (hn : NoAttr G.K C f) (hN : N[j]? = some y) (hv : ∀ i, Vis (X i).env.scope y) (h : PDE X G R W e fe) (hs : ∀ i, swapsWith e (some (.Attribute (.Name y yp) f pos')) pos.line (X i).env = pure false)
    (hd : (y == ("__debug__" : Str)) = false := by decide) (hcd : (y == ("__classdict__" : Str)) = false := by decide) : PDS X G R W (.Assign [.Attribute (.Name y yp) f pos'] e pos) (s_setattr j nm f fe) :=
  let ⟨t, p, r⟩ := h
  ⟨sFld G.K (tVar j) t f, fun i => by rw [← fo.hK i]; exact ps_fld (pe_var (by rw [fo.hN i]; exact hN) (hv i) hd hcd) (p i) (hs i), rs_setattr hC c hn r⟩
end

/-! ### an instance is made -/
/-- what __init__ leaves: the fields, or an error -/
def env0I (nm : Str) (n : Nat) (ds : List D) : Env := some (.ce (.ins nm [])) :: (ds.map (fun d => some (.im d)) ++ List.replicate (n - (ds.length + 1)) none)
def outI (nm : Str) (o : Option (Out × Row)) : Option (Except Exn (List (Str × D))) := match o with
  | some (.nx ρ, _) => (match ceAt ρ 0 with | some (.ins n fs) => if n = nm then some (.ok fs) else none | _ => none)
  | some (.er x _, _) => some (.error x)
  | _ => none
def fnI (nm : Str) (m n : Nat) (F : SF) : List D → Option (Except Exn (List (Str × D))) := fun ds => if ds.length + 1 = n then outI nm (F (env0I nm m ds) row0) else none
def spI (G : Gt) (nm : Str) (n : Nat) (F : List D → Option (Except Exn (List (Str × D)))) : Sp := fun vs H Q E => vs.length = n ∧ ∃ a vs' I ds r C dx, vs = .ref a :: vs' ∧ Ex I H ∧ I a = none ∧ G.cls nm = some C ∧ H a = some (.ins C dx []) ∧ Reps G I vs' ds ∧ F ds = some r ∧
  (match r with
  | .ok fs => ∀ I' H', Ex I I' → Ex I' H' → (∀ b o, H b = some o → b ≠ a → H' b = some o) → (∀ b, H b ≠ none → H' b ≠ none) → (∀ b, I' b ≠ none → I b ≠ none ∨ H b = none ∨ b = a) → I' a = none → (∃ dx' vsf, H' a = some (.ins C dx' vsf) ∧ RepF G I' vsf fs) → Q .non H'
  | .error x => ∀ c dd I' H', Ex I I' → Ex I' H' → (∀ b o, H b = some o → b ≠ a → H' b = some o) → (∀ b, H b ≠ none → H' b ≠ none) → (∀ b, I' b ≠ none → I b ≠ none ∨ H b = none ∨ b = a) → XRep G I' H' x c dd → E c dd H')
theorem slots_startI {G : Gt} {nm : Str} {a C dx : Addr} {I H : Hp} {N : List Str} {vs : List V} {ds : List D} (r : Reps G I vs ds) (hC : G.cls nm = some C) (hi : I a = none) (h : H a = some (.ins C dx [])) : Slots G none I H (L2.start N (.ref a :: vs)) (env0I nm N.length ds) := by
  have key : ∀ (i : Nat) (s : Sl), (env0I nm N.length ds)[i]? = some (some s) → (i = 0 ∧ s = .ce (.ins nm [])) ∨ ∃ j d, i = j + 1 ∧ ds[j]? = some d ∧ s = .im d := fun i s e => by
    unfold env0I at e
    cases i with
    | zero => simp at e; exact .inl ⟨rfl, e.symm⟩
    | succ i =>
      rw [List.getElem?_cons_succ] at e
      right
      by_cases hi : i < ds.length
      · rw [List.getElem?_append_left (by simpa using hi), List.getElem?_map] at e
        rw [List.getElem?_eq_getElem hi] at e
        cases e; exact ⟨i, _, rfl, List.getElem?_eq_getElem hi, rfl⟩
      · rw [List.getElem?_append_right (by simpa using hi)] at e
        rw [List.getElem?_replicate] at e
        split at e <;> cases e
  refine ⟨?_, fun i s e => ?_, fun i j p d e e1 e2 => ?_⟩
  · unfold env0I L2.start
    simp [r.length]
  · rcases key i s e with ⟨rfl, rfl⟩ | ⟨j, d, rfl, e1, rfl⟩
    · exact ⟨.ref a, by unfold L2.start; simp, a, rfl, hi, by simp, C, dx, [], hC, h, .nil⟩
    · obtain ⟨v, e2, rv⟩ := r.get e1
      have hi : j < vs.length := (List.getElem?_eq_some_iff.mp e2).1
      refine ⟨v, ?_, rv⟩
      unfold L2.start
      rw [List.getElem?_append_left (by simpa using hi), List.getElem?_map, List.getElem?_cons_succ, e2]
      rfl
  · rcases key i _ e1 with ⟨rfl, _⟩ | ⟨_, _, _, _, h⟩
    · rcases key j _ e2 with ⟨rfl, _⟩ | ⟨_, _, _, _, h⟩
      · exact fun _ _ => rfl
      · cases h
    · cases h
section
variable {P : Program} {w : World} {G : Gt} {mg : Str → Option Value} {base : Heap} {k : Nat}
/-- an __init__ -/
theorem fnInit {x qual nm : Str} {st : Stmt} {f : Addr} {fd : FuncData} {N ps : List Str} {F : SF} (Fn : Fun G.K x qual st f fd) (S : FnScope N ps (defScope st))
    (hb : ∀ (cdv : Value) (A : Around) (outer : List PySem.Env) (s : Shared) (H : Hp) (E : XK), Fb (bodyX P w G mg base N qual st f cdv A outer s H E) G P w mg base k N (WD E) (defScope st) → PDB (bodyX P w G mg base N qual st f cdv A outer s H E) G none (WD E) (defBody st) F) (gw : G.w = w := by rfl) :
    FnOk P w G.K mg base (L2.CX P w) (k + 1) f fd ps (spI G nm ps.length (fnI nm N.length ps.length F)) := by
  refine Fn.okX S (fun vs H Q E h => h.1) fun cdv A outer s H vs Q E hr h => ?_
  obtain ⟨hl, a, vs', I, ds, r, C, dx, rfl, e, hi, hC, hH, rs, hF, hp⟩ := h
  obtain ⟨t, pt, rt⟩ := hb cdv A outer s H E (fb_body S hr gw)
  refine ⟨t, pt (), ?_⟩
  unfold fnI at hF
  split at hF
  · have ss : SS G none [a] I H I H (L2.start N (.ref a :: vs')) (env0I nm N.length ds) row0 := ⟨⟨Ex.refl _, e, fun _ _ h _ _ => h, fun _ h => h, fun _ h => .inl h⟩, trivial, slots_startI rs hC hi hH, fun i d p e1 e2 => by
      unfold env0I at e1
      cases i with
      | zero =>
        unfold L2.start at e2
        simp at e2
        subst e2
        exact .inr (by simp)
      | succ i =>
        rw [List.getElem?_cons_succ] at e1
        by_cases hi : i < ds.length
        · rw [List.getElem?_append_left (by simpa using hi), List.getElem?_map, List.getElem?_eq_getElem hi] at e1
          cases e1
        · rw [List.getElem?_append_right (by simpa using hi), List.getElem?_replicate] at e1
          split at e1 <;> cases e1⟩
    unfold outI at hF
    split at hF
    · rename_i ρ' s' q
      split at hF
      · rename_i n fs q2
        split at hF
        · rename_i hn
          subst hn
          cases hF
          refine rt [a] I H I H _ _ row0 ss _ _ _ q fun σ' I' H' x => ?_
          obtain ⟨p, b1, b2, b3, b4, C', dx', vsf, b5, b6, b7⟩ := ce_at x q2
          have hpa : p = a := by
            rcases x.cf 0 _ p b1 b2 with ⟨_, z⟩ | z
            · cases z
            · simpa using z
          subst hpa
          rw [hC] at b5; cases b5
          exact hp I' H' x.bs.ii x.bs.ih (fun b o h n => x.bs.fr b o h (by simp) (by simpa using n)) x.bs.tr (fun b z => (x.bs.nw b z).imp id fun y => y.imp id fun y => by simpa using y) b3 ⟨dx', vsf, b6, b7⟩
        · cases hF
      · cases hF
    · rename_i y ρ' s' q
      cases hF
      refine rt [a] I H I H _ _ row0 ss _ _ _ q fun c dd σ' I' H' x xr => ?_
      exact hp c dd I' H' x.bs.ii x.bs.ih (fun b o h n => x.bs.fr b o h (by simp) (by simpa using n)) x.bs.tr (fun b z => (x.bs.nw b z).imp id fun y => y.imp id fun y => by simpa using y) xr
    · cases hF
  · cases hF
end
end PL
set_option Elab.async false
set_option linter.all false
set_option maxRecDepth 100000
set_option maxHeartbeats 4000000
/-! Instances made; errors raised. -/
namespace PL
open PySem PySem.Spec PyProof.Rows L2
open Evl (Ex)
/-! ### C(..), what is raised wished for at the slots -/
def tMakeS (C : Addr) (sp : Sp) (E : L2.St → XK) (t : TA) : TE := fun σ H Q => t σ H fun vs H1 => ∀ x dx, H1 x = none → H1 dx = none → dx ≠ x →
  sp (.ref x :: vs) (upd (upd H1 dx (.own x)) x (.ins C dx [])) (fun v H2 => v = .non ∧ Q (.ref x) H2) (E σ)
section
variable {X : Cx} {CX : CXT} {k : Nat} {f C : Addr} {fd : FuncData} {ps : List Str} {sp : Sp} {E : L2.St → XK} {x : Str} {p pos : Pos} {e : Expr} {es : List Expr} {t : TA}
theorem run_makeS {pins : List (Addr × Obj)} {σ : L2.St} {H : Hp} {s : Shared} {Q : VK} {us : List Value} {vs : List V} (M : Mk X.K C f) (F : FnOk X.prog X.w X.K X.mg X.base CX k f fd ps sp) (hr : Room (k + 1) X.A) (hb : Binds X.K fd ps [])
    (hx : PassesAt CX X σ (E σ)) (I : Inv X pins σ H s) (r : Vals vs us)
    (h : ∀ x dx, H x = none → H dx = none → dx ≠ x → sp (.ref x :: vs) (upd (upd H dx (.own x)) x (.ins C dx [])) (fun v H2 => v = .non ∧ Q (.ref x) H2) (E σ)) :
    wpAny (model X.prog X.w) X.A (call (.ref C) us) (EP X pins σ Q) X.xe s := by
  have hq := h (s.heap.objs.size + 1) s.heap.objs.size (I.hok.fresh (Nat.le_succ _)) (I.hok.fresh (Nat.le_refl _)) (Nat.ne_of_lt (Nat.lt_succ_self _))
  have I2 := Inv.made (C := C) I
  have r2 : Vals (V.ref (s.heap.objs.size + 1) :: vs) (Value.ref (s.heap.objs.size + 1) :: us) := .cons rfl r
  have hl : (Value.ref (s.heap.objs.size + 1) :: us).length = ps.length := by
    have e := r2.length
    rw [F.len _ _ _ _ hq] at e
    exact e.symm
  have b := hb _ (Value.ref (s.heap.objs.size + 1) :: us) I2.kIn (by rw [List.append_nil]; exact hl)
  rw [List.append_nil] at b
  refine wpAny_call (make_map (f := f) I.kIn M.makes M.init (beq_iff_eq.mp M.fn) (codeAny_mono (F.run _ X.stack _ _ ⟨Value.ref (s.heap.objs.size + 1) :: us, []⟩ (Value.ref (s.heap.objs.size + 1) :: us) _ _ (E σ) (hr.make C us [])
    (I2.env0.make C us []) b r2 hq) fun r s' hq' => ?_))
  cases r with
  | error e => exact hx pins _ _ e s' I2 hq'
  | ok fl =>
    cases fl with
    | ret u =>
      obtain ⟨v, H', I3, rv, ev, q3⟩ := I2.after hq'
      subst ev
      exact ⟨rv, ⟨V.ref (s.heap.objs.size + 1), H', I3, rfl, q3⟩⟩
    | next => exact False.elim hq'
    | brk => exact False.elim hq'
    | cont => exact False.elim hq'
theorem pe_makeS (M : Mk X.K C f) (F : FnOk X.prog X.w X.K X.mg X.base CX k f fd ps sp) (hr : Room (k + 1) X.A) (hg : Gl X x) (hm : X.mg x = some (.ref C)) (hb : Binds X.K fd ps []) (hx : ∀ σ, PassesAt CX X σ (E σ))
    (ha : PA X (e :: es) t) (hdb : (x == ("__debug__" : Str)) = false := by decide) (he : starEach (e :: es) X.env = (false, eval e X.env) :: starEach es X.env := by rfl) (hpl : (backTo pos (starEach es X.env)).any (·.1) = false := by rfl) :
    PE X (.Call (.Name x p) (e :: es) [] pos) (tMakeS C sp E t) := by
  refine ⟨fun pins s σ H Q I h => ?_⟩
  refine wpAny_Call_Name_kw (ld_glob I hg hm ?_ hdb)
  refine PySem.W.callWith_K (h₀ := X.base) I.ok.mod.kin M.kp (thn (ha.run pos pins s σ H _ I h) fun us s1 ⟨vs, H1, I1, r, q⟩ => ⟨I1.kIn, ?_⟩) he hpl
  exact run_makeS M F hr hb (hx σ) I1 r q
/-- X() of an own class of errors without an __init__ -/
theorem pmk_own0 {bmB : List Value} {B newId initId : String} (F : ExcBaseFacts B newId initId bmB) (q : PySem.W.excIn X.K C bmB newId = true) (gC : X.mg x = some (.ref C)) (kC : PySem.W.keepIn X.K (.ref C) = true) (r : Raises X (.ref C)) (hg : Gl X x)
    (hdb : (x == ("__debug__" : Str)) = false := by decide) : PMk X (.Call (.Name x p) [] [] pos) (fun _ H Q => Q (.ref C) none H) := by
  intro pins s σ H Q I h
  refine wpAny_Call_Name_kw (ld_glob I hg gC ?_ hdb)
  refine PySem.W.callWith_K0 I.kIn kC ?_
  obtain ⟨bm, N, nm, qn, bs, hdct, sn, sub, ab, col, dd, k0, k1, k2, k3, k5, mN, hC, hN, hni, T⟩ := exc_obj I.kIn q
  refine wpAny_call_exc_subT F T hC hN hni (fun h' e hm => ?_) (by show 0 ≤ sizeLine; rw [sizeLine_eq]; omega)
  exact mk_of I hm r h (I.hok.gone hm.new)
end

def e_make (nm : Str) (Fi : List D → Option (Except Exn (List (Str × D)))) (fa : AF) : EF := fun ρ s => bA (fa ρ s) .er fun ds s1 => match Fi ds with
  | some (.ok fs) => some (.ok (.ins nm fs), s1)
  | some (.error x) => some (.er x, s1)
  | none => none
def s_raise0 (nm : Str) : SF := fun ρ s => some (.er ⟨nm, []⟩ ρ, s)
def s_raise1 (nm f : Str) (fe : EF) : SF := fun ρ s => bE (fe ρ s) (.er · ρ) fun d s1 => some (.er ⟨nm, [(f, d)]⟩ ρ, s1)
def s_raise2 (nm f g : Str) (fa fb : EF) : SF := fun ρ s => bE (fa ρ s) (.er · ρ) fun d s1 => bE (fb ρ s1) (.er · ρ) fun z s2 => some (.er ⟨nm, [(f, d), (g, z)]⟩ ρ, s2)
/-- an __init__ that keeps one field, two -/
def spX1 (K : PySem.W.Frag) (f : Str) : Sp := fun vs H Q _ => ∃ a C y, vs = [.ref a, y] ∧ OexC K C ∧ PySem.W.findIn K (.ref C) f = some none ∧ H a = some (exo a C none) ∧ ∀ dx, H dx = none → dx ≠ a → Q .non (upd (upd H dx (exd dx [(f, y)])) a (exo a C (some dx)))
def spX2 (K : PySem.W.Frag) (f g : Str) : Sp := fun vs H Q _ => ∃ a C y z, vs = [.ref a, y, z] ∧ OexC K C ∧ PySem.W.findIn K (.ref C) f = some none ∧ PySem.W.findIn K (.ref C) g = some none ∧ H a = some (exo a C none) ∧ ∀ dx, H dx = none → dx ≠ a → Q .non (upd (upd (upd H dx (exd dx [(f, y)])) a (exo a C (some dx))) dx (exd dx [(g, z), (f, y)]))
section
variable {P : Program} {w : World} {G : Gt} {mg : Str → Option Value} {base : Heap} {k : Nat}
theorem fnX1 {x qual fl : Str} {st : Stmt} {f : Addr} {fd : FuncData} {N : List Str} (Fn : Fun G.K x qual st f fd) (S : FnScope N ["self", fl] (defScope st))
    (hb : ∀ (cdv : Value) (A : Around) (outer : List PySem.Env) (s : Shared) (H : Hp) (E : XK), PSs (cxOf (L2.CX P w) P w G.K mg base N qual (defScope st) f cdv A outer s H E) (defBody st) (tOst G.K fl (tVar 0) (tVar 1))) :
    FnOk P w G.K mg base (L2.CX P w) (k + 1) f fd ["self", fl] (spX1 G.K fl) := by
  refine Fn.okX S (fun vs H Q E ⟨a, C, y, h, _⟩ => by rw [h]; rfl) fun cdv A outer s H vs Q E hr h => ⟨_, hb cdv A outer s H E, ?_⟩
  obtain ⟨a, C, y, rfl, h1, h2, h3, h4⟩ := h
  exact ⟨y, rfl, .ref a, rfl, a, C, rfl, h1, h2, .inl ⟨h3, fun dx d1 d2 => h4 dx d1 d2⟩⟩
theorem fnX2 {x qual fl gl : Str} {st : Stmt} {f : Addr} {fd : FuncData} {N : List Str} (Fn : Fun G.K x qual st f fd) (S : FnScope N ["self", fl, gl] (defScope st))
    (hb : ∀ (cdv : Value) (A : Around) (outer : List PySem.Env) (s : Shared) (H : Hp) (E : XK), PSs (cxOf (L2.CX P w) P w G.K mg base N qual (defScope st) f cdv A outer s H E) (defBody st) (tSeq (tOst G.K fl (tVar 0) (tVar 1)) (tOst G.K gl (tVar 0) (tVar 2)))) :
    FnOk P w G.K mg base (L2.CX P w) (k + 1) f fd ["self", fl, gl] (spX2 G.K fl gl) := by
  refine Fn.okX S (fun vs H Q E ⟨a, C, y, z, h, _⟩ => by rw [h]; rfl) fun cdv A outer s H vs Q E hr h => ⟨_, hb cdv A outer s H E, ?_⟩
  obtain ⟨a, C, y, z, rfl, h1, h2, h2', h3, h4⟩ := h
  refine ⟨y, rfl, .ref a, rfl, a, C, rfl, h1, h2, .inl ⟨h3, fun dx d1 d2 => ?_⟩⟩
  refine ⟨z, rfl, .ref a, rfl, a, C, rfl, h1, h2', .inr ⟨dx, _, upd_same, ?_, by show 1 ≤ 900; omega, h4 dx d1 d2⟩⟩
  rw [upd_ne d2]; exact upd_same
end
section
variable {G : Gt} {R : Option Addr} {W : WX}
theorem re_make {n : Nat} {nm : Str} {C : Addr} {Fi : List D → Option (Except Exn (List (Str × D)))} {ta : TA} {fa : AF} (hC : G.cls nm = some C) (hn : ∀ ds r, Fi ds = some r → ds.length + 1 = n) (ha : RA G R W ta fa) : RE G R W (tMakeS C (spI G nm n Fi) (WE W) ta) (e_make nm Fi fa) := fun I H σ ρ s e ro sl Q res s' hf hp => by
  refine ra_seq ha e ro sl hf (fun x ex => by subst ex; exact hp) fun ds s1 h1 vs I1 H1 st1 ro1 sl1 rv => ?_
  intro x dx hx hdx hne
  have hI : I1 x = none := ex_none st1.ih hx
  have hI2 : I1 dx = none := ex_none st1.ih hdx
  have eI : Ex I1 (upd (upd H1 dx (.own x)) x (.ins C dx [])) := fun b o q => by
    rw [upd_ne (fun z => by subst z; rw [hI] at q; cases q), upd_ne (fun z => by subst z; rw [hI2] at q; cases q)]
    exact st1.ih b o q
  have old : ∀ b o, H1 b = some o → (upd (upd H1 dx (.own x)) x (.ins C dx [])) b = some o ∧ b ≠ x := fun b o q => by
    have n1 : b ≠ x := fun z => by subst z; rw [hx] at q; cases q
    have n2 : b ≠ dx := fun z => by subst z; rw [hdx] at q; cases q
    exact ⟨by rw [upd_ne n1, upd_ne n2]; exact q, n1⟩
  have back : ∀ b, (upd (upd H1 dx (.own x)) x (.ins C dx [])) b = none → H1 b = none := fun b q => by
    cases z : H1 b with
    | none => rfl
    | some o => rw [(old b o z).1] at q; cases q
  split at h1
  · rename_i fs hr
    cases h1
    refine ⟨by rw [List.length_cons, rv.length]; exact hn _ _ hr, x, vs, I1, ds, _, C, dx, rfl, eI, hI, hC, upd_same, rv, hr, ?_⟩
    intro I' H' e1 e2 fr tr nw hn' ⟨dx', vsf, hH', rf⟩
    refine ⟨rfl, ?_⟩
    have st : Step none I1 H1 (upd I' x (.ins C dx' vsf)) H' := ⟨e1.trans (Ex.new hn'), ex_frz e2 hH', fun b o q _ => fr b o (old b o q).1 (old b o q).2, fun b q => ?_, fun b q => ?_⟩
    · exact hp _ _ H' (st1.trans st.row) (ro1.step0 st) (.ins hC upd_same (rf.mono (Ex.new hn')))
    · cases z : H1 b with
      | none => exact absurd z q
      | some o => exact tr b (by rw [(old b o z).1]; simp)
    · by_cases y : b = x
      · subst y; exact .inr hx
      · rw [upd_ne y] at q
        rcases nw b q with h | h | h
        · exact .inl h
        · exact .inr (back b h)
        · exact absurd h y
  · rename_i y hr
    cases h1
    refine ⟨by rw [List.length_cons, rv.length]; exact hn _ _ hr, x, vs, I1, ds, _, C, dx, rfl, eI, hI, hC, upd_same, rv, hr, ?_⟩
    intro c dd I' H' e1 e2 fr tr nw xr
    have st : Step none I1 H1 I' H' := ⟨e1, e2, fun b o q _ => fr b o (old b o q).1 (old b o q).2, fun b q => ?_, fun b q => ?_⟩
    · exact hp c dd I' H' (st1.trans st.row) (ro1.step0 st) xr
    · cases z : H1 b with
      | none => exact absurd z q
      | some o => exact tr b (by rw [(old b o z).1]; simp)
    · rcases nw b q with h | h | h
      · exact .inl h
      · exact .inr (back b h)
      · subst h; exact .inr hx
  · cases h1
theorem fnI_len {nm : Str} {m n : Nat} {F : SF} : ∀ ds r, fnI nm m n F ds = some r → ds.length + 1 = n := fun ds r h => by
  unfold fnI at h
  split at h
  · assumption
  · cases h
/-- the error's own dict is new -/
theorem xd_new {s : Row} {I H : Hp} {p : Addr} {fs : List (Str × V)} (e : Ex I H) (ro : RowOk G R s I H) (h : H p = none) : Step R I H I (upd H p (.xd fs)) ∧ RowOk G R s I (upd H p (.xd fs)) := let n := new_cell (o := .xd fs) e ro h; ⟨n.1, n.2.1⟩
theorem rs_raise0 {nm : Str} {C : Addr} (hC : G.cls nm = some C) : RS G R W (fun _ σ H => W (.ref C) none σ H) (s_raise0 nm) := fun ps I0 H0 I H σ ρ s x Dn o s' hf hp => by
  have hf' : some (Out.er ⟨nm, []⟩ ρ, s) = some (o, s') := hf
  cases hf'
  exact hp (.ref C) none σ I H x ⟨C, hC, rfl, .inl ⟨rfl, rfl⟩⟩
theorem rs_raise1 {nm f : Str} {C : Addr} {te : TE} {fe : EF} (hC : G.cls nm = some C) (T : OexC G.K C) (hn : PySem.W.findIn G.K (.ref C) f = some none) (he : RE G R W te fe) : RS G R W (fun _ σ H => tMkO C (spX1 G.K f) [] (tCons te tNil) σ H fun cls d H' => W cls d σ H') (s_raise1 nm f fe) := fun ps I0 H0 I H σ ρ s x Dn o s' hf hp => by
  refine rs_eval he x hf hp fun d s1 h1 v I1 H1 st1 x1 rv => ?_
  cases h1
  refine ⟨by show 1 ≤ 1000; omega, fun a ha => ⟨a, C, v, rfl, T, hn, upd_same, fun dx hdx hne => ⟨rfl, dx, [(f, v)], ?_⟩⟩⟩
  have hdx' : H1 dx = none := by rw [upd_ne hne] at hdx; exact hdx
  refine ⟨upd_same, by rw [upd_ne hne]; exact upd_same, hdx', ?_⟩
  have eH : upd (L2.del (upd (upd (upd H1 a (exo a C none)) dx (exd dx [(f, v)])) a (exo a C (some dx))) a) dx (.xd [(f, v)]) = upd H1 dx (.xd [(f, v)]) := by
    funext b
    by_cases h1 : b = dx
    · subst h1; rw [upd_same, upd_same]
    · rw [upd_ne h1, upd_ne h1]
      by_cases h2 : b = a
      · subst h2; rw [del_same, ha]
      · rw [del_ne h2, upd_ne h2, upd_ne h1, upd_ne h2]
  rw [eH]
  obtain ⟨n1, n2⟩ := xd_new (fs := [(f, v)]) x1.bs.ih x1.ro hdx'
  refine hp (.ref C) (some dx) σ I1 _ (x1.step n1 n2) ⟨C, hC, rfl, .inr ⟨dx, _, rfl, upd_same, fun g d2 hg => ?_⟩⟩
  by_cases hgf : g = f
  · subst hgf
    have e1 : List.lookup g [(g, d)] = some d := by simp [List.lookup]
    rw [e1] at hg; cases hg
    exact ⟨v, by simp [List.lookup], rv⟩
  · have hb : (g == f) = false := by simpa using hgf
    simp [List.lookup, hb] at hg
theorem rs_raise2 {nm f g : Str} {C : Addr} {ta tb : TE} {fa fb : EF} (hC : G.cls nm = some C) (T : OexC G.K C) (hn : PySem.W.findIn G.K (.ref C) f = some none) (hn2 : PySem.W.findIn G.K (.ref C) g = some none) (hfg : g ≠ f) (ha : RE G R W ta fa) (hb : RE G R W tb fb) : RS G R W (fun _ σ H => tMkO C (spX2 G.K f g) [] (tCons ta (tCons tb tNil)) σ H fun cls d H' => W cls d σ H') (s_raise2 nm f g fa fb) := fun ps I0 H0 I H σ ρ s x Dn o s' hf hp => by
  refine rs_eval ha x hf hp fun d s1 h1 v I1 H1 st1 x1 rv => ?_
  refine rs_eval hb x1 h1 hp fun d2 s2 h2 u I2 H2 st2 x2 ru => ?_
  cases h2
  refine ⟨by show 2 ≤ 1000; omega, fun a ha => ⟨a, C, v, u, rfl, T, hn, hn2, upd_same, fun dx hdx hne => ⟨rfl, dx, [(g, u), (f, v)], ?_⟩⟩⟩
  have hdx' : H2 dx = none := by rw [upd_ne hne] at hdx; exact hdx
  refine ⟨by rw [upd_ne (Ne.symm hne)]; exact upd_same, upd_same, hdx', ?_⟩
  have eH : upd (L2.del (upd (upd (upd (upd H2 a (exo a C none)) dx (exd dx [(f, v)])) a (exo a C (some dx))) dx (exd dx [(g, u), (f, v)])) a) dx (.xd [(g, u), (f, v)]) = upd H2 dx (.xd [(g, u), (f, v)]) := by
    funext b
    by_cases h1 : b = dx
    · subst h1; rw [upd_same, upd_same]
    · rw [upd_ne h1, upd_ne h1]
      by_cases h2 : b = a
      · subst h2; rw [del_same, ha]
      · rw [del_ne h2, upd_ne h1, upd_ne h2, upd_ne h1, upd_ne h2]
  rw [eH]
  obtain ⟨n1, n2⟩ := xd_new (fs := [(g, u), (f, v)]) x2.bs.ih x2.ro hdx'
  refine hp (.ref C) (some dx) σ I2 _ (x2.step n1 n2) ⟨C, hC, rfl, .inr ⟨dx, _, rfl, upd_same, fun h e hh => ?_⟩⟩
  by_cases hgf : h = f
  · subst hgf
    have e1 : List.lookup h [(h, d), (g, d2)] = some d := by simp [List.lookup]
    rw [e1] at hh; cases hh
    have hb : (h == g) = false := by simpa using Ne.symm hfg
    exact ⟨v, by simp [List.lookup, hb], rv.mono st2.ii⟩
  · have hb : (h == f) = false := by simpa using hgf
    by_cases hg : h = g
    · subst hg
      have e1 : List.lookup h [(f, d), (h, d2)] = some d2 := by simp [List.lookup, hb]
      rw [e1] at hh; cases hh
      exact ⟨u, by simp [List.lookup], ru⟩
    · have hb2 : (h == g) = false := by simpa using hg
      simp [List.lookup, hb, hb2] at hh
variable {ι : Type} {X : ι → Cx} {P : Program} {w : World} {mg : Str → Option Value} {base : Heap} {k j n : Nat} {N : List Str} {sc : Scope} {e a b : Expr} {es : List Expr} {fa : AF} {fe fx fy : EF} {f : Addr} {fd : FuncData} {ps : List Str} {x : Str} {p pos pos2 : Pos}
theorem pd_make (fo : Fo X G P w mg base k N W) {nm : Str} {C : Addr} {Fi : List D → Option (Except Exn (List (Str × D)))} (hC : G.cls nm = some C) (M : Mk G.K C f) (Fn : FnOk P w G.K mg base (L2.CX P w) j f fd ps (spI G nm n Fi)) (hn : ∀ ds r, Fi ds = some r → ds.length + 1 = n) (hj : j + 1 ≤ k) (hm : mg x = some (.ref C)) (hb : Binds G.K fd ps [])
    (hg : ∀ i, Gl (X i) x) (ha : PDA X G R W (e :: es) fa) (he : ∀ i, starEach (e :: es) (X i).env = (false, eval e (X i).env) :: starEach es (X i).env) (hpl : ∀ i, (backTo pos (starEach es (X i).env)).any (·.1) = false) (hdb : (x == ("__debug__" : Str)) = false := by decide) :
    PDE X G R W (.Call (.Name x p) (e :: es) [] pos) (e_make nm Fi fa) :=
  let ⟨_, pa, ra⟩ := ha
  ⟨_, fun i => pe_makeS (E := WE W) (by rw [fo.hK i]; exact M) (fo.fnOk Fn i) ((fo.room i).mono hj) (hg i) (by rw [fo.hmg i]; exact hm) (by rw [fo.hK i]; exact hb) (fun σ => passAt (fo.tk i) σ) (pa i) hdb (he i) (hpl i), re_make hC hn ra⟩
/-- what the text must say of an own class of errors -/
structure ExF (G : Gt) (mg : Str → Option Value) (nm : Str) (C : Addr) : Prop where
  cls : G.cls nm = some C
  mgC : mg nm = some (.ref C)
  kC : PySem.W.keepIn G.K (.ref C) = true
  ex : PySem.W.subIn G.K (.ref C) (.type "BaseException") = some true
  ty : PySem.W.typeIn G.K (.ref C) = some (.type "type")
theorem pds_raise0 (fb : Fb X G P w mg base k N W sc) {nm : Str} {C : Addr} (T : ExF G mg nm C) (hx : PySem.W.excIn G.K C [.type "ValueError", .type "Exception", .type "BaseException", .type "object"] "ValueError.__new__" = true) (hg : ∀ i, Gl (X i) nm) (hdb : (nm == ("__debug__" : Str)) = false := by decide) :
    PDS X G R W (.Raise (some (.Call (.Name nm p) [] [] pos)) none pos2) (s_raise0 nm) :=
  ⟨_, fun i => ps_raise (fb.calm i) (fb.fo.tk i) (pmk_own0 PySem.F.excBase_ValueError (by rw [fb.fo.hK i]; exact hx) (by rw [fb.fo.hmg i]; exact T.mgC) (by rw [fb.fo.hK i]; exact T.kC) (raises_own (by rw [fb.fo.hK i]; exact T.ex) (by rw [fb.fo.hK i]; exact T.ty)) (hg i) hdb), rs_raise0 T.cls⟩
/-- .. with an __init__ -/
structure ExI (G : Gt) (C fI : Addr) : Prop where
  oex : OexC G.K C
  iC : PySem.W.findIn G.K (.ref C) "__init__" = some (some (.ref fI))
  tI : PySem.W.typeIn G.K (.ref fI) = some (.type "function")
theorem pds_raise1 (fb : Fb X G P w mg base k N W sc) {nm fl : Str} {C : Addr} (T : ExF G mg nm C) (T2 : ExI G C f) (hn : PySem.W.findIn G.K (.ref C) fl = some none) (Fn : FnOk P w G.K mg base (L2.CX P w) j f fd ps (spX1 G.K fl)) (hj : j + 1 ≤ k) (hb : Binds G.K fd ps []) (hg : ∀ i, Gl (X i) nm) (h : PDE X G R W a fe)
    (hs : ∀ i, starEach [a] (X i).env = (false, eval a (X i).env) :: starEach [] (X i).env) (hpl : ∀ i, (backTo pos (starEach [] (X i).env)).any (·.1) = false) (hdb : (nm == ("__debug__" : Str)) = false := by decide) :
    PDS X G R W (.Raise (some (.Call (.Name nm p) [a] [] pos)) none pos2) (s_raise1 nm fl fe) :=
  let ⟨_, pe, re⟩ := h
  ⟨_, fun i => ps_raise (fb.calm i) (fb.fo.tk i) (pmk_oex (by rw [fb.fo.hK i]; exact T2.oex) (by rw [fb.fo.hK i]; exact T2.iC) (by rw [fb.fo.hK i]; exact T2.tI) (fb.fo.fnOk Fn i) ((fb.fo.room i).mono hj) (by rw [fb.fo.hK i]; exact hb) .nil passL (hg i) (by rw [fb.fo.hmg i]; exact T.mgC) (pa_cons (pe i) pa_nil (hs i)) hdb (hs i) (hpl i)), rs_raise1 T.cls T2.oex hn re⟩
theorem pds_raise2 (fb : Fb X G P w mg base k N W sc) {nm fl gl : Str} {C : Addr} (T : ExF G mg nm C) (T2 : ExI G C f) (hn : PySem.W.findIn G.K (.ref C) fl = some none) (hn2 : PySem.W.findIn G.K (.ref C) gl = some none) (hfg : gl ≠ fl) (Fn : FnOk P w G.K mg base (L2.CX P w) j f fd ps (spX2 G.K fl gl)) (hj : j + 1 ≤ k) (hb : Binds G.K fd ps []) (hg : ∀ i, Gl (X i) nm) (h : PDE X G R W a fx) (h' : PDE X G R W b fy)
    (hs : ∀ i, starEach [a, b] (X i).env = (false, eval a (X i).env) :: starEach [b] (X i).env) (hs2 : ∀ i, starEach [b] (X i).env = (false, eval b (X i).env) :: starEach [] (X i).env) (hpl : ∀ i, (backTo pos (starEach [b] (X i).env)).any (·.1) = false) (hdb : (nm == ("__debug__" : Str)) = false := by decide) :
    PDS X G R W (.Raise (some (.Call (.Name nm p) [a, b] [] pos)) none pos2) (s_raise2 nm fl gl fx fy) :=
  let ⟨_, pe, re⟩ := h; let ⟨_, pe', re'⟩ := h'
  ⟨_, fun i => ps_raise (fb.calm i) (fb.fo.tk i) (pmk_oex (by rw [fb.fo.hK i]; exact T2.oex) (by rw [fb.fo.hK i]; exact T2.iC) (by rw [fb.fo.hK i]; exact T2.tI) (fb.fo.fnOk Fn i) ((fb.fo.room i).mono hj) (by rw [fb.fo.hK i]; exact hb) .nil passL (hg i) (by rw [fb.fo.hmg i]; exact T.mgC) (pa_cons (pe i) (pa_cons (pe' i) pa_nil (hs2 i)) (hs i)) hdb (hs i) (hpl i)), rs_raise2 T.cls T2.oex hn hn2 hfg re re'⟩
end
end PL
set_option Elab.async false
set_option linter.all false
set_option maxRecDepth 100000
set_option maxHeartbeats 4000000
/-! try, with several clauses that name their error. -/
namespace PL
open PySem PySem.Spec PyProof.Rows L2
open Evl (Ex)

/-! ### the walk -/
structure Cl where
  c : Value
  i : Nat
  ts : Addr → Value → Option Addr → TS
/-- the ends behind a suite: slot i is empty again -/
def unS (i : Nat) (D : Ends) : Ends := ⟨fun σ H => D.nx (σ.set i none) H, D.rt, fun σ H => D.bk (σ.set i none) H, fun σ H => D.ct (σ.set i none) H⟩
def wCls (K : PySem.W.Frag) (Wo : WX) (D : Ends) : List Cl → WX
  | [] => Wo
  | q :: r => fun cls d σ H => ∃ b, PySem.W.exmOne K cls q.c = some b ∧ (b = true → ∀ a, H a = none → q.ts a cls d (unS q.i D) (σ.set q.i (some (.ref a))) H) ∧ (b = false → wCls K Wo D r cls d σ H)
/-- one clause as it is written -/
structure ClOk (X : Cx) (q : Cl) (x n : Str) (suite : List Stmt) : Prop where
  at_ : X.N[q.i]? = some n
  loc : X.env.kindOf n = some .local
  nm : Names X x q.c
  su : ∀ (a : Addr) (oe : Obj) (cls : Value) (d : Option Addr) (pn : List (Addr × Obj)), Zc cls d oe → (∃ vs, oe.data = .fields vs) → PSs (X.suite a ((a, oe) :: pn)) suite (q.ts a cls d)
inductive ClsOk (X : Cx) : List ExceptHandler → List Cl → Prop
  | nil : ClsOk X [] []
  | cons {q : Cl} {x n : Str} {b : Stmt} {suite : List Stmt} {np p : Pos} {hds : List ExceptHandler} {l : List Cl} (h : ClOk X q x n (b :: suite)) (r : ClsOk X hds l) : ClsOk X (.ExceptHandler (some (.Name x np)) (some n) (b :: suite) p :: hds) (q :: l)
section
variable {X : Cx} {body : List Stmt} {h₀ : ExceptHandler} {hds : List ExceptHandler} {l : List Cl} {pos : Pos} {tb : WX → TS} {Wo : WX}
/-- what is known where the clauses are gone through: the error at a, of B's ground, flies over what is tracked -/
structure Fly (X : Cx) (pins : List (Addr × Obj)) (σ : L2.St) (H : Hp) (B : Heap) (a : Addr) (cls : Value) (d : Option Addr) (sI s : Shared) : Prop where
  inv : Inv X pins σ H sI
  gr : ∀ b o, sI.heap.get? b = some o → b ∉ frs X.stack → B.get? b = some o
  up : sI.heap.UpToSlots s.heap
  fl : HandSPX.FlyingZ B (X.env :: X.outer) a (Zc cls d) s.heap
  na : H a = none
  os : s.os = sI.os
  ag : AllBare s.gens
theorem Fly.now {pins : List (Addr × Obj)} {σ : L2.St} {H : Hp} {B : Heap} {a : Addr} {cls : Value} {d : Option Addr} {sI s : Shared} (f : Fly X pins σ H B a cls d sI s) : Inv X pins σ H s := Inv.landed (s' := s) f.inv f.gr f.fl.1 f.up f.os f.ag
/-- the error's object is none of the frames -/
theorem Fly.off (hf : X.env.frame = some X.env.locals) {pins : List (Addr × Obj)} {σ : L2.St} {H : Hp} {B : Heap} {a : Addr} {cls : Value} {d : Option Addr} {sI s : Shared} (f : Fly X pins σ H B a cls d sI s) :
    ∃ oe vs, s.heap.get? a = some oe ∧ Zc cls d oe ∧ oe.data = .fields vs ∧ a ≠ X.env.locals ∧ a ∉ X.fs := by
  obtain ⟨oe, vs, e, z, dd⟩ := HandSPX.FlyingZ.there f.fl
  have out : a ∉ frs (X.env :: X.outer) := fun hm => by
    obtain ⟨_, o, e2, nf⟩ := Heap.FunFrames.mem f.fl.2.2.1 hm
    rw [e] at e2
    cases e2
    exact nf _ dd
  refine ⟨oe, vs, e, z, dd, fun q => out ?_, fun q => out ?_⟩
  · exact List.mem_filterMap.mpr ⟨X.env, by simp, by rw [hf, q]⟩
  · obtain ⟨y, hy, hq⟩ := List.mem_filterMap.mp q
    exact List.mem_filterMap.mpr ⟨y, by simp [hy], hq⟩
/-- no clause takes it: it flies on -/
theorem fly_on (hs : X.stack = X.env :: X.outer) (hf : X.env.frame = some X.env.locals) (tk : Takes X Wo) {pins : List (Addr × Obj)} {σ : L2.St} {H : Hp} {B : Heap} {a : Addr} {cls : Value} {d : Option Addr} {sI s : Shared} {D : Ends} (f : Fly X pins σ H B a cls d sI s) (w : Wo cls d σ H) :
    wpAny (model X.prog X.w) X.A (handleBy (.ref a) X.env []) (SP X pins D) X.xe s := by
  refine wpAny_handleBy_nil ?_
  obtain ⟨_, _, _, oe, vs, T, oT, ts', he, hz, hd, h1, hr⟩ := id f.fl
  have out : wpAny (model X.prog X.w) X.A (setFlight (.ref a) X.env.frame) (fun _ s4 => wpAny (model X.prog X.w) X.A (throw (.ref a) : Sem Flow) (SP X pins D) X.xe s4) X.xe s := by
    rw [hf]
    refine HandSPX.setFlight_upZ f.fl fun h4 k4 u4 => wpAny_throw (tk _ _ ?_)
    exact ⟨a, B, sI, pins, σ, H, cls, d, rfl, f.inv, f.gr, f.up.trans u4, Or.inr (Or.inr (by rw [hs]; exact k4)), f.na, f.os, f.ag, w⟩
  unfold PySem.passOn
  refine wpAny_bind (wpAny_field he hd h1 ?_)
  rw [if_neg (by simp : ¬ ((Value.ref T == Value.none) = true))]
  first
    | exact wpAny_bind out
    | exact wpAny_bind (wpAny_pure (wpAny_bind out))

theorem fly_go (ok : X.Ok) (hs : X.stack = X.env :: X.outer) (hf : X.env.frame = some X.env.locals) (hN : X.N.Nodup) (tk : Takes X Wo) {pins : List (Addr × Obj)} {σ : L2.St} {H : Hp} {B : Heap} {a : Addr} {cls : Value} {d : Option Addr} {sI : Shared} {D : Ends} :
    ∀ {hds : List ExceptHandler} {l : List Cl}, ClsOk X hds l → ∀ {s : Shared}, Fly X pins σ H B a cls d sI s → wCls X.K Wo D l cls d σ H → wpAny (model X.prog X.w) X.A (handleBy (.ref a) X.env hds) (SP X pins D) X.xe s := by
  intro hds l hk
  induction hk with
  | nil => exact fun f w => fly_on hs hf tk f w
  | @cons q x n b suite np p hds l h r ih =>
    intro s f w
    obtain ⟨bb, e1, yes, no⟩ := w
    obtain ⟨oe, vs, he, hz, hd, nL, nF⟩ := f.off hf
    have I := f.now
    have S := Inv.suite I he hd f.na nL nF
    refine wpAny_handleBy_cons (codeAny_handlers_test ?_) (fun z => nomatch z)
    have asked := PySem.W.exm_one (M := model X.prog X.w) I.kIn (fun A Q E s' k z => wpAny_typeOf_ref (k _ _ he) (by rw [hz.1]; exact z)) e1
    have test : ∀ {Q E : Value → Shared → Prop}, Q q.c s → wpAny (model X.prog X.w) (X.A.mark (some (.ref a))) (eval (.Name x np) X.env) Q E s := fun {Q E} z => by
      rcases h.nm with ⟨g, gd, m | ⟨m, v, nn⟩⟩
      · exact ld_glob (X := X.suite a ((a, oe) :: (X.pn ++ pins))) S g m z gd
      · exact ld_blt (X := X.suite a ((a, oe) :: (X.pn ++ pins))) S g m v z nn gd
    refine test (asked.here ?_)
    cases bb with
    | false => exact ih f (no rfl)
    | true =>
      refine codeAny_handlers_suite_as (HandSPX.lands_againZ f.fl fun h4 k4 u4 => ?_)
      have f4 : Fly X pins σ H B a cls d sI { s with heap := h4 } := ⟨f.inv, f.gr, f.up.trans u4, k4, f.na, f.os, f.ag⟩
      obtain ⟨oe4, vs4, he4, hz4, hd4, _, _⟩ := f4.off hf
      have S4 := Inv.suite f4.now he4 hd4 f.na nL nF
      refine store_ok (X := X.suite a ((a, oe4) :: (X.pn ++ pins))) (v := .ref a) S4 hN h.at_ (Or.inl h.loc) rfl (fun s5 S5 => ?_) (Or.inr h.loc)
      refine wpAny_mono ((h.su a oe4 cls d (X.pn ++ pins) hz4 ⟨_, hd4⟩).run [] s5 _ H _ S5 (yes rfl a f.na)) (fun fl s6 sp => ?_) fun _ _ z => z.elim
      have leave : ∀ {τ : L2.St} {J : Hp} {Q : Shared → Prop}, Inv (X.suite a ((a, oe4) :: (X.pn ++ pins))) [] τ J s6 → (∀ s7, Inv X pins (τ.set q.i none) J s7 → Q s7) →
          wpAny (model X.prog X.w) X.A (do bindName X.env n .none; unbindBehindTheSuite X.env n p) (fun _ s7 => Q s7) X.xe s6 := fun S6 hq => gone_ok (Inv.unsuite S6 ok) hN h.at_ h.loc hq
      cases fl with
      | next => obtain ⟨τ, J, S6, z⟩ := sp; exact leave S6 fun s7 J7 => ⟨_, _, J7, z⟩
      | brk => obtain ⟨τ, J, S6, z⟩ := sp; exact leave S6 fun s7 J7 => ⟨_, _, J7, z⟩
      | cont => obtain ⟨τ, J, S6, z⟩ := sp; exact leave S6 fun s7 J7 => ⟨_, _, J7, z⟩
      | ret u => obtain ⟨v6, τ, J, S6, r6, z⟩ := sp; exact leave S6 fun s7 J7 => ⟨_, _, _, J7, r6, z⟩
theorem ps_tryC (hs : X.stack = X.env :: X.outer) (hf : X.env.frame = some X.env.locals) (hN : X.N.Nodup) (tk : Takes X Wo)
    (hb : ∀ (W : WX) (pn : List (Addr × Obj)) (xe : Value → Shared → Prop), Takes (X.tr pn xe) W → PassesOwn (model X.prog X.w) X.A X.env xe → PSs (X.tr pn xe) body (tb W)) (hh : ClsOk X (h₀ :: hds) l) :
    PS X (.Try body (h₀ :: hds) [] [] pos) (fun D σ H => tb (wCls X.K Wo D l) D σ H) := by
  refine ⟨fun pins s σ H D I h => ?_⟩
  have hfr : X.A.frames = some (X.env :: X.outer) := by rw [I.ok.frames, hs]
  let fence : Value → Shared → Prop := fun e s₁ => wpAny (model X.prog X.w) X.A (noteFrame e X.env) (fun _ s₂ => wpAny (model X.prog X.w) X.A (setFlight e none) (fun _ s₃ =>
    wpAny (model X.prog X.w) X.A (handleBy e X.env (h₀ :: hds)) (SP X pins D) X.xe s₃) X.xe s₂) X.xe s₁
  have caught : Takes (X.tr (X.pn ++ pins) fence) (wCls X.K Wo D l) := by
    rintro u s' ⟨a, B, sI, pins', σ', H', cls, d, rfl, J', gr, up, sky, na, os, ag, w⟩
    have J : Inv X pins σ' H' sI := Inv.ofTry J' I.ok
    refine Sky.land Zc.steady hfr hf (by rw [← hs]; exact sky) fun h3 k3 u3 => ?_
    exact fly_go I.ok hs hf hN tk hh (s := { s' with heap := h3 }) ⟨J, gr, up.trans u3, k3, na, os, ag⟩ w
  refine wpAny_Try_except (wpAny_mono ((hb _ (X.pn ++ pins) fence caught PassesOwn.looking).run [] s σ H D (Inv.toTry I _) h) (fun f s1 sp => ?_) fun _ _ z => z)
  cases f with
  | next => obtain ⟨τ, J, S, z⟩ := sp; exact wpAny_execs_nil ⟨τ, J, Inv.ofTry S I.ok, z⟩
  | brk => obtain ⟨τ, J, S, z⟩ := sp; exact ⟨τ, J, Inv.ofTry S I.ok, z⟩
  | cont => obtain ⟨τ, J, S, z⟩ := sp; exact ⟨τ, J, Inv.ofTry S I.ok, z⟩
  | ret u => obtain ⟨v, τ, J, S, r, z⟩ := sp; exact ⟨v, τ, J, Inv.ofTry S I.ok, r, z⟩
end

/-! ### the readings in a suite -/
def rIsC (K : PySem.W.Frag) (cls : Value) (d : Option Addr) (a : Addr) : List V → Hp → VK → Prop := fun xs H Q => ∃ (D B : Addr) (b : Bool), cls = .ref D ∧ ExcC K D ∧ (d = none ∨ ∃ dd fs, d = some dd ∧ H dd = some (.xd fs)) ∧ xs = [.ref a, .ref B] ∧ PySem.W.kitOne K (.ref D) (.ref B) = some b ∧ Q (.bl b) H
theorem call_isC {X : Cx} {a : Addr} {oe : Obj} {cls : Value} {d : Option Addr} {pn : List (Addr × Obj)} (hz : Zc cls d oe) (hf : ∃ vs, oe.data = .fields vs) : CallR (X.suite a ((a, oe) :: pn)) (.builtin "isinstance") (rIsC X.K cls d a) := by
  intro pins s σ H xs us Q I r h
  obtain ⟨D, B, b, rfl, C, hd, rfl, e, q⟩ := h
  obtain ⟨u1, u2, rfl, r1, r2⟩ := vals2 r
  cases (show u1 = Value.ref a from r1)
  cases (show u2 = Value.ref B from r2)
  obtain ⟨hget, _⟩ := I.pin (a, oe) (List.mem_append_left _ List.mem_cons_self)
  obtain ⟨vs, hv⟩ := hf
  have hdt : ∀ c, oe.data ≠ .cls c := fun c z => by rw [hv] at z; cases z
  have J : ∃ od, PySem.W.InstAt s.heap a oe D od := by
    rcases hd with rfl | ⟨dd, fs, rfl, hx⟩
    · exact ⟨none, hget, hz.1, by unfold PySem.W.notCls; rw [hv] <;> rfl, by rw [hz.2]; trivial⟩
    · obtain ⟨mA, hns, _⟩ := (show ObjOk X.prog X.w H s.heap dd (.xd fs) from I.hok dd _ hx)
      obtain ⟨od, ho, _⟩ := lookIn_ns hns
      exact ⟨some od, hget, hz.1, by unfold PySem.W.notCls; rw [hv] <;> rfl, by rw [hz.2]; exact ho⟩
  obtain ⟨od, J⟩ := J
  obtain ⟨cd, hcd, _⟩ := PySem.W.any_some C.hd
  exact PySem.W.kia_one (PySem.W.kitx_exc (od := od) (by rw [hcd]; rfl) C.hg C.hk C.hs C.ha C.hn C.ht C.hm) I.kIn J e (fun z => nomatch z) fun tk => ⟨.bl b, H, I.kept (t' := tk) fun _ _ z => z, rfl, q⟩
def tXfC (K : PySem.W.Frag) (a : Addr) (cls : Value) (d : Option Addr) (f : Str) (te : TE) : TE := fun σ H Q => te σ H fun x H1 => x = .ref a ∧ ∃ C, cls = .ref C ∧ ExcC K C ∧ PySem.W.findIn K (.ref C) f = some none ∧ ∃ (dd : Addr) (fs : List (Str × V)) (v : V), d = some dd ∧ H1 dd = some (.xd fs) ∧ fs.lookup f = some v ∧ Q v H1
theorem pe_xfC {X : Cx} {a : Addr} {oe : Obj} {cls : Value} {d : Option Addr} {pn : List (Addr × Obj)} {e : Expr} {te : TE} {pos : Pos} {n : Str}
    (hz : Zc cls d oe) (hf : ∃ vs, oe.data = .fields vs) (he : PE (X.suite a ((a, oe) :: pn)) e te) (hb : attributeBase e n X.env (eval e X.env) = eval e X.env) :
    PE (X.suite a ((a, oe) :: pn)) (.Attribute e n pos) (tXfC X.K a cls d n te) := by
  refine ⟨fun pins s σ H Q I h => attr_of hb (thn (he.run pins s σ H _ I h) fun u s1 hh => ?_)⟩
  obtain ⟨x, H1, I1, rx, rfl, C, rfl, T, hno, dd, fs, v, rfl, ea, l, q⟩ := hh
  cases (show u = Value.ref a from rx)
  obtain ⟨ha, _⟩ := I1.pin (a, oe) (List.mem_append_left _ List.mem_cons_self)
  obtain ⟨vs, hd⟩ := hf
  obtain ⟨mA, hns, hr⟩ := (show ObjOk X.prog X.w H1 s1.heap dd (.xd fs) from I1.hok dd _ ea)
  obtain ⟨od, ho, hl⟩ := lookIn_ns hns
  obtain ⟨u, hu, ru⟩ := RelO.some_of (v := v) (o := mA n) (by rw [← l]; exact hr n)
  exact HandSPX.exc_get I1.kIn ⟨ha, hz.1, by unfold PySem.W.notCls; rw [hd] <;> rfl, by rw [hz.2]; exact ho⟩ T.hg T.hk T.hs (PySem.W.findObj_own T.hd hno rfl (by rw [hl, hu])) (handed_of ru) ⟨v, H1, I1.tok _, ru, q⟩
end PL
set_option Elab.async false
set_option linter.all false
set_option maxRecDepth 100000
set_option maxHeartbeats 4000000
/-! try as a function of plain Lean. -/
namespace PL
open PySem PySem.Spec PyProof.Rows L2
open Evl (Ex)
structure ClF where
  sub : Str → Option Bool
  ie : Nat
  it : Nat
  v : Exn → Option D
def tryGo : List ClF → Exn → Env → Row → Option (Out × Row)
  | [], x, ρ, s => some (.er x ρ, s)
  | q :: r, x, ρ, s => (q.sub x.cls).bind fun b => if b = true then (if q.ie < ρ.length ∧ q.it < ρ.length then (q.v x).map fun d => (.nx ((ρ.set q.it (some (.im d))).set q.ie none), s) else none) else tryGo r x ρ s
def s_try (f : SF) (qs : List ClF) : SF := fun ρ s => match f ρ s with
  | some (.er x ρ1, s1) => tryGo qs x ρ1 s1
  | r => r
/-- which errors of those told a class takes -/
def subT (ns : List Str) (c : Str) (n : Str) : Option Bool := if ns.contains n then some (n == c) else none
def subA (ns : List Str) (n : Str) : Option Bool := if ns.contains n then some true else none
variable {G : Gt} {R : Option Addr} {W : WX}
theorem XRep.step0 {I H I' H' : Hp} {x : Exn} {c : Value} {d : Option Addr} (h : XRep G I H x c d) (st : Step none I H I' H') : XRep G I' H' x c d := by
  obtain ⟨C, e, rfl, h | ⟨a, vs, rfl, e2, h⟩⟩ := h
  · exact ⟨C, e, rfl, .inl h⟩
  · exact ⟨C, e, rfl, .inr ⟨a, vs, rfl, st.fr _ _ e2 (by simp), fun f d q => let ⟨v, a1, a2⟩ := h f d q; ⟨v, a1, a2.mono st.ii⟩⟩⟩
theorem Slots.unset {I H : Hp} {σ : L2.St} {ρ : Env} (h : Slots G R I H σ ρ) (i : Nat) (w : Option V) : Slots G R I H (σ.set i w) (ρ.set i none) := by
  have key : ∀ (j : Nat) (s : Sl), (ρ.set i none)[j]? = some (some s) → ρ[j]? = some (some s) ∧ (σ.set i w)[j]? = σ[j]? := fun j s e => by
    by_cases q : i = j
    · subst q
      by_cases hl : i < ρ.length
      · rw [List.getElem?_set_self hl] at e; cases e
      · rw [List.getElem?_eq_none (by simpa using hl)] at e; cases e
    · rw [List.getElem?_set_ne q] at e ⊢; exact ⟨e, rfl⟩
  refine ⟨by simpa using h.len, fun j s e => ?_, fun j k p d e e1 e2 e3 e4 => ?_⟩
  · obtain ⟨a, b⟩ := key j s e
    rw [b]; exact h.at_ j s a
  · obtain ⟨a1, b1⟩ := key j _ e1
    obtain ⟨a2, b2⟩ := key k _ e2
    rw [b1] at e3; rw [b2] at e4
    exact h.ne j k p d e a1 a2 e3 e4
theorem SS.unset {ps : List Addr} {I0 H0 I H : Hp} {σ : L2.St} {ρ : Env} {s : Row} (x : SS G R ps I0 H0 I H σ ρ s) (i : Nat) (w : Option V) : SS G R ps I0 H0 I H (σ.set i w) (ρ.set i none) s :=
  ⟨x.bs, x.ro, x.sl.unset i w, fun j e p e1 e2 => by
    by_cases q : i = j
    · subst q
      by_cases hl : i < ρ.length
      · rw [List.getElem?_set_self hl] at e1; cases e1
      · rw [List.getElem?_eq_none (by simpa using hl)] at e1; cases e1
    · rw [List.getElem?_set_ne q] at e1 e2; exact x.cf j e p e1 e2⟩
theorem set3 {α : Type} (l : List α) (i j : Nat) (a b : α) : ((l.set i a).set j b).set i a = (l.set j b).set i a := by
  by_cases h : i = j
  · subst h; simp
  · rw [List.set_comm _ _ h, List.set_set]
def RCl (G : Gt) (R : Option Addr) (q : Cl) (f : ClF) : Prop := ∀ (ps : List Addr) (I0 H0 I H : Hp) (σ : L2.St) (ρ : Env) (s : Row) (x : Exn) (d : D), SS G R ps I0 H0 I H σ ρ s → f.ie < ρ.length → f.it < ρ.length → f.v x = some d → ∀ (a : Addr) (cls : Value) (dd : Option Addr), XRep G I H x cls dd → ∀ Dn : Ends,
  (∀ σ' I' H', SS G R ps I0 H0 I' H' (σ'.set f.ie none) ((ρ.set f.it (some (.im d))).set f.ie none) s → Dn.nx σ' H') → q.ts a cls dd Dn (σ.set f.ie (some (.ref a))) H
inductive ClsF (G : Gt) (R : Option Addr) : List Cl → List ClF → Prop
  | nil : ClsF G R [] []
  | cons {q : Cl} {f : ClF} {l : List Cl} {fs : List ClF} (hi : q.i = f.ie) (hs : ∀ nm C b, G.cls nm = some C → f.sub nm = some b → PySem.W.exmOne G.K (.ref C) q.c = some b) (h : RCl G R q f) (r : ClsF G R l fs) : ClsF G R (q :: l) (f :: fs)
theorem rs_try {tb : WX → TS} {f : SF} {l : List Cl} {fs : List ClF} (hb : ∀ W', RS G R W' (tb W') f) (hc : ClsF G R l fs) : RS G R W (fun D σ H => tb (wCls G.K W D l) D σ H) (s_try f fs) := fun ps I0 H0 I H σ ρ s x Dn o s' hf hp => by
  unfold s_try at hf
  split at hf
  · rename_i y ρ1 s1 e
    refine hb _ ps I0 H0 I H σ ρ s x Dn _ _ e fun c dd σ' I' H' x' xr => ?_
    clear e hb
    induction hc with
    | nil =>
      have hf' : some (Out.er y ρ1, s1) = some (o, s') := hf
      cases hf'
      exact hp c dd σ' I' H' x' xr
    | @cons q f l fs hi hs h r ih =>
      have hf' : ((f.sub y.cls).bind fun b => if b = true then (if f.ie < ρ1.length ∧ f.it < ρ1.length then (f.v y).map fun d => (Out.nx ((ρ1.set f.it (some (.im d))).set f.ie none), s1) else none) else tryGo fs y ρ1 s1) = some (o, s') := hf
      obtain ⟨b, e1, e2⟩ := Option.bind_eq_some_iff.mp hf'
      have xr' := xr
      obtain ⟨C, hC, rfl, _⟩ := xr'
      refine ⟨b, hs _ _ _ hC e1, fun hb a ha => ?_, fun hb => ?_⟩
      · subst hb
        rw [if_pos rfl] at e2
        split at e2
        · rename_i hl
          obtain ⟨d, e3, e4⟩ := Option.map_eq_some_iff.mp e2
          cases e4
          rw [hi]
          exact h ps I0 H0 I' H' σ' ρ1 _ y d x' hl.1 hl.2 e3 a _ dd xr _ fun σ2 I2 H2 x2 => hp _ I2 H2 x2
        · cases e2
      · subst hb
        exact ih (by simpa using e2)
  · rename_i hne
    refine hb _ ps I0 H0 I H σ ρ s x Dn o s' hf ?_
    cases o with
    | nx ρ' => exact hp
    | rt d ρ' => exact hp
    | er y ρ' => exact (hne _ _ _ hf).elim

/-! ### what is read in a suite -/
section
variable {ι : Type} {X : ι → Cx} {P : Program} {w : World} {mg : Str → Option Value} {base : Heap} {k : Nat} {N : List Str} {sc : Scope} {e a b : Expr} {es : List Expr} {x n t : Str} {p pos p1 p2 p3 p4 p5 p6 : Pos} {ie it : Nat}
def PDX (X : ι → Cx) (G : Gt) (ie : Nat) (e : Expr) (v : Exn → Option D) : Prop := ∃ tv : Addr → Value → Option Addr → TE,
  (∀ i a oe cls d pn, Zc cls d oe → (∃ vs, oe.data = .fields vs) → PE ((X i).suite a ((a, oe) :: pn)) e (tv a cls d)) ∧
  ∀ (I H : Hp) (σ : L2.St) (x : Exn) (z : D) (a : Addr) (cls : Value) (d : Option Addr), Ex I H → σ[ie]? = some (some (.ref a)) → XRep G I H x cls d → v x = some z → ∀ Q : VK, (∀ u I' H', Step none I H I' H' → Rep G I' u z → Q u H') → tv a cls d σ H Q
def PDXA (X : ι → Cx) (G : Gt) (ie : Nat) (es : List Expr) (v : Exn → Option (List D)) : Prop := ∃ tv : Addr → Value → Option Addr → TA,
  (∀ i a oe cls d pn, Zc cls d oe → (∃ vs, oe.data = .fields vs) → PA ((X i).suite a ((a, oe) :: pn)) es (tv a cls d)) ∧
  ∀ (I H : Hp) (σ : L2.St) (x : Exn) (z : List D) (a : Addr) (cls : Value) (d : Option Addr), Ex I H → σ[ie]? = some (some (.ref a)) → XRep G I H x cls d → v x = some z → ∀ Q, (∀ us I' H', Step none I H I' H' → Reps G I' us z → Q us H') → tv a cls d σ H Q
def v_str (w : Str) : Exn → Option D := fun _ => some (.str w)
def v_fld (f : Str) : Exn → Option D := fun x => x.fs.lookup f
def v_nil : Exn → Option (List D) := fun _ => some []
def v_cons (v : Exn → Option D) (vs : Exn → Option (List D)) : Exn → Option (List D) := fun x => (v x).bind fun d => (vs x).map fun ds => d :: ds
def v_lst (vs : Exn → Option (List D)) : Exn → Option D := fun x => (vs x).bind fun ds => if ds.length ≤ sizeLine then some (.lst ds) else none
def v_isif (ns : List Str) (v : Exn → Option D) : Exn → Option D := fun x => if ns.contains x.cls then v x else none
theorem pdx_str {w : Str} {j : Nat} : PDX X G ie (.Constant (.str w) j pos) (v_str w) := ⟨fun _ _ _ => tC (.str w), fun _ _ _ _ _ _ _ _ => pe_str, fun I H σ x z a cls d ex hs xr hv Q hq => by
  cases hv
  exact hq _ I H (Step.refl ex) (.str w)⟩
/-- what is known of an own error -/
structure ExN (G : Gt) (B : Addr) (nm : Str) : Prop where
  ex : ∃ D, G.cls nm = some D ∧ ExcC G.K D ∧ PySem.W.kitOne G.K (.ref D) (.ref B) = some true
structure ExNF (G : Gt) (nm f : Str) : Prop where
  ex : ∃ D, G.cls nm = some D ∧ ExcC G.K D ∧ PySem.W.findIn G.K (.ref D) f = some none
theorem pdx_fld (fo : Fo X G P w mg base k N W) (ns : List Str) (hns : ∀ m ∈ ns, ExNF G m x) (hN : N[ie]? = some n) (hv : ∀ i, Vis (X i).env.scope n) (hb : ∀ i, attributeBase (.Name n p1) x (X i).env (eval (.Name n p1) (X i).env) = eval (.Name n p1) (X i).env)
    (hd : (n == ("__debug__" : Str)) = false := by decide) (hcd : (n == ("__classdict__" : Str)) = false := by decide) : PDX X G ie (.Attribute (.Name n p1) x pos) (v_isif ns (v_fld x)) :=
  ⟨fun a cls d => tXfC G.K a cls d x (tVar ie), fun i a oe cls d pn hz hf => by
    have q := pe_xfC (X := X i) (pn := pn) (pos := pos) hz hf (pe_var (X := (X i).suite a ((a, oe) :: pn)) (pos := p1) (by show (X i).N[ie]? = _; rw [fo.hN i]; exact hN) (hv i) hd hcd) (hb i)
    rw [fo.hK i] at q; exact q, fun I H σ y z a cls d ex hs xr hv Q hq => by
    unfold v_isif at hv
    split at hv
    · rename_i hc
      obtain ⟨D, h1, h2, h3⟩ := (hns y.cls (by simpa using hc)).ex
      obtain ⟨C, e1, rfl, h | ⟨aa, vs, rfl, e2, h⟩⟩ := xr
      · unfold v_fld at hv; rw [h.1] at hv; cases hv
      · rw [h1] at e1; cases e1
        obtain ⟨u, l1, l2⟩ := h _ _ hv
        exact ⟨_, hs, rfl, D, rfl, h2, h3, aa, vs, u, rfl, e2, l1, hq u I H (Step.refl ex) l2⟩
    · cases hv⟩
theorem pdxa_nil : PDXA X G ie [] v_nil := ⟨fun _ _ _ => tNil, fun _ _ _ _ _ _ _ _ => pa_nil, fun I H σ x z a cls d ex hs xr hv Q hq => by
  cases hv
  exact hq _ I H (Step.refl ex) .nil⟩
theorem pdxa_cons {v : Exn → Option D} {vs : Exn → Option (List D)} (h : PDX X G ie e v) (h' : PDXA X G ie es vs) (hst : ∀ i, starEach (e :: es) (X i).env = (false, eval e (X i).env) :: starEach es (X i).env) : PDXA X G ie (e :: es) (v_cons v vs) := by
  obtain ⟨t1, p1, r1⟩ := h
  obtain ⟨t2, p2, r2⟩ := h'
  refine ⟨fun a cls d => tCons (t1 a cls d) (t2 a cls d), fun i a oe cls d pn hz hf => pa_cons (p1 i a oe cls d pn hz hf) (p2 i a oe cls d pn hz hf) (hst i), fun I H σ x z a cls d ex hs xr hv Q hq => ?_⟩
  unfold v_cons at hv
  obtain ⟨d1, e1, hv⟩ := Option.bind_eq_some_iff.mp hv
  obtain ⟨ds, e2, e3⟩ := Option.map_eq_some_iff.mp hv
  subst e3
  refine r1 I H σ x d1 a cls d ex hs xr e1 _ fun u I1 H1 st1 ru => ?_
  exact r2 I1 H1 σ x ds a cls d st1.ih hs (xr.step0 st1) e2 _ fun us I2 H2 st2 rus => hq _ I2 H2 (st1.trans st2) (.cons (ru.mono st2.ii) rus)
theorem pdx_lst {vs : Exn → Option (List D)} (h : PDXA X G ie es vs) : PDX X G ie (.List es pos) (v_lst vs) := by
  obtain ⟨t1, p1, r1⟩ := h
  refine ⟨fun a cls d => tLst (t1 a cls d), fun i a oe cls d pn hz hf => pe_lst (p1 i a oe cls d pn hz hf), fun I H σ x z a cls d ex hs xr hv Q hq => ?_⟩
  unfold v_lst at hv
  obtain ⟨ds, e2, e3⟩ := Option.bind_eq_some_iff.mp hv
  split at e3
  · rename_i hl
    cases e3
    refine r1 I H σ x ds a cls d ex hs xr e2 _ fun us I1 H1 st1 rus => ?_
    have hl' : us.length ≤ sizeLine := by rw [rus.length]; exact hl
    refine ⟨hl', fun p hp => ?_⟩
    have st2 : Step none I1 H1 _ _ := Step.new (o := .lst us) st1.ih hp
    exact hq _ _ _ (st1.trans st2) (.lst (.inl (.inl upd_same)) upd_same (rus.mono st2.ii) hl')
  · cases e3
theorem pdx_isif (fo : Fo X G P w mg base k N W) (ns : List Str) {B : Addr} {v u : Exn → Option D} (hns : ∀ m ∈ ns, ExN G B m) (hN : N[ie]? = some n) (hv : ∀ i, Vis (X i).env.scope n) (hm : mg "isinstance" = none) (hg : ∀ i, Gl (X i) "isinstance") (hmT : mg t = some (.ref B)) (hgT : ∀ i, Gl (X i) t) (ha : PDX X G ie a v) (hb : PDX X G ie b u)
    (hs : ∀ i, starEach [.Name n p1, .Name t p2] (X i).env = (false, eval (.Name n p1) (X i).env) :: starEach [.Name t p2] (X i).env) (hs2 : ∀ i, starEach [.Name t p2] (X i).env = (false, eval (.Name t p2) (X i).env) :: starEach [] (X i).env) (hpl : ∀ i, (backTo p3 (starEach [.Name t p2] (X i).env)).any (·.1) = false)
    (hbl : bootBuiltins "isinstance" = some (.builtin "isinstance") := by decide +kernel) (hdT : (t == ("__debug__" : Str)) = false := by decide) (hd : (n == ("__debug__" : Str)) = false := by decide) (hcd : (n == ("__classdict__" : Str)) = false := by decide) :
    PDX X G ie (.IfExp (.Call (.Name "isinstance" p4) [.Name n p1, .Name t p2] [] p3) a b pos) (v_isif ns v) := by
  obtain ⟨t1, q1, r1⟩ := ha
  obtain ⟨t2, q2, _⟩ := hb
  refine ⟨fun a cls d => tIf (tB (tCB (rIsC G.K cls d a) (tCons (tVar ie) (tCons (tC (.ref B)) tNil)))) (t1 a cls d) (t2 a cls d), fun i a oe cls d pn hz hf => ?_, fun I H σ x z a cls d ex hsl xr hv Q hq => ?_⟩
  · have c := call_isC (X := X i) (a := a) (pn := pn) hz hf
    rw [fo.hK i] at c
    refine pe_ifExp (pt_val (pe_callB c (hg i) (by show (X i).mg _ = _; rw [fo.hmg i]; exact hm) hbl (pa_cons (pe_var (X := (X i).suite a ((a, oe) :: pn)) (by show (X i).N[ie]? = _; rw [fo.hN i]; exact hN) (hv i) hd hcd) (pa_cons (pe_glob (hgT i) (by show (X i).mg _ = _; rw [fo.hmg i]; exact hmT) rfl hdT) pa_nil (hs2 i)) (hs i)) (by decide) (by decide) (hs i) (hpl i))) (q1 i a oe cls d pn hz hf) (q2 i a oe cls d pn hz hf)
  · unfold v_isif at hv
    split at hv
    · rename_i hc
      obtain ⟨D, h1, h2, h3⟩ := (hns x.cls (by simpa using hc)).ex
      have xr' := xr
      obtain ⟨C, e1, rfl, h⟩ := xr'
      rw [h1] at e1; cases e1
      refine ⟨_, hsl, D, B, true, rfl, h2, ?_, rfl, h3, true, rfl, ?_⟩
      · rcases h with h | ⟨aa, vs, rfl, e2, _⟩
        · exact .inl h.2
        · exact .inr ⟨aa, vs, rfl, e2⟩
      · show if true = true then _ else _
        rw [if_pos rfl]
        exact r1 I H σ x z a _ d ex hsl xr hv Q hq
    · cases hv
/-! ### clauses -/
def PDC (X : ι → Cx) (G : Gt) (R : Option Addr) (hds : List ExceptHandler) (fs : List ClF) : Prop := ∃ l, (∀ i, ClsOk (X i) hds l) ∧ ClsF G R l fs
theorem pdc_nil : PDC X G R [] [] := ⟨[], fun _ => .nil, .nil⟩
theorem pdc_cons {hds : List ExceptHandler} {fs : List ClF} {v : Exn → Option D} (fb : Fb X G P w mg base k N W sc) (ie it : Nat) (sub : Str → Option Bool) {c : Addr} {y : Str} (hsub : ∀ nm C b, G.cls nm = some C → sub nm = some b → PySem.W.exmOne G.K (.ref C) (.ref c) = some b)
    (hN : N[ie]? = some n) (hl : ∀ i, (X i).env.kindOf n = some .local) (hm : mg x = some (.ref c)) (hg : ∀ i, Gl (X i) x) (hNt : N[it]? = some y) (hy : Loc sc y) (hv : PDX X G ie e v) (hs : ∀ i, swapsWith e (some (.Name y p5)) p6.line (X i).env = pure false) (hr : PDC X G R hds fs) (hdb : (x == ("__debug__" : Str)) = false := by decide) :
    PDC X G R (.ExceptHandler (some (.Name x p1)) (some n) [.Assign [.Name y p5] e p6] p2 :: hds) (⟨sub, ie, it, v⟩ :: fs) := by
  obtain ⟨tv, pv, rv⟩ := hv
  obtain ⟨l, pl, rl⟩ := hr
  refine ⟨⟨.ref c, ie, fun a cls d => tAsg (tv a cls d) (gName it)⟩ :: l, fun i => .cons ⟨by rw [fb.fo.hN i]; exact hN, hl i, ⟨hg i, hdb, .inl (by rw [fb.fo.hmg i]; exact hm)⟩, fun a oe cls d pn hz hf => ?_⟩ (pl i), .cons rfl hsub ?_ rl⟩
  · exact pss_one (ps_set (by rw [fb.fo.hN i]; exact fb.fo.nd) (by rw [fb.fo.hN i]; exact hNt) (by show Loc (X i).env.scope y; rw [fb.sc i]; exact hy) (pv i a oe cls d pn hz hf) (hs i) (.inl (fb.fn i y)))
  · intro ps I0 H0 I H σ ρ s x' z ss hi ht hv a cls d xr Dn hq
    have hlen := ss.sl.len
    refine rv I H _ x' z a cls d ss.bs.ih (List.getElem?_set_self (by rw [← hlen]; exact hi)) xr hv _ fun u I' H' st ru => ?_
    have s2 := (((ss.unset ie (some (.ref a))).step st.row ((ss.unset ie (some (.ref a))).ro.step0 st)).set (j := it) ru).unset ie none
    refine hq _ I' H' ?_
    rw [set3] at s2
    exact s2
/-! ### the statement -/
def TrI (X : ι → Cx) (W : WX) : Type := { q : ι × List (Addr × Obj) × (Value → Shared → Prop) // Takes ((X q.1).tr q.2.1 q.2.2) W ∧ PassesOwn (model (X q.1).prog (X q.1).w) (X q.1).A (X q.1).env q.2.2 }
def tryX (X : ι → Cx) (W : WX) : TrI X W → Cx := fun q => (X q.val.1).tr q.val.2.1 q.val.2.2
theorem fb_try (fb : Fb X G P w mg base k N W sc) (W' : WX) : Fb (tryX X W') G P w mg base k N W' sc where
  fo := ⟨fun q => fb.fo.hK q.val.1, fun q => fb.fo.hP q.val.1, fun q => fb.fo.hw q.val.1, fb.fo.gw, fun q => fb.fo.hmg q.val.1, fun q => fb.fo.hbase q.val.1, fun q => fb.fo.hN q.val.1, fb.fo.nd, fun q => fb.fo.room q.val.1, fun q => q.property.1⟩
  calm := fun q => fb.calm q.val.1
  po := fun q => q.property.2
  fn := fun q => fb.fn q.val.1
  stk := fun q => fb.stk q.val.1
  frm := fun q => fb.frm q.val.1
  sc := fun q => fb.sc q.val.1
theorem pds_try {body : List Stmt} {h₀ : ExceptHandler} {hds : List ExceptHandler} {f : SF} {fs : List ClF} (fb : Fb X G P w mg base k N W sc) (hb : ∀ W', Fb (tryX X W') G P w mg base k N W' sc → PDB (tryX X W') G R W' body f) (hc : PDC X G R (h₀ :: hds) fs) : PDS X G R W (.Try body (h₀ :: hds) [] [] pos) (s_try f fs) := by
  obtain ⟨l, pl, rl⟩ := hc
  have hb' := fun W' => hb W' (fb_try fb W')
  let tb : WX → TS := fun W' => Classical.choose (hb' W')
  have h1 : ∀ W', (∀ i, PSs (tryX X W' i) body (tb W')) ∧ RS G R W' (tb W') f := fun W' => Classical.choose_spec (hb' W')
  refine ⟨fun D σ H => tb (wCls G.K W D l) D σ H, fun i => ?_, rs_try (fun W' => (h1 W').2) rl⟩
  have q := ps_tryC (X := X i) (tb := tb) (Wo := W) (pos := pos) (fb.stk i) (fb.frm i) (by rw [fb.fo.hN i]; exact fb.fo.nd) (fb.fo.tk i) (fun W' pn xe tk po => (h1 W').1 ⟨(i, pn, xe), tk, po⟩) (pl i)
  rw [fb.fo.hK i] at q
  exact q
end
end PL
set_option Elab.async false
set_option linter.all false
set_option maxRecDepth 100000
set_option maxHeartbeats 4000000
/-! The row of a law; the law itself. -/
namespace PL
open PySem PySem.Spec PyProof.Rows L2
open Evl (Ex)
def rowAt (s : Row) : Int → Option Int
  | 1 => some s.ix
  | 2 => some s.cl
  | 3 => some s.sd
  | _ => none
def e_rowI (i : Nat) (k : Int) : EF := fun ρ s => match ρ[i]? with | some (some .row) => okR ((rowAt s k).map .int) s | _ => none
def e_rowS (i : Nat) : EF := fun ρ s => match ρ[i]? with | some (some .row) => some (.ok (.lst (s.scr.map .int)), s) | _ => none
def rowPut (s : Row) (k v : Int) : Option Row :=
  if k = 1 then (if 0 ≤ v ∧ v ≤ 63 then some { s with ix := v } else none)
  else if k = 2 then (if 0 ≤ v ∧ Builtin.Int.intBits v ≤ 1048576 then some { s with cl := v } else none)
  else if k = 3 then (if 0 ≤ v ∧ v ≤ 2147483647 then some { s with sd := v } else none)
  else none
def s_rowset (i : Nat) (k : Int) (fe : EF) : SF := fun ρ s => match ρ[i]? with
  | some (some .row) => bE (fe ρ s) (.er · ρ) fun d s1 => (match d with | .int v => (rowPut s1 k v).map fun s2 => (.nx ρ, s2) | _ => none)
  | _ => none
section
variable {G : Gt} {R : Option Addr} {W : WX}
theorem reps_ints {G : Gt} {H : Hp} : ∀ l : List Int, Reps G H (l.map V.int) (l.map D.int)
  | [] => .nil
  | x :: l => .cons (.int x) (reps_ints l)
theorem rowI_at {I H : Hp} {s : Row} {a : Addr} {k v : Int} (ro : RowOk G (some a) s I H) (h : rowAt s k = some v) : atI [V.ref s.sa, .int s.ix, .int s.cl, .int s.sd] k = some (.int v) := by
  unfold rowAt at h
  split at h <;> cases h <;> rfl
theorem re_rowI {i : Nat} {k : Int} : RE G R W (tOp (rIx G.K) (tVar i) (tC (.int k))) (e_rowI i k) := fun I H σ ρ s e ro sl Q res s' hf hp => by
  unfold e_rowI at hf
  split at hf
  · rename_i h
    obtain ⟨d, e1, e2, e3⟩ := okR_cases hf
    subst e2; subst e3
    obtain ⟨v, hv, rfl⟩ := Option.map_eq_some_iff.mp e1
    obtain ⟨u, h1, a, rfl, rfl⟩ := sl.at_ i _ h
    have ro' := ro
    obtain ⟨_, ok, h2, h3⟩ := ro'
    exact ⟨_, h1, .inl ⟨a, _, k, _, rfl, rfl, .inl (.inl h2), rowI_at ro hv, hp _ I H (Step.refl e) ro (.int _)⟩⟩
  · cases hf
theorem re_rowS {i : Nat} : RE G R W (tOp (rIx G.K) (tVar i) (tC (.int 0))) (e_rowS i) := fun I H σ ρ s e ro sl Q res s' hf hp => by
  unfold e_rowS at hf
  split at hf
  · rename_i h
    cases hf
    obtain ⟨u, h1, a, rfl, rfl⟩ := sl.at_ i _ h
    have ro' := ro
    obtain ⟨_, ok, h2, h3⟩ := ro'
    refine ⟨_, h1, .inl ⟨a, _, 0, _, rfl, rfl, .inl (.inl h2), rfl, hp _ I H (Step.refl e) ro (.lst (.inl (.inl h3)) h3 (reps_ints _) ?_)⟩⟩
    rw [List.length_map]
    exact Nat.le_trans ok.len (by decide)
  · cases hf
theorem rowPut_ok {s s2 : Row} {k v : Int} (h : rowPut s k v = some s2) (ok : s.Ok) : s2.Ok ∧ s2.sa = s.sa ∧ s2.scr = s.scr ∧ ∃ j : Nat, ixN 4 k = some j ∧ [V.ref s.sa, .int s.ix, .int s.cl, .int s.sd].set j (.int v) = [V.ref s2.sa, .int s2.ix, .int s2.cl, .int s2.sd] := by
  unfold rowPut at h
  split at h
  · rename_i hk; subst hk
    split at h
    · cases h; exact ⟨⟨ok.len, ok.bits, by assumption, ok.cl, ok.sd⟩, rfl, rfl, 1, rfl, rfl⟩
    · cases h
  split at h
  · rename_i _ hk; subst hk
    split at h
    · cases h; exact ⟨⟨ok.len, ok.bits, ok.ix, by assumption, ok.sd⟩, rfl, rfl, 2, rfl, rfl⟩
    · cases h
  split at h
  · rename_i _ _ hk; subst hk
    split at h
    · cases h; exact ⟨⟨ok.len, ok.bits, ok.ix, ok.cl, by assumption⟩, rfl, rfl, 3, rfl, rfl⟩
    · cases h
  · cases h
theorem rs_rowset {i : Nat} {k : Int} {te : TE} {fe : EF} (he : RE G R W te fe) : RS G R W (tAsg te (gSub (tVar i) (tC (.int k)) rSetL)) (s_rowset i k fe) := fun ps I0 H0 I H σ ρ s x Dn o s' hf hp => by
  unfold s_rowset at hf
  split at hf
  · rename_i h
    obtain ⟨u, h1, a, rfl, rfl⟩ := x.sl.at_ i _ h
    refine rs_eval he x hf hp fun d s1 h2 v I1 H1 st1 x1 rv => ?_
    split at h2
    · rename_i z
      obtain ⟨s2, e1, e2⟩ := Option.map_eq_some_iff.mp h2
      cases e2
      cases rv
      obtain ⟨b1, b2, b3, b4⟩ := x1.ro
      obtain ⟨c1, c2, c3, j, c4, c5⟩ := rowPut_ok e1 b2
      refine ⟨.ref a, h1, a, _, k, j, rfl, rfl, b3, c4, hp σ I1 _ ?_⟩
      rw [c5]
      have st : Step (some a) I1 H1 I1 (upd H1 a (.lst [V.ref s'.sa, .int s'.ix, .int s'.cl, .int s'.sd])) := ⟨Ex.refl _, fun b o q => ?_, fun b o q n => ?_, fun b q => ?_, fun b q => .inl q⟩
      · exact x1.step st ⟨b1, c1, upd_same, by rw [c2, c3]; exact b4⟩
      · by_cases hb : b = a
        · subst hb; rw [b1] at q; cases q
        · rw [upd_ne hb]; exact x1.bs.ih b o q
      · rw [upd_ne (fun z => n (by rw [z]))]; exact q
      · by_cases hb : b = a
        · subst hb; rw [upd_same]; simp
        · rw [upd_ne hb]; exact q
    · cases h2
  · cases hf
variable {ι : Type} {X : ι → Cx} {P : Program} {w : World} {mg : Str → Option Value} {base : Heap} {k : Nat} {N : List Str} {sc : Scope} {e a b : Expr} {fe : EF} {x y : Str} {p pos pos2 yp sp : Pos} {j : Nat}
theorem pd_rowI (fo : Fo X G P w mg base k N W) (i0 : Nat) {z : Int} {jj : Nat} (hN : N[i0]? = some y) (hv : ∀ i, Vis (X i).env.scope y) (hs : PlainIx (.Constant (.int z) jj pos2)) (hd : (y == ("__debug__" : Str)) = false := by decide) (hcd : (y == ("__classdict__" : Str)) = false := by decide) :
    PDE X G R W (.Subscript (.Name y yp) (.Constant (.int z) jj pos2) pos) (e_rowI i0 z) :=
  ⟨_, fun i => pe_ix (by rw [← fo.hK i]; exact ix_seq) (pe_var (by rw [fo.hN i]; exact hN) (hv i) hd hcd) pe_int hs, re_rowI⟩
theorem pd_rowS (fo : Fo X G P w mg base k N W) (i0 : Nat) {jj : Nat} (hN : N[i0]? = some y) (hv : ∀ i, Vis (X i).env.scope y) (hs : PlainIx (.Constant (.int 0) jj pos2)) (hd : (y == ("__debug__" : Str)) = false := by decide) (hcd : (y == ("__classdict__" : Str)) = false := by decide) :
    PDE X G R W (.Subscript (.Name y yp) (.Constant (.int 0) jj pos2) pos) (e_rowS i0) :=
  ⟨_, fun i => pe_ix (by rw [← fo.hK i]; exact ix_seq) (pe_var (by rw [fo.hN i]; exact hN) (hv i) hd hcd) pe_int hs, re_rowS⟩
theorem pds_rowset (fo : Fo X G P w mg base k N W) (i0 : Nat) {z : Int} {jj : Nat} (hN : N[i0]? = some y) (hv : ∀ i, Vis (X i).env.scope y) (h : PDE X G R W e fe)
    (ha : ∀ i v, assign (.Subscript (.Name y yp) (.Constant (.int z) jj pos2) sp) (X i).env v = (do
      let ov ← holding [v] (eval (.Name y yp) (X i).env)
      let iv ← holding [v, ov] (eval (.Constant (.int z) jj pos2) (X i).env)
      standAt sp
      holding [v, ov, iv] (setItem ov iv v)
      release [v, ov, iv] []))
    (hs : ∀ i, swapsWithSole [.Subscript (.Name y yp) (.Constant (.int z) jj pos2) sp] e pos.line (X i).env = pure false) (hw : ∀ i, swappedStores [.Subscript (.Name y yp) (.Constant (.int z) jj pos2) sp] e (X i).env = pure none) (h1 : ∀ i, (assignEach [.Subscript (.Name y yp) (.Constant (.int z) jj pos2) sp] (X i).env).map (·.2) = [assign (.Subscript (.Name y yp) (.Constant (.int z) jj pos2) sp) (X i).env])
    (hd : (y == ("__debug__" : Str)) = false := by decide) (hcd : (y == ("__classdict__" : Str)) = false := by decide) : PDS X G R W (.Assign [.Subscript (.Name y yp) (.Constant (.int z) jj pos2) sp] e pos) (s_rowset i0 z fe) :=
  let ⟨_, p, r⟩ := h
  ⟨_, fun i => ps_asg (p i) (pg_sub (pe_var (by rw [fo.hN i]; exact hN) (hv i) hd hcd) pe_int set_list (ha i)) (hs i) (hw i) (h1 i), rs_rowset r⟩
end

/-! ### the drawing's start -/
def spDraws (K : PySem.W.Frag) : Sp := fun vs H Q _ => ∃ (a : Addr) (ns : List Int), vs = [.ref a] ∧ SqL K H a (ns.map V.int) ∧
  ∀ (p r : Addr), H p = none → p ≠ r → H r = none → Q (.ref r) (upd (upd H p (.lst (ns.map V.int))) r (.lst [.ref p, .int 0, .int 0, .int 7]))
section
variable {P : Program} {w : World} {G : Gt} {mg : Str → Option Value} {base : Heap} {k j : Nat}
theorem fn_draws {x qual y : Str} {st : Stmt} {f : Addr} {fd : FuncData} {p1 p2 p3 p4 p5 p6 p7 p8 : Pos} {j1 j2 j3 : Nat} (Fn : Fun G.K x qual st f fd) (S : FnScope [y] [y] (defScope st))
    (hb : defBody st = [.Return (some (.List [.Call (.Name "list" p1) [.Name y p2] [] p3, .Constant (.int 0) j1 p4, .Constant (.int 0) j2 p5, .Constant (.int 7) j3 p6] p7)) p8]) (hv : Vis (defScope st) y) (hm : mg "list" = none) (hg : ∀ cdv A outer s H E u, Gl (bodyX P w G mg base [y] qual st f cdv A outer s H E u) "list")
    (hd : (y == ("__debug__" : Str)) = false := by decide) (hcd : (y == ("__classdict__" : Str)) = false := by decide) (hbl : bootBuiltins "list" = some (.type "list") := by decide +kernel) :
    FnOk P w G.K mg base (L2.CX P w) (k + 1) f fd [y] (spDraws G.K) := by
  refine Fn.okX S (fun vs H Q E h => ?_) fun cdv A outer s H vs Q E hr h => ?_
  · obtain ⟨a, ns, rfl, _⟩ := h; rfl
  · obtain ⟨a, ns, rfl, hS, hq⟩ := h
    have hl := hg cdv A outer s H E ()
    rw [hb]
    refine ⟨_, pss_one (ps_ret (pe_lst (pa_cons (pe_callTy call_list_of hl hm hbl (pa_cons (pe_var (i := 0) rfl hv hd hcd) pa_nil)) (pa_cons pe_int (pa_cons pe_int (pa_cons pe_int pa_nil)))))), ?_⟩
    refine ⟨_, rfl, a, _, rfl, .inl hS, fun p hp => ⟨by show 4 ≤ sizeLine; decide, fun r hr => ?_⟩⟩
    have hpr : r ≠ p := fun z => by rw [z, upd_same] at hr; cases hr
    rw [upd_ne hpr] at hr
    exact hq p r hp (Ne.symm hpr) hr
end

/-! ### the law -/
def spLaw (K : PySem.W.Frag) : Sp := fun vs H Q _ => ∃ (a : Addr) (ns : List Int), vs = [.ref a] ∧ ns.length ≤ 63 ∧ (∀ z ∈ ns, Builtin.Int.intBits z ≤ 1048576) ∧ SqL K H a (ns.map V.int) ∧ ∀ H', Q (.bl true) H'
def isT : Option (Out × Row) → Bool
  | some (.rt (.bl true) _, _) => true
  | _ => false
theorem isT_cases {o : Option (Out × Row)} (h : isT o = true) : ∃ ρ s, o = some (.rt (.bl true) ρ, s) := by
  unfold isT at h
  split at h
  · exact ⟨_, _, rfl⟩
  · cases h
def env0L (m : Nat) : Env := none :: some .row :: List.replicate (m - 2) none
section
variable {P : Program} {w : World} {G : Gt} {mg : Str → Option Value} {base : Heap} {k j : Nat}
theorem fn_law {x qual y z dn : Str} {st : Stmt} {f fDr : Addr} {fd fdD : FuncData} {yd : Str} {p1 p2 p3 p4 p5 : Pos} {N : List Str} {rest : List Stmt} {F : SF} (Fn : Fun G.K x qual st f fd) (S : FnScope N [y] (defScope st))
    (hb : defBody st = .Assign [.Name z p1] (.Call (.Name dn p2) [.Name y p3] [] p5) p4 :: rest) (hN0 : N[0]? = some y) (hN1 : N[1]? = some z) (hv : Vis (defScope st) y) (hz : Loc (defScope st) z) (hl2 : 2 ≤ N.length)
    (hm : mg dn = some (.ref fDr)) (hk : PySem.W.keepIn G.K (.ref fDr) = true) (hbn : Binds G.K fdD [yd] []) (FD : FnOk P w G.K mg base (L2.CX P w) j fDr fdD [yd] (spDraws G.K)) (hj : j ≤ k)
    (hg : ∀ cdv A outer s H E u, Gl (bodyX P w G mg base N qual st f cdv A outer s H E u) dn) (hsw : ∀ cdv A outer s H E u, swapsWith (.Call (.Name dn p2) [.Name y p3] [] p5) (some (.Name z p1)) p4.line (bodyX P w G mg base N qual st f cdv A outer s H E u).env = pure false)
    (hd : (y == ("__debug__" : Str)) = false) (hcd : (y == ("__classdict__" : Str)) = false) (hdn : (dn == ("__debug__" : Str)) = false)
    (hr : ∀ (a : Addr) (cdv : Value) (A : Around) (outer : List PySem.Env) (s : Shared) (H : Hp) (E : XK), Fb (bodyX P w G mg base N qual st f cdv A outer s H E) G P w mg base k N (WD E) (defScope st) → PDB (bodyX P w G mg base N qual st f cdv A outer s H E) G (some a) (WD E) rest F)
    (hF : ∀ (sa : Addr) (ns : List Int), ns.length ≤ 63 → (∀ q ∈ ns, Builtin.Int.intBits q ≤ 1048576) → isT (F (env0L N.length) ⟨sa, ns, 0, 0, 7⟩) = true) (gw : G.w = w := by rfl) :
    FnOk P w G.K mg base (L2.CX P w) (k + 1) f fd [y] (spLaw G.K) := by
  refine Fn.okX S (fun vs H Q E h => ?_) fun cdv A outer s H vs Q E hroom h => ?_
  · obtain ⟨a, ns, rfl, _⟩ := h; rfl
  · obtain ⟨a, ns, rfl, hlen, hbits, hS, hq⟩ := h
    have fb := fb_body (G := G) (P := P) (w := w) (mg := mg) (base := base) (qual := qual) (st := st) (f := f) (cdv := cdv) (A := A) (outer := outer) (s := s) (H := H) (E := E) S hroom gw
    have hr' := fun r => hr r cdv A outer s H E fb
    let tr : Addr → TS := fun r => Classical.choose (hr' r)
    have ht : ∀ r, (∀ i, PSs (bodyX P w G mg base N qual st f cdv A outer s H E i) rest (tr r)) ∧ RS G (some r) (WD E) (tr r) F := fun r => Classical.choose_spec (hr' r)
    rw [hb]
    refine ⟨_, pss_cons (ps_set (i := 1) (fb.fo.hN () ▸ fb.fo.nd) (fb.fo.hN () ▸ hN1) hz (pe_callS (E := WE (WD E)) (fb.fo.fnOk FD ()) ((fb.fo.room ()).mono hj) (hg cdv A outer s H E ()) (fb.fo.hmg () ▸ hm) (fb.fo.hK () ▸ hk) (fb.fo.hK () ▸ hbn) (fun σ => passAt (fb.fo.tk ()) σ) (pa_cons (pe_var (i := 0) (fb.fo.hN () ▸ hN0) hv hd hcd) pa_nil rfl) hdn rfl rfl) (hsw cdv A outer s H E ()) (.inl (fb.fn () z)))
      (show PSs _ rest (fun D σ H => ∃ r, tr r D σ H) from ⟨fun pins s σ H D I ⟨r, h⟩ => ((ht r).1 ()).run pins s σ H D I h⟩), ?_⟩
    have h0 : (L2.start N [.ref a])[0]? = some (some (.ref a)) := rfl
    have hlS : (L2.start N [.ref a]).length = N.length := by unfold L2.start; simp; omega
    refine ⟨.ref a, h0, a, ns, rfl, hS, fun p r hp hpr hrr => ⟨r, ?_⟩⟩
    obtain ⟨ρ', s', e⟩ := isT_cases (hF p ns hlen hbits)
    let I1 : Hp := fun b => if b = p then some (.lst (ns.map V.int)) else none
    have hI1 : I1 p = some (.lst (ns.map V.int)) := if_pos rfl
    have hIr : I1 r = none := if_neg (Ne.symm hpr)
    have ex : Ex I1 (upd (upd H p (.lst (ns.map V.int))) r (.lst [.ref p, .int 0, .int 0, .int 7])) := fun b o q => by
      by_cases hb : b = p
      · subst hb; rw [upd_ne hpr, upd_same, ← hI1]; exact q
      · have : I1 b = none := if_neg hb
        rw [this] at q; cases q
    have ok : (⟨p, ns, 0, 0, 7⟩ : Row).Ok := ⟨hlen, hbits, ⟨by show (0 : Int) ≤ 0; decide, by show (0 : Int) ≤ 63; decide⟩, ⟨by show (0 : Int) ≤ 0; decide, by show Builtin.Int.intBits 0 ≤ 1048576; decide⟩, ⟨by show (0 : Int) ≤ 7; decide, by show (7 : Int) ≤ 2147483647; decide⟩⟩
    have ss : SS G (some r) [] I1 (upd (upd H p (.lst (ns.map V.int))) r (.lst [.ref p, .int 0, .int 0, .int 7])) I1 (upd (upd H p (.lst (ns.map V.int))) r (.lst [.ref p, .int 0, .int 0, .int 7])) ((L2.start N [.ref a]).set 1 (some (.ref r))) (env0L N.length) ⟨p, ns, 0, 0, 7⟩ := by
      have key : ∀ (i : Nat) (q : Sl), (env0L N.length)[i]? = some (some q) → i = 1 ∧ q = .row := fun i q e => by
        unfold env0L at e
        match i, e with
        | 0, e => simp at e
        | 1, e => simp at e; exact ⟨rfl, e.symm⟩
        | i + 2, e => simp only [List.getElem?_cons_succ, List.getElem?_replicate] at e; split at e <;> cases e
      refine ⟨⟨Ex.refl _, ex, fun _ _ h _ _ => h, fun _ h => h, fun _ h => .inl h⟩, ⟨hIr, ok, upd_same, hI1⟩, ⟨?_, fun i q e => ?_, fun i j p' d e' e1 => ?_⟩, fun i d p' e1 => ?_⟩
      · rw [List.length_set, hlS]; unfold env0L; simp; omega
      · obtain ⟨rfl, rfl⟩ := key i q e
        exact ⟨.ref r, by rw [List.getElem?_set_self (by rw [hlS]; omega)], r, rfl, rfl⟩
      · obtain ⟨_, h⟩ := key i _ e1; cases h
      · obtain ⟨_, h⟩ := key i _ e1; cases h
    refine (ht r).2 [] _ _ _ _ _ _ _ ss _ _ s' e fun v σ' I' H' _ rv => ?_
    cases rv
    exact hq H'
end

/-! ### more rules in the words that the printer uses -/
theorem bb_len : bootBuiltins "len" = some (.builtin "len") := by decide +kernel
theorem bb_sum : bootBuiltins "sum" = some (.builtin "sum") := by decide +kernel
theorem bb_all : bootBuiltins "all" = some (.builtin "all") := by decide +kernel
theorem bb_any : bootBuiltins "any" = some (.builtin "any") := by decide +kernel
theorem bb_max : bootBuiltins "max" = some (.builtin "max") := by decide +kernel
theorem bb_min : bootBuiltins "min" = some (.builtin "min") := by decide +kernel
theorem bb_sorted : bootBuiltins "sorted" = some (.builtin "sorted") := by decide +kernel
theorem bb_isinstance : bootBuiltins "isinstance" = some (.builtin "isinstance") := by decide +kernel
theorem bb_list : bootBuiltins "list" = some (.type "list") := by decide +kernel
theorem bb_tuple : bootBuiltins "tuple" = some (.type "tuple") := by decide +kernel
theorem bb_int : bootBuiltins "int" = some (.type "int") := by decide +kernel
theorem bb_bool : bootBuiltins "bool" = some (.type "bool") := by decide +kernel
theorem bb_str : bootBuiltins "str" = some (.type "str") := by decide +kernel
theorem bb_set : bootBuiltins "set" = some (.type "set") := by decide +kernel
section
variable {ι : Type} {X : ι → Cx} {G : Gt} {R : Option Addr} {W : WX} {P : Program} {w : World} {mg : Str → Option Value} {base : Heap} {k j : Nat} {N : List Str} {sc : Scope} {tg iter : Expr} {pos : Pos}
theorem pds_setLc' (fb : Fb X G P w mg base k N W sc) (j : Nat) {x : Str} {py spos : Pos} {elt : Expr} {ifs : List Expr} {scope : Scope} {own : List (Str × Nat)} {fe : EF} (hN : N[j]? = some x) (hx : sc.names.lookup x = some .local) (hsw : ∀ i, swapsWith (.ListComp elt [⟨tg, iter, ifs, 0⟩] scope pos) (some (.Name x py)) spos.line (X i).env = pure true)
    (ok : ∀ i, BlkOk N (X i).env.scope scope own) (h : PDL X G R W elt tg iter ifs scope (own.map (·.2)) fe) (hs : ∀ i x, foldedSetIterable iter (X i).env x = pure x) : PDS X G R W (.Assign [.Name x py] (.ListComp elt [⟨tg, iter, ifs, 0⟩] scope pos) spos) (s_asg fe (g_name j)) :=
  let ⟨wi, g, tt, te, p1, p2, p3, p4, r⟩ := h
  ⟨_, fun i => ps_setLc (fb.calm i) (by rw [fb.fo.hN i]; exact fb.fo.nd) (by rw [fb.fo.hN i]; exact hN) (by rw [fb.sc i]; exact hx) (hsw i) (p1 i) (by rw [fb.fo.hN i]; exact ok i) (p2 i) (p3 i) (p4 i) (hs i), rs_asg r rg_name gok_name⟩
end
theorem fn_getterF {P : Program} {w : World} {G : Gt} {mg : Str → Option Value} {base : Heap} {k : Nat} {x qual fl : Str} {st : Stmt} {f C : Addr} {fd : FuncData} {N : List Str} {p1 p2 p3 : Pos} (Fn : Fun G.K x qual st f fd) (S : FnScope N ["self"] (defScope st)) (hN : N[0]? = some ("self" : Str))
    (hb : defBody st = [.Return (some (.Attribute (.Name "self" p1) fl p2)) p3]) (c : Cls G.K C) (n : NoAttr G.K C fl) : FnOk P w G.K mg base (L2.CX P w) (k + 1) f fd ["self"] (getSp C fl) := by
  obtain ⟨oc, od, kV, doc, pm, an, cdv, ct, osl, rfl, lk, hcd⟩ := Fn.ex
  exact fn_getter lk hcd S hN hb c n
/-- what the text must say that an own class is caught -/
theorem kitOne_ref {K : PySem.W.Frag} {D B : Addr} (h1 : PySem.W.hasDictIn K B = true) (h2 : PySem.W.typeIn K (.ref B) = some (.type "type")) (h3 : PySem.W.subIn K (.ref D) (.ref B) = some true) : PySem.W.kitOne K (.ref D) (.ref B) = some true := by
  unfold PySem.W.kitOne
  split
  · rfl
  · obtain ⟨cd, hc, _⟩ := PySem.W.any_some h1
    unfold PySem.W.kitCls
    simp only [hc, h2, Option.isSome_some, Bool.true_and]
    rw [if_pos (by rfl)]
    exact h3
/-- the written facts of an own class of errors -/
structure ErK (K : PySem.W.Frag) (C : Addr) : Prop where
  ga : PySem.W.findIn K (.ref C) "__getattribute__" = some (some (.builtin "BaseException.__getattribute__"))
  gg : PySem.W.findIn K (.ref C) "__getattr__" = some none
  ex : PySem.W.subIn K (.ref C) (.type "BaseException") = some true
  hd : PySem.W.hasDictIn K C = true
  ca : PySem.W.findIn K (.ref C) "__class__" = some (some (.builtin "object.__class__"))
  cg : PySem.W.specialIn K (.builtin "object.__class__") "__get__" = some (some (.builtin "getset_descriptor.__get__"))
  ct : PySem.W.takesIn K (.builtin "object.__class__") = some true
  mr : PySem.W.mroIn K C (.type "object") = some true
  ty : PySem.W.typeIn K (.ref C) = some (.type "type")
  kp : PySem.W.keepIn K (.ref C) = true
theorem ErK.exc {K : PySem.W.Frag} {C : Addr} (e : ErK K C) : ExcC K C := ⟨e.ga, e.gg, e.ex, e.hd, e.ca, e.cg, e.ct, e.mr⟩
theorem ErK.exf {G : Gt} {mg : Str → Option Value} {nm : Str} {C : Addr} (e : ErK G.K C) (h : G.cls nm = some C) (hm : mg nm = some (.ref C)) : ExF G mg nm C := ⟨h, hm, e.kp, e.ex, e.ty⟩
theorem ErK.exm {K : PySem.W.Frag} {C D : Addr} {b : Bool} (e : ErK K C) (h : PySem.W.subIn K (.ref D) (.ref C) = some b) : PySem.W.exmOne K (.ref D) (.ref C) = some b := PySem.W.exm_ref e.ex e.hd e.ty h
theorem ErK.exn {G : Gt} {nm : Str} {C B : Addr} (e : ErK G.K C) (b : ErK G.K B) (h : G.cls nm = some C) (s : PySem.W.subIn G.K (.ref C) (.ref B) = some true) : ExN G B nm := ⟨C, h, e.exc, kitOne_ref b.hd b.ty s⟩
theorem okx1 {P : Program} {w : World} {G : Gt} {mg : Str → Option Value} {base : Heap} {k : Nat} {x qual fl : Str} {st : Stmt} {f : Addr} {fd : FuncData} {N : List Str} {p1 p2 p3 p4 : Pos} (Fn : Fun G.K x qual st f fd) (S : FnScope N ["self", fl] (defScope st)) (hN0 : N[0]? = some ("self" : Str)) (hN1 : N[1]? = some fl)
    (hb : defBody st = [.Assign [.Attribute (.Name "self" p1) fl p2] (.Name fl p3) p4]) (hv0 : Vis (defScope st) "self") (hv1 : Vis (defScope st) fl) (hd1 : (fl == ("__debug__" : Str)) = false) (hc1 : (fl == ("__classdict__" : Str)) = false)
    (hs : ∀ env : PySem.Env, swapsWith (.Name fl p3) (some (.Attribute (.Name "self" p1) fl p2)) p4.line env = pure false) : FnOk P w G.K mg base (L2.CX P w) (k + 1) f fd ["self", fl] (spX1 G.K fl) :=
  fnX1 Fn S fun cdv A outer s H E => by
    rw [hb]
    exact pss_one (ps_ost (pe_var (i := 0) hN0 hv0) (pe_var (i := 1) hN1 hv1 hd1 hc1) (hs _))

theorem walk_law {l : PySem.W.OpenLaw} {k : Nat} {q : Program} {loose : List Str} {XP : (Str → Option Value) → Heap → Prop} {YP : World → Heap → Prop} {d : DefRec} {K : Params → PySem.W.Frag} (hn : l.most = some 63) (hdf : d.params.defaults = []) (hk : Room k callerA)
    (hY : ∀ (w : World) (h : Heap), YP w h → (K w.params).In h)
    (F : ∀ (w : World) (mg : Str → Option Value) (fa : Addr) (h : Heap), (K w.params).In h → h.Ns mainGlobals mg → mg d.name = some (.ref fa) →
      ∃ fd : FuncData, (∀ (s : Shared) (u : Value), BindsTo s fd ⟨[u], []⟩ [("_law_script", u)]) ∧ ∀ base : Heap, (K w.params).In base → base.Ns mainGlobals mg → FnOk l.prog w (K w.params) mg base (L2.CX l.prog w) k fa fd ["_law_script"] (spLaw (K w.params))) :
    PySem.W.WalkO q loose XP YP l.row.toRowW d [] (fun f vs => PySem.call f vs) :=
  L2.walk_ofB (n := 63) (k := k) (x := "_law_script") (CX := fun w => L2.CX l.prog w) (sp := fun w => spLaw (K w.params)) hn (by decide) hdf hk hY F (fun _ _ a ns hl hb _ hS => ⟨a, ns, rfl, hl, hb, hS, fun _ => rfl⟩) fun _ _ _ _ _ hc => by
    obtain ⟨_, _, _, _, _, _, _, _, _, _, _, _, hE⟩ := hc
    exact hE
end PL
set_option Elab.async false
set_option linter.all false
set_option maxRecDepth 100000
set_option maxHeartbeats 4000000
/-! Comprehensions of two clauses; list(range(..)). -/
namespace PL
open PySem PySem.Spec PyProof.Rows L2
open Evl (Ex)
def lc2Go (g : GF) (tf : TF) (fi1 : AF) (vs1 : List Nat) (g1 : GF) (tf1 : TF) (fe : EF) (ρw : Env) : List D → Row → Option (List D × Row)
  | [], s => some ([], s)
  | x :: xs, s => (g x ρw).bind fun ρ1 =>
    match tf ρ1 s with
    | some (.ok true, s1) => (match fi1 ρ1 s1 with
      | some (.ok ys, s2) => (match lcGo g1 tf1 fe (wipeE ρ1 vs1) ys s2 with
        | some (zs, s3) => (lc2Go g tf fi1 vs1 g1 tf1 fe ρw xs s3).map fun p => (zs ++ p.1, p.2)
        | none => none)
      | _ => none)
    | some (.ok false, s1) => lc2Go g tf fi1 vs1 g1 tf1 fe ρw xs s1
    | _ => none
def e_lc2 (vs : List Nat) (fi : AF) (g : GF) (tf : TF) (fi1 : AF) (vs1 : List Nat) (g1 : GF) (tf1 : TF) (fe : EF) : EF := fun ρ s => bA (fi ρ s) .er fun xs s1 =>
  match lc2Go g tf fi1 vs1 g1 tf1 fe (wipeE ρ vs) xs s1 with
  | some p => if p.1.length ≤ sizeLine then some (.ok (.lst p.1), p.2) else none
  | none => none
section
variable {G : Gt} {R : Option Addr} {W : WX}
theorem lc2Go_cons {g : GF} {tf : TF} {fi1 : AF} {vs1 : List Nat} {g1 : GF} {tf1 : TF} {fe : EF} {ρw : Env} {x : D} {xs : List D} {s s' : Row} {ws : List D} (h : lc2Go g tf fi1 vs1 g1 tf1 fe ρw (x :: xs) s = some (ws, s')) :
    ∃ ρ1, g x ρw = some ρ1 ∧ ((∃ s1 ys s2 zs s3 rs, tf ρ1 s = some (.ok true, s1) ∧ fi1 ρ1 s1 = some (.ok ys, s2) ∧ lcGo g1 tf1 fe (wipeE ρ1 vs1) ys s2 = some (zs, s3) ∧ lc2Go g tf fi1 vs1 g1 tf1 fe ρw xs s3 = some (rs, s') ∧ ws = zs ++ rs) ∨ ∃ s1, tf ρ1 s = some (.ok false, s1) ∧ lc2Go g tf fi1 vs1 g1 tf1 fe ρw xs s1 = some (ws, s')) := by
  rw [lc2Go] at h
  cases q : g x ρw with
  | none => rw [q] at h; cases h
  | some ρ1 =>
    rw [q] at h
    refine ⟨ρ1, rfl, ?_⟩
    rw [Option.bind_some] at h
    split at h
    · rename_i s1 e1
      split at h
      · rename_i ys s2 e2
        split at h
        · rename_i zs s3 e3
          cases q2 : lc2Go g tf fi1 vs1 g1 tf1 fe ρw xs s3 with
          | none => rw [q2] at h; cases h
          | some p =>
            rw [q2] at h
            cases h
            exact .inl ⟨s1, ys, s2, zs, s3, p.1, e1, e2, e3, q2, rfl⟩
        · cases h
      · cases h
    · rename_i s1 e1
      exact .inr ⟨s1, e1, h⟩
    · cases h
theorem wipeE_at {ρ : Env} {i : Nat} {d : D} : ∀ {vs : List Nat}, (wipeE ρ vs)[i]? = some (some (.ce d)) → ρ[i]? = some (some (.ce d)) ∧ i ∉ vs
  | [], h => ⟨h, by simp⟩
  | v :: vs, h => by
    have h' : ((wipeE ρ vs).set v none)[i]? = some (some (.ce d)) := h
    by_cases q : v = i
    · subst q
      by_cases hl : v < (wipeE ρ vs).length
      · rw [List.getElem?_set_self hl] at h'; cases h'
      · rw [List.getElem?_eq_none (by simpa using hl)] at h'; cases h'
    · rw [List.getElem?_set_ne q] at h'
      obtain ⟨a, b⟩ := wipeE_at h'
      exact ⟨a, by simp [b, Ne.symm q]⟩
theorem wipe_other {σ : L2.St} {i : Nat} : ∀ {vs : List Nat}, i ∉ vs → (wipe σ vs)[i]? = σ[i]?
  | [], _ => rfl
  | v :: vs, h => by
    show ((wipe σ vs).set v none)[i]? = _
    rw [List.getElem?_set_ne (fun z => h (by simp [z])), wipe_other fun z => h (by simp [z])]
/-- slots that were told once stand where their own things do -/
theorem slots_re {I I' H H' : Hp} {σ : L2.St} {ρ : Env} (sl : Slots G R I H σ ρ) (e : Ex I I') (hc : ∀ (i : Nat) (d : D) (p : Addr), ρ[i]? = some (some (.ce d)) → σ[i]? = some (some (.ref p)) → I' p = none ∧ Cell G I' H' p d) : Slots G R I' H' σ ρ :=
  ⟨sl.len, fun i s h => by
    obtain ⟨v, h1, h2⟩ := sl.at_ i s h
    refine ⟨v, h1, ?_⟩
    cases s with
    | im d => exact Rep.mono e h2
    | ce d =>
      obtain ⟨p, rfl, n, nR, c⟩ := h2
      obtain ⟨a, b⟩ := hc i d p h h1
      exact ⟨p, rfl, a, nR, b⟩
    | row => exact h2, sl.ne⟩
theorem re_lc2 {wi : TI} {fi : AF} {g : TG} {gf : GF} {js vs : List Nat} {tt : TT} {tf : TF} {wi1 : TI} {fi1 : AF} {g1 : TG} {gf1 : GF} {js1 vs1 : List Nat} {tt1 : TT} {tf1 : TF} {te : TE} {fe : EF} (hi : RI G R W wi fi) (hg : RG G g gf js) (hk : GOk gf js) (hj : ∀ j ∈ js, j ∈ vs)
    (ht : RT G R (fun _ _ _ _ => False) tt tf) (hi1 : RI G R (fun _ _ _ _ => False) wi1 fi1) (hg1 : RG G g1 gf1 js1) (hj1 : ∀ j ∈ js1, j ∈ vs1) (ht1 : RT G R (fun _ _ _ _ => False) tt1 tf1) (he : RE G R (fun _ _ _ _ => False) te fe) : RE G R W (tLc2 wi g tt wi1 g1 tt1 te vs vs1) (e_lc2 vs fi gf tf fi1 vs1 gf1 tf1 fe) := fun I H σ ρ s e ro sl Q res s' hf hp => by
  rcases bA_cases hf with ⟨x, e1, e2⟩ | ⟨xs, s1, e1, e2⟩
  · subst e2
    exact hi I H σ ρ s e ro sl _ _ _ e1 hp
  · refine hi I H σ ρ s e ro sl _ _ _ e1 fun J I1 H1 st1 ro1 it hz => fun D0 hD => ?_
    have sl1 := sl.step st1
    split at e2
    · rename_i p hgo
      split at e2
      · rename_i hlen
        cases e2
        obtain ⟨ys, sf⟩ := p
        refine ⟨fun i m H' => m = xs.length - i ∧ i ≤ xs.length ∧ ∃ I' s' acc zs, LcOk G R I1 H1 D0 acc I' H' ∧ RowOk G R s' I' H' ∧ lc2Go gf tf fi1 vs1 gf1 tf1 fe (wipeE ρ vs) (xs.drop i) s' = some (zs, sf) ∧ acc ++ zs = ys, ⟨_, rfl, Nat.zero_le _, ?_⟩, ?_⟩
        · have k := LcOk.start st1.ih hD ro1
          exact ⟨I1, s1, [], ys, k.1, k.2, hgo, rfl⟩
        · rintro i m H' ⟨hm, hi', I', s2, acc, zs, k, ro2, hgo2, hys⟩
          have itk := it i I' H' k.st.ii k.st.ih
          by_cases hlt : i < xs.length
          · right
            have hx : xs[i]? = some xs[i] := List.getElem?_eq_getElem hlt
            obtain ⟨hgo3, hy⟩ := itk.1 _ hx
            refine ⟨hgo3, fun H3 => ∃ m', m' < m ∧ m' = xs.length - (i + 1) ∧ i + 1 ≤ xs.length ∧ ∃ I' s' acc zs, LcOk G R I1 H1 D0 acc I' H3 ∧ RowOk G R s' I' H3 ∧ lc2Go gf tf fi1 vs1 gf1 tf1 fe (wipeE ρ vs) (xs.drop (i + 1)) s' = some (zs, sf) ∧ acc ++ zs = ys, fun H3 ⟨m', a1, a2, a3, a4⟩ => ⟨m', a1, a2, a3, a4⟩, fun v H3 hy2 => ?_⟩
            obtain ⟨I3, st3, rv⟩ := hy v H3 hy2
            rw [List.drop_eq_getElem_cons hlt] at hgo2
            obtain ⟨ρ1, hgx, h1⟩ := lc2Go_cons hgo2
            have hR := LcOk.ne (I := I') (H := H') ro1 hD
            have ro3 := ro2.step0 st3
            have st3' := st3.row (R := R)
            have k3 : LcOk G R I1 H1 D0 acc I3 H3 := by
              obtain ⟨vs, b1, b2, b3⟩ := k.at_
              exact ⟨k.st.trans st3', nw_none st3' k.nD (by rw [b1]; simp), vs, st3'.fr _ _ b1 hR, b2.mono st3'.ii, b3⟩
            have sl3 := (sl1.step k3.st).wipe vs
            refine hg R I3 H3 (wipe σ vs) (wipeE ρ vs) ρ1 v _ k3.st.ih sl3 rv hgx _ fun σ2 sl2 w2 => ?_
            have wEq : wipe σ2 vs = wipe σ vs := by
              refine (w2 vs hj).trans ?_
              have : ∀ us : List Nat, (∀ u ∈ us, u ∈ vs) → wipe (wipe σ us) vs = wipe σ vs := by
                intro us
                induction us with
                | nil => intro _; rfl
                | cons u us ih =>
                  intro hu
                  show wipe ((wipe σ us).set u none) vs = wipe σ vs
                  rw [wipe_set (hu u (by simp))]
                  exact ih fun z hz => hu z (by simp [hz])
              exact this vs fun _ h => h
            -- the cells of the slots are those of the start
            have cells : ∀ {I5 H5 : Hp}, Step R I1 H1 I5 H5 → ∀ (i : Nat) (d : D) (p : Addr), ρ1[i]? = some (some (.ce d)) → σ2[i]? = some (some (.ref p)) → I5 p = none ∧ Cell G I5 H5 p d := fun {I5 H5} s5 i d p c1 c2 => by
              obtain ⟨c3, c4⟩ := hk _ _ _ hgx i d c1
              obtain ⟨c5, c6⟩ := wipeE_at c3
              have c7 : σ2[i]? = σ[i]? := by rw [← wipe_other c6, wEq, wipe_other c6]
              obtain ⟨v5, g1, g2⟩ := (sl1.step s5).at_ i _ c5
              rw [c7, g1] at c2
              cases c2
              obtain ⟨p', e5, g3, g4, g5⟩ := g2
              cases e5
              exact ⟨g3, g5⟩
            refine ⟨wEq, ?_⟩
            rcases h1 with ⟨s4, us, s5, zs5, s6, rs, f1, f2, f3, f4, f5⟩ | ⟨s4, f1, f4⟩
            · refine ht I3 H3 σ2 ρ1 s2 k3.st.ih ro3 sl2 _ _ _ f1 fun I4 H4 st4 ro4 => iteT ?_
              refine hi1 I4 H4 σ2 ρ1 s4 st4.ih ro4 (sl2.step st4) _ _ _ f2 fun J1 I5 H5 st5 ro5 it5 hz5 => ?_
              have st45 := st4.trans st5
              have k5 : LcOk G R I1 H1 D0 acc I5 H5 := by
                obtain ⟨ws, b1, b2, b3⟩ := k3.at_
                exact ⟨k3.st.trans st45, nw_none st45 k3.nD (by rw [b1]; simp), ws, st45.fr _ _ b1 hR, b2.mono st45.ii, b3⟩
              have sl5 := (sl2.step st4).step st5
              refine ⟨fun j n H6 => n = us.length - j ∧ j ≤ us.length ∧ ∃ I6 s7 acc6 zs6, LcOk G R I1 H1 D0 acc6 I6 H6 ∧ Ex I5 I6 ∧ RowOk G R s7 I6 H6 ∧ lcGo gf1 tf1 fe (wipeE ρ1 vs1) (us.drop j) s7 = some (zs6, s6) ∧ acc6 ++ zs6 = acc ++ zs5, ⟨_, rfl, Nat.zero_le _, I5, s5, acc, zs5, k5, Ex.refl _, ro5, f3, rfl⟩, ?_⟩
              rintro j n H6 ⟨hn, hj6, I6, s7, acc6, zs6, k6, x6, ro6, g6, y6⟩
              have itj := it5 j I6 H6 x6 k6.st.ih
              by_cases hjl : j < us.length
              · right
                have hxj : us[j]? = some us[j] := List.getElem?_eq_getElem hjl
                obtain ⟨go6, hy6⟩ := itj.1 _ hxj
                refine ⟨go6, fun H7 => ∃ k', k' < n ∧ k' = us.length - (j + 1) ∧ j + 1 ≤ us.length ∧ ∃ I6 s7 acc6 zs6, LcOk G R I1 H1 D0 acc6 I6 H7 ∧ Ex I5 I6 ∧ RowOk G R s7 I6 H7 ∧ lcGo gf1 tf1 fe (wipeE ρ1 vs1) (us.drop (j + 1)) s7 = some (zs6, s6) ∧ acc6 ++ zs6 = acc ++ zs5, fun H7 ⟨k', a1, a2, a3, a4⟩ => ⟨k', a1, a2, a3, a4⟩, fun v7 H7 hy7 => ?_⟩
                obtain ⟨I7, st7, rv7⟩ := hy6 v7 H7 hy7
                rw [List.drop_eq_getElem_cons hjl] at g6
                have sl6 : Slots G R I6 H6 σ2 ρ1 := slots_re sl5 x6 (cells k6.st)
                refine lc_turn hg1 hj1 ht1 he hD ro1 sl6 k6 ro6 g6 st7 rv7 ?_ fun I8 H8 acc8 zs8 s8 x8 k8 ro8 g8 y8 => ?_
                · rw [← List.length_append, y6]
                  have : (acc ++ zs).length ≤ sizeLine := by rw [hys]; exact hlen
                  rw [f5] at this
                  simp at this ⊢
                  omega
                · refine ⟨us.length - (j + 1), by omega, rfl, by omega, I8, s8, acc8, zs8, k8, x6.trans x8, ro8, g8, by rw [y8, y6]⟩
              · left
                have hje : j = us.length := by omega
                refine ⟨itj.2 (by omega), ?_⟩
                rw [hje, List.drop_length] at g6
                cases g6
                rw [List.append_nil] at y6
                exact ⟨xs.length - (i + 1), by omega, rfl, by omega, I6, s6, acc6, rs, k6, ro6, f4, by rw [y6, List.append_assoc, ← f5, hys]⟩
            · refine ht I3 H3 σ2 ρ1 s2 k3.st.ih ro3 sl2 _ _ _ f1 fun I4 H4 st4 ro4 => iteF ?_
              refine ⟨xs.length - (i + 1), by omega, rfl, by omega, I4, s4, acc, zs, ?_, ro4, f4, hys⟩
              obtain ⟨ws, b1, b2, b3⟩ := k3.at_
              exact ⟨k3.st.trans st4, nw_none st4 k3.nD (by rw [b1]; simp), ws, st4.fr _ _ b1 hR, b2.mono st4.ii, b3⟩
          · left
            have hie : i = xs.length := by omega
            refine ⟨itk.2 (by omega), ?_⟩
            rw [hie, List.drop_length] at hgo2
            cases hgo2
            have hacc : acc = ys := by rw [← hys, List.append_nil]
            subst hacc
            obtain ⟨I5, st5, ro5, rep⟩ := k.done hD ro2 ⟨s1, ro1⟩ hlen
            exact hp _ I5 H' (st1.trans st5) ro5 rep
      · cases e2
    · cases e2

variable {ι : Type} {X : ι → Cx} {P : Program} {w : World} {mg : Str → Option Value} {base : Heap} {k j : Nat} {N : List Str} {sc : Scope} {tg iter tg1 iter1 elt a b : Expr} {fi fi1 : AF} {gf gf1 : GF} {js js1 vs1 : List Nat} {tf tf1 : TF} {fe fa fb : EF} {p pos p2 : Pos}
def PDL2 (X : ι → Cx) (G : Gt) (R : Option Addr) (W : WX) (elt tg iter : Expr) (ifs : List Expr) (tg1 iter1 : Expr) (ifs1 : List Expr) (scope : Scope) (vs vs1 : List Nat) (F : EF) : Prop :=
  ∃ wi g tt wi1 g1 tt1 te, (∀ i, PI (X i) tg iter wi) ∧ (∀ p, PG (blkF X scope p) tg g) ∧ (∀ p, PTs (blkF X scope p) ifs tt) ∧ (∀ p, PI (blkF X scope p) tg1 iter1 wi1) ∧ (∀ p, PG (blkF X scope p) tg1 g1) ∧ (∀ p, PTs (blkF X scope p) ifs1 tt1) ∧ (∀ p, PE (blkF X scope p) elt te) ∧ RE G R W (tLc2 wi g tt wi1 g1 tt1 te vs vs1) F
theorem pdl2_mk {ifs ifs1 : List Expr} {scope : Scope} {vs : List Nat} (hi : PDI X G R W tg iter fi) (hg : PDG (blkF X scope) G tg gf js) (hk : GOk gf js) (ht : PDTs (blkF X scope) G R W0 ifs tf) (hi1 : PDI (blkF X scope) G R W0 tg1 iter1 fi1) (hg1 : PDG (blkF X scope) G tg1 gf1 js1) (ht1 : PDTs (blkF X scope) G R W0 ifs1 tf1) (he : PDE (blkF X scope) G R W0 elt fe) (hj : ∀ j ∈ js, j ∈ vs) (hj1 : ∀ j ∈ js1, j ∈ vs1) :
    PDL2 X G R W elt tg iter ifs tg1 iter1 ifs1 scope vs vs1 (e_lc2 vs fi gf tf fi1 vs1 gf1 tf1 fe) :=
  let ⟨wi, p1, r1⟩ := hi; let ⟨g, p2, r2⟩ := hg; let ⟨tt, p3, r3⟩ := ht; let ⟨wi1, p4, r4⟩ := hi1; let ⟨g1, p5, r5⟩ := hg1; let ⟨tt1, p6, r6⟩ := ht1; let ⟨te, p7, r7⟩ := he
  ⟨wi, g, tt, wi1, g1, tt1, te, p1, p2, p3, p4, p5, p6, p7, re_lc2 r1 r2 hk hj r3 r4 r5 hj1 r6 r7⟩
theorem pd_lc2 (fo : Fo X G P w mg base k N W) {ifs ifs1 : List Expr} {scope : Scope} {own : List (Str × Nat)} {F : EF} (hc : ∀ i, (X i).calm = true) (ok : ∀ i, BlkOk N (X i).env.scope scope own) (h : PDL2 X G R W elt tg iter ifs tg1 iter1 ifs1 scope (own.map (·.2)) vs1 F) (hv : ∀ i ∈ vs1, i ∈ own.map (·.2))
    (hs : ∀ i x, foldedSetIterable iter (X i).env x = pure x) (hs1 : ∀ env x, foldedSetIterable iter1 env x = pure x) : PDE X G R W (.ListComp elt [⟨tg, iter, ifs, 0⟩, ⟨tg1, iter1, ifs1, 0⟩] scope pos) F :=
  let ⟨wi, g, tt, wi1, g1, tt1, te, p1, p2, p3, p4, p5, p6, p7, r⟩ := h
  ⟨_, fun i => pe_lc2 (hc i) (by rw [fo.hN i]; exact fo.nd) (p1 i) (by rw [fo.hN i]; exact ok i) hv (fun s H C cl fp => p2 (i, s, H, C, cl, fp)) (fun s H C cl fp => p3 (i, s, H, C, cl, fp)) (fun s H C cl fp => p4 (i, s, H, C, cl, fp)) (fun s H C cl fp => p5 (i, s, H, C, cl, fp)) (fun s H C cl fp => p6 (i, s, H, C, cl, fp)) (fun s H C cl fp => p7 (i, s, H, C, cl, fp)) (hs i) hs1, r⟩
theorem pds_setLc2 (fb : Fb X G P w mg base k N W sc) (j : Nat) {x : Str} {py spos : Pos} {ifs ifs1 : List Expr} {scope : Scope} {own : List (Str × Nat)} {F : EF} (hN : N[j]? = some x) (hx : sc.names.lookup x = some .local) (hsw : ∀ i, swapsWith (.ListComp elt [⟨tg, iter, ifs, 0⟩, ⟨tg1, iter1, ifs1, 0⟩] scope pos) (some (.Name x py)) spos.line (X i).env = pure true)
    (ok : ∀ i, BlkOk N (X i).env.scope scope own) (h : PDL2 X G R W elt tg iter ifs tg1 iter1 ifs1 scope (own.map (·.2)) vs1 F) (hv : ∀ i ∈ vs1, i ∈ own.map (·.2)) (hs : ∀ i x, foldedSetIterable iter (X i).env x = pure x) (hs1 : ∀ env x, foldedSetIterable iter1 env x = pure x) :
    PDS X G R W (.Assign [.Name x py] (.ListComp elt [⟨tg, iter, ifs, 0⟩, ⟨tg1, iter1, ifs1, 0⟩] scope pos) spos) (s_asg F (g_name j)) :=
  let ⟨wi, g, tt, wi1, g1, tt1, te, p1, p2, p3, p4, p5, p6, p7, r⟩ := h
  ⟨_, fun i => ps_setLc2 (fb.calm i) (by rw [fb.fo.hN i]; exact fb.fo.nd) (by rw [fb.fo.hN i]; exact hN) (by rw [fb.sc i]; exact hx) (hsw i) (p1 i) (by rw [fb.fo.hN i]; exact ok i) hv (fun s H C cl fp => p2 (i, s, H, C, cl, fp)) (fun s H C cl fp => p3 (i, s, H, C, cl, fp)) (fun s H C cl fp => p4 (i, s, H, C, cl, fp)) (fun s H C cl fp => p5 (i, s, H, C, cl, fp)) (fun s H C cl fp => p6 (i, s, H, C, cl, fp)) (fun s H C cl fp => p7 (i, s, H, C, cl, fp)) (hs i) hs1, rs_asg r rg_name gok_name⟩
/-! ### list(range(..)) -/
def rgOk (a b : Int) : Bool := decide (-(2 ^ 62) ≤ a ∧ a < 2 ^ 62 ∧ -(2 ^ 62) ≤ b ∧ b < 2 ^ 62 ∧ (b - a).toNat ≤ 2 ^ 24)
theorem rgOk_ok {a b : Int} (h : rgOk a b = true) : RgOk a b := by unfold rgOk at h; simp only [decide_eq_true_eq] at h; exact h
def listR1 : D → Option D
  | .int n => if rgOk 0 n = true then some (.lst (rangeL 0 n)) else none
  | _ => none
def listR2 : D → D → Option D
  | .int m, .int n => if rgOk m n = true then some (.lst (rangeL m n)) else none
  | _, _ => none
theorem reps_rg {H : Hp} (a b : Int) : Reps G H (rgV a b) (rangeL a b) := by
  unfold rgV rangeL
  induction (List.range (b - a).toNat) with
  | nil => exact .nil
  | cons x l ih => exact .cons (.int _) ih
theorem rgV_size {a b : Int} (h : rgOk a b = true) : (rgV a b).length ≤ sizeLine := by
  have := (of_decide_eq_true h).2.2.2.2
  rw [rgV_length, sizeLine_eq]; omega
theorem re_listR1 {ta : TE} (h : RE G R W ta fa) : RE G R W (tLstRg (tRg1 ta)) (e_un listR1 fa) := fun I H σ ρ s e ro sl Q res s' hf hp => by
  refine re_seq h e ro sl hf (fun x ex => by subst ex; exact hp) fun x s1 h1 v I1 H1 st1 ro1 sl1 rv => ?_
  obtain ⟨d, e1, e2, e3⟩ := okR_cases h1
  subst e2; subst e3
  cases rv with
  | int n =>
    have e1' : (if rgOk 0 n = true then some (D.lst (rangeL 0 n)) else none) = some d := e1
    split at e1'
    · rename_i ok
      cases e1'
      refine ⟨n, rfl, rgOk_ok ok, fun q hq => ?_⟩
      have n2 := new_lst (R := R) st1.ih hq (reps_rg (G := G) 0 n) (rgV_size ok)
      exact hp _ _ _ (st1.trans n2.1) (ro1.step0 (new_lst (R := none) st1.ih hq (reps_rg (G := G) 0 n) (rgV_size ok)).1) n2.2
    · cases e1'
  | _ => cases e1
theorem re_listR2 {ta tb : TE} (h : RE G R W ta fa) (h' : RE G R W tb fb) : RE G R W (tLstRg (tRg2 ta tb)) (e_bin listR2 fa fb) := fun I H σ ρ s e ro sl Q res s' hf hp => by
  refine re_seq h e ro sl hf (fun x ex => by subst ex; exact hp) fun x s1 h1 v I1 H1 st1 ro1 sl1 rv => ?_
  refine re_seq h' st1.ih ro1 sl1 h1 (fun z ez => by subst ez; exact fun c dd I' H' st => hp c dd I' H' (st1.trans st)) fun y s2 h2 u I2 H2 st2 ro2 sl2 ru => ?_
  obtain ⟨d, e1, e2, e3⟩ := okR_cases h2
  subst e2; subst e3
  have st := st1.trans st2
  cases x with
  | int m =>
    cases y with
    | int n =>
      cases rv; cases ru
      have e1' : (if rgOk m n = true then some (D.lst (rangeL m n)) else none) = some d := e1
      split at e1'
      · rename_i ok
        cases e1'
        refine ⟨m, n, rfl, rfl, rgOk_ok ok, fun q hq => ?_⟩
        have n2 := new_lst (R := R) st2.ih hq (reps_rg (G := G) m n) (rgV_size ok)
        exact hp _ _ _ (st.trans n2.1) (ro2.step0 (new_lst (R := none) st2.ih hq (reps_rg (G := G) m n) (rgV_size ok)).1) n2.2
      · cases e1'
    | _ => cases e1
  | _ => cases e1
theorem pd_listR1 (fo : Fo X G P w mg base k N W) (hc : ∀ i, (X i).calm = true) (hg : ∀ i, Gl (X i) "list") (hm : mg "list" = none) (hg2 : ∀ i, Gl (X i) "range") (hm2 : mg "range" = none) (h : PDE X G R W a fa) (hs : ∀ i, starEach [a] (X i).env = (false, eval a (X i).env) :: starEach [] (X i).env)
    {rp : Pos} (hs2 : ∀ i, starEach [.Call (.Name "range" p2) [a] [] rp] (X i).env = (false, eval (.Call (.Name "range" p2) [a] [] rp) (X i).env) :: starEach [] (X i).env) : PDE X G R W (.Call (.Name "list" p) [.Call (.Name "range" p2) [a] [] rp] [] pos) (e_un listR1 fa) :=
  let ⟨_, pa, ra⟩ := h; ⟨_, fun i => pe_listRg (hc i) (hg i) (by rw [fo.hmg i]; exact hm) (prg_1 (hg2 i) (by rw [fo.hmg i]; exact hm2) (pa i) (hs i)) (hs2 i), re_listR1 ra⟩
theorem pd_listR2 (fo : Fo X G P w mg base k N W) (hc : ∀ i, (X i).calm = true) (hg : ∀ i, Gl (X i) "list") (hm : mg "list" = none) (hg2 : ∀ i, Gl (X i) "range") (hm2 : mg "range" = none) (h : PDE X G R W a fa) (h' : PDE X G R W b fb) (hs : ∀ i, starEach [a, b] (X i).env = (false, eval a (X i).env) :: starEach [b] (X i).env) (hsb : ∀ i, starEach [b] (X i).env = (false, eval b (X i).env) :: starEach [] (X i).env)
    {rp : Pos} (hpl : ∀ i, (backTo rp (starEach [b] (X i).env)).any (·.1) = false) (hs2 : ∀ i, starEach [.Call (.Name "range" p2) [a, b] [] rp] (X i).env = (false, eval (.Call (.Name "range" p2) [a, b] [] rp) (X i).env) :: starEach [] (X i).env) : PDE X G R W (.Call (.Name "list" p) [.Call (.Name "range" p2) [a, b] [] rp] [] pos) (e_bin listR2 fa fb) :=
  let ⟨_, pa, ra⟩ := h; let ⟨_, pb, rb⟩ := h'; ⟨_, fun i => pe_listRg (hc i) (hg i) (by rw [fo.hmg i]; exact hm) (prg_2 (hg2 i) (by rw [fo.hmg i]; exact hm2) (pa i) (pb i) (hs i) (hsb i) (hpl i)) (hs2 i), re_listR2 ra rb⟩

/-! ### a test that looks at a thing that changes -/
def t_peek (i : Nat) (f : TF) : TF := fun ρ s => match f (frz i ρ) s with
  | some (.ok b, s1) => if s1.sa = s.sa then some (.ok b, s1) else none
  | _ => none
theorem rt_peek {i : Nat} {t : TT} {f : TF} (h : RT G R W t f) : RT G R W t (t_peek i f) := fun I H σ ρ s e ro sl Q res s' hf hp => by
  cases q : ceAt ρ i with
  | none =>
    have hz : PL.frz i ρ = ρ := by unfold PL.frz; rw [q]
    unfold t_peek at hf
    rw [hz] at hf
    refine h I H σ ρ s e ro sl Q res s' ?_ hp
    split at hf
    · rename_i e1
      split at hf
      · cases hf; exact e1
      · cases hf
    · cases hf
  | some d =>
    have h1 := ceAt_cases q
    obtain ⟨v, a1, p, rfl, a3, a4, a5⟩ := sl.at_ i _ h1
    obtain ⟨o, ho, hot, rp⟩ := a5.frz a3
    unfold t_peek at hf
    rw [frz_eq q] at hf
    have sl2 := sl.frz h1 a1 a3 rp
    have ro2 := row_frz (o := o) ro a3 a4
    have hh := h (L2.upd I p o) H σ (ρ.set i (some (.im d))) s (ex_frz e ho) ro2 sl2 Q
    split at hf
    · rename_i d' s1 e1
      split at hf
      · rename_i hn
        cases hf
        refine hh _ _ e1 fun I' H' st ro' => ?_
        refine hp (PL.drop I' p) H' (step_drop a3 ho st) (row_drop ro' fun r hr => ?_)
        subst hr
        rw [hn]
        exact row_sa ro a3
      · cases hf
    · cases hf
theorem pdt_peek (j : Nat) {tf : TF} (h : PDT X G R W a tf) : PDT X G R W a (t_peek j tf) := let ⟨_, p, r⟩ := h; ⟨_, p, rt_peek r⟩
end
end PL
set_option Elab.async false
set_option linter.all false
set_option maxRecDepth 100000
set_option maxHeartbeats 4000000
/-! Starred items; three stores at once; isinstance by own classes and by two types. -/
namespace PL
open PySem PySem.Spec PyProof.Rows L2
open Evl (Ex)
def a_star (fa : EF) (fr : AF) : AF := fun ρ s => bE (fa ρ s) .error fun x s1 => match x with
  | .lst xs => bA (fr ρ s1) .error fun ys s2 => some (.ok (xs ++ ys), s2)
  | .tup xs => bA (fr ρ s1) .error fun ys s2 => some (.ok (xs ++ ys), s2)
  | _ => none
def s_par3 (i j l : Nat) (fa fb fc : EF) : SF := fun ρ s => bE (fa ρ s) (.er · ρ) fun x s1 => bE (fb ρ s1) (.er · ρ) fun y s2 => bE (fc ρ s2) (.er · ρ) fun z s3 => if i < ρ.length ∧ j < ρ.length ∧ l < ρ.length then some (.nx (((ρ.set i (some (.im x))).set j (some (.im y))).set l (some (.im z))), s3) else none
def isO (nm : Str) (d : D) : Option D := match d with
  | .ins n _ => if n = nm then some (.bl true) else none
  | d => (tyD d).map fun _ => .bl false
def isB2 (T U : String) (d : D) : Option D := (tyD d).bind fun a => (kitB a T).bind fun b => (kitB a U).map fun c => .bl (b || c)
section
variable {G : Gt} {R : Option Addr} {W : WX}
theorem ra_star {te : TE} {fe : EF} {t : TA} {fr : AF} (h : RE G R W te fe) (h' : RA G R W t fr) : RA G R W (StX.tStar G.K te t) (a_star fe fr) := fun I H σ ρ s e ro sl Q res s' hf hp => by
  refine re_seq h e ro sl hf (fun x ex => by subst ex; exact hp) fun x s1 h1 v I1 H1 st1 ro1 sl1 rv => ?_
  have fin : ∀ {a : Addr} {vs : List V} {ds : List D}, v = .ref a → Reps G I1 vs ds → (SqT G.K H1 a vs ∨ SqL G.K H1 a vs) → (bA (fr ρ s1) .error fun ys s2 => some (Except.ok (ds ++ ys), s2)) = some (res, s') → ∃ p xs, v = V.ref p ∧ (SqT G.K H1 p xs ∨ SqL G.K H1 p xs) ∧ t σ H1 fun ys H2 => Q (xs ++ ys) H2 := fun {a vs ds} ev rs hs h2 => by
    refine ⟨a, vs, ev, hs, ra_seq h' st1.ih ro1 sl1 h2 (fun z ez => by subst ez; exact fun c dd I' H' st => hp c dd I' H' (st1.trans st)) fun ys s2 h3 us I2 H2 st2 ro2 sl2 rus => ?_⟩
    cases h3
    exact hp (vs ++ us) I2 H2 (st1.trans st2) ro2 ((rs.mono st2.ii).append rus)
  cases rv with
  | lst a1 a2 a3 a4 => exact fin rfl a3 (.inr (Evl.ex_l st1.ih a1)) h1
  | tup a1 a3 a4 => exact fin rfl a3 (.inl (Evl.ex_t st1.ih a1)) h1
  | _ => cases h1
theorem rs_par3 {i j l : Nat} {ta tb tc : TE} {fa fb fc : EF} (ha : RE G R W ta fa) (hb : RE G R W tb fb) (hc : RE G R W tc fc) : RS G R W (tPar3 i j l (tCons ta (tCons tb (tCons tc tNil)))) (s_par3 i j l fa fb fc) := fun ps I0 H0 I H σ ρ s x Dn o s' hf hp => by
  refine rs_eval ha x hf hp fun d s1 h1 v I1 H1 st1 x1 rv => ?_
  refine rs_eval hb x1 h1 hp fun d2 s2 h2 u I2 H2 st2 x2 ru => ?_
  refine rs_eval hc x2 h2 hp fun d3 s3 h3 q I3 H3 st3 x3 rq => ?_
  split at h3
  · cases h3
    exact ⟨v, u, q, rfl, hp _ I3 H3 (((x3.set ((rv.mono st2.ii).mono st3.ii)).set (ru.mono st3.ii)).set rq)⟩
  · cases h3
/-- what the text must say of an own class that isinstance is asked with -/
structure OwnIs (G : Gt) (nm : Str) (C : Addr) : Prop where
  cls : G.cls nm = some C
  cl : Cls G.K C
  ca : PySem.W.findIn G.K (.ref C) "__class__" = some (some (.builtin "object.__class__"))
  cg : PySem.W.specialIn G.K (.builtin "object.__class__") "__get__" = some (some (.builtin "getset_descriptor.__get__"))
  ct : PySem.W.takesIn G.K (.builtin "object.__class__") = some true
  mr : PySem.W.mroIn G.K C (.type "object") = some true
  ty : PySem.W.typeIn G.K (.ref C) = some (.type "type")
  n1 : PySem.W.subIn G.K (.type "NoneType") (.ref C) = some false
  n2 : PySem.W.subIn G.K (.type "bool") (.ref C) = some false
  n3 : PySem.W.subIn G.K (.type "int") (.ref C) = some false
  n4 : PySem.W.subIn G.K (.type "str") (.ref C) = some false
  n5 : PySem.W.subIn G.K (.type "tuple") (.ref C) = some false
  n6 : PySem.W.subIn G.K (.type "list") (.ref C) = some false
  n7 : PySem.W.subIn G.K (.type "dict") (.ref C) = some false
theorem OwnIs.no {nm : Str} {C : Addr} (o : OwnIs G nm C) {d : D} {T : String} (h : tyD d = some T) : PySem.W.kitOne G.K (.type T) (.ref C) = some false := by
  have key : ∀ T : String, PySem.W.subIn G.K (.type T) (.ref C) = some false → PySem.W.kitOne G.K (.type T) (.ref C) = some false := fun T h => by
    obtain ⟨cd, hc, _⟩ := PySem.W.any_some o.cl.hd
    unfold PySem.W.kitOne
    rw [if_neg (by intro z; have := eq_of_beq z; cases this)]
    unfold PySem.W.kitCls
    simp only [hc, o.ty, Option.isSome_some, Bool.true_and]
    rw [if_pos (by rfl)]
    exact h
  cases d <;> cases h
  · exact key _ o.n1
  · exact key _ o.n2
  · exact key _ o.n3
  · exact key _ o.n4
  · exact key _ o.n5
  · exact key _ o.n6
  · exact key _ o.n7
theorem re_isO {nm : Str} {C : Addr} (o : OwnIs G nm C) {te : TE} {fe : EF} (he : RE G R W te fe) : RE G R W (tCB (rIsi G.K) (tCons te (tCons (tC (.ref C)) tNil))) (e_un (isO nm) fe) := fun I H σ ρ s e ro sl Q res s' hf hp => by
  refine re_seq he e ro sl hf (fun x ex => by subst ex; exact hp) fun x s1 h1 v I1 H1 st1 ro1 sl1 rv => ?_
  obtain ⟨d, e1, e2, e3⟩ := okR_cases h1
  subst e2; subst e3
  have base : ∀ a, tyD x = some a → some (D.bl false) = some d → ∃ (y c : V) (t u : Value) (b : Bool), [v, V.ref C] = [y, c] ∧ ClsV c u ∧ TyX G.K H1 y t ∧ PySem.W.kitOne G.K t u = some b ∧ Q (.bl b) H1 := fun a ht hd => by
    cases hd
    exact ⟨v, .ref C, .type a, .ref C, false, rfl, .own C, rv.tyX st1.ih ht, o.no ht, hp _ I1 H1 st1 ro1 (.bl false)⟩
  cases x with
  | ins n fs =>
    have e1' : (if n = nm then some (D.bl true) else none) = some d := e1
    split at e1'
    · rename_i hn
      cases e1'
      cases rv with
      | @ins a C' dx _ vs _ h1 h2 h3 =>
        rw [hn, o.cls] at h1
        cases h1
        have hk : PySem.W.kitOne G.K (.ref C) (.ref C) = some true := by unfold PySem.W.kitOne; simp
        exact ⟨_, .ref C, .ref C, .ref C, true, rfl, .own C, .base (.ins (st1.ih _ _ h2) o.cl o.ca o.cg o.ct o.mr), hk, hp _ I1 H1 st1 ro1 (.bl true)⟩
    · cases e1'
  | non => exact base _ rfl e1
  | bl _ => exact base _ rfl e1
  | int _ => exact base _ rfl e1
  | str _ => exact base _ rfl e1
  | tup _ => exact base _ rfl e1
  | lst _ => exact base _ rfl e1
  | dct _ => exact base _ rfl e1
  | dcn kvs => exact absurd e1 (by simp [isO, tyD])
  | dcb kvs => exact absurd e1 (by simp [isO, tyD])
theorem re_isB2 {T U : String} {te : TE} {fe : EF} (he : RE G R W te fe) : RE G R W (tCB (rIsiT G.K) (tCons te (tCons (tTup (tCons (tC (.ty T)) (tCons (tC (.ty U)) tNil))) tNil))) (e_un (isB2 T U) fe) := fun I H σ ρ s e ro sl Q res s' hf hp => by
  refine re_seq he e ro sl hf (fun x ex => by subst ex; exact hp) fun x s1 h1 v I1 H1 st1 ro1 sl1 rv => ?_
  obtain ⟨d, e1, e2, e3⟩ := okR_cases h1
  subst e2; subst e3
  unfold isB2 at e1
  obtain ⟨a, ea, e1⟩ := Option.bind_eq_some_iff.mp e1
  obtain ⟨b, eb, e1⟩ := Option.bind_eq_some_iff.mp e1
  obtain ⟨c, ec, e1⟩ := Option.map_eq_some_iff.mp e1
  subst e1
  refine ⟨by show 2 ≤ sizeLine; decide, fun p hp2 => ?_⟩
  obtain ⟨n1, n2, _⟩ := new_cell (o := .tup [.ty T, .ty U]) st1.ih ro1 hp2
  have hk : PySem.W.kitAny G.K (.type a) [.type T, .type U] = some (b || c) := by
    unfold PySem.W.kitAny
    rw [kit_ty eb]
    cases b with
    | true => rfl
    | false =>
      show PySem.W.kitAny G.K (.type a) [.type U] = _
      unfold PySem.W.kitAny
      rw [kit_ty ec]
      cases c <;> rfl
  have ty : TyX G.K (upd H1 p (.tup [.ty T, .ty U])) v (.type a) := rv.tyX n1.ih ea
  exact ⟨v, p, _, .type a, _, b || c, rfl, upd_same, .cons (.ty T) (.cons (.ty U) .nil), ty, hk, hp _ I1 _ (st1.trans n1) n2 (.bl _)⟩
variable {ι : Type} {X : ι → Cx} {P : Program} {w : World} {mg : Str → Option Value} {base : Heap} {k j : Nat} {N : List Str} {sc : Scope} {e a b c : Expr} {es : List Expr} {fe fa fb fc : EF} {fr : AF} {x y z t u : Str} {p pos p2 p3 p4 p5 : Pos}
theorem pda_star (fo : Fo X G P w mg base k N W) (h : PDE X G R W e fe) (h' : PDA X G R W es fr) (hs : ∀ i, starEach (.Starred e p :: es) (X i).env = (true, eval e (X i).env) :: starEach es (X i).env) : PDA X G R W (.Starred e p :: es) (a_star fe fr) :=
  let ⟨_, pe, re⟩ := h; let ⟨_, pr, rr⟩ := h'
  ⟨_, fun i => by rw [← fo.hK i]; exact StX.pa_star (pe i) (pr i) (hs i), ra_star re rr⟩
theorem pds_par3 (fb : Fb X G P w mg base k N W sc) (i j l : Nat) {px py pz pt pt2 : Pos} {kt k2 : Nat} (hi : N[i]? = some x) (hj : N[j]? = some y) (hl : N[l]? = some z) (hij : i ≠ j) (hil : i ≠ l) (hjl : j ≠ l) (hx : sc.names.lookup x = some .local) (hy : sc.names.lookup y = some .local) (hz : sc.names.lookup z = some .local) (ha : PDE X G R W a fa) (hb : PDE X G R W b fe) (hc : PDE X G R W c fc)
    (hs1 : ∀ i, starEach [a, b, c] (X i).env = (false, eval a (X i).env) :: starEach [b, c] (X i).env) (hs2 : ∀ i, starEach [b, c] (X i).env = (false, eval b (X i).env) :: starEach [c] (X i).env) (hs3 : ∀ i, starEach [c] (X i).env = (false, eval c (X i).env) :: starEach [] (X i).env)
    (hw : ∀ i, swappedStores [.Tuple [.Name x px, .Name y py, .Name z pz] kt pt] (.Tuple [a, b, c] k2 pt2) (X i).env = pure (some [x, y, z])) (hs : ∀ i, swapsWithSole [.Tuple [.Name x px, .Name y py, .Name z pz] kt pt] (.Tuple [a, b, c] k2 pt2) pos.line (X i).env = pure false) :
    PDS X G R W (.Assign [.Tuple [.Name x px, .Name y py, .Name z pz] kt pt] (.Tuple [a, b, c] k2 pt2) pos) (s_par3 i j l fa fe fc) :=
  let ⟨_, p1, r1⟩ := ha; let ⟨_, p2, r2⟩ := hb; let ⟨_, p3, r3⟩ := hc
  ⟨_, fun q => ps_par3 (fb.calm q) (by rw [fb.fo.hN q]; exact fb.fo.nd) (by rw [fb.fo.hN q]; exact hi) (by rw [fb.fo.hN q]; exact hj) (by rw [fb.fo.hN q]; exact hl) hij hil hjl (by rw [fb.sc q]; exact hx) (by rw [fb.sc q]; exact hy) (by rw [fb.sc q]; exact hz) (pa_cons (p1 q) (pa_cons (p2 q) (pa_cons (p3 q) pa_nil (hs3 q)) (hs2 q)) (hs1 q)) (hw q) (hs q), rs_par3 r1 r2 r3⟩
theorem pd_isO (fo : Fo X G P w mg base k N W) {C : Addr} (o : OwnIs G t C) (hm : mg "isinstance" = none) (hT : mg t = some (.ref C)) (hg : ∀ i, Gl (X i) "isinstance") (hgT : ∀ i, Gl (X i) t) (he : PDE X G R W e fe)
    (hs : ∀ i, starEach [e, .Name t p2] (X i).env = (false, eval e (X i).env) :: starEach [.Name t p2] (X i).env) (hs2 : ∀ i, starEach [.Name t p2] (X i).env = (false, eval (.Name t p2) (X i).env) :: starEach [] (X i).env) (hpl : ∀ i, (backTo pos (starEach [.Name t p2] (X i).env)).any (·.1) = false) (hdb : (t == ("__debug__" : Str)) = false := by decide) :
    PDE X G R W (.Call (.Name "isinstance" p) [e, .Name t p2] [] pos) (e_un (isO t) fe) :=
  let ⟨_, pe, re⟩ := he
  ⟨_, fun i => pe_callB (by rw [← fo.hK i]; exact call_isi) (hg i) (by rw [fo.hmg i]; exact hm) bb_isinstance (pa_cons (pe i) (pa_cons (pe_glob (v := .ref C) (hgT i) (by rw [fo.hmg i]; exact hT) rfl hdb) pa_nil (hs2 i)) (hs i)) (by decide) (by decide) (hs i) (hpl i), re_isO o re⟩
theorem pd_isB2 (fo : Fo X G P w mg base k N W) {Ts Us : String} {kk : Nat} (hm : mg "isinstance" = none) (hT : mg t = none) (hU : mg u = none) (hv : bootBuiltins t = some (.type Ts)) (hv2 : bootBuiltins u = some (.type Us)) (hg : ∀ i, Gl (X i) "isinstance") (hgT : ∀ i, Gl (X i) t) (hgU : ∀ i, Gl (X i) u) (he : PDE X G R W e fe)
    (hs : ∀ i, starEach [e, .Tuple [.Name t p2, .Name u p3] kk p4] (X i).env = (false, eval e (X i).env) :: starEach [.Tuple [.Name t p2, .Name u p3] kk p4] (X i).env) (hs2 : ∀ i, starEach [.Tuple [.Name t p2, .Name u p3] kk p4] (X i).env = (false, eval (.Tuple [.Name t p2, .Name u p3] kk p4) (X i).env) :: starEach [] (X i).env) (hpl : ∀ i, (backTo pos (starEach [.Tuple [.Name t p2, .Name u p3] kk p4] (X i).env)).any (·.1) = false)
    (ht1 : ∀ i, starEach [.Name t p2, .Name u p3] (X i).env = (false, eval (.Name t p2) (X i).env) :: starEach [.Name u p3] (X i).env) (ht2 : ∀ i, starEach [.Name u p3] (X i).env = (false, eval (.Name u p3) (X i).env) :: starEach [] (X i).env)
    (hn : t ≠ "__name__" := by decide) (hn2 : u ≠ "__name__" := by decide) (hdb : (t == ("__debug__" : Str)) = false := by decide) (hdb2 : (u == ("__debug__" : Str)) = false := by decide) :
    PDE X G R W (.Call (.Name "isinstance" p) [e, .Tuple [.Name t p2, .Name u p3] kk p4] [] pos) (e_un (isB2 Ts Us) fe) :=
  let ⟨_, pe, re⟩ := he
  ⟨_, fun i => pe_callB (by rw [← fo.hK i]; exact call_isiT) (hg i) (by rw [fo.hmg i]; exact hm) bb_isinstance (pa_cons (pe i) (pa_cons (pe_tup (pa_cons (pe_bltn (v := .ty Ts) (hgT i) (by rw [fo.hmg i]; exact hT) hv rfl hn hdb) (pa_cons (pe_bltn (v := .ty Us) (hgU i) (by rw [fo.hmg i]; exact hU) hv2 rfl hn2 hdb2) pa_nil (ht2 i)) (ht1 i))) pa_nil (hs2 i)) (hs i)) (by decide) (by decide) (hs i) (hpl i), re_isB2 re⟩

theorem pdt_chainle (ha : PDE X G R W a fa) (hb : PDE X G R W b fb) (hc : PDE X G R W c fc) (hm : lastMarks [.LtE, .LtE] [b, c] = false := by with_unfolding_all rfl) : PDT X G R W (.Compare a [.LtE, .LtE] [b, c] pos) (t_of (e_chain leD leD fa fb fc)) :=
  let ⟨_, pa, ra⟩ := ha; let ⟨_, pb, rb⟩ := hb; let ⟨_, pc, rc⟩ := hc; ⟨_, fun i => pt_chain op_le op_le (pa i) (pb i) (pc i) hm, rt_of (re_chain ops_le ops_le ra rb rc)⟩
theorem pdt_chainlt (ha : PDE X G R W a fa) (hb : PDE X G R W b fb) (hc : PDE X G R W c fc) (hm : lastMarks [.Lt, .Lt] [b, c] = false := by with_unfolding_all rfl) : PDT X G R W (.Compare a [.Lt, .Lt] [b, c] pos) (t_of (e_chain ltD ltD fa fb fc)) :=
  let ⟨_, pa, ra⟩ := ha; let ⟨_, pb, rb⟩ := hb; let ⟨_, pc, rc⟩ := hc; ⟨_, fun i => pt_chain op_lt op_lt (pa i) (pb i) (pc i) hm, rt_of (re_chain ops_lt ops_lt ra rb rc)⟩
end
end PL
set_option Elab.async false
set_option linter.all false
set_option maxRecDepth 100000
set_option maxHeartbeats 4000000
/-! What the functions of the pure layer come to: the calculus. -/
namespace PL
open PySem PySem.Spec PyProof.Rows L2
def wp {α : Type} (x : Option (α × Row)) (Q : α → Row → Prop) : Prop := ∃ a s, x = some (a, s) ∧ Q a s
theorem wp_mono {α : Type} {x : Option (α × Row)} {Q Q' : α → Row → Prop} (h : wp x Q) (k : ∀ a s, Q a s → Q' a s) : wp x Q' := let ⟨a, s, e, q⟩ := h; ⟨a, s, e, k a s q⟩
@[simp] theorem wp_some {α : Type} {a : α} {s : Row} {Q : α → Row → Prop} : wp (some (a, s)) Q ↔ Q a s := by
  constructor
  · rintro ⟨a', s', e, q⟩; cases e; exact q
  · exact fun q => ⟨a, s, rfl, q⟩
@[simp] theorem wp_none {α : Type} {Q : α → Row → Prop} : wp none Q ↔ False := by
  constructor
  · rintro ⟨a', s', e, q⟩; cases e
  · exact False.elim
/-- go on with data, or out with the error -/
def rk (k : D → Row → Prop) (q : Exn → Row → Prop) : Res → Row → Prop
  | .ok d, s => k d s
  | .er x, s => q x s
@[simp] theorem rk_ok {k : D → Row → Prop} {q : Exn → Row → Prop} {d : D} {s : Row} : rk k q (.ok d) s = k d s := rfl
@[simp] theorem rk_er {k : D → Row → Prop} {q : Exn → Row → Prop} {x : Exn} {s : Row} : rk k q (.er x) s = q x s := rfl
def ek {β : Type} (k : β → Row → Prop) (q : Exn → Row → Prop) : Except Exn β → Row → Prop
  | .ok d, s => k d s
  | .error x, s => q x s
@[simp] theorem ek_ok {β : Type} {k : β → Row → Prop} {q : Exn → Row → Prop} {d : β} {s : Row} : ek k q (.ok d) s = k d s := rfl
@[simp] theorem ek_er {β : Type} {k : β → Row → Prop} {q : Exn → Row → Prop} {x : Exn} {s : Row} : ek k q (.error x) s = q x s := rfl
theorem wp_bE {α : Type} {x : Option (Res × Row)} {er : Exn → α} {k : D → Row → Option (α × Row)} {Q : α → Row → Prop} : wp (bE x er k) Q ↔ wp x (rk (fun d s => wp (k d s) Q) fun e s => Q (er e) s) := by
  match x with
  | none => exact Iff.rfl.trans (by simp)
  | some (.er e, s) => simp
  | some (.ok d, s) => simp
theorem wp_bA {α : Type} {x : Option (Except Exn (List D) × Row)} {er : Exn → α} {k : List D → Row → Option (α × Row)} {Q : α → Row → Prop} : wp (bA x er k) Q ↔ wp x (ek (fun d s => wp (k d s) Q) fun e s => Q (er e) s) := by
  match x with
  | none => exact Iff.rfl.trans (by simp)
  | some (.error e, s) => simp
  | some (.ok d, s) => simp
theorem wp_bT {α : Type} {x : Option (Except Exn Bool × Row)} {er : Exn → α} {k : Bool → Row → Option (α × Row)} {Q : α → Row → Prop} : wp (bT x er k) Q ↔ wp x (ek (fun d s => wp (k d s) Q) fun e s => Q (er e) s) := by
  match x with
  | none => exact Iff.rfl.trans (by simp)
  | some (.error e, s) => simp
  | some (.ok d, s) => simp
theorem wp_bO {α : Type} {x : Option (Except Exn (Option Int) × Row)} {er : Exn → α} {k : Option Int → Row → Option (α × Row)} {Q : α → Row → Prop} : wp (bO x er k) Q ↔ wp x (ek (fun d s => wp (k d s) Q) fun e s => Q (er e) s) := by
  match x with
  | none => exact Iff.rfl.trans (by simp)
  | some (.error e, s) => exact Iff.rfl.trans (by simp)
  | some (.ok d, s) => exact Iff.rfl.trans (by simp)
/-- data there is -/
def some? (o : Option D) (k : D → Prop) : Prop := ∃ d, o = some d ∧ k d
@[simp] theorem some?_some {d : D} {k : D → Prop} : some? (some d) k ↔ k d := by simp [some?]
@[simp] theorem some?_none {k : D → Prop} : some? none k ↔ False := by simp [some?]
theorem wp_okR {o : Option D} {s : Row} {Q : Res → Row → Prop} : wp (okR o s) Q ↔ some? o fun d => Q (.ok d) s := by
  cases o <;> simp
theorem wp_iff {α : Type} {x : Option (α × Row)} {Q Q' : α → Row → Prop} (h : ∀ a s, Q a s ↔ Q' a s) : wp x Q ↔ wp x Q' := ⟨fun z => wp_mono z fun a s => (h a s).mp, fun z => wp_mono z fun a s => (h a s).mpr⟩
theorem rk_iff {k k' : D → Row → Prop} {q : Exn → Row → Prop} (h : ∀ d s, k d s ↔ k' d s) : ∀ r s, rk k q r s ↔ rk k' q r s
  | .ok d, s => h d s
  | .er _, _ => Iff.rfl
theorem ek_iff {β : Type} {k k' : β → Row → Prop} {q : Exn → Row → Prop} (h : ∀ d s, k d s ↔ k' d s) : ∀ r s, ek k q r s ↔ ek k' q r s
  | .ok d, s => h d s
  | .error _, _ => Iff.rfl
theorem wrk {x : Option (Res × Row)} {k k' : D → Row → Prop} {q : Exn → Row → Prop} (h : ∀ d s, k d s ↔ k' d s) : wp x (rk k q) ↔ wp x (rk k' q) := wp_iff (rk_iff h)
theorem wek {β : Type} {x : Option (Except Exn β × Row)} {k k' : β → Row → Prop} {q : Exn → Row → Prop} (h : ∀ d s, k d s ↔ k' d s) : wp x (ek k q) ↔ wp x (ek k' q) := wp_iff (ek_iff h)
variable {ρ : Env} {s : Row} {Q : Res → Row → Prop}
@[simp] theorem wp_var {i : Nat} : wp (e_var i ρ s) Q ↔ some? (imAt ρ i) fun d => Q (.ok d) s := wp_okR
@[simp] theorem wp_c {d : D} : wp (e_c d ρ s) Q ↔ Q (.ok d) s := wp_some
@[simp] theorem wp_bin {op : D → D → Option D} {fa fb : EF} : wp (e_bin op fa fb ρ s) Q ↔ wp (fa ρ s) (rk (fun x s1 => wp (fb ρ s1) (rk (fun y s2 => some? (op x y) fun d => Q (.ok d) s2) fun e s => Q (.er e) s)) fun e s => Q (.er e) s) := by
  unfold e_bin; simp only [wp_bE, wp_okR]
@[simp] theorem wp_un {op : D → Option D} {fa : EF} : wp (e_un op fa ρ s) Q ↔ wp (fa ρ s) (rk (fun x s1 => some? (op x) fun d => Q (.ok d) s1) fun e s => Q (.er e) s) := by
  unfold e_un; simp only [wp_bE, wp_okR]
@[simp] theorem wp_anil {Q : Except Exn (List D) → Row → Prop} : wp (a_nil ρ s) Q ↔ Q (.ok []) s := wp_some
@[simp] theorem wp_acons {fa : EF} {fr : AF} {Q : Except Exn (List D) → Row → Prop} : wp (a_cons fa fr ρ s) Q ↔ wp (fa ρ s) (rk (fun x s1 => wp (fr ρ s1) (ek (fun xs s2 => Q (.ok (x :: xs)) s2) fun e s => Q (.error e) s)) fun e s => Q (.error e) s) := by
  unfold a_cons; simp only [wp_bE, wp_bA, wp_some]
@[simp] theorem wp_args {op : List D → Option D} {fa : AF} : wp (e_args op fa ρ s) Q ↔ wp (fa ρ s) (ek (fun xs s1 => some? (op xs) fun d => Q (.ok d) s1) fun e s => Q (.er e) s) := by
  unfold e_args; simp only [wp_bA, wp_okR]
@[simp] theorem wp_tof {fa : EF} {Q : Except Exn Bool → Row → Prop} : wp (t_of fa ρ s) Q ↔ wp (fa ρ s) (rk (fun x s1 => ∃ b, x = .bl b ∧ Q (.ok b) s1) fun e s => Q (.error e) s) := by
  unfold t_of; rw [wp_bE]
  exact wrk fun x s => by cases x <;> simp
@[simp] theorem wp_tnot {fa : TF} {Q : Except Exn Bool → Row → Prop} : wp (t_not fa ρ s) Q ↔ wp (fa ρ s) (ek (fun b s1 => Q (.ok (!b)) s1) fun e s => Q (.error e) s) := by
  unfold t_not; simp only [wp_bT, wp_some]
@[simp] theorem wp_tand {fa fb : TF} {Q : Except Exn Bool → Row → Prop} : wp (t_and fa fb ρ s) Q ↔ wp (fa ρ s) (ek (fun b s1 => (b = true → wp (fb ρ s1) Q) ∧ (b = false → Q (.ok false) s1)) fun e s => Q (.error e) s) := by
  unfold t_and; rw [wp_bT]
  have : ∀ (b : Bool) (s1 : Row), wp (if b = true then fb ρ s1 else some (.ok false, s1)) Q ↔ ((b = true → wp (fb ρ s1) Q) ∧ (b = false → Q (.ok false) s1)) := fun b s1 => by cases b <;> simp
  exact wek this
@[simp] theorem wp_tor {fa fb : TF} {Q : Except Exn Bool → Row → Prop} : wp (t_or fa fb ρ s) Q ↔ wp (fa ρ s) (ek (fun b s1 => (b = true → Q (.ok true) s1) ∧ (b = false → wp (fb ρ s1) Q)) fun e s => Q (.error e) s) := by
  unfold t_or; rw [wp_bT]
  have : ∀ (b : Bool) (s1 : Row), wp (if b = true then some (.ok true, s1) else fb ρ s1) Q ↔ ((b = true → Q (.ok true) s1) ∧ (b = false → wp (fb ρ s1) Q)) := fun b s1 => by cases b <;> simp
  exact wek this
@[simp] theorem wp_eand {fa fb : EF} : wp (e_and fa fb ρ s) Q ↔ wp (fa ρ s) (rk (fun x s1 => ∃ b, x = .bl b ∧ (b = true → wp (fb ρ s1) Q) ∧ (b = false → Q (.ok (.bl false)) s1)) fun e s => Q (.er e) s) := by
  unfold e_and; rw [wp_bE]
  have : ∀ (x : D) (s1 : Row), wp (match x with | .bl true => fb ρ s1 | .bl false => some (.ok (.bl false), s1) | _ => none) Q ↔ ∃ b, x = .bl b ∧ (b = true → wp (fb ρ s1) Q) ∧ (b = false → Q (.ok (.bl false)) s1) := fun x s1 => by
    cases x with
    | bl b => cases b <;> simp
    | _ => simp
  exact wrk this
@[simp] theorem wp_eor {fa fb : EF} : wp (e_or fa fb ρ s) Q ↔ wp (fa ρ s) (rk (fun x s1 => ∃ b, x = .bl b ∧ (b = true → Q (.ok (.bl true)) s1) ∧ (b = false → wp (fb ρ s1) Q)) fun e s => Q (.er e) s) := by
  unfold e_or; rw [wp_bE]
  have : ∀ (x : D) (s1 : Row), wp (match x with | .bl true => some (.ok (.bl true), s1) | .bl false => fb ρ s1 | _ => none) Q ↔ ∃ b, x = .bl b ∧ (b = true → Q (.ok (.bl true)) s1) ∧ (b = false → wp (fb ρ s1) Q) := fun x s1 => by
    cases x with
    | bl b => cases b <;> simp
    | _ => simp
  exact wrk this
@[simp] theorem wp_eif {t : TF} {fa fb : EF} : wp (e_if t fa fb ρ s) Q ↔ wp (t ρ s) (ek (fun b s1 => (b = true → wp (fa ρ s1) Q) ∧ (b = false → wp (fb ρ s1) Q)) fun e s => Q (.er e) s) := by
  unfold e_if; rw [wp_bT]
  have : ∀ (b : Bool) (s1 : Row), wp (if b = true then fa ρ s1 else fb ρ s1) Q ↔ ((b = true → wp (fa ρ s1) Q) ∧ (b = false → wp (fb ρ s1) Q)) := fun b s1 => by cases b <;> simp
  exact wek this
@[simp] theorem wp_chain {op op' : D → D → Option D} {fa fb fc : EF} : wp (e_chain op op' fa fb fc ρ s) Q ↔ wp (fa ρ s) (rk (fun x s1 => wp (fb ρ s1) (rk (fun y s2 => some? (op x y) fun d => ∃ b, d = .bl b ∧ (b = true → wp (fc ρ s2) (rk (fun z s3 => some? (op' y z) fun d => Q (.ok d) s3) fun e s => Q (.er e) s)) ∧ (b = false → Q (.ok (.bl false)) s2)) fun e s => Q (.er e) s)) fun e s => Q (.er e) s) := by
  unfold e_chain; rw [wp_bE]; simp only [wp_bE]
  have : ∀ (x y : D) (s2 : Row), wp (match op x y with | some (.bl true) => bE (fc ρ s2) .er fun z s3 => okR (op' y z) s3 | some (.bl false) => some (.ok (.bl false), s2) | _ => none) Q ↔ some? (op x y) fun d => ∃ b, d = .bl b ∧ (b = true → wp (fc ρ s2) (rk (fun z s3 => some? (op' y z) fun d => Q (.ok d) s3) fun e s => Q (.er e) s)) ∧ (b = false → Q (.ok (.bl false)) s2) := fun x y s2 => by
    cases h : op x y with
    | none => simp
    | some d =>
      cases d with
      | bl b => cases b <;> simp [wp_bE, wp_okR]
      | _ => simp
  exact wrk fun x s1 => wrk fun y s2 => this x y s2
@[simp] theorem wp_tyes {Q : Except Exn Bool → Row → Prop} : wp (t_yes ρ s) Q ↔ Q (.ok true) s := wp_some
/-! ### calls -/
@[simp] theorem wp_call {F : List D → Option Res} {fa : AF} : wp (e_call F fa ρ s) Q ↔ wp (fa ρ s) (ek (fun ds s1 => ∃ r, F ds = some r ∧ Q r s1) fun e s => Q (.er e) s) := by
  unfold e_call; rw [wp_bA]
  have : ∀ (ds : List D) (s1 : Row), wp (match F ds with | some r => some (r, s1) | none => none) Q ↔ ∃ r, F ds = some r ∧ Q r s1 := fun ds s1 => by
    cases F ds <;> simp
  exact wek this
@[simp] theorem wp_call0 {F : List D → Option Res} : wp (e_call0 F ρ s) Q ↔ ∃ d, F [] = some (.ok d) ∧ Q (.ok d) s := by
  unfold e_call0
  cases F [] with
  | none => simp
  | some r => cases r <;> simp
@[simp] theorem wp_callR {i : Nat} {F : List D → Row → Option (Res × Row)} {fa : AF} : wp (e_callR i F fa ρ s) Q ↔ ρ[i]? = some (some .row) ∧ wp (fa ρ s) (ek (fun ds s1 => wp (F ds s1) Q) fun e s => Q (.er e) s) := by
  unfold e_callR
  split
  · rename_i h; rw [wp_bA]; simp [h]
  · rename_i h
    simp only [wp_none, false_iff]
    rintro ⟨h', _⟩
    exact h h'
@[simp] theorem wp_make {nm : Str} {F : List D → Option (Except Exn (List (Str × D)))} {fa : AF} : wp (e_make nm F fa ρ s) Q ↔ wp (fa ρ s) (ek (fun ds s1 => ∃ r, F ds = some r ∧ (match r with | .ok fs => Q (.ok (.ins nm fs)) s1 | .error x => Q (.er x) s1)) fun e s => Q (.er e) s) := by
  unfold e_make; rw [wp_bA]
  have : ∀ (ds : List D) (s1 : Row), wp (match F ds with | some (.ok fs) => some (.ok (.ins nm fs), s1) | some (.error x) => some (.er x, s1) | none => none) Q ↔ ∃ r, F ds = some r ∧ (match r with | .ok fs => Q (.ok (.ins nm fs)) s1 | .error x => Q (.er x) s1) := fun ds s1 => by
    cases F ds with
    | none => simp
    | some r => cases r <;> simp
  exact wek this
/-! ### what is walked -/
@[simp] theorem wp_iseq {fa : EF} {Q : Except Exn (List D) → Row → Prop} : wp (i_seq fa ρ s) Q ↔ wp (fa ρ s) (rk (fun x s1 => ∃ xs, (x = .lst xs ∨ x = .tup xs) ∧ Q (.ok xs) s1) fun e s => Q (.error e) s) := by
  unfold i_seq; rw [wp_bE]
  have : ∀ (x : D) (s1 : Row), wp (match x with | .lst xs => some (Except.ok xs, s1) | .tup xs => some (.ok xs, s1) | _ => (none : Option (Except Exn (List D) × Row))) Q ↔ ∃ xs, (x = .lst xs ∨ x = .tup xs) ∧ Q (.ok xs) s1 := fun x s1 => by
    cases x <;> simp
  exact wrk this
@[simp] theorem wp_range1 {fa : EF} {Q : Except Exn (List D) → Row → Prop} : wp (i_range1 fa ρ s) Q ↔ wp (fa ρ s) (rk (fun x s1 => ∃ j, x = .int j ∧ (-(2 ^ 62) ≤ j ∧ j.toNat ≤ sizeLine) ∧ Q (.ok (rangeL 0 j)) s1) fun e s => Q (.error e) s) := by
  unfold i_range1; rw [wp_bE]
  have : ∀ (x : D) (s1 : Row), wp (match x with | .int j => if -(2 ^ 62) ≤ j ∧ j.toNat ≤ sizeLine then some (Except.ok (rangeL 0 j), s1) else none | _ => (none : Option (Except Exn (List D) × Row))) Q ↔ ∃ j, x = .int j ∧ (-(2 ^ 62) ≤ j ∧ j.toNat ≤ sizeLine) ∧ Q (.ok (rangeL 0 j)) s1 := fun x s1 => by
    cases x with
    | int j =>
      simp only [D.int.injEq, exists_eq_left']
      split
      · rename_i h; exact wp_some.trans ⟨fun z => ⟨h, z⟩, fun z => z.2⟩
      · rename_i h; simp only [wp_none, false_iff]; exact fun z => h z.1
    | _ => simp
  exact wrk this
@[simp] theorem wp_range2 {fa fb : EF} {Q : Except Exn (List D) → Row → Prop} : wp (i_range2 fa fb ρ s) Q ↔ wp (fa ρ s) (rk (fun x s1 => wp (fb ρ s1) (rk (fun y s2 => ∃ i j, x = .int i ∧ y = .int j ∧ ((-(2 ^ 62) ≤ i ∧ i < 2 ^ 62 ∧ -(2 ^ 62) ≤ j ∧ j < 2 ^ 62) ∧ (j - i).toNat ≤ sizeLine) ∧ Q (.ok (rangeL i j)) s2) fun e s => Q (.error e) s)) fun e s => Q (.error e) s) := by
  unfold i_range2; rw [wp_bE]; simp only [wp_bE]
  have : ∀ (x y : D) (s2 : Row), wp (match x, y with | .int i, .int j => if (-(2 ^ 62) ≤ i ∧ i < 2 ^ 62 ∧ -(2 ^ 62) ≤ j ∧ j < 2 ^ 62) ∧ (j - i).toNat ≤ sizeLine then some (Except.ok (rangeL i j), s2) else none | _, _ => (none : Option (Except Exn (List D) × Row))) Q ↔ ∃ i j, x = .int i ∧ y = .int j ∧ ((-(2 ^ 62) ≤ i ∧ i < 2 ^ 62 ∧ -(2 ^ 62) ≤ j ∧ j < 2 ^ 62) ∧ (j - i).toNat ≤ sizeLine) ∧ Q (.ok (rangeL i j)) s2 := fun x y s2 => by
    cases x with
    | int i =>
      cases y with
      | int j =>
        simp only [D.int.injEq]
        split
        · rename_i h
          constructor
          · exact fun z => ⟨i, j, rfl, rfl, h, wp_some.mp z⟩
          · rintro ⟨_, _, rfl, rfl, _, z⟩; exact wp_some.mpr z
        · rename_i h
          simp only [wp_none, false_iff]
          rintro ⟨_, _, rfl, rfl, z, _⟩; exact h z
      | _ => simp
    | _ => simp
  exact wrk fun x s1 => wrk fun y s2 => this x y s2
@[simp] theorem wp_ienum {fa : AF} {Q : Except Exn (List D) → Row → Prop} : wp (i_enum fa ρ s) Q ↔ wp (fa ρ s) (ek (fun ds s1 => ∃ xs, (ds = [.lst xs] ∨ ds = [.tup xs]) ∧ Q (.ok (enumL xs)) s1) fun e s => Q (.error e) s) := by
  unfold i_enum; rw [wp_bA]
  have : ∀ (x : List D) (s1 : Row), wp (match x with | [.lst xs] => some (Except.ok (enumL xs), s1) | [.tup xs] => some (.ok (enumL xs), s1) | _ => (none : Option (Except Exn (List D) × Row))) Q ↔ ∃ xs, (x = [.lst xs] ∨ x = [.tup xs]) ∧ Q (.ok (enumL xs)) s1 := fun x s1 => by
    match x with
    | [] => simp
    | [a] => cases a <;> simp
    | _ :: _ :: _ => simp
  exact wek this
/-! ### statements -/
def nk (k : Env → Row → Prop) (Q : Out → Row → Prop) : Out → Row → Prop
  | .nx ρ, s => k ρ s
  | .rt d ρ, s => Q (.rt d ρ) s
  | .er x ρ, s => Q (.er x ρ) s
variable {k : Env → Row → Prop} {QS : Out → Row → Prop}
@[simp] theorem nk_nx : nk k QS (.nx ρ) s = k ρ s := rfl
@[simp] theorem nk_rt {d : D} : nk k QS (.rt d ρ) s = QS (.rt d ρ) s := rfl
@[simp] theorem nk_er {x : Exn} : nk k QS (.er x ρ) s = QS (.er x ρ) s := rfl
@[simp] theorem wp_skip : wp (s_skip ρ s) QS ↔ QS (.nx ρ) s := wp_some
@[simp] theorem wp_seq {f g : SF} : wp (s_seq f g ρ s) QS ↔ wp (f ρ s) (nk (fun ρ1 s1 => wp (g ρ1 s1) QS) QS) := by
  unfold s_seq
  cases h : f ρ s with
  | none => simp
  | some p => obtain ⟨o, s1⟩ := p; cases o <;> simp
@[simp] theorem wp_expr {fe : EF} : wp (s_expr fe ρ s) QS ↔ wp (fe ρ s) (rk (fun _ s1 => QS (.nx ρ) s1) fun e s => QS (.er e ρ) s) := by
  unfold s_expr; simp only [wp_bE, wp_some]
@[simp] theorem wp_ret {fe : EF} : wp (s_ret fe ρ s) QS ↔ wp (fe ρ s) (rk (fun d s1 => QS (.rt d ρ) s1) fun e s => QS (.er e ρ) s) := by
  unfold s_ret; simp only [wp_bE, wp_some]
@[simp] theorem wp_retN : wp (s_retN ρ s) QS ↔ QS (.rt .non ρ) s := wp_some
@[simp] theorem wp_if {t : TF} {f g : SF} : wp (s_if t f g ρ s) QS ↔ wp (t ρ s) (ek (fun b s1 => (b = true → wp (f ρ s1) QS) ∧ (b = false → wp (g ρ s1) QS)) fun e s => QS (.er e ρ) s) := by
  unfold s_if; rw [wp_bT]
  have : ∀ (b : Bool) (s1 : Row), wp (if b = true then f ρ s1 else g ρ s1) QS ↔ ((b = true → wp (f ρ s1) QS) ∧ (b = false → wp (g ρ s1) QS)) := fun b s1 => by cases b <;> simp
  exact wek this
@[simp] theorem wp_asg {fe : EF} {g : GF} : wp (s_asg fe g ρ s) QS ↔ wp (fe ρ s) (rk (fun d s1 => ∃ ρ1, g d ρ = some ρ1 ∧ QS (.nx ρ1) s1) fun e s => QS (.er e ρ) s) := by
  unfold s_asg; rw [wp_bE]
  have : ∀ (d : D) (s1 : Row), wp ((g d ρ).map fun ρ' => (Out.nx ρ', s1)) QS ↔ ∃ ρ1, g d ρ = some ρ1 ∧ QS (.nx ρ1) s1 := fun d s1 => by
    cases g d ρ <;> simp
  exact wrk this
@[simp] theorem wp_par {i j : Nat} {fa fb : EF} : wp (s_par i j fa fb ρ s) QS ↔ wp (fa ρ s) (rk (fun x s1 => wp (fb ρ s1) (rk (fun y s2 => (i < ρ.length ∧ j < ρ.length) ∧ QS (.nx ((ρ.set i (some (.im x))).set j (some (.im y)))) s2) fun e s => QS (.er e ρ) s)) fun e s => QS (.er e ρ) s) := by
  unfold s_par; rw [wp_bE]; simp only [wp_bE]
  have : ∀ (x y : D) (s2 : Row), wp (if i < ρ.length ∧ j < ρ.length then some (Out.nx ((ρ.set i (some (.im x))).set j (some (.im y))), s2) else none) QS ↔ ((i < ρ.length ∧ j < ρ.length) ∧ QS (.nx ((ρ.set i (some (.im x))).set j (some (.im y)))) s2) := fun x y s2 => by
    split
    · rename_i h; simp [h]
    · rename_i h; simp only [wp_none, false_iff]; exact fun z => h z.1
  exact wrk fun x s1 => wrk fun y s2 => this x y s2
theorem wp_for_of {fi : AF} {g : GF} {f : SF} (h : wp (fi ρ s) (ek (fun xs s1 => wp (forGo g f xs ρ s1) QS) fun e s => QS (.er e ρ) s)) : wp (s_for fi g f ρ s) QS := by
  unfold s_for; rw [wp_bA]; exact h
@[simp] theorem wp_for {fi : AF} {g : GF} {f : SF} : wp (s_for fi g f ρ s) QS ↔ wp (fi ρ s) (ek (fun xs s1 => wp (forGo g f xs ρ s1) QS) fun e s => QS (.er e ρ) s) := by
  unfold s_for; rw [wp_bA]
/-- a loop by an invariant over what is left -/
theorem wp_forGo {g : GF} {f : SF} (J : List D → Env → Row → Prop) (step : ∀ x xs ρ s, J (x :: xs) ρ s → ∃ ρ1, g x ρ = some ρ1 ∧ wp (f ρ1 s) (nk (fun ρ2 s2 => J xs ρ2 s2) QS)) (fin : ∀ ρ s, J [] ρ s → QS (.nx ρ) s) :
    ∀ (xs : List D) (ρ : Env) (s : Row), J xs ρ s → wp (forGo g f xs ρ s) QS
  | [], ρ, s, h => by rw [forGo]; exact wp_some.mpr (fin ρ s h)
  | x :: xs, ρ, s, h => by
    obtain ⟨ρ1, e, o, s1, e2, q⟩ := step x xs ρ s h
    rw [forGo, e, Option.bind_some, e2]
    cases o with
    | nx ρ2 => exact wp_forGo J step fin xs ρ2 s1 q
    | rt d ρ2 => exact wp_some.mpr q
    | er y ρ2 => exact wp_some.mpr q
theorem wp_while {t : TF} {f : SF} (J : Nat → Env → Row → Prop) (step : ∀ m ρ s, J m ρ s → wp (t ρ s) (ek (fun b s1 => (b = true → ∃ m', m = m' + 1 ∧ wp (f ρ s1) (nk (fun ρ2 s2 => J m' ρ2 s2) QS)) ∧ (b = false → QS (.nx ρ) s1)) fun e s => QS (.er e ρ) s)) :
    ∀ (n m : Nat) (ρ : Env) (s : Row), m < n → J m ρ s → wp (whileGo t f n ρ s) QS
  | 0, m, ρ, s, hm, h => absurd hm (Nat.not_lt_zero _)
  | n + 1, m, ρ, s, hm, h => by
    rw [whileGo_succ, wp_bT]
    refine wp_mono (step m ρ s h) fun a s1 q => ?_
    cases a with
    | error e => exact q
    | ok b =>
      cases b with
      | false => simpa using q.2 rfl
      | true =>
        obtain ⟨m', e, o, s2, e2, q2⟩ := q.1 rfl
        show wp (if true = true then _ else _) QS
        rw [if_pos rfl, e2]
        cases o with
        | nx ρ2 => exact wp_while J step n m' ρ2 s2 (by omega) q2
        | rt d ρ2 => exact wp_some.mpr q2
        | er y ρ2 => exact wp_some.mpr q2
@[simp] theorem wp_rowI {i : Nat} {z : Int} : wp (e_rowI i z ρ s) Q ↔ ρ[i]? = some (some .row) ∧ ∃ v, rowAt s z = some v ∧ Q (.ok (.int v)) s := by
  unfold e_rowI
  split
  · rename_i h
    rw [wp_okR]
    cases rowAt s z <;> simp [h]
  · rename_i h
    simp only [wp_none, false_iff]
    exact fun z => h z.1
@[simp] theorem wp_rowS {i : Nat} : wp (e_rowS i ρ s) Q ↔ ρ[i]? = some (some .row) ∧ Q (.ok (.lst (s.scr.map .int))) s := by
  unfold e_rowS
  split
  · rename_i h; simp [h]
  · rename_i h
    simp only [wp_none, false_iff]
    exact fun z => h z.1
@[simp] theorem wp_rowset {i : Nat} {z : Int} {fe : EF} : wp (s_rowset i z fe ρ s) QS ↔ ρ[i]? = some (some .row) ∧ wp (fe ρ s) (rk (fun d s1 => ∃ v s2, d = .int v ∧ rowPut s1 z v = some s2 ∧ QS (.nx ρ) s2) fun e s => QS (.er e ρ) s) := by
  unfold s_rowset
  split
  · rename_i h
    rw [wp_bE]
    have : ∀ (d : D) (s1 : Row), wp (match d with | .int v => (rowPut s1 z v).map fun s2 => (Out.nx ρ, s2) | _ => none) QS ↔ ∃ v s2, d = .int v ∧ rowPut s1 z v = some s2 ∧ QS (.nx ρ) s2 := fun d s1 => by
      cases d with
      | int v =>
        simp only [D.int.injEq]
        cases hh : rowPut s1 z v with
        | none =>
          simp only [Option.map_none, wp_none, false_iff]
          rintro ⟨_, _, rfl, e, _⟩; rw [hh] at e; cases e
        | some s2 =>
          simp only [Option.map_some, wp_some]
          constructor
          · exact fun q => ⟨v, s2, rfl, hh, q⟩
          · rintro ⟨_, _, rfl, e, q⟩; rw [hh] at e; cases e; exact q
      | _ => simp
    exact (wrk this).trans ⟨fun z => ⟨h, z⟩, fun z => z.2⟩
  · rename_i h
    simp only [wp_none, false_iff]
    exact fun z => h z.1
/-! ### what is raised, caught, cut -/
@[simp] theorem wp_raise0 {nm : Str} : wp (s_raise0 nm ρ s) QS ↔ QS (.er ⟨nm, []⟩ ρ) s := wp_some
@[simp] theorem wp_raise1 {nm f : Str} {fe : EF} : wp (s_raise1 nm f fe ρ s) QS ↔ wp (fe ρ s) (rk (fun d s1 => QS (.er ⟨nm, [(f, d)]⟩ ρ) s1) fun e s => QS (.er e ρ) s) := by
  unfold s_raise1; simp only [wp_bE, wp_some]
@[simp] theorem wp_try {f : SF} {qs : List ClF} : wp (s_try f qs ρ s) QS ↔ wp (f ρ s) (fun o s1 => match o with | .er x ρ1 => wp (tryGo qs x ρ1 s1) QS | o => QS o s1) := by
  unfold s_try
  cases h : f ρ s with
  | none => simp
  | some p => obtain ⟨o, s1⟩ := p; cases o <;> simp
@[simp] theorem wp_onone {Q : Except Exn (Option Int) → Row → Prop} : wp (o_none ρ s) Q ↔ Q (.ok none) s := wp_some
@[simp] theorem wp_osome {fe : EF} {Q : Except Exn (Option Int) → Row → Prop} : wp (o_some fe ρ s) Q ↔ wp (fe ρ s) (rk (fun x s1 => ∃ i, x = .int i ∧ Q (.ok (some i)) s1) fun e s => Q (.error e) s) := by
  unfold o_some; rw [wp_bE]
  have : ∀ (x : D) (s1 : Row), wp (match x with | .int i => some (Except.ok (some i), s1) | _ => (none : Option (Except Exn (Option Int) × Row))) Q ↔ ∃ i, x = .int i ∧ Q (.ok (some i)) s1 := fun x s1 => by
    cases x <;> simp
  exact wrk this
@[simp] theorem wp_sl {fa : EF} {fl fh : OF} : wp (e_sl fa fl fh ρ s) Q ↔ wp (fa ρ s) (rk (fun x s1 => wp (fl ρ s1) (ek (fun lo s2 => wp (fh ρ s2) (ek (fun hi s3 => some? (slD x lo hi) fun d => Q (.ok d) s3) fun e s => Q (.er e) s)) fun e s => Q (.er e) s)) fun e s => Q (.er e) s) := by
  unfold e_sl; simp only [wp_bE, wp_bO, wp_okR]
/-! ### comprehensions -/
@[simp] theorem wp_lc {vs : List Nat} {fi : AF} {g : GF} {tf : TF} {fe : EF} : wp (e_lc vs fi g tf fe ρ s) Q ↔ wp (fi ρ s) (ek (fun xs s1 => wp (lcGo g tf fe (wipeE ρ vs) xs s1) fun ys s2 => Q (.ok (.lst ys)) s2) fun e s => Q (.er e) s) := by
  unfold e_lc; rw [wp_bA]
  have : ∀ (xs : List D) (s1 : Row), wp (match lcGo g tf fe (wipeE ρ vs) xs s1 with | some p => some (Res.ok (.lst p.1), p.2) | none => none) Q ↔ wp (lcGo g tf fe (wipeE ρ vs) xs s1) fun ys s2 => Q (.ok (.lst ys)) s2 := fun xs s1 => by
    cases lcGo g tf fe (wipeE ρ vs) xs s1 with
    | none => simp
    | some p => obtain ⟨a, b⟩ := p; simp
  exact wek this
/-- a comprehension whose items answer alone -/
theorem lcGo_pure {g : GF} {tf : TF} {fe : EF} {ρw : Env} {s : Row} (φ : D → Option D) : ∀ xs : List D, (∀ x ∈ xs, ∃ ρ1, g x ρw = some ρ1 ∧ ((tf ρ1 s = some (.ok false, s) ∧ φ x = none) ∨ ∃ y, tf ρ1 s = some (.ok true, s) ∧ fe ρ1 s = some (.ok y, s) ∧ φ x = some y)) → lcGo g tf fe ρw xs s = some (xs.filterMap φ, s)
  | [], _ => rfl
  | x :: xs, h => by
    have ih := lcGo_pure φ xs fun y hy => h y (List.mem_cons_of_mem _ hy)
    obtain ⟨ρ1, e1, h1⟩ := h x List.mem_cons_self
    rw [lcGo, e1, Option.bind_some]
    rcases h1 with ⟨e2, e3⟩ | ⟨y, e2, e3, e4⟩
    · rw [e2]
      simp only [ih, List.filterMap_cons, e3]
    · rw [e2]
      simp only [e3, ih, Option.map_some, List.filterMap_cons, e4]
/-- a pure reading -/
def ev {α : Type} (x : Row → Option (α × Row)) (a : α) : Prop := ∀ s, x s = some (a, s)
theorem eq_of_wp {α : Type} {x : Option (α × Row)} {a : α} {s : Row} (h : wp x fun a' s' => a' = a ∧ s' = s) : x = some (a, s) := by
  obtain ⟨a', s', e, rfl, rfl⟩ := h
  exact e
theorem lc_pure {g : GF} {tf : TF} {fe : EF} {ρw : Env} {s : Row} {QL : List D → Row → Prop} (φ : D → Option D) {xs : List D} (h : ∀ x ∈ xs, ∃ ρ1, g x ρw = some ρ1 ∧ wp (tf ρ1 s) fun b s1 => s1 = s ∧ ((b = .ok false ∧ φ x = none) ∨ (b = .ok true ∧ wp (fe ρ1 s) fun y s2 => s2 = s ∧ ∃ d, y = .ok d ∧ φ x = some d)))
    (hq : QL (xs.filterMap φ) s) : wp (lcGo g tf fe ρw xs s) QL := by
  rw [lcGo_pure φ xs fun x hx => ?_]
  · exact wp_some.mpr hq
  · obtain ⟨ρ1, e, b, s1, e2, rfl, q⟩ := h x hx
    refine ⟨ρ1, e, ?_⟩
    rcases q with ⟨rfl, q⟩ | ⟨rfl, y, s2, e3, rfl, d, rfl, q⟩
    · exact .inl ⟨e2, q⟩
    · exact .inr ⟨d, e2, e3, q⟩
/-! ### defs -/
theorem fnD_wp {m n : Nat} {F : SF} {ds : List D} {r : Res} (hl : ds.length = n) (h : wp (F (env0 m ds) row0) fun o _ => (match o with | .rt d _ => Res.ok d | .nx _ => .ok .non | .er x _ => .er x) = r) : fnD m n F ds = some r := by
  obtain ⟨o, s', e, q⟩ := h
  unfold fnD
  rw [if_pos hl, e]
  cases o <;> (subst q; rfl)
theorem fnR_wp {m n : Nat} {F : SF} {ds : List D} {s : Row} {Q : Res → Row → Prop} (hl : ds.length + 1 = n) (h : wp (F (env0R m ds) s) fun o s' => Q (match o with | .rt d _ => Res.ok d | .nx _ => .ok .non | .er x _ => .er x) s') : wp (fnR m n F ds s) Q := by
  obtain ⟨o, s', e, q⟩ := h
  unfold fnR
  rw [if_pos hl, e]
  cases o <;> exact ⟨_, _, rfl, q⟩
theorem isT_of_wp {o : Option (Out × Row)} (h : wp o fun o _ => ∃ ρ, o = .rt (.bl true) ρ) : isT o = true := by
  obtain ⟨_, _, e, ρ, rfl⟩ := h
  rw [e]; rfl
end PL
set_option Elab.async false
set_option linter.all false
set_option maxRecDepth 100000
set_option maxHeartbeats 4000000
/-! The calculus, more words. -/
namespace PL
open PySem PySem.Spec PyProof.Rows L2
@[simp] theorem ceAt_zero {d : D} {ρ : Env} : ceAt (some (.ce d) :: ρ) 0 = some d := rfl
@[simp] theorem ceAt_im {d : D} {ρ : Env} : ceAt (some (.im d) :: ρ) 0 = none := rfl
@[simp] theorem ceAt_no {ρ : Env} : ceAt (none :: ρ) 0 = none := rfl
@[simp] theorem ceAt_succ {x : Option Sl} {ρ : Env} {i : Nat} : ceAt (x :: ρ) (i + 1) = ceAt ρ i := by unfold ceAt; simp
@[simp] theorem ceAt_one {x : Option Sl} {ρ : Env} : ceAt (x :: ρ) 1 = ceAt ρ 0 := ceAt_succ
@[simp] theorem frz_ce {d : D} {ρ : Env} : frz 0 (some (.ce d) :: ρ) = some (.im d) :: ρ := rfl
@[simp] theorem frz_im {d : D} {ρ : Env} : frz 0 (some (.im d) :: ρ) = some (.im d) :: ρ := rfl
@[simp] theorem frz_no {ρ : Env} : frz 0 (none :: ρ) = none :: ρ := rfl
@[simp] theorem frz_succ {x : Option Sl} {ρ : Env} {i : Nat} : frz (i + 1) (x :: ρ) = x :: frz i ρ := by
  unfold frz
  rw [ceAt_succ]
  cases ceAt ρ i <;> rfl
@[simp] theorem frz_one {x : Option Sl} {ρ : Env} : frz 1 (x :: ρ) = x :: frz 0 ρ := frz_succ
section
variable {ρ : Env} {s : Row} {Q : Res → Row → Prop} {QS : Out → Row → Prop}
theorem wp_setS {i : Nat} {x : Sl} : wp (setS ρ i x s) QS ↔ i < ρ.length ∧ QS (.nx (ρ.set i (some x))) s := by
  unfold setS
  split
  · rename_i h; simp [h]
  · rename_i h; simp [h]
@[simp] theorem wp_new {i : Nat} {f : EF} : wp (s_new i f ρ s) QS ↔ wp (f ρ s) (rk (fun d s1 => i < ρ.length ∧ QS (.nx (ρ.set i (some (.ce d)))) s1) fun e s => QS (.er e ρ) s) := by
  unfold s_new; rw [wp_bE]; exact wrk fun d s1 => wp_setS
@[simp] theorem wp_frz {i : Nat} {F : SF} : wp (s_frz i F ρ s) QS ↔ wp (F (frz i ρ) s) QS := Iff.rfl
@[simp] theorem wp_peek {i : Nat} {f : EF} : wp (e_peek i f ρ s) Q ↔ wp (f (frz i ρ) s) (rk (fun d s1 => noLst d = true ∧ s1.sa = s.sa ∧ Q (.ok d) s1) fun _ _ => False) := by
  unfold e_peek
  cases h : f (frz i ρ) s with
  | none => simp
  | some p =>
    obtain ⟨r, s1⟩ := p
    cases r with
    | er x => simp
    | ok d =>
      simp only [wp_some, rk_ok]
      split
      · rename_i h; simp [h]
      · rename_i h; simp only [wp_none, false_iff]; exact fun z => h ⟨z.1, z.2.1⟩
@[simp] theorem wp_tpeek {i : Nat} {f : TF} {Q : Except Exn Bool → Row → Prop} : wp (t_peek i f ρ s) Q ↔ wp (f (frz i ρ) s) (ek (fun d s1 => s1.sa = s.sa ∧ Q (.ok d) s1) fun _ _ => False) := by
  unfold t_peek
  cases h : f (frz i ρ) s with
  | none => simp
  | some p =>
    obtain ⟨r, s1⟩ := p
    cases r with
    | error x => simp
    | ok d =>
      simp only [wp_some, ek_ok]
      split
      · rename_i h; simp [h]
      · rename_i h; simp only [wp_none, false_iff]; exact fun z => h z.1
theorem wp_append {i : Nat} {fe : EF} {ds : List D} (h : ceAt ρ i = some (.lst ds)) : wp (s_append i fe ρ s) QS ↔ wp (fe ρ s) (rk (fun d s1 => ds.length < sizeLine ∧ i < ρ.length ∧ QS (.nx (ρ.set i (some (.ce (.lst (ds ++ [d])))))) s1) fun e s => QS (.er e ρ) s) := by
  unfold s_append
  rw [h]
  simp only [wp_bE]
  refine wrk fun d s1 => ?_
  split
  · rename_i h; rw [wp_setS]; exact ⟨fun z => ⟨h, z⟩, fun z => z.2⟩
  · rename_i h; simp only [wp_none, false_iff]; exact fun z => h z.1
theorem wp_setitem {i : Nat} {fx fe : EF} {ds : List D} (h : ceAt ρ i = some (.lst ds)) : wp (s_setitem i fx fe ρ s) QS ↔ wp (fe ρ s) (rk (fun d s1 => wp (fx ρ s1) (rk (fun z s2 => ∃ k j, z = .int k ∧ ixN ds.length k = some j ∧ i < ρ.length ∧ QS (.nx (ρ.set i (some (.ce (.lst (ds.set j d)))))) s2) fun e s => QS (.er e ρ) s)) fun e s => QS (.er e ρ) s) := by
  unfold s_setitem
  rw [h]
  simp only [wp_bE]
  refine wrk fun d s1 => wrk fun z s2 => ?_
  cases z with
  | int k =>
    simp only [D.int.injEq]
    cases hk : ixN ds.length k with
    | none =>
      simp only [wp_none, false_iff]
      rintro ⟨_, j, rfl, e, _⟩
      rw [hk] at e; cases e
    | some j =>
      simp only [wp_setS]
      constructor
      · exact fun q => ⟨k, j, rfl, hk, q⟩
      · rintro ⟨_, j', rfl, e, q⟩
        rw [hk] at e; cases e; exact q
  | _ => simp
@[simp] theorem wp_par3 {i j l : Nat} {fa fb fc : EF} : wp (s_par3 i j l fa fb fc ρ s) QS ↔ wp (fa ρ s) (rk (fun x s1 => wp (fb ρ s1) (rk (fun y s2 => wp (fc ρ s2) (rk (fun z s3 => (i < ρ.length ∧ j < ρ.length ∧ l < ρ.length) ∧ QS (.nx (((ρ.set i (some (.im x))).set j (some (.im y))).set l (some (.im z)))) s3) fun e s => QS (.er e ρ) s)) fun e s => QS (.er e ρ) s)) fun e s => QS (.er e ρ) s) := by
  unfold s_par3; simp only [wp_bE]
  refine wrk fun x s1 => wrk fun y s2 => wrk fun z s3 => ?_
  split
  · rename_i h; simp [h]
  · rename_i h; simp only [wp_none, false_iff]; exact fun q => h q.1
@[simp] theorem wp_parC {i j : Nat} {ci cj : Bool} {fa fb : EF} : wp (s_parC i j ci cj fa fb ρ s) QS ↔ wp (fa ρ s) (rk (fun x s1 => wp (fb ρ s1) (rk (fun y s2 => (i < ρ.length ∧ j < ρ.length) ∧ QS (.nx ((ρ.set i (some (if ci then .ce x else .im x))).set j (some (if cj then .ce y else .im y)))) s2) fun e s => QS (.er e ρ) s)) fun e s => QS (.er e ρ) s) := by
  unfold s_parC; simp only [wp_bE]
  refine wrk fun x s1 => wrk fun y s2 => ?_
  split
  · rename_i h; simp [h]
  · rename_i h; simp only [wp_none, false_iff]; exact fun q => h q.1
@[simp] theorem wp_astar {fa : EF} {fr : AF} {Q : Except Exn (List D) → Row → Prop} : wp (a_star fa fr ρ s) Q ↔ wp (fa ρ s) (rk (fun x s1 => ∃ xs, (x = .lst xs ∨ x = .tup xs) ∧ wp (fr ρ s1) (ek (fun ys s2 => Q (.ok (xs ++ ys)) s2) fun e s => Q (.error e) s)) fun e s => Q (.error e) s) := by
  unfold a_star; rw [wp_bE]
  refine wrk fun x s1 => ?_
  cases x <;> simp [wp_bA]
@[simp] theorem wp_aug {i : Nat} {op : D → D → Option D} {fe : EF} : wp (s_aug i op fe ρ s) QS ↔ some? (imAt ρ i) fun x => wp (fe ρ s) (rk (fun y s1 => some? (op x y) fun z => QS (.nx (ρ.set i (some (.im z)))) s1) fun e s => QS (.er e ρ) s) := by
  unfold s_aug
  cases h : imAt ρ i with
  | none => simp
  | some x =>
    simp only [some?_some, wp_bE]
    refine wrk fun y s1 => ?_
    cases op x y <;> simp

@[simp] theorem wp_lc2 {vs : List Nat} {fi : AF} {g : GF} {tf : TF} {fi1 : AF} {vs1 : List Nat} {g1 : GF} {tf1 : TF} {fe : EF} : wp (e_lc2 vs fi g tf fi1 vs1 g1 tf1 fe ρ s) Q ↔ wp (fi ρ s) (ek (fun xs s1 => wp (lc2Go g tf fi1 vs1 g1 tf1 fe (wipeE ρ vs) xs s1) fun ys s2 => ys.length ≤ sizeLine ∧ Q (.ok (.lst ys)) s2) fun e s => Q (.er e) s) := by
  unfold e_lc2; rw [wp_bA]
  refine wek fun xs s1 => ?_
  cases lc2Go g tf fi1 vs1 g1 tf1 fe (wipeE ρ vs) xs s1 with
  | none => simp
  | some p =>
    obtain ⟨a, b⟩ := p
    simp only [wp_some]
    split
    · rename_i h; exact wp_some.trans ⟨fun z => ⟨h, z⟩, fun z => z.2⟩
    · rename_i h; simp only [wp_none, false_iff]; exact fun z => h z.1
/-- two clauses over lists of Lean types, each item answering alone -/
theorem lc2_map {β : Type} {g : GF} {tf : TF} {fi1 : AF} {vs1 : List Nat} {g1 : GF} {tf1 : TF} {fe : EF} {ρw : Env} {s : Row} {QL : List D → Row → Prop} (h : β → D) (inner : β → List D) {L : List β}
    (hx : ∀ x ∈ L, ∃ ρ1 ys, g (h x) ρw = some ρ1 ∧ tf ρ1 s = some (.ok true, s) ∧ fi1 ρ1 s = some (.ok ys, s) ∧ lcGo g1 tf1 fe (wipeE ρ1 vs1) ys s = some (inner x, s)) (hq : QL (L.flatMap inner) s) : wp (lc2Go g tf fi1 vs1 g1 tf1 fe ρw (L.map h) s) QL := by
  have key : ∀ L : List β, (∀ x ∈ L, ∃ ρ1 ys, g (h x) ρw = some ρ1 ∧ tf ρ1 s = some (.ok true, s) ∧ fi1 ρ1 s = some (.ok ys, s) ∧ lcGo g1 tf1 fe (wipeE ρ1 vs1) ys s = some (inner x, s)) → lc2Go g tf fi1 vs1 g1 tf1 fe ρw (L.map h) s = some (L.flatMap inner, s) := by
    intro L
    induction L with
    | nil => intro _; rfl
    | cons x L ih =>
      intro hx
      obtain ⟨ρ1, ys, e1, e2, e3, e4⟩ := hx x List.mem_cons_self
      have ih' := ih fun y hy => hx y (List.mem_cons_of_mem _ hy)
      rw [List.map_cons, lc2Go, e1, Option.bind_some, e2]
      simp only [e3, e4, ih', Option.map_some, List.flatMap_cons]
  rw [key L hx]
  exact wp_some.mpr hq
end
end PL
set_option Elab.async false
set_option linter.all false
set_option maxRecDepth 100000
set_option maxHeartbeats 4000000
/-! An empty dict. -/
namespace PL
open PySem PySem.Spec PyProof.Rows L2
open Evl (Ex)
theorem re_dict0 {G : Gt} {R : Option Addr} {W : WX} : RE G R W tDNewK (e_c (.dct [])) := fun I H σ ρ s e ro sl Q res s' hf hp => by
  have hf' : some (Res.ok (.dct []), s) = some (res, s') := hf
  cases hf'
  intro p hp'
  have st : Step none I H (upd I p (.dK [])) (upd H p (.dK [])) := Step.new e hp'
  exact hp (.ref p) _ _ st.row (ro.step0 st) (.dK upd_same .nil (Nat.zero_le _))
theorem pd_dict0 {ι : Type} {X : ι → Cx} {G : Gt} {R : Option Addr} {W : WX} {pos : Pos} : PDE X G R W (.Dict [] [] pos) (e_c (.dct [])) := ⟨_, fun _ => pe_dnewK, re_dict0⟩
end PL
set_option Elab.async false
set_option linter.all false
set_option maxRecDepth 100000
set_option maxHeartbeats 4000000
/-! Sorting tuples of which some are empty. -/
namespace PL
open PySem PySem.Calls PySem.W PyProof.Rows PySem.SeqAt
section
variable {prog : Program} {w : World} {A : Around} {E : Value → Shared → Prop} {s : Shared}
/-- a tuple's own __lt__, as sorting calls it -/
theorem tup_lt {Q : Bool → Shared → Prop} {xs ys : List PyData} {a b : Value} {as bs : List Addr} (ra : Reads s.heap a (.tuple xs) as) (rb : Reads s.heap b (.tuple ys) bs) (h : alike (.tuple xs) (.tuple ys) = true)
    (hu : A.units + min (PyData.tuple xs).depth (PyData.tuple ys).depth < cLine) (hq : Q (dataLt (.tuple xs) (.tuple ys)) s) : wpAny (model prog w) A (oneLt' true a b) Q E s := by
  have hal : alikeAll xs ys = true := by simpa [alike] using h
  cases ra with
  | @tuple l o vs n _ _ h1 h2 h3 h4 =>
    cases rb with
    | @tuple l2 o2 us n2 _ _ k1 k2 k3 k4 =>
      have e1 : vs.size = xs.length := by simpa using ReadsAll.length _ _ _ h4
      have e2 : us.size = ys.length := by simpa using ReadsAll.length _ _ _ k4
      rw [dataLt_tuple, ← firstLt_toks xs ys hal, ← e1, ← e2] at hq
      rw [oneLt'_eq, if_pos rfl]
      obtain ⟨oc, od, oda, osl⟩ := o
      obtain ⟨pc, pd, pda, psl⟩ := o2
      simp only at h2 h3 k2 k3
      subst h2 h3 k2 k3
      have eqs : ∀ j (j1 : j < vs.size) (j2 : j < us.size), EqAt A.in1 s vs[j] us[j] (pairEq xs ys j) := fun j j1 j2 => by
        have z := eqAt_alikeAll xs ys A.in1 s vs.toList us.toList _ _ h4 k4 hal (room_in hu) j (by simpa using j1) (by simpa using j2)
        rwa [Array.getElem_toList, Array.getElem_toList] at z
      have lts : ∀ j (j1 : j < vs.size) (j2 : j < us.size), pairEq xs ys j = false → RcLt A.in1 s vs[j] us[j] (dataLt (xs.getD j .none) (ys.getD j .none)) := fun j j1 j2 hj => by
        have z := rcLt_alikeAll xs ys A.in1 s vs.toList us.toList _ _ h4 k4 hal (room_in hu) j (by simpa using j1) (by simpa using j2) hj
        rwa [Array.getElem_toList, Array.getElem_toList] at z
      refine wpAny_bind (wpAny_cRoomFor (room_here hu) ?_)
      exact wpAny_bind (wpAny_callSpecialIfBound?_slot (T := "tuple") ⟨_, h1, rfl⟩ F.slot_tuple_lt
        (call_meets F.slot_tuple_lt ⟨_, h1, rfl⟩ F.entry_tuple_lt (F.args_tuple_lt_2 _ _) (tuple_ltAt _ _ vs us n n2 od pd osl psl (pairEq xs ys) fun j => dataLt (xs.getD j .none) (ys.getD j .none)) ⟨h1, k1, eqs, lts, wpAny_truthy_bool hq⟩))
/-- the first items, where there are such -/
def FirstsAre (h : Heap) : List Value → List (Option Value) → Prop
  | [], [] => True
  | v :: vs, f :: fs => (∃ a o xs n, v = .ref a ∧ h.get? a = some o ∧ o.cls = .type "tuple" ∧ o.data = .seq xs n ∧ xs[0]? = f) ∧ FirstsAre h vs fs
  | _, _ => False
theorem firsts_walk {M : Model} : ∀ (vs : List Value) (fs : List (Option Value)) {Q : List (Option Value) → Shared → Prop}, FirstsAre s.heap vs fs → Q fs s → wpAny M A (vs.mapM firstOfTuple') Q E s
  | [], [], _, _, h => by rw [List.mapM_nil]; exact wpAny_pure h
  | [], _ :: _, _, t, _ => t.elim
  | _ :: _, [], _, t, _ => t.elim
  | v :: vs, f :: fs, Q, t, h => by
    obtain ⟨⟨a, o, xs, n, rfl, ho, hc, hd, hf⟩, t⟩ := t
    have ty : Looks M s.heap (typeOf (.ref a)) o.cls := (Looks.ld ho).andThen .now
    rw [List.mapM_cons, kas_first_eq]
    refine wpAny_bind (wpAny_bind (ty.here ?_))
    rw [hc, if_neg (by first | decide | simp)]
    refine wpAny_bind (listItems_at ho hd (wpAny_pure ?_))
    rw [hf]
    exact wpAny_bind (firsts_walk vs fs (Q := fun bs s' => wpAny M A (pure (f :: bs)) Q E s') t (wpAny_pure h))
/-- not the empty tuple -/
def isFull : PyData → Bool
  | .tuple [] => false
  | _ => true
theorem firsts_of2 {h : Heap} : ∀ {vs : List Value} {ds : List PyData}, EachIs (fun v d => ∃ as, Reads h v d as) vs ds → (∀ d ∈ ds, ∃ xs, d = .tuple xs) → ∃ fs, FirstsAre h vs fs ∧ fs.length = vs.length ∧ fs.map (·.isSome) = ds.map isFull
  | _, _, .nil, _ => ⟨[], trivial, rfl, rfl⟩
  | _, _, .cons (b := d) ⟨as, r⟩ t, ht => by
    obtain ⟨fs, h1, h2, h3⟩ := firsts_of2 t fun d hd => ht d (List.mem_cons_of_mem _ hd)
    obtain ⟨xs, rfl⟩ := ht d List.mem_cons_self
    cases r with
    | @tuple a o us n _ _ ho hc hd hr =>
      refine ⟨us[0]? :: fs, ⟨⟨a, o, us, n, rfl, ho, hc, hd, rfl⟩, h1⟩, by simp [h2], ?_⟩
      rw [List.map_cons, List.map_cons, h3]
      congr 1
      have hl : us.size = xs.length := by simpa using ReadsAll.length _ _ _ hr
      cases xs with
      | nil => simp at hl; simp [hl, isFull]
      | cons x r =>
        have : 0 < us.size := by rw [hl]; simp
        simp [this, isFull]
/-- the kind of keys of tuples of which some are empty -/
theorem kind_mixed {M : Model} {vs : List Value} {fs : List (Option Value)} {Q : SortKind → Shared → Prop} (t : FirstsAre s.heap vs fs) (hn : fs.all (·.isSome) = false) (hT : ∀ v ∈ vs, Looks M s.heap (typeOf v) (.type "tuple")) (h : Q (if ((fs[0]?).bind id).isSome = true then general' else oneType') s) (h2 : 0 < vs.length) :
    wpAny M A (keyKind' vs.toArray) Q E s := by
  rw [keyKind'_eq, List.mapM_toArray, map_eq_pure_bind]
  refine wpAny_bind (wpAny_bind (firsts_walk vs fs t (wpAny_pure ?_)))
  have hall : (fs.toArray.all fun x => x.isSome) = false := by rw [List.all_toArray]; exact hn
  rw [if_neg (by rw [hall]; decide)]
  have e0 : (fs.toArray[0]?.bind id) = (fs[0]?).bind id := by simp
  rw [e0]
  by_cases c : ((fs[0]?).bind id).isSome = true
  · rw [if_pos c] at h ⊢
    exact wpAny_pure h
  · rw [if_neg c] at h
    rw [if_neg c, oneTypeOnly'_eq, List.mapM_toArray, map_eq_pure_bind]
    refine wpAny_bind (wpAny_bind (wpAny_bind (kas_mapM (r := Value.type "tuple") _ (fun v hv Q' hq => (hT v hv).here hq) (wpAny_pure ?_))))
    cases vs with
    | nil => simp at h2
    | cons v r =>
      have hs : ((List.map (fun _ => Value.type "tuple") (v :: r)).toArray.all fun x => x == Value.type "tuple") = true := by
        simp only [List.all_toArray, List.all_map, List.all_eq_true]
        exact fun _ _ => beq_self_eq_true _
      have h0 : (List.map (fun _ => Value.type "tuple") (v :: r)).toArray[0]? = some (Value.type "tuple") := by simp
      rw [h0]
      simp only [hs, if_true]
      exact wpAny_pure (wpAny_pure h)
theorem sorts2 {vs : List Value} {ds : List PyData} (e : EachIs (fun v d => ∃ as, Reads s.heap v d as) vs ds) (hal : AllAlike ds) (hk : ∀ d ∈ ds, d ≠ .none) (hu : ∀ d, d ∈ ds → A.units + d.depth < cLine) : SortsAt prog w A s (dataKind s.heap ds) vs := by
  by_cases c1 : Sortable ds
  · exact SortsAt.data e hal c1 hu
  · -- all are tuples, some of them empty
    have hne : ds ≠ [] := fun z => c1 (by rw [z]; exact .inl fun d hd => by simp at hd)
    have tup : ∃ d0 ∈ ds, ∃ xs, d0 = .tuple xs := by
      by_cases q : ∃ d0 ∈ ds, ∃ xs, d0 = .tuple xs
      · exact q
      · exact absurd (.inr fun d hd => ⟨hk d hd, fun xs z => q ⟨d, hd, xs, z⟩⟩) c1
    obtain ⟨d0, hd0, x0, rfl⟩ := tup
    have all : ∀ d ∈ ds, ∃ xs, d = .tuple xs := fun d hd => by
      have := hal d hd _ hd0
      cases d with
      | tuple xs => exact ⟨xs, rfl⟩
      | _ => simp [alike] at this
    have some0 : ∃ d ∈ ds, d = .tuple [] := by
      by_cases q : ∃ d ∈ ds, d = .tuple []
      · exact q
      · refine absurd (.inl fun d hd => ?_) c1
        obtain ⟨xs, rfl⟩ := all d hd
        cases xs with
        | nil => exact absurd ⟨_, hd, rfl⟩ q
        | cons x r => exact ⟨x, r, rfl⟩
    obtain ⟨fs, f1, f2, f3⟩ := firsts_of2 e all
    have fn : fs.all (·.isSome) = false := by
      rw [Bool.eq_false_iff]
      intro z
      obtain ⟨d, hd, rfl⟩ := some0
      have h1 : ∀ b ∈ fs.map (·.isSome), b = true := fun b hb => by
        obtain ⟨f, hf, rfl⟩ := List.mem_map.mp hb
        exact List.all_eq_true.mp z f hf
      rw [f3] at h1
      have := h1 false (List.mem_map.mpr ⟨_, hd, rfl⟩)
      cases this
    have room : ∀ {d d' : PyData}, d ∈ ds → A.units + min d.depth d'.depth < cLine := fun {d d'} hd => Nat.lt_of_le_of_lt (Nat.add_le_add_left (Nat.min_le_left _ _) _) (hu d hd)
    refine ⟨fun v hv => ?_, if ((fs[0]?).bind id).isSome = true then general' else oneType', ?_, fun h2 E Q hq => ?_⟩
    · obtain ⟨d, hd, as, r⟩ := e.left v hv
      exact ⟨_, dataKind_some hal hd r⟩
    · intro E x y a b Q ha hb hq
      obtain ⟨d, as, hd, ra, rfl⟩ := dataKind_inv ha
      obtain ⟨d', as', hd', rb, rfl⟩ := dataKind_inv hb
      obtain ⟨xs, rfl⟩ := all d hd
      obtain ⟨ys, rfl⟩ := all d' hd'
      split
      · show wpAny (model prog w) A (oneLt' false x y) Q E s
        exact oneLt_alike (fun z => nomatch z) ra rb (hal _ hd _ hd') (hk _ hd) (room hd) hq
      · rw [keyLt'_oneType]
        exact tup_lt ra rb (hal _ hd _ hd') (room hd) hq
    · refine kind_mixed f1 fn (fun v hv => ?_) hq (by omega)
      obtain ⟨d, hd, as, r⟩ := e.left v hv
      obtain ⟨xs, rfl⟩ := all d hd
      exact looks_reads r
end
/-! ### the calls -/
section
variable {prog : Program} {w : World} {A : Around} {E : Value → Shared → Prop} {s : Shared} {β : Type} {vs : List Value} {bs : List β} {enc : β → PyData} {R : Value → β → Prop}
theorem sorted_data2 {l : Addr} {Q : Value → Shared → Prop} (hl : s.heap.IsList l vs.toArray) (e : EachIs R vs bs) (er : EachIs (fun v b => ∃ as, Reads s.heap v (enc b) as) vs bs) (hal : AllAlike (bs.map enc)) (hk : ∀ d ∈ bs.map enc, d ≠ .none) (hL : bs.length ≤ sizeLine)
    (hu : ∀ b ∈ bs, A.units + 2 + (enc b).depth < cLine) (h : ∀ out, out.length = bs.length → EachIs R out (bs.mergeSort (dataLe false enc)) → Q (.ref (s.heap.objs.size + 1)) { s with heap := sortedAll s.heap vs (List.toArray out) }) :
    wpAny (model prog w) A (call (.builtin "sorted") [.ref l]) Q E s := by
  obtain ⟨g, hg⟩ : ∃ g, g = sortingHeap (copyHeap s.heap vs) (s.heap.objs.size + 1) vs := ⟨_, rfl⟩
  have er2 : EachIs (fun v b => ∃ as, Reads g v (enc b) as) vs bs := er.mono fun v b ⟨as, r⟩ => ⟨as, reads_keeps (fun b o q => by rw [hg]; exact sorting_copy_old q) r⟩
  have sa := sorts2 (prog := prog) (w := w) (A := A.in1.in1) (s := { s with heap := g }) (each_map (R := fun v d => ∃ as, Reads g v d as) enc er2) hal hk (bound_map hu)
  rw [hg] at sa er2
  exact sorted_vals hl sa (by rw [e.length]; exact hL) (h _ (by rw [sortVals_length false rfl]; exact e.length) (sortVals_data false e er2 hal))
theorem list_sort_data2 {a : Addr} {n : Nat} {Q : Value → Shared → Prop} (ho : s.heap.get? a = some (seqObj "list" vs.toArray n)) (e : EachIs R vs bs) (er : EachIs (fun v b => ∃ as, Reads s.heap v (enc b) as ∧ a ∉ as) vs bs) (hal : AllAlike (bs.map enc)) (hk : ∀ d ∈ bs.map enc, d ≠ .none) (hL : bs.length ≤ sizeLine)
    (hu : ∀ b ∈ bs, A.units + 1 + (enc b).depth < cLine) (h : ∀ out, out.length = bs.length → EachIs R out (bs.mergeSort (dataLe false enc)) → Q .none { s with heap := sortedHeap s.heap a vs (List.toArray out) }) :
    wpAny (model prog w) A (call (.builtin "list.sort") [.ref a]) Q E s := by
  obtain ⟨g, hg⟩ : ∃ g, g = sortingHeap s.heap a vs := ⟨_, rfl⟩
  have er2 : EachIs (fun v b => ∃ as, Reads g v (enc b) as) vs bs := by
    rw [hg]
    exact each_keepBut (fun _ _ hb q => sortingHeap_old hb q) (fun o q => by rw [ho] at q; rw [← Option.some.inj q]) hal er
  have sa := sorts2 (prog := prog) (w := w) (A := A.in1) (s := { s with heap := g }) (each_map (R := fun v d => ∃ as, Reads g v d as) enc er2) hal hk (bound_map hu)
  rw [hg] at sa er2
  refine wpAny_call_entry slot_list_sort ⟨_, ho, rfl⟩ entry_list_sort (list_sort_vals ho sa (by rw [e.length]; exact hL) ⟨.none, rfl, ?_⟩) (args_list_sort _)
  exact h _ (by rw [sortVals_length false rfl]; exact e.length) (sortVals_data false e er2 hal)
end
end PL
set_option Elab.async false
set_option linter.all false
set_option maxRecDepth 100000
set_option maxHeartbeats 4000000
/-! sorted, min, max of lists of data that are alike. -/
namespace PL
open PySem PySem.Spec PyProof.Rows L2
/-- the values in the order of their data -/
def sortV (xs : List V) (ds : List PyData) : List V := ((xs.zip ds).mergeSort (PySem.W.dataLe false fun b => b.2)).map (·.1)
def rSortedD (K : PySem.W.Frag) : List V → Hp → VK → Prop := fun vs H Q => ∃ (a : Addr) (xs : List V) (ds : List PyData), vs = [V.ref a] ∧ SqL K H a xs ∧ DpAll K H xs ds ∧ PySem.W.AllAlike ds ∧ (∀ d ∈ ds, d ≠ .none) ∧ (∀ d ∈ ds, d.depth ≤ 60) ∧
  ∀ p, H p = none → Q (.ref p) (upd H p (.lst (sortV xs ds)))
theorem dpAll_len {K : PySem.W.Frag} {H : Hp} : ∀ {xs : List V} {ds : List PyData}, DpAll K H xs ds → xs.length = ds.length
  | _, _, .nil => rfl
  | _, _, .cons _ t => by rw [List.length_cons, List.length_cons, dpAll_len t]
section
variable {X : Cx}
theorem each_rel : ∀ {xs : List V} {us : List Value} {ds : List PyData}, Vals xs us → xs.length = ds.length → PySem.W.EachIs (fun v (b : V × PyData) => RelV b.1 v) us (xs.zip ds)
  | _, _, ds, .nil, h => by
    cases ds with
    | nil => exact .nil
    | cons _ _ => simp at h
  | _, _, ds, .cons r t, h => by
    cases ds with
    | nil => simp at h
    | cons d ds => exact .cons r (each_rel t (by simpa using h))
theorem each_rd {pins : List (Addr × Obj)} {σ : L2.St} {H : Hp} {s : Shared} (I : Inv X pins σ H s) : ∀ {xs : List V} {us : List Value} {ds : List PyData}, Vals xs us → DpAll X.K H xs ds → PySem.W.EachIs (fun v (b : V × PyData) => ∃ as, Reads s.heap v b.2 as) us (xs.zip ds)
  | _, _, _, .nil, .nil => .nil
  | _, _, _, .cons r t, .cons q q' => .cons (Dp.reads I _ _ _ q r) (each_rd I t q')
theorem each_back {h : Nat} : ∀ {us : List Value} {bs : List (V × PyData)}, PySem.W.EachIs (fun v (b : V × PyData) => RelV b.1 v) us bs → Vals (bs.map (·.1)) us
  | _, _, .nil => .nil
  | _, _, .cons r t => .cons r (each_back (h := h) t)
theorem cr_sortedD (hu : X.A.units + 64 < cLine) : CallR X (.builtin "sorted") (rSortedD X.K) := by
  intro pins s σ H vs us Q I r h
  obtain ⟨a, xs, ds, rfl, hs, hd, ha, hk, hdp, q⟩ := h
  obtain ⟨its, rv, hl, hz⟩ := I.list hs
  rw [Vals.ref1 r]
  have hlen := dpAll_len hd
  have em : (xs.zip ds).map (fun b => b.2) = ds := List.map_snd_zip (by omega)
  refine sorted_data2 (enc := fun b : V × PyData => b.2) hl.isList (each_rel rv hlen) (each_rd I rv hd) (by rw [em]; exact ha) (by rw [em]; exact hk) (by simp; omega) (fun b hb => ?_) fun out h1 h2 => ?_
  · have := hdp b.2 (by rw [← em]; exact List.mem_map.mpr ⟨b, hb, rfl⟩)
    omega
  · obtain ⟨ep, he'⟩ := PyProof.Rows.sortedAll_at s.heap its out.toArray
    have hv : Vals (sortV xs ds) out := each_back (h := 0) h2
    have hln : (sortV xs ds).length ≤ sizeLine := by rw [hv.length, h1]; simp; omega
    exact ⟨.ref _, upd H (s.heap.objs.size + 1) (.lst (sortV xs ds)), I.laid (t' := s.toks) (fun _ _ => PyProof.Rows.sortedAll_old) (Nat.le_succ _) ⟨hln, out, ep, hv, he'⟩, rfl, q _ (I.hok.fresh (Nat.le_succ _))⟩
/-- the least of alike data, the first one of such -/
def leastP : List PyData → PyData
  | [] => .none
  | x :: r => PySem.W.minD x r
/-- min(xs): an item itself -/
def rMinA (K : PySem.W.Frag) : List V → Hp → VK → Prop := fun vs H Q => ∃ (a : Addr) (xs : List V) (ds : List PyData), vs = [V.ref a] ∧ SqL K H a xs ∧ DpAll K H xs ds ∧ PySem.W.AlikeAll ds ∧ PyData.depthAll ds ≤ 60 ∧ xs ≠ [] ∧
  ∀ (i : Nat) (v : V) (d : PyData), xs[i]? = some v → ds[i]? = some d → d = leastP ds → Q v H
theorem foldl_pick {β : Type} (f : β → β → Bool) : ∀ (r : List β) (x : β), r.foldl (fun a y => if f y a then y else a) x ∈ x :: r
  | [], x => List.mem_cons_self
  | y :: r, x => by
    rw [List.foldl_cons]
    rcases List.mem_cons.mp (foldl_pick f r (if f y x then y else x)) with h | h
    · rw [h]
      cases f y x
      · exact List.mem_cons_self
      · exact List.mem_cons_of_mem _ List.mem_cons_self
    · exact List.mem_cons_of_mem _ (List.mem_cons_of_mem _ h)
theorem dp_at {K : PySem.W.Frag} {H : Hp} : ∀ {xs : List V} {ds : List PyData} {i : Nat} {d : PyData}, DpAll K H xs ds → ds[i]? = some d → ∃ v, xs[i]? = some v ∧ Dp K H v d
  | _, _, _, _, .nil, h => by simp at h
  | _, _, 0, _, .cons q _, h => by simp at h; subst h; exact ⟨_, rfl, q⟩
  | _, _, i + 1, d, .cons _ t, h => by
    obtain ⟨v, h1, h2⟩ := dp_at (i := i) (d := d) t (by simpa using h)
    exact ⟨v, by simpa using h1, h2⟩
theorem vals_at : ∀ {xs : List V} {us : List Value} {i : Nat} {v : V} {u : Value}, Vals xs us → xs[i]? = some v → us[i]? = some u → RelV v u
  | _, _, _, _, _, .nil, h, _ => by simp at h
  | _, _, 0, _, _, .cons r _, h, h' => by simp at h h'; subst h; subst h'; exact r
  | _, _, i + 1, v, u, .cons _ t, h, h' => vals_at (i := i) t (by simpa using h) (by simpa using h')
theorem cr_minA (hc : X.calm = true) (hu : X.A.units + 64 < cLine) : CallR X (.builtin "min") (rMinA X.K) := by
  intro pins s σ H vs us Q I r h
  obtain ⟨a, xs, ds, rfl, hs, hd, ha, hdp, hne, q⟩ := h
  obtain ⟨its, rv, hl, hz⟩ := I.list hs
  rw [Vals.ref1 r]
  have hlen := dpAll_len hd
  obtain ⟨as, hr⟩ := Dp.readsAll I ds _ its hd rv
  cases ds with
  | nil => exact absurd (List.length_eq_zero_iff.mp hlen) hne
  | cons x0 r0 =>
    refine PySem.W.min_list_data (I.ok.hd hc) hl.isList hr ha (by omega) fun i u h' tk bs hi rr hk => ?_
    have hi' : its[i]? = some u := by simpa using hi
    have hlt : i < xs.length := by
      rw [rv.length]
      exact (List.getElem?_eq_some_iff.mp hi').1
    have hi2 : i < (x0 :: r0).length := by omega
    obtain ⟨v, hv, hdv⟩ := dp_at (i := i) hd (List.getElem?_eq_getElem hi2)
    have rel := vals_at rv hv hi'
    obtain ⟨as2, rd⟩ := Dp.reads I _ _ _ hdv rel
    have hm : PySem.W.minD x0 r0 ∈ x0 :: r0 := foldl_pick (fun p q => PySem.W.dataLt p q) r0 x0
    have hal := ha.1 _ (List.getElem_mem hi2) _ hm
    have e := PySem.W.alike_unique _ _ _ _ _ hal (PySem.W.reads_keeps hk rd) rr
    exact ⟨v, H, I.kept hk, rel, q i v _ hv (List.getElem?_eq_getElem hi2) e⟩
end
/-! ### over data -/
variable {G : Gt}
mutual
theorem py_inj : ∀ {a b : D}, flat a = true → flat b = true → py a = py b → a = b
  | .non, b, _, hb, e => by cases b <;> simp [py, flat] at e hb ⊢
  | .bl x, b, _, hb, e => by cases b <;> simp [py, flat] at e hb ⊢ <;> exact e
  | .int x, b, _, hb, e => by cases b <;> simp [py, flat] at e hb ⊢ <;> exact e
  | .str x, b, _, hb, e => by cases b <;> simp [py, flat] at e hb ⊢ <;> exact e
  | .tup xs, b, ha, hb, e => by
    cases b with
    | tup ys => rw [py, py, PyData.tuple.injEq] at e; rw [flat] at ha hb; rw [pys_inj ha hb e]
    | _ => simp [py, flat] at e hb
  | .lst xs, b, ha, hb, e => by
    cases b with
    | lst ys => rw [py, py, PyData.list.injEq] at e; rw [flat] at ha hb; rw [pys_inj ha hb e]
    | _ => simp [py, flat] at e hb
  | .dct _, _, ha, _, _ => by simp [flat] at ha
  | .dcn _, _, ha, _, _ => by simp [flat] at ha
  | .dcb _, _, ha, _, _ => by simp [flat] at ha
  | .ins _ _, _, ha, _, _ => by simp [flat] at ha
theorem pys_inj : ∀ {as bs : List D}, flats as = true → flats bs = true → pys as = pys bs → as = bs
  | [], bs, _, _, e => by cases bs <;> simp [pys] at e ⊢
  | a :: as, bs, ha, hb, e => by
    cases bs with
    | nil => simp [pys] at e
    | cons b bs =>
      rw [pys, pys, List.cons.injEq] at e
      rw [flats, Bool.and_eq_true] at ha hb
      rw [py_inj ha.1 hb.1 e.1, pys_inj ha.2 hb.2 e.2]
end
theorem pys_eq : ∀ xs : List D, pys xs = xs.map py
  | [] => by rw [pys]; rfl
  | x :: xs => by rw [pys, pys_eq xs]; rfl
theorem flats_eq : ∀ xs : List D, flats xs = xs.all flat
  | [] => by rw [flats]; rfl
  | x :: xs => by rw [flats, flats_eq xs]; rfl
def dLt (a b : D) : Bool := PySem.W.dataLt (py a) (py b)
def dLe (a b : D) : Bool := PySem.W.dataLe false py a b
def allAlikeB (ds : List D) : Bool := ds.all fun x => ds.all fun y => PySem.W.alike (py x) (py y)
def srtOk (ds : List D) : Bool := flats ds && (allAlikeB ds && ((ds.all fun d => !isNone d) && ds.all fun d => decide ((py d).depth ≤ 60)))
def sortedD : List D → Option D
  | [.lst xs] => if srtOk xs = true then some (.lst (xs.mergeSort dLe)) else none
  | _ => none
def leastD : List D → Option D
  | [] => none
  | x :: r => some (r.foldl (fun a y => if dLt y a then y else a) x)
def minA : List D → Option D
  | [.lst xs] => if srtOk xs = true then leastD xs else none
  | _ => none
theorem srt_alike {ds : List D} (h : srtOk ds = true) : PySem.W.AllAlike (ds.map py) ∧ (∀ d ∈ ds.map py, d ≠ .none) ∧ (∀ d ∈ ds.map py, d.depth ≤ 60) ∧ flats ds = true := by
  unfold srtOk allAlikeB at h
  simp only [Bool.and_eq_true, List.all_eq_true, decide_eq_true_eq] at h
  obtain ⟨h0, h1, h2, h3⟩ := h
  refine ⟨?_, ?_, ?_, h0⟩
  · intro d hd e he
    obtain ⟨x, hx, rfl⟩ := List.mem_map.mp hd
    obtain ⟨y, hy, rfl⟩ := List.mem_map.mp he
    exact h1 x hx y hy
  · intro d hd
    obtain ⟨x, hx, rfl⟩ := List.mem_map.mp hd
    have := h2 x hx
    cases x <;> simp [isNone] at this <;> simp [py]
  · intro d hd
    obtain ⟨x, hx, rfl⟩ := List.mem_map.mp hd
    exact h3 x hx
theorem sort_zip (xs : List V) (ds : List D) (h : xs.length = ds.length) : ∃ L : List (V × D), L.map (·.1) = sortV xs (ds.map py) ∧ L.map (·.2) = ds.mergeSort dLe ∧ ∀ b ∈ L, b ∈ xs.zip ds := by
  refine ⟨(xs.zip ds).mergeSort fun a b => dLe a.2 b.2, ?_, ?_, fun b hb => List.mem_mergeSort.mp hb⟩
  · unfold sortV
    have e : xs.zip (ds.map py) = (xs.zip ds).map fun b => (b.1, py b.2) := by
      rw [List.zip_map_right]; rfl
    rw [e, ← List.map_mergeSort (r := fun a b : V × D => dLe a.2 b.2) (fun a ha b hb => by rfl), List.map_map]
    rfl
  · rw [List.map_mergeSort (s := dLe) (fun a ha b hb => by rfl), List.map_snd_zip (by omega)]
theorem reps_zip {H : Hp} : ∀ {vs : List V} {ds : List D}, Reps G H vs ds → ∀ b ∈ vs.zip ds, Rep G H b.1 b.2
  | _, _, .nil, b, hb => by simp at hb
  | _, _, .cons r t, b, hb => by
    rw [List.zip_cons_cons] at hb
    rcases List.mem_cons.mp hb with rfl | hb
    · exact r
    · exact reps_zip t b hb
theorem reps_of {H : Hp} : ∀ {L : List (V × D)}, (∀ b ∈ L, Rep G H b.1 b.2) → Reps G H (L.map (·.1)) (L.map (·.2))
  | [], _ => .nil
  | b :: L, h => .cons (h b List.mem_cons_self) (reps_of fun c hc => h c (List.mem_cons_of_mem _ hc))
theorem lss_sorted : LsS G (rSortedD G.K) sortedD := fun I H xs as d e rs ho Q hq => by
  unfold sortedD at ho
  split at ho
  · rename_i ds
    split at ho
    · rename_i hok
      cases ho
      obtain ⟨v, rfl, rv⟩ := reps1 rs
      cases rv with
      | @lst a vs _ h h' r l =>
        obtain ⟨k1, k2, k3, k4⟩ := srt_alike hok
        refine ⟨a, vs, ds.map py, rfl, Evl.ex_l e h, ?_, k1, k2, k3, fun p hp => ?_⟩
        · rw [← pys_eq]; exact Reps.dp (Reps.mono e r) k4
        · obtain ⟨L, e1, e2, e3⟩ := sort_zip vs ds r.length
          have hrs : Reps G I (sortV vs (ds.map py)) (ds.mergeSort dLe) := by
            rw [← e1, ← e2]
            exact reps_of fun b hb => reps_zip r b (e3 b hb)
          exact (fun n => hq _ _ _ n.1 n.2) (new_lst e hp hrs (by rw [hrs.length, List.length_mergeSort, ← r.length]; exact l))
    · cases ho
  · cases ho
theorem least_py : ∀ (r : List D) (x : D), py (r.foldl (fun a y => if dLt y a then y else a) x) = PySem.W.minD (py x) (r.map py)
  | [], x => rfl
  | y :: r, x => by
    rw [List.foldl_cons, least_py r, List.map_cons]
    unfold PySem.W.minD dLt
    rw [List.foldl_cons]
    cases PySem.W.dataLt (py y) (py x) <;> rfl
theorem lss_minA : LsS G (rMinA G.K) minA := fun I H xs as d e rs ho Q hq => by
  unfold minA at ho
  split at ho
  · rename_i ds
    split at ho
    · rename_i hok
      obtain ⟨v, rfl, rv⟩ := reps1 rs
      cases rv with
      | @lst a vs _ h h' r l =>
        obtain ⟨k1, k2, k3, k4⟩ := srt_alike hok
        cases ds with
        | nil => cases ho
        | cons x0 r0 =>
          have ho' : d = r0.foldl (fun a y => if dLt y a then y else a) x0 := (Option.some.inj ho).symm
          subst ho'
          have hdepth : PyData.depthAll ((x0 :: r0).map py) ≤ 60 := by
            generalize (x0 :: r0).map py = L at k3
            induction L with
            | nil => simp [PyData.depthAll]
            | cons y L ih =>
              rw [PyData.depthAll]
              exact Nat.max_le.mpr ⟨k3 y List.mem_cons_self, ih fun z hz => k3 z (List.mem_cons_of_mem _ hz)⟩
          refine ⟨a, vs, (x0 :: r0).map py, rfl, Evl.ex_l e h, ?_, ⟨fun x hx y hy => k1 x hx y hy, ?_⟩, hdepth, ?_, fun i v dd h1 h2 h3 => ?_⟩
          · rw [← pys_eq]; exact Reps.dp (Reps.mono e r) k4
          · exact k2
          · intro z; rw [z] at r; cases r
          · obtain ⟨w, hw, rw_⟩ := r.getV h1
            rw [List.getElem?_map, hw] at h2
            cases h2
            have hm : r0.foldl (fun a y => if dLt y a then y else a) x0 ∈ x0 :: r0 := foldl_pick dLt r0 x0
            have hfl := k4
            rw [flats_eq, List.all_eq_true] at hfl
            have e5 : w = r0.foldl (fun a y => if dLt y a then y else a) x0 := by
              refine py_inj (hfl _ (List.mem_of_getElem? hw)) (hfl _ hm) ?_
              rw [h3, least_py]; rfl
            exact hq _ I H (Step.refl e) (e5 ▸ rw_)
    · cases ho
  · cases ho
section
variable {ι : Type} {X : ι → Cx} {P : Program} {w : World} {mg : Str → Option Value} {base : Heap} {k : Nat} {N : List Str} {W : WX}
theorem call_sortedF (fo : Fo X G P w mg base k N W) (i : ι) : CallR (X i) (.builtin "sorted") (rSortedD G.K) := by rw [← fo.hK i]; exact cr_sortedD (fo.room i).units
theorem call_minAF (fo : Fo X G P w mg base k N W) (hc : ∀ i, (X i).calm = true) (i : ι) : CallR (X i) (.builtin "min") (rMinA G.K) := by rw [← fo.hK i]; exact cr_minA (hc i) (fo.room i).units
end
end PL
set_option Elab.async false
set_option linter.all false
set_option maxRecDepth 100000
set_option maxHeartbeats 4000000
/-! Dicts whose keys are tuples (of tuples). -/
namespace PL
open PySem PySem.Spec PyProof.Rows L2
open Evl (Ex)
abbrev NK := PySem.NestedKey
abbrev NX := NK × Addr × Value
/-! ### keys -/
mutual
theorem flat_nk : ∀ {d : D} {k : NK}, nkD d = some k → flat d = true
  | .non, _, _ => rfl
  | .bl _, _, _ => rfl
  | .int _, _, _ => rfl
  | .str _, _, _ => rfl
  | .tup xs, k, e => by
    rw [nkD] at e
    rw [flat]
    cases q : nkDs xs with
    | none => rw [q] at e; cases e
    | some ks => exact flats_nk q
  | .lst _, _, e => by simp [nkD] at e
  | .dct _, _, e => by simp [nkD] at e
  | .dcn _, _, e => by simp [nkD] at e
  | .dcb _, _, e => by simp [nkD] at e
  | .ins _ _, _, e => by simp [nkD] at e
theorem flats_nk : ∀ {ds : List D} {ks : List NK}, nkDs ds = some ks → flats ds = true
  | [], _, _ => rfl
  | d :: ds, _, e => by
    rw [nkDs] at e
    rw [flats]
    cases q : nkD d with
    | none => rw [q] at e; cases e
    | some k =>
      cases q2 : nkDs ds with
      | none => rw [q, q2] at e; cases e
      | some ks => rw [flat_nk q, flats_nk q2]; rfl
end
mutual
theorem nk_reads {h : Heap} : ∀ {d : D} {k : NK} {v : Value} {as : List Addr}, nkD d = some k → Reads h v (py d) as → PySem.NestedIs h k v
  | .non, _, _, _, e, r => by rw [nkD] at e; cases e; rw [py] at r; cases r; exact .none
  | .bl b, _, _, _, e, r => by rw [nkD] at e; cases e; rw [py] at r; cases r; exact .bool rfl
  | .int i, _, _, _, e, r => by rw [nkD] at e; cases e; rw [py] at r; cases r; exact .int _ _
  | .str x, _, _, _, e, r => by rw [nkD] at e; cases e; rw [py] at r; cases r; exact .text _ _
  | .tup xs, k, v, as, e, r => by
    rw [nkD] at e
    cases q : nkDs xs with
    | none => rw [q] at e; cases e
    | some ks =>
      rw [q] at e
      cases e
      rw [py] at r
      cases r with
      | tuple h1 h2 h3 h4 => exact .tup h1 h2 h3 (nks_reads q h4)
  | .lst _, _, _, _, e, _ => by simp [nkD] at e
  | .dct _, _, _, _, e, _ => by simp [nkD] at e
  | .dcn _, _, _, _, e, _ => by simp [nkD] at e
  | .dcb _, _, _, _, e, _ => by simp [nkD] at e
  | .ins _ _, _, _, _, e, _ => by simp [nkD] at e
theorem nks_reads {h : Heap} : ∀ {ds : List D} {ks : List NK} {vs : List Value} {as : List Addr}, nkDs ds = some ks → ReadsAll h vs (pys ds) as → PySem.NestedAll h ks vs
  | [], _, _, _, e, r => by rw [nkDs] at e; cases e; rw [pys] at r; cases r; exact .nil
  | d :: ds, _, _, _, e, r => by
    rw [nkDs] at e
    cases q : nkD d with
    | none => rw [q] at e; cases e
    | some k =>
      cases q2 : nkDs ds with
      | none => rw [q, q2] at e; cases e
      | some ks =>
        rw [q, q2] at e
        cases e
        rw [pys] at r
        cases r with
        | cons a b => exact .cons (nk_reads q a) (nks_reads q2 b)
end
/-- the tuple at b is the key k -/
def KeyAt (K : PySem.W.Frag) (H : Hp) (b : Addr) (k : NK) : Prop := ∃ d, nkD d = some k ∧ k.depth ≤ 8 ∧ Dp K H (.ref b) (py d)
/-- the dict at a has the entries xs -/
structure NDict (w : World) (K : PySem.W.Frag) (H : Hp) (a : Addr) (xs : List NX) : Prop where
  lo : (a == sysModules) = false
  at_ : H a = some (rawO a (xs.map (entN w)))
  keys : ∀ x ∈ xs, KeyAt K H x.2.1 x.1
  nd : (xs.map (·.1)).Nodup
  le : xs.length ≤ sizeLine
section
variable {X : Cx} {pins : List (Addr × Obj)} {σ : L2.St} {H : Hp} {s : Shared} {a b : Addr} {k : NK} {xs : List NX}
theorem KeyAt.is_ (I : Inv X pins σ H s) (h : KeyAt X.K H b k) : (PySem.nestedKind X.prog X.w).is s.heap k b := by
  obtain ⟨d, h1, h2, h3⟩ := h
  obtain ⟨as, r⟩ := Dp.reads I _ _ (Value.ref b) h3 rfl
  exact ⟨nk_reads h1 r, h2⟩
theorem NDict.raw (I : Inv X pins σ H s) (h : NDict X.w X.K H a xs) : ∃ o es ep, s.heap.get? a = some o ∧ o.ExactDict ∧ o.data = .dict es ep ∧ es.toList = xs.map (entN X.w) := by
  obtain ⟨⟨es, ep, ⟨o, h1, h2, h3⟩, h4⟩, _⟩ := (show ObjOk X.prog X.w H s.heap a (rawO a (xs.map (entN X.w))) from I.hok a _ h.at_)
  exact ⟨o, es, ep, h1, h2, h3, h4⟩
theorem NDict.of (I : Inv X pins σ H s) (h : NDict X.w X.K H a xs) : s.heap.DictOfH (PySem.nestedKind X.prog X.w) a xs := by
  obtain ⟨o, es, ep, h1, h2, h3, h4⟩ := h.raw I
  exact ⟨o, es, ep, h1, h2, h3, h4, fun x hx => (h.keys x hx).is_ I, h.nd⟩
theorem raw_obj {h' : Heap} {H' : Hp} (P : Program) {w : World} (hd : h'.DictOfH (PySem.nestedKind P w) a xs) : ObjOk P w H' h' a (rawO a (xs.map (entN w))) := by
  obtain ⟨o, es, ep, h1, h2, h3, h4, _, _⟩ := hd
  exact ⟨⟨es, ep, ⟨o, h1, h2, h3⟩, h4⟩, ⟨o, h1⟩, fun g1 g2 ⟨es, ep, ⟨o, k1, k2, k3⟩, k4⟩ hk => ⟨es, ep, ⟨o, hk _ k1, k2, k3⟩, k4⟩⟩
theorem room_in1 {A : Around} (hu : A.units + 64 < cLine) : (PySem.nestedKind X.prog X.w).room A.in1 := by
  show A.units + 1 + 8 < cLine; omega
/-! ### what the layer's rules want -/
def rInN (w : World) (K : PySem.W.Frag) : R2 := fun x y H Q => ∃ b a k xs, x = .ref b ∧ y = .ref a ∧ NDict w K H a xs ∧ KeyAt K H b k ∧ Q (.bl (atKey xs k).isSome) H
def rNotInN (w : World) (K : PySem.W.Frag) : R2 := fun x y H Q => ∃ b a k xs, x = .ref b ∧ y = .ref a ∧ NDict w K H a xs ∧ KeyAt K H b k ∧ Q (.bl (!(atKey xs k).isSome)) H
theorem op_inN (hu : X.A.units + 64 < cLine) : OpR X (compareOp .In) (rInN X.w X.K) := by
  intro pins s σ H x y v u Q I rx ry h
  obtain ⟨b, a, k, xs, rfl, rfl, hd, hk, q⟩ := h
  obtain rfl : v = Value.ref b := rx
  obtain rfl : u = Value.ref a := ry
  exact wpAny_in_heap (room_in1 hu) (hk.is_ I) hd.lo (hd.of I) ⟨.bl _, H, I.tok _, rfl, q⟩
theorem op_notinN (hu : X.A.units + 64 < cLine) : OpR X (compareOp .NotIn) (rNotInN X.w X.K) := by
  intro pins s σ H x y v u Q I rx ry h
  obtain ⟨b, a, k, xs, rfl, rfl, hd, hk, q⟩ := h
  obtain rfl : v = Value.ref b := rx
  obtain rfl : u = Value.ref a := ry
  exact wpAny_notIn_heap (room_in1 hu) (hk.is_ I) hd.lo (hd.of I) ⟨.bl _, H, I.tok _, rfl, q⟩
def rLenN (w : World) (K : PySem.W.Frag) : List V → Hp → VK → Prop := fun vs H Q => ∃ a xs, vs = [.ref a] ∧ NDict w K H a xs ∧ Q (.int xs.length) H
theorem call_lenN : CallR X (.builtin "len") (rLenN X.w X.K) := by
  intro pins s σ H vs us Q I r h
  obtain ⟨a, xs, rfl, hd, q⟩ := h
  rw [Vals.ref1 r]
  exact call_len_dictH hd.lo (hd.of I) (by have := hd.le; rw [sizeLine_eq] at this; omega) ⟨.int _, H, I.tok _, ⟨_, rfl⟩, q⟩
/-- the keys' addresses, as they are collected -/
theorem keys_of {es : Array DictEntry} {w : World} {acc : Array Value} (he : es.toList = xs.map (entN w)) (hi : PySem.ItemsOf (fun i v => ∃ en : DictEntry, es[i]? = some en ∧ v = en.key) acc es.size) : acc.toList = (xs.map fun x => x.2.1).map Value.ref := by
  have hs : es.size = xs.length := by rw [← Array.length_toList, he, List.length_map]
  refine List.ext_getElem (by simp [hi.1, hs]) fun j h1 h2 => ?_
  obtain ⟨en, e1, e2⟩ := hi.2 j acc.toList[j] (by rw [← Array.getElem?_toList]; exact List.getElem?_eq_getElem h1)
  rw [← Array.getElem?_toList, he, List.getElem?_map] at e1
  have h3 : j < xs.length := by simpa using h2
  rw [List.getElem?_eq_getElem h3] at e1
  rw [e2, ← Option.some.inj e1]
  simp [entN]
theorem vals_ref : ∀ bs : List Addr, Vals (bs.map V.ref) (bs.map Value.ref)
  | [] => .nil
  | _ :: r => .cons rfl (vals_ref r)
def rListN (w : World) (K : PySem.W.Frag) : List V → Hp → VK → Prop := fun vs H Q => ∃ a xs, vs = [.ref a] ∧ NDict w K H a xs ∧ ∀ p, H p = none → Q (.ref p) (upd H p (.lst ((xs.map fun x => x.2.1).map V.ref)))
theorem call_listN (hc : X.calm = true) : CallR X (.type "list") (rListN X.w X.K) := by
  intro pins s σ H vs us Q I r h
  obtain ⟨a, xs, rfl, hd, q⟩ := h
  rw [Vals.ref1 r]
  obtain ⟨o, es, ep, h1, h2, h3, h4⟩ := hd.raw I
  have hs : es.size = xs.length := by rw [← Array.length_toList, h4, List.length_map]
  refine PySem.W.kdl_call (kdl_raw hd.lo h2 h3) (I.ok.hd hc) h1 (by rw [hs]; exact hd.le) fun h' tk acc c kp e it => ?_
  have hv : Vals ((xs.map fun x => x.2.1).map V.ref) acc.toList := by rw [keys_of h4 it]; exact vals_ref _
  refine ⟨.ref s.heap.objs.size, _, I.laid (t' := tk) (o := .lst ((xs.map fun x => x.2.1).map V.ref)) kp (Nat.le_refl _) ?_, rfl, q _ (I.hok.fresh (Nat.le_refl _))⟩
  exact ⟨by simp; exact hd.le, acc.toList, c, hv, by rw [Array.toArray_toList]; exact e⟩
mutual
theorem nk_nolist {h : Heap} : ∀ {d : D} {k : NK} {v : Value} {as : List Addr}, nkD d = some k → Reads h v (py d) as → as = []
  | .non, _, _, _, _, r => by rw [py] at r; cases r; rfl
  | .bl b, _, _, _, _, r => by rw [py] at r; cases r; rfl
  | .int i, _, _, _, _, r => by rw [py] at r; cases r; rfl
  | .str x, _, _, _, _, r => by rw [py] at r; cases r; rfl
  | .tup xs, k, v, as, e, r => by
    rw [nkD] at e
    cases q : nkDs xs with
    | none => rw [q] at e; cases e
    | some ks =>
      rw [py] at r
      cases r with
      | tuple h1 h2 h3 h4 => exact nks_nolist q h4
  | .lst _, _, _, _, e, _ => by simp [nkD] at e
  | .dct _, _, _, _, e, _ => by simp [nkD] at e
  | .dcn _, _, _, _, e, _ => by simp [nkD] at e
  | .dcb _, _, _, _, e, _ => by simp [nkD] at e
  | .ins _ _, _, _, _, e, _ => by simp [nkD] at e
theorem nks_nolist {h : Heap} : ∀ {ds : List D} {ks : List NK} {vs : List Value} {as : List Addr}, nkDs ds = some ks → ReadsAll h vs (pys ds) as → as = []
  | [], _, _, _, _, r => by rw [pys] at r; cases r; rfl
  | d :: ds, _, _, _, e, r => by
    rw [nkDs] at e
    cases q : nkD d with
    | none => rw [q] at e; cases e
    | some k =>
      cases q2 : nkDs ds with
      | none => rw [q, q2] at e; cases e
      | some ks =>
        rw [pys] at r
        cases r with
        | cons a b => rw [nk_nolist q a, nks_nolist q2 b]; rfl
end
def refsN (xs : List NX) : List V := (xs.map fun x => x.2.1).map V.ref
def rSortedN (w : World) (K : PySem.W.Frag) : List V → Hp → VK → Prop := fun vs H Q => ∃ a xs kd, vs = [.ref a] ∧ NDict w K H a xs ∧ DpAll K H (refsN xs) (pys kd) ∧ (∀ d ∈ kd, (nkD d).isSome = true) ∧ PySem.W.AllAlike (pys kd) ∧ (∀ d ∈ pys kd, d ≠ .none) ∧ (∀ d ∈ pys kd, d.depth ≤ 60) ∧
  ∀ p, H p = none → Q (.ref p) (upd H p (.lst (sortV (refsN xs) (pys kd))))
theorem each_rd0 {pins : List (Addr × Obj)} {σ : L2.St} {H : Hp} {s : Shared} (I : Inv X pins σ H s) {g : Heap} (hg : ∀ b o, s.heap.get? b = some o → g.get? b = some o) (p : Addr) : ∀ {xs : List V} {us : List Value} {kd : List D}, Vals xs us → DpAll X.K H xs (pys kd) → (∀ d ∈ kd, (nkD d).isSome = true) →
    PySem.W.EachIs (fun v (b : V × PyData) => ∃ as, Reads g v b.2 as ∧ p ∉ as) us (xs.zip (pys kd))
  | _, _, [], .nil, q, _ => by rw [pys] at q ⊢; exact .nil
  | _, _, d :: kd, .cons r t, q, hk => by
    rw [pys] at q ⊢
    cases q with
    | cons q q' =>
      obtain ⟨as, rd⟩ := Dp.reads I _ _ _ q r
      obtain ⟨k, hk1⟩ := Option.isSome_iff_exists.mp (hk d List.mem_cons_self)
      have e := nk_nolist hk1 rd
      exact .cons ⟨as, PySem.W.reads_keeps hg rd, by rw [e]; simp⟩ (each_rd0 I hg p t q' fun z hz => hk z (List.mem_cons_of_mem _ hz))
  | _, _, [], .cons _ _, q, _ => by rw [pys] at q; cases q
  | _, _, _ :: _, .nil, q, _ => by rw [pys] at q; cases q
theorem cr_sortedN (hc : X.calm = true) (hu : X.A.units + 64 < cLine) : CallR X (.builtin "sorted") (rSortedN X.w X.K) := by
  intro pins s σ H vs us Q I r h
  obtain ⟨a, xs, kd, rfl, hd, hdp, hkd, ha, hk, hdep, q⟩ := h
  rw [Vals.ref1 r]
  obtain ⟨o, es, ep, h1, h2, h3, h4⟩ := hd.raw I
  have hs : es.size = xs.length := by rw [← Array.length_toList, h4, List.length_map]
  have hlen : (refsN xs).length = (pys kd).length := dpAll_len hdp
  have em : ((refsN xs).zip (pys kd)).map (fun b => b.2) = pys kd := List.map_snd_zip (by omega)
  suffices body : wpAny (model X.prog X.w) X.A.in1 (Builtin.«sorted» ⟨[.ref a], []⟩) (fun r s' => ∃ v, r = .done (.ret v) ∧ EP X pins σ Q v s') X.xe s from
    Calls.call_function_entry kind_sorted plain_sorted entry_sorted (args_sorted1 _) body
  unfold Builtin.«sorted»
  refine wpAny_bind (m := checkCount "sorted" 1 1 _) (wpAny_pure ?_)
  have src := kdl_raw (prog := X.prog) (w := X.w) (ep := ep) hd.lo h2 h3
  refine wpAny_bind (PySem.W.kdu_collect (A := X.A.in1) src (I.ok.hd hc) h1 (by rw [hs]; exact hd.le) fun g tk acc kp it => ?_)
  have eacc := keys_of h4 it
  have hsz : acc.toList.length = xs.length := by rw [eacc]; simp
  have I1 : Inv X pins σ H { s with heap := g, toks := tk } := I.kept kp
  refine wpAny_bind (wpAny_newList ?_ (by rw [hsz]; exact hd.le))
  generalize hg2 : g.push (seqObj "list" acc.toList.toArray 0) = g2
  have hat : g2.get? g.objs.size = some (seqObj "list" acc.toList.toArray 0) := by rw [← hg2]; exact Heap.get?_push_size _ rfl
  have k2 : ∀ b o, g.get? b = some o → g2.get? b = some o := fun b o e => by rw [← hg2]; exact Heap.get?_push_of_some _ e
  have rv : Vals (refsN xs) acc.toList := by rw [eacc]; exact vals_ref _
  refine wpAny_bind (wpAny_holding (list_sort_data2 (s := { s with heap := g2, toks := tk }) (enc := fun b : V × PyData => b.2) hat (each_rel rv hlen)
    (each_rd0 I1 k2 _ rv hdp hkd) (by rw [em]; exact ha) (by rw [em]; exact hk) (by simp [refsN]; have := hd.le; omega) (fun b hb => ?_) fun out o1 o2 => ?_))
  · have := hdep b.2 (by rw [← em]; exact List.mem_map.mpr ⟨b, hb, rfl⟩)
    show X.A.in1.units + 1 + b.2.depth < cLine
    have : X.A.in1.units = X.A.units + 1 := rfl
    omega
  · obtain ⟨e', he'⟩ := sortedHeap_at (vs := acc.toList) (out := out.toArray) hat
    have hv : Vals (sortV (refsN xs) (pys kd)) out := each_back (h := 0) o2
    have hln : (sortV (refsN xs) (pys kd)).length ≤ sizeLine := by rw [hv.length, o1]; simp [refsN]; have := hd.le; omega
    refine wpAny_pure ⟨_, rfl, .ref g.objs.size, upd H g.objs.size (.lst (sortV (refsN xs) (pys kd))), I1.laid (t' := tk) (fun b u e => ?_) (Nat.le_refl _) ⟨hln, out, e', hv, he'⟩, rfl, q _ (I1.hok.fresh (Nat.le_refl _))⟩
    have hb : b < g.objs.size := Heap.lt_size e
    exact (sortedHeap_old (Nat.ne_of_lt hb) (by rw [← hg2, size_push']; exact Nat.lt_succ_of_lt hb)).trans (k2 b u e)
end
/-! ### a store -/
section
variable {X : Cx}
def rSetN (w : World) (K : PySem.W.Frag) : V → V → V → Hp → (Hp → Prop) → Prop := fun o i v H Q => ∃ a b k xs, o = .ref a ∧ i = .ref b ∧ NDict w K H a xs ∧ KeyAt K H b k ∧ xs.length < sizeLine ∧ ∀ u, RelV v u → Q (upd H a (rawO a ((storedH xs k b u).map (entN w))))
theorem storedH_len (xs : List NX) (k : NK) (b : Addr) (u : Value) : (storedH xs k b u).length ≤ xs.length + 1 := by
  unfold storedH
  split
  · simp
  · simp
theorem set_N (hu : X.A.units + 64 < cLine) : PSet X (rSetN X.w X.K) := by
  intro pins s σ H o i v ov iv u Q I ro ri rv h
  obtain ⟨a, b, k, xs, rfl, rfl, hd, hk, hl, q⟩ := h
  cases ro
  cases ri
  refine wpAny_setItem_heap (hsz := hd.le) (room_in1 hu) (hk.is_ I) (hd.of I) fun g gd hs => ?_
  have mu : Mut (H a) := by rw [hd.at_]; exact True.intro
  obtain ⟨o, es, ep, h1, _⟩ := id gd
  exact ⟨_, d_write (t' := s.toks + (PySem.nestedKind X.prog X.w).draws k) I mu hs ⟨o, h1⟩ (raw_obj X.prog gd), q u rv⟩
end
/-! ### data -/
def nkOk (d : D) : Bool := isTup d && (match nkD d with | some k => decide (k.depth ≤ 8) | none => false)
def inN (a b : D) : Option D := match b with
  | .dcn ds => if nkOk a = true then some (.bl (ds.any fun p => decide (nkD p.1 = nkD a))) else none
  | _ => none
def notinN (a b : D) : Option D := match b with
  | .dcn ds => if nkOk a = true then some (.bl (!ds.any fun p => decide (nkD p.1 = nkD a))) else none
  | _ => none
def lenN : List D → Option D
  | [.dcn ds] => some (.int ds.length)
  | _ => none
def listN : List D → Option D
  | [.dcn ds] => some (.lst (ds.map (·.1)))
  | _ => none
def sortedN : List D → Option D
  | [.dcn ds] => if srtOk (ds.map (·.1)) = true then some (.lst ((ds.map (·.1)).mergeSort dLe)) else none
  | _ => none
def storeD (ds : List (D × D)) (k v : D) : List (D × D) := if ds.any (fun p => decide (nkD p.1 = nkD k)) = true then ds.map fun p => if nkD p.1 = nkD k then (p.1, v) else p else ds ++ [(k, v)]
variable {G : Gt} {R : Option Addr} {W : WX}
theorem RepN.length {H : Hp} : ∀ {xs : List NX} {ds : List (D × D)}, RepN G H xs ds → xs.length = ds.length
  | _, _, .nil => rfl
  | _, _, .cons _ _ _ _ _ _ t => by rw [List.length_cons, List.length_cons, t.length]
theorem RepN.keyAt {H : Hp} : ∀ {xs : List NX} {ds : List (D × D)}, RepN G H xs ds → ∀ x ∈ xs, KeyAt G.K H x.2.1 x.1
  | _, _, .nil, x, hx => by simp at hx
  | _, _, .cons _ b c r _ _ t, x, hx => by
    rcases List.mem_cons.mp hx with rfl | hx
    · exact ⟨_, b, c, r.dp (flat_nk b)⟩
    · exact t.keyAt x hx
theorem RepN.any {H : Hp} (k : NK) : ∀ {xs : List NX} {ds : List (D × D)}, RepN G H xs ds → (atKey xs k).isSome = ds.any fun p => decide (nkD p.1 = some k)
  | _, _, .nil => rfl
  | _, _, .cons (k := j) (dk := dk) (xs := xs) _ b _ _ _ _ t => by
    rw [List.any_cons, b, ← RepN.any k t]
    unfold atKey
    rw [List.find?_cons]
    by_cases h : j = k
    · subst h; simp
    · have h2 : ¬ (some j = some k) := fun z => h (Option.some.inj z)
      simp [h]
theorem RepN.refs {H : Hp} : ∀ {xs : List NX} {ds : List (D × D)}, RepN G H xs ds → Reps G H (refsN xs) (ds.map (·.1))
  | _, _, .nil => .nil
  | _, _, .cons _ _ _ r _ _ t => .cons r t.refs
theorem RepN.somes {H : Hp} : ∀ {xs : List NX} {ds : List (D × D)}, RepN G H xs ds → ∀ d ∈ ds.map (·.1), (nkD d).isSome = true
  | _, _, .nil, d, hd => by simp at hd
  | _, _, .cons _ b _ _ _ _ t, d, hd => by
    rw [List.map_cons] at hd
    rcases List.mem_cons.mp hd with rfl | hd
    · rw [b]; rfl
    · exact t.somes d hd
theorem RepN.nk {H : Hp} : ∀ {xs : List NX} {ds : List (D × D)}, RepN G H xs ds → ds.map (fun p => nkD p.1) = xs.map fun x => some x.1
  | _, _, .nil => rfl
  | _, _, .cons _ b _ _ _ _ t => by rw [List.map_cons, List.map_cons, b, t.nk]
theorem RepN.snoc {H : Hp} {k : NK} {b : Addr} {u : Value} {v : V} {dk d : D} (a : isTup dk = true) (h : nkD dk = some k) (c : k.depth ≤ 8) (r : Rep G H (.ref b) dk) (q : RelV v u) (rv : Rep G H v d) : ∀ {xs : List NX} {ds : List (D × D)}, RepN G H xs ds → RepN G H (xs ++ [(k, b, u)]) (ds ++ [(dk, d)])
  | _, _, .nil => .cons a h c r q rv .nil
  | _, _, .cons a' b' c' r' q' v' t => .cons a' b' c' r' q' v' (t.snoc a h c r q rv)
theorem RepN.putAt {H : Hp} {k : NK} {u : Value} {v : V} {dk d : D} (h : nkD dk = some k) (q : RelV v u) (rv : Rep G H v d) : ∀ {xs : List NX} {ds : List (D × D)}, RepN G H xs ds → RepN G H (xs.map (PySem.putAt k u)) (ds.map fun p => if nkD p.1 = nkD dk then (p.1, d) else p)
  | _, _, .nil => .nil
  | _, _, .cons (k := j) (dk := dj) a' b' c' r' q' v' t => by
    rw [List.map_cons, List.map_cons]
    by_cases e : j = k
    · have e2 : nkD dj = nkD dk := by rw [b', h, e]
      rw [if_pos e2]
      unfold PySem.putAt
      rw [if_pos e]
      exact .cons a' b' c' r' q rv (t.putAt h q rv)
    · have e2 : ¬ nkD dj = nkD dk := by rw [b', h]; exact fun z => e (Option.some.inj z)
      rw [if_neg e2]
      unfold PySem.putAt
      rw [if_neg e]
      exact .cons a' b' c' r' q' v' (t.putAt h q rv)
theorem RepN.stored {H : Hp} {k : NK} {b : Addr} {u : Value} {v : V} {dk d : D} (a : isTup dk = true) (h : nkD dk = some k) (c : k.depth ≤ 8) (r : Rep G H (.ref b) dk) (q : RelV v u) (rv : Rep G H v d) {xs : List NX} {ds : List (D × D)} (t : RepN G H xs ds) : RepN G H (storedH xs k b u) (storeD ds dk d) := by
  unfold storedH storeD
  rw [h, ← t.any k]
  by_cases e : (atKey xs k).isSome = true
  · rw [if_pos e, if_pos e]
    have := t.putAt h q rv
    rw [h] at this
    exact this
  · rw [if_neg e, if_neg e]
    exact t.snoc a h c r q rv
theorem storedH_nodup {xs : List NX} {k : NK} {b : Addr} {u : Value} (h : (xs.map (·.1)).Nodup) : ((storedH xs k b u).map (·.1)).Nodup := by
  unfold storedH
  split
  · rw [List.map_map]
    have : ((fun x : NX => x.1) ∘ PySem.putAt k u) = fun x : NX => x.1 := by
      funext x; simp only [Function.comp, PySem.putAt]; split <;> rfl
    rw [this]; exact h
  · rename_i e
    rw [List.map_append, List.nodup_append]
    refine ⟨h, by simp, ?_⟩
    intro x hx y hy z
    simp at hy
    subst hy; subst z
    obtain ⟨p, hp, e2⟩ := List.mem_map.mp hx
    apply e
    unfold atKey
    rw [Option.isSome_map, List.find?_isSome]
    exact ⟨p, hp, by simpa using e2⟩
theorem Rep.ndict {I H : Hp} {a : Addr} {ds : List (D × D)} (e : Ex I H) (r : Rep G I (.ref a) (.dcn ds)) : ∃ xs, NDict G.w G.K H a xs ∧ RepN G I xs ds := by
  cases r with
  | dN m h r n l => exact ⟨_, ⟨m, e _ _ h, (r.mono e).keyAt, n, l⟩, r⟩
theorem nkOk_key {I H : Hp} {x : V} {d : D} (e : Ex I H) (r : Rep G I x d) (h : nkOk d = true) : ∃ b k, x = .ref b ∧ isTup d = true ∧ nkD d = some k ∧ k.depth ≤ 8 ∧ KeyAt G.K H b k := by
  unfold nkOk at h
  rw [Bool.and_eq_true] at h
  obtain ⟨h1, h2⟩ := h
  cases q : nkD d with
  | none => rw [q] at h2; cases h2
  | some k =>
    rw [q] at h2
    have h3 : k.depth ≤ 8 := of_decide_eq_true h2
    cases d with
    | tup ds => cases r with
      | tup a b c => exact ⟨_, k, rfl, h1, rfl, h3, _, q, h3, (Rep.tup a b c : Rep G I _ _).mono e |>.dp (flat_nk q)⟩
    | _ => cases h1
theorem ops_inN : OpS G (rInN G.w G.K) inN := fun I H x y a b d e rx ry ho Q hq => by
  cases b with
  | dcn ds =>
    simp only [inN] at ho
    split at ho
    · rename_i h
      cases ho
      obtain ⟨b, k, rfl, h1, h2, h3, h4⟩ := nkOk_key e rx h
      cases y with
      | ref p =>
        obtain ⟨xs, n, r⟩ := ry.ndict e
        refine ⟨b, p, k, xs, rfl, rfl, n, h4, ?_⟩
        rw [r.any k, ← h2]
        exact hq _ I H (Step.refl e) (.bl _)
      | _ => cases ry
    · cases ho
  | _ => cases ho
theorem ops_notinN : OpS G (rNotInN G.w G.K) notinN := fun I H x y a b d e rx ry ho Q hq => by
  cases b with
  | dcn ds =>
    simp only [notinN] at ho
    split at ho
    · rename_i h
      cases ho
      obtain ⟨b, k, rfl, h1, h2, h3, h4⟩ := nkOk_key e rx h
      cases y with
      | ref p =>
        obtain ⟨xs, n, r⟩ := ry.ndict e
        refine ⟨b, p, k, xs, rfl, rfl, n, h4, ?_⟩
        rw [r.any k, ← h2]
        exact hq _ I H (Step.refl e) (.bl _)
      | _ => cases ry
    · cases ho
  | _ => cases ho
theorem lss_lenN : LsS G (rLenN G.w G.K) lenN := fun I H xs as d e rs ho Q hq => by
  unfold lenN at ho
  split at ho
  · cases ho
    obtain ⟨v, rfl, rv⟩ := reps1 rs
    cases v with
    | ref p =>
      obtain ⟨xs, n, r⟩ := rv.ndict e
      refine ⟨p, xs, rfl, n, ?_⟩
      rw [r.length]
      exact hq _ I H (Step.refl e) (.int _)
    | _ => cases rv
  · cases ho
theorem lss_listN : LsS G (rListN G.w G.K) listN := fun I H xs as d e rs ho Q hq => by
  unfold listN at ho
  split at ho
  · cases ho
    obtain ⟨v, rfl, rv⟩ := reps1 rs
    cases v with
    | ref p =>
      obtain ⟨xs, n, r⟩ := rv.ndict e
      refine ⟨p, xs, rfl, n, fun l hl => ?_⟩
      have hrs := r.refs
      exact (fun n => hq _ _ _ n.1 n.2) (new_lst e hl hrs (by simp [refsN]; exact n.le))
    | _ => cases rv
  · cases ho
theorem lss_sortedN : LsS G (rSortedN G.w G.K) sortedN := fun I H xs as d e rs ho Q hq => by
  unfold sortedN at ho
  split at ho
  · rename_i ds
    split at ho
    · rename_i hok
      cases ho
      obtain ⟨v, rfl, rv⟩ := reps1 rs
      cases v with
      | ref p =>
        obtain ⟨xs, n, r⟩ := rv.ndict e
        obtain ⟨k1, k2, k3, k4⟩ := srt_alike hok
        rw [← pys_eq] at k1 k2 k3
        have hrs := r.refs
        refine ⟨p, xs, ds.map (·.1), rfl, n, Reps.dp (hrs.mono e) k4, r.somes, k1, k2, k3, fun l hl => ?_⟩
        obtain ⟨L, e1, e2, e3⟩ := sort_zip (refsN xs) (ds.map (·.1)) hrs.length
        rw [← pys_eq] at e1
        have h2 : Reps G I (sortV (refsN xs) (pys (ds.map (·.1)))) ((ds.map (·.1)).mergeSort dLe) := by
          rw [← e1, ← e2]
          exact reps_of fun b hb => reps_zip hrs b (e3 b hb)
        exact (fun n => hq _ _ _ n.1 n.2) (new_lst e hl h2 (by rw [h2.length, List.length_mergeSort, ← hrs.length]; simp [refsN]; exact n.le))
      | _ => cases rv
    · cases ho
  · cases ho
/-! ### {} and d[k] = v -/
def tDNewN : TE := fun _ H Q => ∀ p, (p == sysModules) = false → H p = none → Q (.ref p) (upd H p (rawO p []))
theorem pe_dnewN {X : Cx} {pos : Pos} : PE X (.Dict [] [] pos) tDNewN := ⟨fun pins s σ H Q I h => by
  have ok : ObjOk X.prog X.w (upd H s.heap.objs.size (rawO s.heap.objs.size [])) (s.heap.push { cls := .type "dict", data := .dict #[] }) s.heap.objs.size (rawO s.heap.objs.size []) := raw_obj (w := X.w) (xs := []) X.prog (Heap.DictOfH.new s.heap)
  have lo : (s.heap.objs.size == sysModules) = false := by
    have hb := I.big
    exact beq_false_of_ne fun z => by rw [z] at hb; exact Nat.lt_irrefl _ hb
  exact wpAny_Dict_empty ⟨.ref s.heap.objs.size, _, I.laid (t' := s.toks) (fun _ _ q => Heap.get?_push_of_some _ q) (Nat.le_refl _) ok, rfl, h _ lo (I.hok.fresh (Nat.le_refl _))⟩⟩
theorem rf_dnewN : RF G R W tDNewN (e_c (.dcn [])) := fun I H σ ρ s e ro sl Q res s' hf hp => by
  have hf' : some (Res.ok (.dcn []), s) = some (res, s') := hf
  cases hf'
  intro p lo hp'
  obtain ⟨n1, n2, n3⟩ := new_cell (o := rawO p []) e ro hp'
  exact hp p I _ n1 n2 hp' n3 (rowNe ro hp') ⟨[], lo, upd_same, .nil, by simp, Nat.zero_le _⟩ rfl
def s_dset (i : Nat) (fk fv : EF) : SF := fun ρ s => match ceAt ρ i with
  | some (.dcn ds) => bE (fv ρ s) (.er · ρ) fun v s1 => bE (fk ρ s1) (.er · ρ) fun k s2 => if nkOk k = true ∧ ds.length < sizeLine then setS ρ i (.ce (.dcn (storeD ds k v))) s2 else none
  | _ => none
theorem rs_dset {i : Nat} {te ti : TE} {fe fx : EF} (he : RE G R W te fe) (hx : RE G R W ti fx) : RS G R W (tAsg te (gSub (tVar i) ti (rSetN G.w G.K))) (s_dset i fx fe) := fun ps I0 H0 I H σ ρ s x Dn o s' hf hp => by
  unfold s_dset at hf
  split at hf
  · rename_i ds q
    obtain ⟨p, a1, a2, a3, a4, xs, a5, a6, a7, a8, a9⟩ := ce_at x q
    refine rs_eval he x hf hp fun d s1 h1 u I1 H1 st1 x1 ru => ?_
    refine ⟨.ref p, a2, rs_eval hx x1 h1 hp fun z s2 h2 w I2 H2 st2 x2 rw_ => ?_⟩
    split at h2
    · rename_i hz
      obtain ⟨_, rfl, rfl⟩ := setS_cases h2
      obtain ⟨b, k, rfl, t1, t2, t3, t4⟩ := nkOk_key st2.ih rw_ hz.1
      have h5 : H2 p = some (rawO p (xs.map (entN G.w))) := st2.fr p _ (st1.fr p _ a6 a4) a4
      have r2 := (a7.mono st1.ii).mono st2.ii
      have hl : xs.length < sizeLine := by rw [a7.length]; exact hz.2
      refine ⟨p, b, k, xs, rfl, rfl, ⟨a5, h5, (r2.mono st2.ih).keyAt, a8, a9⟩, t4, hl, fun uu hu => ?_⟩
      exact hp _ I2 _ (x2.upd a1 a2 ⟨_, a5, upd_same, r2.stored t1 t2 t3 rw_ hu (ru.mono st2.ii), storedH_nodup a8, by have := storedH_len xs k b uu; omega⟩)
    · cases h2
  · cases hf
section
variable {ι : Type} {X : ι → Cx} {P : Program} {w : World} {mg : Str → Option Value} {base : Heap} {k : Nat} {N : List Str} {a b e : Expr} {fa fb_ fe : EF} {y : Str} {pos : Pos}
theorem Fo.wG (fo : Fo X G P w mg base k N W) (i : ι) : (X i).w = G.w := (fo.hw i).trans fo.gw.symm
theorem op_inNF (fo : Fo X G P w mg base k N W) (i : ι) : OpR (X i) (compareOp .In) (rInN G.w G.K) := by rw [← fo.hK i, ← fo.wG i]; exact op_inN (fo.room i).units
theorem op_notinNF (fo : Fo X G P w mg base k N W) (i : ι) : OpR (X i) (compareOp .NotIn) (rNotInN G.w G.K) := by rw [← fo.hK i, ← fo.wG i]; exact op_notinN (fo.room i).units
theorem call_lenNF (fo : Fo X G P w mg base k N W) (i : ι) : CallR (X i) (.builtin "len") (rLenN G.w G.K) := by rw [← fo.hK i, ← fo.wG i]; exact call_lenN
theorem call_listNF (fo : Fo X G P w mg base k N W) (hc : ∀ i, (X i).calm = true) (i : ι) : CallR (X i) (.type "list") (rListN G.w G.K) := by rw [← fo.hK i, ← fo.wG i]; exact call_listN (hc i)
theorem call_sortedNF (fo : Fo X G P w mg base k N W) (hc : ∀ i, (X i).calm = true) (i : ι) : CallR (X i) (.builtin "sorted") (rSortedN G.w G.K) := by rw [← fo.hK i, ← fo.wG i]; exact cr_sortedN (hc i) (fo.room i).units
theorem pd_inN (fo : Fo X G P w mg base k N W) (hm : behindInMarks .In b = false) (ha : PDE X G R W a fa) (hb : PDE X G R W b fb_) : PDE X G R W (.Compare a [.In] [b] pos) (e_bin inN fa fb_) := pd_cmp (op_inNF fo) ops_inN hm ha hb
theorem pd_notinN (fo : Fo X G P w mg base k N W) (hm : behindInMarks .NotIn b = false) (ha : PDE X G R W a fa) (hb : PDE X G R W b fb_) : PDE X G R W (.Compare a [.NotIn] [b] pos) (e_bin notinN fa fb_) := pd_cmp (op_notinNF fo) ops_notinN hm ha hb
theorem pdt_inN (fo : Fo X G P w mg base k N W) (hm : behindInMarks .In b = false) (ha : PDE X G R W a fa) (hb : PDE X G R W b fb_) : PDT X G R W (.Compare a [.In] [b] pos) (t_of (e_bin inN fa fb_)) := pdt_cmp (op_inNF fo) ops_inN hm ha hb
theorem pdt_notinN (fo : Fo X G P w mg base k N W) (hm : behindInMarks .NotIn b = false) (ha : PDE X G R W a fa) (hb : PDE X G R W b fb_) : PDT X G R W (.Compare a [.NotIn] [b] pos) (t_of (e_bin notinN fa fb_)) := pdt_cmp (op_notinNF fo) ops_notinN hm ha hb
theorem pdf_dictN : PDF X G R W (.Dict [] [] pos) (e_c (.dcn [])) := ⟨_, fun _ => pe_dnewN, rf_dnewN⟩
theorem pds_dset (fo : Fo X G P w mg base k N W) (j : Nat) {yp sp : Pos} (hN : N[j]? = some y) (hv : ∀ i, Vis (X i).env.scope y) (hi : PDE X G R W a fa) (h : PDE X G R W e fe)
    (ha : ∀ i v, assign (.Subscript (.Name y yp) a sp) (X i).env v = (do
      let ov ← holding [v] (eval (.Name y yp) (X i).env)
      let iv ← holding [v, ov] (eval a (X i).env)
      standAt sp
      holding [v, ov, iv] (setItem ov iv v)
      release [v, ov, iv] []))
    (hs : ∀ i, swapsWithSole [.Subscript (.Name y yp) a sp] e pos.line (X i).env = pure false) (hw : ∀ i, swappedStores [.Subscript (.Name y yp) a sp] e (X i).env = pure none) (h1 : ∀ i, (assignEach [.Subscript (.Name y yp) a sp] (X i).env).map (·.2) = [assign (.Subscript (.Name y yp) a sp) (X i).env])
    (hd : (y == ("__debug__" : Str)) = false := by decide) (hcd : (y == ("__classdict__" : Str)) = false := by decide) : PDS X G R W (.Assign [.Subscript (.Name y yp) a sp] e pos) (s_dset j fa fe) :=
  let ⟨_, p, r⟩ := h; let ⟨_, p', r'⟩ := hi
  ⟨_, fun i => ps_asg (p i) (pg_sub (pe_var (by rw [fo.hN i]; exact hN) (hv i) hd hcd) (p' i) (by rw [← fo.hK i, ← fo.wG i]; exact set_N (fo.room i).units) (ha i)) (hs i) (hw i) (h1 i), rs_dset r r'⟩
end
end PL
set_option Elab.async false
set_option linter.all false
set_option maxRecDepth 100000
set_option maxHeartbeats 4000000
/-! Comprehensions of dicts whose keys are tuples. -/
namespace PL
open PySem PySem.Spec PyProof.Rows L2
open Evl (Ex)
/-- a kind of dict: the new one at its address; what a store wants -/
structure DSt (X : Cx) (o0 : Addr → HO) (st : Addr → V → V → Hp → (Hp → Prop) → Prop) : Prop where
  empty : ∀ (H : Hp) (h : Heap), sysModules < h.objs.size → ObjOk X.prog X.w H (h.push { cls := .type "dict", data := .dict #[] }) h.objs.size (o0 h.objs.size)
  store : ∀ {pins : List (Addr × Obj)} {σ : L2.St} {H : Hp} {s : Shared} {E : Value → Shared → Prop} {D0 : Addr} {y z : V} {u r : Value} {Nx : Hp → Prop} {Q : Unit → Shared → Prop}, Inv X pins σ H s → RelV y u → RelV z r → st D0 y z H Nx →
    (∀ s' H', Inv X pins σ H' s' → Nx H' → Q () s') → wpAny (model X.prog X.w) X.A (dictSet D0 u r) Q E s
def tDc0 (o0 : Addr → HO) (st : Addr → V → V → Hp → (Hp → Prop) → Prop) (wi : TI) (g : TG) (tt : TT) (tk tv : TE) (vs : List Nat) : TE := fun σ H Q => wi σ H fun J H1 => ∀ D0, (D0 == sysModules) = false → H1 D0 = none →
  ∃ Wf : Nat → Nat → Hp → Prop, (∃ m, Wf 0 m (upd H1 D0 (o0 D0))) ∧ ∀ i m H', Wf i m H' → (J.stop i H' ∧ Q (.ref D0) H') ∨
    (J.go i H' ∧ ∃ Nx : Hp → Prop, (∀ H2, Nx H2 → ∃ m', m' < m ∧ Wf (i + 1) m' H2) ∧ ∀ x H2, J.yld i H' x H2 → g x (wipe σ vs) H2 fun σ3 H3 => wipe σ3 vs = wipe σ vs ∧ tt σ3 H3 fun b H4 => if b = true then tk σ3 H4 fun y H5 => tv σ3 H5 fun z H6 => st D0 y z H6 Nx else Nx H4)
section
variable {X : Cx}
/-- the contexts of a comprehension's block -/
abbrev bX (X : Cx) (sc : Scope) (s : Shared) (H : Hp) (C : Addr) (cl : List (Str × Addr)) (fp : List Addr) : Cx := X.blk s H sc (compEnvC sc cl C X.env) fp
theorem pe_dc0 {o0 : Addr → HO} {st : Addr → V → V → Hp → (Hp → Prop) → Prop} {kx vx tg it0 : Expr} {ifs : List Expr} {sc : Scope} {own : List (Str × Nat)} {pos : Pos} {wi : TI} {g : TG} {tt : TT} {tk tv : TE} (hc : X.calm = true) (hN : X.N.Nodup) (hi : PI X tg it0 wi) (ok : BlkOk X.N X.env.scope sc own)
    (hd : DSt X o0 st) (hu : ∀ s H C cl fp, DSt (bX X sc s H C cl fp) o0 st) (hg : ∀ s H C cl fp, PG (bX X sc s H C cl fp) tg g) (ht : ∀ s H C cl fp, PTs (bX X sc s H C cl fp) ifs tt) (hk : ∀ s H C cl fp, PE (bX X sc s H C cl fp) kx tk) (hv : ∀ s H C cl fp, PE (bX X sc s H C cl fp) vx tv)
    (hs : ∀ x, foldedSetIterable it0 X.env x = pure x := by intro _; rfl) : PE X (.DictComp kx vx [⟨tg, it0, ifs, 0⟩] sc pos) (tDc0 o0 st wi g tt tk tv (own.map (·.2))) := by
  refine ⟨fun pins s σ H Q I h => ?_⟩
  rw [arm_eval_DictComp]
  have frees : ∀ y ∈ sc.names, y.2 = .free → ∃ c, X.env.cells.lookup y.1 = some c := fun y hy e => by
    rcases ok.free y hy e with q | q
    · exact I.ok.has _ (.inl q)
    · exact I.ok.has _ (.inr q)
  refine wpAny_comprehension_free (use := none) rfl hs (closure_ok frees) ok.kind (fun y hy e => by rw [ok.uniq y hy, e]) ?_
  refine thn (hi.run pins s σ H _ I h) fun xv t1 walk => thn walk fun itv t2 got => ?_
  obtain ⟨itr, fp, tn, J, Hi, eit, Ii, T, tn0, fpo, nxt⟩ := got
  subst eit
  refine wpAny_newObj_type (newEnv_comp ?_)
  -- the new dict, empty
  obtain ⟨D0, hD0⟩ : ∃ D0, t2.heap.objs.size = D0 := ⟨_, rfl⟩
  rw [hD0]
  have lo : (D0 == sysModules) = false := beq_false_of_ne fun z => by
    have hb := Ii.big
    rw [hD0, z] at hb
    exact Nat.lt_irrefl _ hb
  have free0 : Hi D0 = none := Ii.hok.fresh (Nat.le_of_eq hD0)
  obtain ⟨Wf, ⟨m0, w0⟩, turn⟩ := nxt D0 lo free0
  obtain ⟨t3, ht3⟩ : ∃ t3 : Shared, t3 = { t2 with heap := t2.heap.push { cls := .type "dict", data := .dict #[] } } := ⟨_, rfl⟩
  rw [← ht3]
  have hp3 : t3.heap = t2.heap.push { cls := .type "dict", data := .dict #[] } := by rw [ht3]
  obtain ⟨Hd, hHd⟩ : ∃ Hd, Hd = upd Hi D0 (o0 D0) := ⟨_, rfl⟩
  rw [← hHd] at w0
  have Id : Inv X pins σ Hd t3 := by
    rw [ht3, hHd]
    refine Ii.laid (t' := t2.toks) (fun b o e => Heap.get?_push_of_some _ e) (Nat.le_of_eq hD0) ?_
    rw [← hD0]
    exact hd.empty _ t2.heap Ii.big
  have small : ∀ b ∈ fp, b < t2.heap.objs.size := fun b hb => let ⟨o, e, _⟩ := T.obj _ _ tn0 b hb; Heap.lt_size e
  have fpd : ∀ b ∈ fp, FpOk X pins Hd b ∧ b < t3.heap.objs.size := fun b hb => by
    have hlt := small b hb
    have ne : b ≠ D0 := by rw [← hD0]; exact Nat.ne_of_lt hlt
    refine ⟨⟨by rw [hHd, upd_ne ne]; exact (fpo b hb).1, (fpo b hb).2⟩, ?_⟩
    rw [hp3, Heap.size_push]; exact Nat.lt_succ_of_lt hlt
  have tn3 : tn 0 t3.heap := T.keep _ _ _ tn0 fun b _ o e => by rw [hp3]; exact Heap.get?_push_of_some _ e
  have Ib := block_start Id ok hN fpd
  have none_fp : ∀ b ∈ fp, Hd b = none := fun b hb => (fpd b hb).1.1
  obtain ⟨C, hC⟩ : ∃ C, t3.heap.objs.size = C := ⟨_, rfl⟩
  obtain ⟨cl, hcl⟩ : ∃ cl, cellsFrom (t3.heap.objs.size + 1) sc.names (cloFrom X.env.cells sc.names []) = cl := ⟨_, rfl⟩
  rw [hcl, hC] at Ib
  have Y := bX X sc t3 Hd C cl fp
  have pg := hg t3 Hd C cl fp
  have pt := ht t3 Hd C cl fp
  have pk := hk t3 Hd C cl fp
  have pv := hv t3 Hd C cl fp
  have yu := hu t3 Hd C cl fp
  show codeAny _ _ (.compStart (.DictComp kx vx [⟨tg, it0, ifs, 0⟩] sc pos) 0 (.ref itr) (.ref D0) (compEnvC sc (cellsFrom (t3.heap.objs.size + 1) sc.names (cloFrom X.env.cells sc.names [])) t3.heap.objs.size X.env)) (compPost (model X.prog X.w) X.A X.xe none (EP X pins σ Q) (.ref D0) t3.heap.objs.size) _
  rw [hcl, hC]
  obtain ⟨t4, ht4⟩ : ∃ t4 : Shared, t4 = { t3 with heap := pushCells (t3.heap.push { cls := .type "dict", data := .dict #[] }) sc.names } := ⟨_, rfl⟩
  rw [← ht4] at Ib ⊢
  have tn4 : tn 0 t4.heap := T.keep _ _ _ tn3 fun b _ o e => by rw [ht4]; exact pushCells_keeps _ _ _ _ (Heap.get?_push_of_some _ e)
  have still : ∀ {σ' : L2.St} {H' : Hp} {s' : Shared}, Inv (bX X sc t3 Hd C cl fp) [] σ' H' s' → (∀ b ∈ fp, H' b = none) → ∀ b ∈ fp, FpOk (bX X sc t3 Hd C cl fp) [] H' b := fun {σ' H' s'} I' hn b hb =>
    ⟨hn b hb, (I'.ok.exf b hb).1, I'.ok.exfs b hb, .inl hb, fun x c e => (I'.ok.exf b hb).2 x c e, fun p hp => absurd (show p ∈ ([] : List (Addr × Obj)) ++ [] from hp) (by simp)⟩
  have loop : codeAny (model X.prog X.w) X.A (.compLoop (.DictComp kx vx [⟨tg, it0, ifs, 0⟩] sc pos) 0 (.ref itr) (.ref D0) (compEnvC sc cl C X.env)) (compPost (model X.prog X.w) X.A X.xe none (EP X pins σ Q) (.ref D0) C) t4 := by
    refine compLoop_anyD (fun n s' => ∃ i H', Inv (bX X sc t3 Hd C cl fp) [] (wipe σ (own.map (·.2))) H' s' ∧ tn i s'.heap ∧ (∀ b ∈ fp, H' b = none) ∧ Wf i n H') ?_ m0 ⟨0, Hd, Ib, tn4, none_fp, w0⟩
    rintro n t5 ⟨i, H5, I5, tn5, n5, w5⟩
    rcases turn i n H5 w5 with ⟨stop, ends⟩ | ⟨go, Nx, hNx, step⟩
    · refine thnF (T.done (bX X sc t3 Hd C cl fp) rfl rfl rfl hc i [] t5 _ H5 (fun _ _ => False) I5 (still I5 n5) tn5 stop) fun r t6 ⟨er, I6⟩ => ?_
      subst er
      have I7 : Inv X pins σ H5 t6 := Id.call' (ch := fp) I6.os I6.base I6.hok I6.bare fun b hb => ⟨(fpd b hb).1.2.2.2.1, (fpd b hb).1.2.1, (fpd b hb).1.2.2.2.2.1, (fpd b hb).1.2.2.2.2.2⟩
      have nC : H5 C = none := I6.free
      obtain ⟨m, hm, _⟩ := I6.loc
      obtain ⟨f0, f1, f2, f3, f4, f5⟩ := Id.fpOk (Nat.le_of_eq hC) nC
      exact ⟨m, hm, fun hz sb => ⟨.ref D0, H5, I7.turned (t' := t6.toks) (fun b o hb e => (sb.2 b hb).trans e) f0 f1 f3 f4 f5, rfl, ends⟩⟩
    · refine thnF (T.item (bX X sc t3 Hd C cl fp) rfl rfl rfl hc i [] t5 _ H5 (fun _ _ => False) I5 (still I5 n5) tn5 go) fun r t6 ⟨u, er, h6⟩ => ?_
      subst er
      refine thnF h6 fun _ t7 ⟨x, H7, I7, r7, y7, tn7, n7⟩ => ?_
      have Ip := I7.pinned (still I7 n7) (T.obj _ _ tn7)
      -- how a turn ends
      have fin : ∀ {s' : Shared} {H' : Hp} {σ8 : L2.St}, wipe σ8 (own.map (·.2)) = wipe σ (own.map (·.2)) → Inv (bX X sc t3 Hd C cl fp) ([] ++ pinsAt fp t7.heap) σ8 H' s' → Nx H' → ∃ m, m < n ∧ ∃ i H', Inv (bX X sc t3 Hd C cl fp) [] (wipe σ (own.map (·.2))) H' s' ∧ tn i s'.heap ∧ (∀ b ∈ fp, H' b = none) ∧ Wf i m H' := fun {s' H' σ8} hw I' nx => by
        obtain ⟨m', hm, w'⟩ := hNx H' nx
        have pin' : ∀ b ∈ fp, ∀ o, t7.heap.get? b = some o → s'.heap.get? b = some o ∧ H' b = none := fun b hb o e => by
          have z := I'.pin (b, o) (List.mem_append_right _ (List.mem_append_right _ (mem_pinsAt hb e)))
          exact ⟨z.1, z.2.1⟩
        have hl : (wipe σ (own.map (·.2))).length = σ8.length := by rw [← hw, wipe_length]
        refine ⟨m', hm, i + 1, H', I'.unpinned (pins := []) |>.weak hl fun j v e => ?_, T.keep _ _ _ tn7 fun b hb o e => (pin' b hb o e).1, fun b hb => ?_, w'⟩
        · rw [← hw] at e
          exact (wipe_some e).1
        · obtain ⟨o, e, _⟩ := T.obj _ _ tn7 b hb
          exact (pin' b hb o e).2
      refine thnF (pg.run _ t7 _ H7 x u _ Ip r7 (step x H7 y7)) fun _ t8 ⟨σ8, H8, I8, hw8, q8⟩ => ?_
      refine thnF (pt.run _ t8 σ8 H8 _ I8 q8) fun b t9 ⟨H9, I9, q9⟩ => ?_
      cases b with
      | false => exact fin hw8 I9 q9
      | true =>
        refine thnF (pk.run _ t9 σ8 H9 _ I9 q9) fun zk t10 ⟨yk, H10, I10, r10, q10⟩ => ?_
        refine thnF (pv.run _ t10 σ8 H10 _ I10 q10) fun zv t11 ⟨yv, H11, I11, r11, q11⟩ => ?_
        exact yu.store I11 r10 r11 q11 fun t12 H12 I12 nx => fin hw8 I12 nx
  exact codeAny_compStart_dict loop (T.self X.A 0 _ _ _ tn4 loop)
end
/-! ### over data -/
/-- a kind of dict, over data: κ what it holds -/
structure DKd (G : Gt) (κ : Type) where
  o0 : Addr → HO
  st : Addr → V → V → Hp → (Hp → Prop) → Prop
  nil : κ
  size : κ → Nat
  dat : κ → D
  put : κ → D → D → Option κ
  At : Hp → Addr → κ → HO → Prop
  start : ∀ (I : Hp) (D0 : Addr), At I D0 nil (o0 D0)
  mono : ∀ {I I' : Hp} {D0 : Addr} {acc : κ} {o : HO}, At I D0 acc o → Ex I I' → At I' D0 acc o
  turn : ∀ {I H : Hp} {D0 : Addr} {acc acc' : κ} {o : HO} {y z : V} {dk dv : D} {Nx : Hp → Prop}, (D0 == sysModules) = false → Ex I H → H D0 = some o → At I D0 acc o → Rep G I y dk → Rep G I z dv → put acc dk dv = some acc' → (∀ o', At I D0 acc' o' → Nx (upd H D0 o')) → st D0 y z H Nx
  fin : ∀ {I : Hp} {D0 : Addr} {acc : κ} {o : HO}, (D0 == sysModules) = false → At I D0 acc o → Ex I (upd I D0 o) → Rep G (upd I D0 o) (.ref D0) (dat acc)
def dcGo {κ : Type} (put : κ → D → D → Option κ) (g : GF) (tf : TF) (fk fv : EF) (ρw : Env) : List D → κ → Row → Option (κ × Row)
  | [], acc, s => some (acc, s)
  | x :: xs, acc, s => (g x ρw).bind fun ρ1 =>
    match tf ρ1 s with
    | some (.ok true, s1) => (match fk ρ1 s1 with
      | some (.ok k, s2) => (match fv ρ1 s2 with
        | some (.ok v, s3) => (put acc k v).bind fun acc' => dcGo put g tf fk fv ρw xs acc' s3
        | _ => none)
      | _ => none)
    | some (.ok false, s1) => dcGo put g tf fk fv ρw xs acc s1
    | _ => none
def e_dc {κ : Type} (nil : κ) (put : κ → D → D → Option κ) (mk : κ → D) (vs : List Nat) (fi : AF) (g : GF) (tf : TF) (fk fv : EF) : EF := fun ρ s => bA (fi ρ s) .er fun xs s1 =>
  match dcGo put g tf fk fv (wipeE ρ vs) xs nil s1 with
  | some p => some (.ok (mk p.1), p.2)
  | none => none
theorem dcGo_cons {κ : Type} {put : κ → D → D → Option κ} {g : GF} {tf : TF} {fk fv : EF} {ρw : Env} {x : D} {xs : List D} {acc : κ} {s : Row} {r : κ × Row} (h : dcGo put g tf fk fv ρw (x :: xs) acc s = some r) :
    ∃ ρ1, g x ρw = some ρ1 ∧ ((∃ s1 k s2 v s3 acc', tf ρ1 s = some (.ok true, s1) ∧ fk ρ1 s1 = some (.ok k, s2) ∧ fv ρ1 s2 = some (.ok v, s3) ∧ put acc k v = some acc' ∧ dcGo put g tf fk fv ρw xs acc' s3 = some r) ∨ ∃ s1, tf ρ1 s = some (.ok false, s1) ∧ dcGo put g tf fk fv ρw xs acc s1 = some r) := by
  rw [dcGo] at h
  cases q : g x ρw with
  | none => rw [q] at h; cases h
  | some ρ1 =>
    rw [q, Option.bind_some] at h
    refine ⟨ρ1, rfl, ?_⟩
    split at h
    · rename_i s1 e1
      split at h
      · rename_i k s2 e2
        split at h
        · rename_i v s3 e3
          cases q2 : put acc k v with
          | none => rw [q2] at h; cases h
          | some acc' =>
            rw [q2] at h
            exact .inl ⟨s1, k, s2, v, s3, acc', e1, e2, e3, q2, h⟩
        · cases h
      · cases h
    · rename_i s1 e1
      exact .inr ⟨s1, e1, h⟩
    · cases h
variable {G : Gt} {R : Option Addr}
/-- the state within: the new dict stands at D0 -/
structure DcOk {κ : Type} (M : DKd G κ) (R : Option Addr) (I1 H1 : Hp) (D0 : Addr) (acc : κ) (I H : Hp) : Prop where
  st : Step R I1 H1 I H
  nD : I D0 = none
  at_ : ∃ o, H D0 = some o ∧ M.At I D0 acc o
theorem RowOk.but {I H : Hp} {D0 : Addr} {o : HO} {s : Row} (ro : RowOk G R s I H) (hR : R ≠ some D0) : RowOk G R s I (upd H D0 o) := by
  cases R with
  | none => trivial
  | some r =>
    obtain ⟨b1, b2, b3, b4⟩ := ro
    exact ⟨b1, b2, by rw [upd_ne fun z => hR (by rw [z])]; exact b3, b4⟩
theorem Step.but {I1 H1 I H : Hp} {D0 : Addr} {o : HO} (st : Step R I1 H1 I H) (h0 : H1 D0 = none) (nD : I D0 = none) : Step R I1 H1 I (upd H D0 o) := by
  refine ⟨st.ii, fun a u q => ?_, fun a u q n => ?_, fun a q => ?_, st.nw⟩
  · rw [upd_ne fun z => by subst z; rw [nD] at q; cases q]; exact st.ih a u q
  · rw [upd_ne fun z => by subst z; rw [h0] at q; cases q]; exact st.fr a u q n
  · by_cases hz : a = D0
    · subst hz; rw [upd_same]; simp
    · rw [upd_ne hz]; exact st.tr a q
theorem dc_turn {κ : Type} {M : DKd G κ} {g : TG} {gf : GF} {js vs : List Nat} {tt : TT} {tf : TF} {tk tv : TE} {fk fv : EF} (hg : RG G g gf js) (hj : ∀ j ∈ js, j ∈ vs) (ht : RT G R (fun _ _ _ _ => False) tt tf) (hk : RE G R (fun _ _ _ _ => False) tk fk) (hv : RE G R (fun _ _ _ _ => False) tv fv)
    {I1 H1 I H I' H' : Hp} {D0 : Addr} {acc : κ} {σ : L2.St} {ρ : Env} {x : D} {xs : List D} {v : V} {s s0 : Row} {rf : κ × Row} {Nx : Hp → Prop}
    (lo : (D0 == sysModules) = false) (h0 : H1 D0 = none) (ro1 : RowOk G R s0 I1 H1) (sl : Slots G R I H σ ρ) (k : DcOk M R I1 H1 D0 acc I H) (ro : RowOk G R s I H) (hgo : dcGo M.put gf tf fk fv (wipeE ρ vs) (x :: xs) acc s = some rf)
    (st : Step none I H I' H') (rv : Rep G I' v x)
    (hNx : ∀ (I3 H3 : Hp) (acc' : κ) (s3 : Row), Ex I I3 → DcOk M R I1 H1 D0 acc' I3 H3 → RowOk G R s3 I3 H3 → dcGo M.put gf tf fk fv (wipeE ρ vs) xs acc' s3 = some rf → Nx H3) :
    g v (wipe σ vs) H' fun σ2 H2 => wipe σ2 vs = wipe σ vs ∧ tt σ2 H2 fun b H3 => if b = true then tk σ2 H3 fun y H4 => tv σ2 H4 fun z H5 => M.st D0 y z H5 Nx else Nx H3 := by
  obtain ⟨ρ1, hg1, h1⟩ := dcGo_cons hgo
  have hR := LcOk.ne (I := I) (H := H) ro1 h0
  have ro' := ro.step0 st
  have st' := st.row (R := R)
  obtain ⟨o, a1, a2⟩ := k.at_
  have hne : H D0 ≠ none := by rw [a1]; simp
  have sl' := (sl.step st').wipe vs
  refine hg R I' H' (wipe σ vs) (wipeE ρ vs) ρ1 v x st.ih sl' rv hg1 _ fun σ2 sl2 w2 => ⟨(w2 vs hj).trans ?_, ?_⟩
  · have twice : ∀ us : List Nat, (∀ u ∈ us, u ∈ vs) → wipe (wipe σ us) vs = wipe σ vs := by
      intro us
      induction us with
      | nil => exact fun _ => rfl
      | cons u us ih =>
        intro hu
        show wipe ((wipe σ us).set u none) vs = wipe σ vs
        rw [wipe_set (hu u (by simp)), ih fun z hz => hu z (by simp [hz])]
    exact twice vs fun _ h => h
  · rcases h1 with ⟨s1, kd, s2, vd, s3, acc', e1, e2, e3, e4, e6⟩ | ⟨s1, e1, e3⟩
    · refine ht I' H' σ2 ρ1 s st.ih ro' sl2 _ _ _ e1 fun I2 H2 st2 ro2 => iteT ?_
      refine hk I2 H2 σ2 ρ1 s1 st2.ih ro2 (sl2.step st2) _ _ _ e2 fun u I3 H3 st3 ro3 ru => ?_
      refine hv I3 H3 σ2 ρ1 s2 st3.ih ro3 ((sl2.step st2).step st3) _ _ _ e3 fun z I4 H4 st4 ro4 rz => ?_
      have s14 := ((st'.trans st2).trans st3).trans st4
      have n4 : I4 D0 = none := nw_none s14 k.nD hne
      exact M.turn lo s14.ih (s14.fr _ _ a1 hR) (M.mono a2 s14.ii) (ru.mono st4.ii) rz e4 fun o' at' =>
        hNx I4 _ acc' s3 s14.ii ⟨(k.st.trans s14).but h0 n4, n4, o', upd_same, at'⟩ (ro4.but hR) e6
    · refine ht I' H' σ2 ρ1 s st.ih ro' sl2 _ _ _ e1 fun I2 H2 st2 ro2 => iteF ?_
      have s12 := st'.trans st2
      exact hNx I2 H2 acc s1 s12.ii ⟨k.st.trans s12, nw_none s12 k.nD hne, o, s12.fr _ _ a1 hR, M.mono a2 s12.ii⟩ ro2 e3
theorem re_dc {κ : Type} (M : DKd G κ) {wi : TI} {fi : AF} {g : TG} {gf : GF} {js vs : List Nat} {tt : TT} {tf : TF} {tk tv : TE} {fk fv : EF} {W : WX} (hi : RI G R W wi fi) (hg : RG G g gf js) (hj : ∀ j ∈ js, j ∈ vs)
    (ht : RT G R (fun _ _ _ _ => False) tt tf) (hk : RE G R (fun _ _ _ _ => False) tk fk) (hv : RE G R (fun _ _ _ _ => False) tv fv) : RE G R W (tDc0 M.o0 M.st wi g tt tk tv vs) (e_dc M.nil M.put M.dat vs fi gf tf fk fv) := fun I H σ ρ s e ro sl Q res s' hf hp => by
  rcases bA_cases hf with ⟨x, e1, e2⟩ | ⟨xs, s1, e1, e2⟩
  · subst e2
    exact hi I H σ ρ s e ro sl _ _ _ e1 hp
  · refine hi I H σ ρ s e ro sl _ _ _ e1 fun J I1 H1 st1 ro1 it hz => fun D0 lo hD => ?_
    have sl1 := sl.step st1
    split at e2
    · rename_i p hgo
      cases e2
      have hR := LcOk.ne (I := I1) (H := H1) ro1 hD
      refine ⟨fun i m H' => m = xs.length - i ∧ i ≤ xs.length ∧ ∃ I' s' acc, DcOk M R I1 H1 D0 acc I' H' ∧ RowOk G R s' I' H' ∧ dcGo M.put gf tf fk fv (wipeE ρ vs) (xs.drop i) acc s' = some p, ⟨_, rfl, Nat.zero_le _, ?_⟩, ?_⟩
      · exact ⟨I1, s1, M.nil, ⟨(Step.refl st1.ih).but hD (ex_none st1.ih hD), ex_none st1.ih hD, _, upd_same, M.start _ _⟩, ro1.but hR, hgo⟩
      · rintro i m H' ⟨hm, hi', I', s2, acc, k, ro2, hgo2⟩
        have itk := it i I' H' k.st.ii k.st.ih
        by_cases hlt : i < xs.length
        · right
          obtain ⟨hgo3, hy⟩ := itk.1 _ (List.getElem?_eq_getElem hlt)
          refine ⟨hgo3, fun H3 => ∃ m', m' < m ∧ m' = xs.length - (i + 1) ∧ i + 1 ≤ xs.length ∧ ∃ I' s' acc, DcOk M R I1 H1 D0 acc I' H3 ∧ RowOk G R s' I' H3 ∧ dcGo M.put gf tf fk fv (wipeE ρ vs) (xs.drop (i + 1)) acc s' = some p, fun H3 ⟨m', a1, a2, a3, a4⟩ => ⟨m', a1, a2, a3, a4⟩, fun v H3 hy2 => ?_⟩
          obtain ⟨I3, st3, rv⟩ := hy v H3 hy2
          rw [List.drop_eq_getElem_cons hlt] at hgo2
          exact dc_turn hg hj ht hk hv lo hD ro1 (sl1.step k.st) k ro2 hgo2 st3 rv fun I4 H4 acc' s4 _ k4 ro4 hgo4 => ⟨xs.length - (i + 1), by omega, rfl, by omega, I4, s4, acc', k4, ro4, hgo4⟩
        · left
          have hie : i = xs.length := by omega
          refine ⟨itk.2 (by omega), ?_⟩
          rw [hie, List.drop_length] at hgo2
          cases hgo2
          obtain ⟨o, a1, a2⟩ := k.at_
          have st5 : Step R I1 H1 (upd I' D0 o) H' := by
            refine ⟨k.st.ii.trans (Ex.new k.nD), fun a u q => ?_, k.st.fr, k.st.tr, fun a q => ?_⟩
            · by_cases hz : a = D0
              · subst hz; rw [upd_same] at q; cases q; exact a1
              · rw [upd_ne hz] at q; exact k.st.ih a u q
            · by_cases hz : a = D0
              · subst hz; exact .inr hD
              · rw [upd_ne hz] at q; exact k.st.nw a q
          have ro5 : RowOk G R s2 (upd I' D0 o) H' := by
            cases R with
            | none => trivial
            | some r =>
              obtain ⟨b1, b2, b3, b4⟩ := ro2
              have hS : s2.sa ≠ D0 := fun z => by rw [z, k.nD] at b4; cases b4
              exact ⟨by rw [upd_ne fun z => hR (by rw [z])]; exact b1, b2, b3, by rw [upd_ne hS]; exact b4⟩
          exact hp _ _ H' (st1.trans st5) ro5 (M.fin lo a2 (Ex.new k.nD))
    · cases e2
section
variable {ι : Type} {X : ι → Cx} {P : Program} {w : World} {mg : Str → Option Value} {base : Heap} {k : Nat} {N : List Str} {W : WX} {tg iter kx vx : Expr} {fi : AF} {gf : GF} {tf : TF} {fk fv : EF} {js : List Nat} {pos : Pos}
def PDD {κ : Type} (M : DKd G κ) (X : ι → Cx) (R : Option Addr) (W : WX) (kx vx tg iter : Expr) (ifs : List Expr) (scope : Scope) (vs : List Nat) (F : EF) : Prop :=
  ∃ wi g tt tk tv, (∀ i, PI (X i) tg iter wi) ∧ (∀ i s H C cl fp, PG (bX (X i) scope s H C cl fp) tg g) ∧ (∀ i s H C cl fp, PTs (bX (X i) scope s H C cl fp) ifs tt) ∧ (∀ i s H C cl fp, PE (bX (X i) scope s H C cl fp) kx tk) ∧ (∀ i s H C cl fp, PE (bX (X i) scope s H C cl fp) vx tv) ∧ RE G R W (tDc0 M.o0 M.st wi g tt tk tv vs) F
theorem pdd_mk {κ : Type} (M : DKd G κ) {ifs : List Expr} {scope : Scope} {vs : List Nat} (hi : PDI X G R W tg iter fi) (hg : PDG (blkF X scope) G tg gf js) (ht : PDTs (blkF X scope) G R W0 ifs tf) (hk : PDE (blkF X scope) G R W0 kx fk) (hv : PDE (blkF X scope) G R W0 vx fv) (hj : ∀ j ∈ js, j ∈ vs) : PDD M X R W kx vx tg iter ifs scope vs (e_dc M.nil M.put M.dat vs fi gf tf fk fv) :=
  let ⟨wi, p1, r1⟩ := hi; let ⟨g, p2, r2⟩ := hg; let ⟨tt, p3, r3⟩ := ht; let ⟨tk, p4, r4⟩ := hk; let ⟨tv, p5, r5⟩ := hv
  ⟨wi, g, tt, tk, tv, p1, fun i s H C cl fp => p2 (i, s, H, C, cl, fp), fun i s H C cl fp => p3 (i, s, H, C, cl, fp), fun i s H C cl fp => p4 (i, s, H, C, cl, fp), fun i s H C cl fp => p5 (i, s, H, C, cl, fp), re_dc M r1 r2 hj r3 r4 r5⟩
/-- the kind's stores hold in contexts with room -/
abbrev DKok {κ : Type} (M : DKd G κ) : Prop := ∀ X : Cx, X.K = G.K → X.w = G.w → X.A.units + 64 < cLine → DSt X M.o0 M.st
theorem pd_dc {κ : Type} (M : DKd G κ) (hM : DKok M) (fo : Fo X G P w mg base k N W) {ifs : List Expr} {scope : Scope} {own : List (Str × Nat)} {F : EF} (hc : ∀ i, (X i).calm = true) (ok : ∀ i, BlkOk N (X i).env.scope scope own) (h : PDD M X R W kx vx tg iter ifs scope (own.map (·.2)) F)
    (hs : ∀ i x, foldedSetIterable iter (X i).env x = pure x) : PDE X G R W (.DictComp kx vx [⟨tg, iter, ifs, 0⟩] scope pos) F :=
  let ⟨wi, g, tt, tk, tv, p1, p2, p3, p4, p5, r⟩ := h
  ⟨_, fun i => pe_dc0 (hc i) (by rw [fo.hN i]; exact fo.nd) (p1 i) (by rw [fo.hN i]; exact ok i) (hM _ (fo.hK i) (fo.wG i) (fo.room i).units)
    (fun s H C cl fp => hM _ ((fo.blk scope).hK (i, s, H, C, cl, fp)) ((fo.blk scope).wG (i, s, H, C, cl, fp)) ((fo.blk scope).room (i, s, H, C, cl, fp)).units) (p2 i) (p3 i) (p4 i) (p5 i) (hs i), r⟩
end
/-! ### keys that are tuples -/
def putN (acc : List (D × D)) (k v : D) : Option (List (D × D)) := if nkOk k = true ∧ acc.length < sizeLine then some (storeD acc k v) else none
def stN (w : World) (K : PySem.W.Frag) (D0 : Addr) (y z : V) (H : Hp) (Nx : Hp → Prop) : Prop := ∃ b k xs, y = .ref b ∧ NDict w K H D0 xs ∧ KeyAt K H b k ∧ xs.length < sizeLine ∧ ∀ u, RelV z u → Nx (upd H D0 (rawO D0 ((storedH xs k b u).map (entN w))))
def dkN (G : Gt) : DKd G (List (D × D)) where
  o0 := fun p => rawO p []
  st := stN G.w G.K
  nil := []
  size := List.length
  dat := .dcn
  put := putN
  At := fun I D0 acc o => ∃ xs, o = rawO D0 (xs.map (entN G.w)) ∧ RepN G I xs acc ∧ (xs.map (·.1)).Nodup ∧ xs.length ≤ sizeLine
  start := fun I D0 => ⟨[], rfl, .nil, by simp, Nat.zero_le _⟩
  mono := fun h e => by obtain ⟨xs, a, b, c, d⟩ := h; exact ⟨xs, a, b.mono e, c, d⟩
  turn := fun {I H D0 acc acc' o y z dk dv Nx} lo e hD ⟨xs, a, b, c, d⟩ ry rz hp q => by
    subst a
    unfold putN at hp
    split at hp
    · rename_i h
      cases hp
      obtain ⟨bb, kk, rfl, t1, t2, t3, t4⟩ := nkOk_key e ry h.1
      have hl : xs.length < sizeLine := by rw [b.length]; exact h.2
      refine ⟨bb, kk, xs, rfl, ⟨lo, hD, (b.mono e).keyAt, c, d⟩, t4, hl, fun uu hu => q _ ⟨_, rfl, b.stored t1 t2 t3 ry hu rz, storedH_nodup c, ?_⟩⟩
      have := storedH_len xs kk bb uu
      omega
    · cases hp
  fin := fun lo ⟨xs, a, b, c, d⟩ e => by subst a; exact .dN lo upd_same (b.mono e) c d
theorem dkN_ok (G : Gt) : DKok (dkN G) := fun X hK hw hu => {
  empty := fun H h _ => raw_obj (w := X.w) (xs := []) X.prog (Heap.DictOfH.new h)
  store := fun {pins σ H s E D0 y z u r Nx Q} I ry rz h hq => by
    obtain ⟨b, k, xs, rfl, hd, hk, hl, q⟩ := h
    rw [← hK, ← hw] at hd
    rw [← hK] at hk
    rw [← hw] at q
    cases ry
    have rm : (PySem.nestedKind X.prog X.w).room X.A := by show X.A.units + 8 < cLine; omega
    refine wpAny_dictSet_heap (hsz := hd.le) rm (hk.is_ I) (hd.of I) fun g gd hs => ?_
    have mu : Mut (H D0) := by rw [hd.at_]; exact True.intro
    obtain ⟨o, es, ep, h1, _⟩ := id gd
    exact hq _ _ (d_write (t' := s.toks + (PySem.nestedKind X.prog X.w).draws k) I mu hs ⟨o, h1⟩ (raw_obj X.prog gd)) (q r rz) }
/-! ### keys that are numbers, texts -/
def keyO : D → Option Key
  | .int i => some (.inl i)
  | .str x => some (.inr x)
  | _ => none
def storeK (ds : List (D × D)) (k v : D) : List (D × D) := if ds.any (fun p => decide (keyO p.1 = keyO k)) = true then ds.map fun p => if keyO p.1 = keyO k then (p.1, v) else p else ds ++ [(k, v)]
def putKD (acc : List (D × D)) (k v : D) : Option (List (D × D)) := if (keyO k).isSome = true ∧ acc.length < sizeLine then some (storeK acc k v) else none
theorem keyO_D (k : Key) : keyO (keyD k) = some k := by cases k <;> rfl
theorem RepK.length {H : Hp} : ∀ {xs : List (Key × V)} {ds : List (D × D)}, RepK G H xs ds → xs.length = ds.length
  | _, _, .nil => rfl
  | _, _, .cons _ t => by rw [List.length_cons, List.length_cons, t.length]
theorem RepK.any {H : Hp} (k : Key) : ∀ {xs : List (Key × V)} {ds : List (D × D)}, RepK G H xs ds → (xs.any fun kv => decide (kv.1 = k)) = ds.any fun p => decide (keyO p.1 = some k)
  | _, _, .nil => rfl
  | _, _, .cons (k := j) _ t => by
    rw [List.any_cons, List.any_cons, keyO_D, RepK.any k t]
    by_cases h : j = k
    · simp [h]
    · have h2 : ¬ (some j = some k) := fun z => h (Option.some.inj z)
      simp [h]
theorem RepK.repl {H : Hp} {k : Key} {v : V} {dv : D} (r : Rep G H v dv) : ∀ {xs : List (Key × V)} {ds : List (D × D)}, RepK G H xs ds → RepK G H (xs.map fun kv => if kv.1 = k then (kv.1, v) else kv) (ds.map fun p => if keyO p.1 = some k then (p.1, dv) else p)
  | _, _, .nil => .nil
  | _, _, .cons (k := j) q t => by
    rw [List.map_cons, List.map_cons, keyO_D]
    by_cases h : j = k
    · rw [if_pos h, if_pos (by rw [h])]; exact .cons r (t.repl r)
    · rw [if_neg h, if_neg (fun z => h (Option.some.inj z))]; exact .cons q (t.repl r)
theorem RepK.snoc {H : Hp} {k : Key} {v : V} {dv : D} (r : Rep G H v dv) : ∀ {xs : List (Key × V)} {ds : List (D × D)}, RepK G H xs ds → RepK G H (xs ++ [(k, v)]) (ds ++ [(keyD k, dv)])
  | _, _, .nil => .cons r .nil
  | _, _, .cons q t => .cons q (t.snoc r)
theorem keyO_rep {I : Hp} {y : V} {dk : D} (r : Rep G I y dk) {k : Key} (h : keyO dk = some k) : y = kV k ∧ dk = keyD k := by
  cases r <;> simp [keyO] at h <;> subst h <;> exact ⟨rfl, rfl⟩
theorem RepK.put {H : Hp} {k : Key} {v : V} {dv : D} (r : Rep G H v dv) {xs : List (Key × V)} {ds : List (D × D)} (t : RepK G H xs ds) : RepK G H (putK xs k v) (storeK ds (keyD k) dv) := by
  unfold putK storeK
  rw [keyO_D, t.any k]
  split
  · exact t.repl r
  · exact t.snoc r
def stK (D0 : Addr) (y z : V) (H : Hp) (Nx : Hp → Prop) : Prop := ∃ kvs k, y = kV k ∧ H D0 = some (.dK kvs) ∧ kvs.length < sizeLine ∧ Nx (upd H D0 (.dK (putK kvs k z)))
def dkK (G : Gt) : DKd G (List (D × D)) where
  o0 := fun p => .dK []
  st := stK
  nil := []
  size := List.length
  dat := .dct
  put := putKD
  At := fun I D0 acc o => ∃ xs, o = .dK xs ∧ RepK G I xs acc ∧ xs.length ≤ sizeLine
  start := fun I D0 => ⟨[], rfl, .nil, Nat.zero_le _⟩
  mono := fun ⟨xs, a, b, c⟩ e => ⟨xs, a, b.mono e, c⟩
  turn := fun {I H D0 acc acc' o y z dk dv Nx} lo e hD ⟨xs, a, b, c⟩ ry rz hp q => by
    subst a
    unfold putKD at hp
    split at hp
    · rename_i h
      cases hp
      obtain ⟨k, hk⟩ := Option.isSome_iff_exists.mp h.1
      obtain ⟨rfl, rfl⟩ := keyO_rep ry hk
      have hl : xs.length < sizeLine := by rw [b.length]; exact h.2
      refine ⟨xs, k, rfl, hD, hl, q _ ⟨_, rfl, b.put rz, ?_⟩⟩
      have := length_putK xs k z
      omega
    · cases hp
  fin := fun lo ⟨xs, a, b, c⟩ e => by subst a; exact .dK upd_same (b.mono e) c
theorem dkK_ok (G : Gt) : DKok (dkK G) := fun X hK hw hu => {
  empty := fun H h hb => dk_empty h hb
  store := fun {pins σ H s E D0 y z u r Nx Q} I ry rz h hq => by
    obtain ⟨kvs, k, rfl, hd, hl, q⟩ := h
    exact d_dictSet I hd hl ry rz fun s' I' => hq s' _ I' q }
end PL
set_option Elab.async false
set_option linter.all false
set_option maxRecDepth 100000
set_option maxHeartbeats 4000000
/-! sorted of a tuple, of a dict of truth values; a def that calls itself. -/
namespace PL
open PySem PySem.Spec PyProof.Rows L2
open Evl (Ex)
section
variable {X : Cx} {pins : List (Addr × Obj)} {σ : L2.St} {H : Hp} {s : Shared}
/-- data that can be keys, in a row -/
structure SrtD (K : PySem.W.Frag) (H : Hp) (xs : List V) (kd : List D) : Prop where
  le : xs.length ≤ sizeLine
  dp : DpAll K H xs (pys kd)
  nk : ∀ d ∈ kd, (nkD d).isSome = true
  al : PySem.W.AllAlike (pys kd)
  so : ∀ d ∈ pys kd, d ≠ .none
  de : ∀ d ∈ pys kd, d.depth ≤ 60
/-- sorted(x) by what is collected off x -/
theorem sorted_of {a : Addr} {xs : List V} {kd : List D} {Q : VK} (I : Inv X pins σ H s) (hu : X.A.units + 64 < cLine)
    (col : ∀ R : List Value → Shared → Prop, (∀ g tk us, (∀ b o, s.heap.get? b = some o → g.get? b = some o) → Vals xs us → R us { s with heap := g, toks := tk }) → wpAny (model X.prog X.w) X.A.in1 (collect (.ref a)) R X.xe s)
    (sd : SrtD X.K H xs kd) (q : ∀ p, H p = none → Q (.ref p) (upd H p (.lst (sortV xs (pys kd))))) : wpAny (model X.prog X.w) X.A (call (.builtin "sorted") [.ref a]) (EP X pins σ Q) X.xe s := by
  have hlen : xs.length = (pys kd).length := dpAll_len sd.dp
  have em : (xs.zip (pys kd)).map (fun b => b.2) = pys kd := List.map_snd_zip (by omega)
  suffices body : wpAny (model X.prog X.w) X.A.in1 (Builtin.«sorted» ⟨[.ref a], []⟩) (fun r s' => ∃ v, r = .done (.ret v) ∧ EP X pins σ Q v s') X.xe s from
    Calls.call_function_entry kind_sorted plain_sorted entry_sorted (args_sorted1 _) body
  unfold Builtin.«sorted»
  refine wpAny_bind (m := checkCount "sorted" 1 1 _) (wpAny_pure ?_)
  refine wpAny_bind (col _ fun g tk us kp rv => ?_)
  have I1 : Inv X pins σ H { s with heap := g, toks := tk } := I.kept kp
  have hsz : us.length = xs.length := rv.length.symm
  refine wpAny_bind (wpAny_newList ?_ (by rw [hsz]; exact sd.le))
  obtain ⟨g2, hg2⟩ : ∃ g2, g.push (seqObj "list" us.toArray 0) = g2 := ⟨_, rfl⟩
  have hat : g2.get? g.objs.size = some (seqObj "list" us.toArray 0) := by rw [← hg2]; exact Heap.get?_push_size _ rfl
  have k2 : ∀ b o, g.get? b = some o → g2.get? b = some o := fun b o e => by rw [← hg2]; exact Heap.get?_push_of_some _ e
  show wpAny _ _ _ _ _ { s with heap := g.push (seqObj "list" us.toArray 0), toks := tk }
  rw [hg2]
  refine wpAny_bind (wpAny_holding (list_sort_data2 (s := { s with heap := g2, toks := tk }) (enc := fun b : V × PyData => b.2) hat (each_rel rv hlen)
    (each_rd0 I1 k2 _ rv sd.dp sd.nk) (by rw [em]; exact sd.al) (by rw [em]; exact sd.so) (by have := sd.le; simp; omega) (fun b hb => ?_) fun out o1 o2 => ?_))
  · have h1 := sd.de b.2 (by rw [← em]; exact List.mem_map.mpr ⟨b, hb, rfl⟩)
    have h2 : X.A.in1.units = X.A.units + 1 := rfl
    show X.A.in1.units + 1 + b.2.depth < cLine
    omega
  · obtain ⟨e', he'⟩ := sortedHeap_at (vs := us) (out := out.toArray) hat
    have hv : Vals (sortV xs (pys kd)) out := each_back (h := 0) o2
    have hln : (sortV xs (pys kd)).length ≤ sizeLine := by rw [hv.length, o1]; have := sd.le; simp; omega
    refine wpAny_pure ⟨_, rfl, .ref g.objs.size, upd H g.objs.size (.lst (sortV xs (pys kd))), I1.laid (t' := tk) (fun b u e => ?_) (Nat.le_refl _) ⟨hln, out, e', hv, he'⟩, rfl, q _ (I1.hok.fresh (Nat.le_refl _))⟩
    have hb : b < g.objs.size := Heap.lt_size e
    exact (sortedHeap_old (Nat.ne_of_lt hb) (by rw [← hg2, size_push']; exact Nat.lt_succ_of_lt hb)).trans (k2 b u e)
def rSortedT (K : PySem.W.Frag) : List V → Hp → VK → Prop := fun vs H Q => ∃ a xs kd, vs = [.ref a] ∧ SqT K H a xs ∧ SrtD K H xs kd ∧ ∀ p, H p = none → Q (.ref p) (upd H p (.lst (sortV xs (pys kd))))
theorem cr_sortedT (hu : X.A.units + 64 < cLine) : CallR X (.builtin "sorted") (rSortedT X.K) := by
  intro pins s σ H vs us Q I r h
  obtain ⟨a, xs, kd, rfl, ht, sd, q⟩ := h
  rw [Vals.ref1 r]
  obtain ⟨its, rv, ⟨o, ho, hc, n, hd⟩, hz⟩ := I.tuple ht
  exact sorted_of I hu (fun R hR => wpAny_collect_seq a (.inr rfl) ho hc hd (fun g hk => hR g s.toks _ hk (by simpa using rv)) (by rw [List.size_toArray, ← rv.length]; exact hz)) sd q
end
/-! ### truth values as keys -/
def leafB (b : Bool) : PySem.Leaf := .num (if b = true then 1 else 0)
def isBv (b : Bool) : Value → Bool
  | .bool c => b == c
  | _ => false
theorem isBv_eq {b : Bool} {v : Value} (h : isBv b v = true) : v = .bool b := by
  cases v <;> simp [isBv] at h
  subst h; rfl
theorem isBv_leaf {b : Bool} {v : Value} (h : isBv b v = true) : PySem.Leaf.isOf (leafB b) v = true := by
  rw [isBv_eq h]; cases b <;> rfl
def boolKind (P : Program) (w : World) : PySem.KeyKind P w Bool where
  is := isBv
  hash := fun b => (leafB b).key.hash w
  inj := fun v a b ha hb => by rw [isBv_eq ha] at hb; have := isBv_eq hb; injection this
  byValue := fun b v h => (PySem.leafKind P w).byValue _ _ (isBv_leaf h)
  pyHash := fun h q => (PySem.leafKind P w).pyHash (isBv_leaf h) q
  eqBool := fun {A E s a b u v Q} h1 h2 q => (PySem.leafKind P w).eqBool (a := leafB a) (b := leafB b) (isBv_leaf h1) (isBv_leaf h2) (by
    have e : decide (leafB a = leafB b) = decide (a = b) := by cases a <;> cases b <;> rfl
    rw [e]; exact q)
  «strs» := fun k x t v h => by simp [isBv] at h
/-- the entries as they stand -/
theorem pairs_raw {P : Program} {w : World} : ∀ {L : List DictEntry} {kvs : List (Bool × Value)}, PySem.Pairs (boolKind P w) L kvs → (∀ e ∈ L, ∃ k, isBv k e.key = true ∧ e.hash = (leafB k).key.hash w) → L = kvs.map (entB w)
  | _, _, .nil, _ => rfl
  | _, _, .cons (e := e) (kv := kv) h1 h2 t, hk => by
    rw [List.map_cons, ← pairs_raw t fun z hz => hk z (List.mem_cons_of_mem _ hz)]
    congr 1
    obtain ⟨k, k1, k2⟩ := hk e List.mem_cons_self
    have e1 := isBv_eq h1
    have e2 := isBv_eq k1
    have : k = kv.1 := by rw [e1] at e2; injection e2 with z; exact z.symm
    subst this
    obtain ⟨hash, key, val⟩ := e
    simp only at h1 h2 k2 e1
    subst e1; subst h2; subst k2
    cases kv with
    | mk k0 u0 => cases k0 <;> rfl
theorem raw_pairs {P : Program} {w : World} : ∀ kvs : List (Bool × Value), PySem.Pairs (boolKind P w) (kvs.map (entB w)) kvs
  | [] => .nil
  | kv :: r => .cons (by cases h : kv.1 <;> simp [entB, boolKind, isBv, h]) rfl (raw_pairs r)
theorem raw_keys {P : Program} {w : World} (kvs : List (Bool × Value)) : ∀ e ∈ kvs.map (entB w), ∃ k, (boolKind P w).is k e.key = true ∧ e.hash = (boolKind P w).hash k := fun e he => by
  obtain ⟨kv, _, rfl⟩ := List.mem_map.mp he
  refine ⟨kv.1, by cases h : kv.1 <;> simp [entB, boolKind, isBv, h], ?_⟩
  cases h : kv.1 <;> simp [entB, boolKind, leafB, h, PySem.Leaf.key]
theorem dictB_raw {P : Program} {w : World} {h : Heap} {a : Addr} {kvs : List (Bool × Value)} (x : h.DictOf (boolKind P w) a kvs) : ∃ es ep, h.DictRaw a es ep ∧ es.toList = kvs.map (entB w) := by
  obtain ⟨o, es, ep, h1, h2, h3, h4, h5, h6⟩ := x
  exact ⟨es, ep, ⟨o, h1, h2, h3⟩, pairs_raw h5 fun e he => h4 e (by simpa using he)⟩
theorem raw_dictB {P : Program} {w : World} {h : Heap} {a : Addr} {kvs : List (Bool × Value)} {es : Array DictEntry} {ep : Nat} (x : h.DictRaw a es ep) (e : es.toList = kvs.map (entB w)) (n : (kvs.map (·.1)).Nodup) : h.DictOf (boolKind P w) a kvs := by
  obtain ⟨o, h1, h2, h3⟩ := x
  refine ⟨o, es, ep, h1, h2, h3, fun z hz => raw_keys kvs z (by rw [← e]; simpa using hz), by rw [e]; exact raw_pairs kvs, n⟩
theorem rawB_obj {P : Program} {w : World} {h : Heap} {H : Hp} {a : Addr} {kvs : List (Bool × Value)} (x : h.DictOf (boolKind P w) a kvs) : ObjOk P w H h a (rawO a (kvs.map (entB w))) := by
  obtain ⟨es, ep, x1, x2⟩ := dictB_raw x
  obtain ⟨o, h1, h2, h3⟩ := id x1
  exact ⟨⟨es, ep, x1, x2⟩, ⟨o, h1⟩, fun g1 g2 ⟨es, ep, ⟨o, k1, k2, k3⟩, k4⟩ hk => ⟨es, ep, ⟨o, hk _ k1, k2, k3⟩, k4⟩⟩
variable {G : Gt}
def putB (acc : List (Bool × D)) (k v : D) : Option (List (Bool × D)) := match k with
  | .bl b => if acc.length < sizeLine then some (if acc.any (fun p => p.1 == b) = true then acc.map (fun p => if p.1 = b then (p.1, v) else p) else acc ++ [(b, v)]) else none
  | _ => none
theorem RepB.length {H : Hp} : ∀ {xs : List (Bool × Value)} {ds : List (Bool × D)}, RepB G H xs ds → xs.length = ds.length
  | _, _, .nil => rfl
  | _, _, .cons _ _ t => by rw [List.length_cons, List.length_cons, t.length]
theorem RepB.any {H : Hp} (b : Bool) : ∀ {xs : List (Bool × Value)} {ds : List (Bool × D)}, RepB G H xs ds → (xs.any fun kv => decide (kv.1 = b)) = ds.any fun p => p.1 == b
  | _, _, .nil => rfl
  | _, _, .cons (k := j) _ _ t => by
    rw [List.any_cons, List.any_cons, RepB.any b t]
    cases j <;> cases b <;> rfl
theorem RepB.repl {H : Hp} {b : Bool} {u : Value} {v : V} {dv : D} (q : RelV v u) (r : Rep G H v dv) : ∀ {xs : List (Bool × Value)} {ds : List (Bool × D)}, RepB G H xs ds → RepB G H (xs.map fun kv => if kv.1 = b then (kv.1, u) else kv) (ds.map fun p => if p.1 = b then (p.1, dv) else p)
  | _, _, .nil => .nil
  | _, _, .cons (k := j) q' r' t => by
    rw [List.map_cons, List.map_cons]
    by_cases h : j = b
    · rw [if_pos h, if_pos h]; exact .cons q r (t.repl q r)
    · rw [if_neg h, if_neg h]; exact .cons q' r' (t.repl q r)
theorem RepB.snoc {H : Hp} {b : Bool} {u : Value} {v : V} {dv : D} (q : RelV v u) (r : Rep G H v dv) : ∀ {xs : List (Bool × Value)} {ds : List (Bool × D)}, RepB G H xs ds → RepB G H (xs ++ [(b, u)]) (ds ++ [(b, dv)])
  | _, _, .nil => .cons q r .nil
  | _, _, .cons q' r' t => .cons q' r' (t.snoc q r)
theorem RepB.stored {H : Hp} {b : Bool} {u : Value} {v : V} {dv : D} (q : RelV v u) (r : Rep G H v dv) {xs : List (Bool × Value)} {ds : List (Bool × D)} (t : RepB G H xs ds) : RepB G H (PySem.stored xs b u) (if ds.any (fun p => p.1 == b) = true then ds.map (fun p => if p.1 = b then (p.1, dv) else p) else ds ++ [(b, dv)]) := by
  unfold PySem.stored
  rw [t.any b]
  split
  · exact t.repl q r
  · exact t.snoc q r
theorem stored_len (xs : List (Bool × Value)) (b : Bool) (u : Value) : (PySem.stored xs b u).length ≤ xs.length + 1 := by
  unfold PySem.stored
  split <;> simp
theorem stored_nodup {xs : List (Bool × Value)} {b : Bool} {u : Value} (h : (xs.map (·.1)).Nodup) : ((PySem.stored xs b u).map (·.1)).Nodup := by
  unfold PySem.stored
  split
  · rw [List.map_map]
    have : ((fun x : Bool × Value => x.1) ∘ fun kv => if kv.1 = b then (kv.1, u) else kv) = fun x : Bool × Value => x.1 := by
      funext x; simp only [Function.comp]; split <;> rfl
    rw [this]; exact h
  · rename_i e
    rw [List.map_append, List.nodup_append]
    refine ⟨h, by simp, ?_⟩
    intro x hx y hy z
    simp at hy
    subst hy; subst z
    obtain ⟨p, hp, e2⟩ := List.mem_map.mp hx
    exact e (List.any_eq_true.mpr ⟨p, hp, by simpa using e2⟩)
def stB (w : World) (D0 : Addr) (y z : V) (H : Hp) (Nx : Hp → Prop) : Prop := ∃ b xs, y = .bl b ∧ H D0 = some (rawO D0 (xs.map (entB w))) ∧ (xs.map (·.1)).Nodup ∧ xs.length < sizeLine ∧ ∀ u, RelV z u → Nx (upd H D0 (rawO D0 ((PySem.stored xs b u).map (entB w))))
def dkB (G : Gt) : DKd G (List (Bool × D)) where
  o0 := fun p => rawO p []
  st := stB G.w
  nil := []
  size := List.length
  dat := .dcb
  put := putB
  At := fun I D0 acc o => ∃ xs, o = rawO D0 (xs.map (entB G.w)) ∧ RepB G I xs acc ∧ (xs.map (·.1)).Nodup ∧ xs.length ≤ sizeLine
  start := fun I D0 => ⟨[], rfl, .nil, by simp, Nat.zero_le _⟩
  mono := fun h e => by obtain ⟨xs, a, b, c, d⟩ := h; exact ⟨xs, a, b.mono e, c, d⟩
  turn := fun {I H D0 acc acc' o y z dk dv Nx} lo e hD ⟨xs, a, b, c, d⟩ ry rz hp q => by
    subst a
    cases dk with
    | bl k =>
      simp only [putB] at hp
      split at hp
      · rename_i h
        cases hp
        cases ry
        have hl : xs.length < sizeLine := by rw [b.length]; exact h
        refine ⟨k, xs, rfl, hD, c, hl, fun uu hu => q _ ⟨_, rfl, b.stored hu rz, stored_nodup c, ?_⟩⟩
        have := stored_len xs k uu
        omega
      · cases hp
    | _ => cases hp
  fin := fun lo ⟨xs, a, b, c, d⟩ e => by subst a; exact .dB lo upd_same (b.mono e) c d
theorem dkB_ok (G : Gt) : DKok (dkB G) := fun X hK hw hu => {
  empty := fun H h _ => rawB_obj (P := X.prog) (w := X.w) (kvs := []) (by exact ⟨_, #[], 0, Heap.get?_push_size _ rfl, ⟨rfl, rfl, rfl⟩, rfl, fun e he => by simp at he, .nil, List.nodup_nil⟩)
  store := fun {pins σ H s E D0 y z u r Nx Q} I ry rz h hq => by
    obtain ⟨b, xs, rfl, hd, hn, hl, q⟩ := h
    rw [← hw] at hd q
    cases ry
    obtain ⟨⟨es, ep, x1, x2⟩, _⟩ := (show ObjOk X.prog X.w H s.heap D0 (rawO D0 (xs.map (entB X.w))) from I.hok D0 _ hd)
    have dd := raw_dictB (P := X.prog) x1 x2 hn
    have bk : (boolKind X.prog X.w).is b (.bool b) = true := by cases b <;> rfl
    refine wpAny_dictSet_pairs (hsz := Nat.le_of_lt hl) bk dd fun g gd hs => ?_
    have mu : Mut (H D0) := by rw [hd]; exact True.intro
    obtain ⟨o, es2, ep2, h1, _⟩ := id gd
    exact hq _ _ (d_write (t' := s.toks + 1) I mu hs ⟨o, h1⟩ (rawB_obj gd)) (q r rz) }

/-! ### sorted over data -/
def nkAll (ds : List D) : Bool := ds.all fun d => (nkD d).isSome
def sortedT : List D → Option D
  | [.tup xs] => if srtOk xs = true ∧ nkAll xs = true then some (.lst (xs.mergeSort dLe)) else none
  | _ => none
theorem srtD_of {I H : Hp} {vs : List V} {ds : List D} (e : Ex I H) (r : Reps G I vs ds) (l : vs.length ≤ sizeLine) (h1 : srtOk ds = true) (h2 : nkAll ds = true) : SrtD G.K H vs ds ∧ Reps G I (sortV vs (pys ds)) (ds.mergeSort dLe) := by
  obtain ⟨k1, k2, k3, k4⟩ := srt_alike h1
  rw [← pys_eq] at k1 k2 k3
  refine ⟨⟨l, Reps.dp (r.mono e) k4, fun d hd => (List.all_eq_true.mp h2) d hd, k1, k2, k3⟩, ?_⟩
  obtain ⟨L, e1, e2, e3⟩ := sort_zip vs ds r.length
  rw [← pys_eq] at e1
  rw [← e1, ← e2]
  exact reps_of fun b hb => reps_zip r b (e3 b hb)
theorem lss_sortedT : LsS G (rSortedT G.K) sortedT := fun I H xs as d e rs ho Q hq => by
  unfold sortedT at ho
  split at ho
  · rename_i ds
    split at ho
    · rename_i hok
      cases ho
      obtain ⟨v, rfl, rv⟩ := reps1 rs
      cases rv with
      | @tup a vs _ h r l =>
        obtain ⟨sd, h2⟩ := srtD_of e r l hok.1 hok.2
        refine ⟨a, vs, ds, rfl, Evl.ex_t e h, sd, fun p hp => ?_⟩
        exact (fun n => hq _ _ _ n.1 n.2) (new_lst e hp h2 (by rw [h2.length, List.length_mergeSort, ← r.length]; exact l))
    · cases ho
  · cases ho
/-- sorted of a dict whose keys are truth values -/
def sortedB : List D → Option D
  | [.dcb ds] => some (.lst ((ds.map fun p => D.bl p.1).mergeSort dLe))
  | _ => none
def rSortedB (w : World) (K : PySem.W.Frag) : List V → Hp → VK → Prop := fun vs H Q => ∃ (a : Addr) (kvs : List (Bool × Value)), vs = [.ref a] ∧ (a == sysModules) = false ∧ H a = some (rawO a (kvs.map (entB w))) ∧ SrtD K H (kvs.map fun x : Bool × Value => V.bl x.1) (kvs.map fun x => D.bl x.1) ∧
  ∀ p, H p = none → Q (.ref p) (upd H p (.lst (sortV (kvs.map fun x => V.bl x.1) (pys (kvs.map fun x => D.bl x.1)))))
theorem vals_bl : ∀ kvs : List (Bool × Value), Vals (kvs.map fun x => V.bl x.1) (kvs.map fun x => Value.bool x.1)
  | [] => .nil
  | _ :: r => .cons rfl (vals_bl r)
theorem cr_sortedB {X : Cx} (hc : X.calm = true) (hu : X.A.units + 64 < cLine) : CallR X (.builtin "sorted") (rSortedB X.w X.K) := by
  intro pins s σ H vs us Q I r h
  obtain ⟨a, kvs, rfl, lo, hat, sd, q⟩ := h
  rw [Vals.ref1 r]
  obtain ⟨⟨es, ep, ⟨o, h1, h2, h3⟩, h4⟩, _⟩ := (show ObjOk X.prog X.w H s.heap a (rawO a (kvs.map (entB X.w))) from I.hok a _ hat)
  have hs : es.size = kvs.length := by rw [← Array.length_toList, h4, List.length_map]
  have hle : kvs.length ≤ sizeLine := by have := sd.le; simpa using this
  refine sorted_of I hu (fun R hR => PySem.W.kdu_collect (A := X.A.in1) (kdl_raw (prog := X.prog) (w := X.w) (ep := ep) lo h2 h3) (I.ok.hd hc) h1 (by rw [hs]; exact hle) fun g tk acc kp it => ?_) sd q
  have e : acc.toList = kvs.map fun x => Value.bool x.1 := by
    refine List.ext_getElem (by simp [it.1, hs]) fun j g1 g2 => ?_
    obtain ⟨en, e1, e2⟩ := it.2 j acc.toList[j] (by rw [← Array.getElem?_toList]; exact List.getElem?_eq_getElem g1)
    rw [← Array.getElem?_toList, h4, List.getElem?_map] at e1
    have g3 : j < kvs.length := by simpa using g2
    rw [List.getElem?_eq_getElem g3] at e1
    rw [e2, ← Option.some.inj e1]
    simp [entB]
  exact hR g tk _ kp (by rw [e]; exact vals_bl kvs)
theorem reps_bl {I : Hp} : ∀ kvs : List (Bool × Value), Reps G I (kvs.map fun x => V.bl x.1) (kvs.map fun x => D.bl x.1)
  | [] => .nil
  | _ :: r => .cons (.bl _) (reps_bl r)
theorem RepB.keys {I : Hp} : ∀ {xs : List (Bool × Value)} {ds : List (Bool × D)}, RepB G I xs ds → xs.map (·.1) = ds.map (·.1)
  | _, _, .nil => rfl
  | _, _, .cons _ _ t => by rw [List.map_cons, List.map_cons, t.keys]
theorem bl_ok (L : List (Bool × Value)) : srtOk (L.map fun x => D.bl x.1) = true ∧ nkAll (L.map fun x => D.bl x.1) = true := by
  constructor
  · unfold srtOk allAlikeB
    simp only [Bool.and_eq_true, List.all_eq_true, decide_eq_true_eq, flats_eq]
    refine ⟨fun x hx => ?_, fun x hx y hy => ?_, fun x hx => ?_, fun x hx => ?_⟩
    · obtain ⟨p, _, rfl⟩ := List.mem_map.mp hx; rfl
    · obtain ⟨p, _, rfl⟩ := List.mem_map.mp hx
      obtain ⟨p2, _, rfl⟩ := List.mem_map.mp hy
      simp [py, PySem.W.alike]
    · obtain ⟨p, _, rfl⟩ := List.mem_map.mp hx; rfl
    · obtain ⟨p, _, rfl⟩ := List.mem_map.mp hx; simp [py, PyData.depth]
  · unfold nkAll
    simp [nkD]
theorem lss_sortedB : LsS G (rSortedB G.w G.K) sortedB := fun I H xs as d e rs ho Q hq => by
  unfold sortedB at ho
  split at ho
  · rename_i ds
    cases ho
    obtain ⟨v, rfl, rv⟩ := reps1 rs
    cases rv with
    | @dB a kvs _ m h r n l =>
      obtain ⟨b1, b2⟩ := bl_ok kvs
      obtain ⟨sd, h2⟩ := srtD_of e (reps_bl (G := G) (I := I) kvs) (by simpa using l) b1 b2
      have ek : (ds.map fun p => D.bl p.1) = kvs.map fun x => D.bl x.1 := by
        have := congrArg (List.map D.bl) r.keys
        rw [List.map_map, List.map_map] at this
        exact this.symm
      rw [ek] at hq
      refine ⟨a, kvs, rfl, m, e _ _ h, sd, fun p hp => ?_⟩
      exact (fun n => hq _ _ _ n.1 n.2) (new_lst e hp h2 (by rw [h2.length, List.length_mergeSort]; simpa using l))
  · cases ho
/-! ### a def that calls itself: nothing at depth 0 -/
section
variable {P : Program} {w : World} {mg : Str → Option Value} {base : Heap} {k : Nat}
theorem fnRec0 {x qual : Str} {st : Stmt} {f : Addr} {fd : FuncData} {N ps : List Str} (Fn : Fun G.K x qual st f fd) (S : FnScope N ps (defScope st)) : FnOk P w G.K mg base (L2.CX P w) (k + 1) f fd ps (sp0 G ps.length (fun _ => none)) := by
  refine Fn.okX S (fun vs H Q E h => h.1) fun cdv A outer s H vs Q E hr h => ?_
  obtain ⟨_, I, ds, r, _, _, e, _⟩ := h
  exact nomatch e
end
section
variable {ι : Type} {X : ι → Cx} {P : Program} {w : World} {mg : Str → Option Value} {base : Heap} {k : Nat} {N : List Str} {W : WX}
theorem call_sortedTF (fo : Fo X G P w mg base k N W) (i : ι) : CallR (X i) (.builtin "sorted") (rSortedT G.K) := by rw [← fo.hK i]; exact cr_sortedT (fo.room i).units
theorem call_sortedBF (fo : Fo X G P w mg base k N W) (hc : ∀ i, (X i).calm = true) (i : ι) : CallR (X i) (.builtin "sorted") (rSortedB G.w G.K) := by rw [← fo.hK i, ← fo.wG i]; exact cr_sortedB (hc i) (fo.room i).units
end
end PL
set_option Elab.async false
set_option linter.all false
set_option maxRecDepth 100000
set_option maxHeartbeats 4000000
/-! set(xs) of a tuple of tuples of numbers. -/
namespace PL
open PySem PySem.Spec PyProof.Rows L2
open Evl (Ex)
/-- a set as it is made -/
abbrev set0 (w : World) : Obj := { cls := .type "set", dict := none, data := .set #[] 0 (.fresh 0 0 (!w.params.followText "set-order")) }
section
variable {P : Program} {w : World} {A : Around} {E : Value → Shared → Prop} {s : Shared}
/-- what a set of tuples is when it is filled -/
def SetDone (P : Program) (w : World) (s : Shared) (ks : List (Addr × List Int)) (t2 : Shared) : Prop :=
  ∃ h' tk L es ep t, t2 = { s with heap := h', toks := tk } ∧ SetTR P w h' s.heap.objs.size L es ep t ∧ Got ks ks.length L ∧ ∀ b o, s.heap.get? b = some o → h'.get? b = some o
theorem fill_from_tuple {l : Addr} {items : Array Value} (ks : List (Addr × List Int)) {Q : Fin → Shared → Prop} {E2 : Value → Shared → Prop} (hh : A.handled = none) (hl : s.heap.IsTuple l items)
    (hit : items.toList = ks.map fun p => Value.ref p.1) (hk : ∀ p ∈ ks, IsT P w s.heap p.2 p.1) (hfew : ks.length < 64) (hu : A.units + 3 < cLine) (hQ : ∀ t2, SetDone P w s ks t2 → Q (.done (.ret .none)) t2) :
    wpAny (model P w) A.in1.in1 (Builtin.«set.__init__» ⟨[.ref s.heap.objs.size, .ref l], []⟩) Q E2 { s with heap := s.heap.push (set0 w) } := by
  have hisz : items.size = ks.length := by
    rw [← List.length_map (f := fun p : Addr × List Int => Value.ref p.1), ← hit, Array.length_toList]
  have hS : (s.heap.push (set0 w)).get? s.heap.objs.size = some (set0 w) := Heap.get?_push_size _ rfl
  obtain ⟨⟨ocls, odict, odata, oslots⟩, hol, hcl, nl, hdl⟩ := id hl
  simp only at hcl hdl
  subst hcl; subst hdl
  have hol' := Heap.get?_push_of_some (set0 w) hol
  have hts := F.sub_tuple_set
  have htf := F.sub_tuple_frozenset
  have hne : (Value.type "tuple" == Value.type "dict") = false := by decide
  have hl1 : (s.heap.push (set0 w)).IsTuple l items := ⟨_, hol', rfl, nl, rfl⟩
  unfold Builtin.«set.__init__» noKeywords Builtin.Frozenset.updateFrom
  generalize hPI : pyIter = PI
  wp_walk
  subst hPI
  refine wpAny_pyIter_tuple hl1 (wpAny_bind (wpAny_runValue ?_))
  have hlt : l < s.heap.objs.size := Heap.lt_size hol
  have hh3 : A.in1.in1.in1.handled = none := by simp [hh]
  have hsz : (s.heap.push (set0 w)).objs.size = s.heap.objs.size + 1 := Heap.size_push ..
  have hneI : l ≠ (s.heap.push (set0 w)).objs.size := by rw [hsz]; exact Nat.ne_of_lt (Nat.lt_succ_of_lt hlt)
  have hout : s.heap.objs.size ∉ [(s.heap.push (set0 w)).objs.size, l] := fun z => by
    rw [hsz] at z
    rcases List.mem_cons.mp z with z | z
    · exact Nat.ne_of_lt (Nat.lt_succ_self _) z
    · exact Nat.ne_of_gt hlt (List.mem_singleton.mp z)
  have hat : ∀ (i : Nat) (v : Value), items[i]? = some v → ∃ p, ks[i]? = some p ∧ v = .ref p.1 := fun i v hv => by
    rw [← Array.getElem?_toList, hit, List.getElem?_map] at hv
    obtain ⟨p, hp, e⟩ := Option.map_eq_some_iff.mp hv
    exact ⟨p, hp, e.symm⟩
  have hnone : ∀ b, s.heap.objs.size ≤ b → s.heap.get? b = none := fun b hb => by
    cases q : s.heap.get? b with
    | none => rfl
    | some o => exact absurd (Nat.lt_of_lt_of_le (Heap.lt_size q) hb) (Nat.lt_irrefl _)
  have hfresh := Heap.get?_push_of_some (h := s.heap.push (set0 w)) { cls := .type "tuple_iterator", data := .fields #[.ref l, .int 0 0] } hS
  refine set_update_tups ((Walks.tuple hh3 _ l hneI items).toS) s.heap.objs.size hout ks hisz hfew hat s.heap hk (hnone _ (Nat.le_refl _))
    (fun b hb => hnone b (by rw [List.mem_singleton.mp hb, hsz]; exact Nat.le_succ _)) hu (items.size - 0) 0 _ (by omega) (Nat.zero_le _)
    ⟨⟨_, Heap.get?_push_size _ rfl, rfl, rfl⟩, hl1.push _⟩ (fun b o e => Heap.get?_push_of_some _ (Heap.get?_push_of_some _ e)) ⟨[], #[], 0, _, setTR_fresh hfresh, Got.zero ks⟩ fun t2 L es ep t hm hS2 g2 hkp => ?_
  obtain ⟨h', gs, dr, tk, os⟩ := t2
  obtain rfl : gs = s.gens := hm.gens
  obtain rfl : dr = s.drawn := hm.drawn
  obtain rfl : os = s.os := hm.os
  show wpAny _ _ _ _ _ _
  refine wpAny_pure ?_
  show wpAny _ _ (ret Value.none) _ _ _
  rw [hisz] at g2
  exact wpAny_pure (hQ _ ⟨h', tk, L, es, ep, t, rfl, hS2, g2, hkp⟩)
theorem set_of_tuple {l : Addr} {items : Array Value} (ks : List (Addr × List Int)) {Q : Value → Shared → Prop} (hh : A.handled = none) (hl : s.heap.IsTuple l items)
    (hit : items.toList = ks.map fun p => Value.ref p.1) (hk : ∀ p ∈ ks, IsT P w s.heap p.2 p.1) (hfew : ks.length < 64) (hu : A.units + 3 < cLine)
    (h : ∀ h' tk L es ep t, SetTR P w h' s.heap.objs.size L es ep t → Got ks ks.length L → (∀ b o, s.heap.get? b = some o → h'.get? b = some o) → Q (.ref s.heap.objs.size) { s with heap := h', toks := tk }) :
    wpAny (model P w) A (call (.type "set") [.ref l]) Q E s := by
  have hisz : items.size = ks.length := by
    rw [← List.length_map (f := fun p : Addr × List Int => Value.ref p.1), ← hit, Array.length_toList]
  obtain ⟨c, tl, hmro⟩ := F.called_set.mro
  have hmade := F.called_set.made
  have hsub := F.called_set.sub
  have h1 := F.called_set.notType
  have h2 := F.called_set.canCreate
  have hct := F.typeCall_set_1 (.ref l)
  refine wpAny_call (codeAny_of_tree ?_)
  show wpAny _ _ (callAny (.type "set") _) _ _ _
  refine wpAny_pure ⟨Code.quiet_builtin _ (by decide +kernel), codeAny_builtin F.entry_type_call ?_⟩
  rw [Around.under_plain (weight_type_call_type "set" [.ref l] []) rfl]
  repeat (any_goals (first | assumption | wp_step))
  refine codeAny_mono (code_set_led1 (.ref l) (E := E) (Q₁ := fun v t1 => v = .ref s.heap.objs.size ∧ t1 = { s with heap := s.heap.push (set0 w) }) ⟨rfl, rfl⟩) fun r t1 hr => ?_
  cases r with
  | error e => exact hr
  | ok fl =>
    cases fl with
    | ret v =>
      obtain ⟨rfl, rfl⟩ := hr
      have hS : (s.heap.push (set0 w)).get? s.heap.objs.size = some (set0 w) := Heap.get?_push_size _ rfl
      have hT : Shared.TypeIs { s with heap := s.heap.push (set0 w) } (.ref s.heap.objs.size) "set" := ⟨_, hS, rfl⟩
      have hli := F.called_set.init.lookup
      have hbi := F.called_set.init.bind (.ref s.heap.objs.size)
      repeat (any_goals (first | assumption | wp_step))
      refine codeAny_mono (codeAny_call_builtin (R := wants (fun v t2 => v = .none ∧ SetDone P w s ks t2) E) F.called_set.init.plain F.entry_set_init (check_set_init_1 hT ?_)) fun r2 t2 hr2 => ?_
      · exact fill_from_tuple ks hh hl hit hk hfew hu fun t2 d => ⟨rfl, d⟩
      · cases r2 with
        | error e => exact hr2
        | ok fl2 =>
          cases fl2 with
          | ret v2 =>
            obtain ⟨rfl, h', tk, L, es, ep, t, rfl, hS', g', hk'⟩ := hr2
            repeat (any_goals (first | assumption | wp_step))
            exact h _ _ _ _ _ _ hS' g' hk'
          | _ => exact hr2.elim
    | _ => exact hr.elim
end
/-! ### len(set(xs)) -/
def ndup {α : Type} [DecidableEq α] : List α → List α
  | [] => []
  | x :: r => if x ∈ r then ndup r else x :: ndup r
theorem ndup_cons {α : Type} [DecidableEq α] (x : α) (r : List α) : ndup (x :: r) = if x ∈ r then ndup r else x :: ndup r := rfl
theorem mem_ndup {α : Type} [DecidableEq α] {y : α} : ∀ {l : List α}, y ∈ ndup l ↔ y ∈ l
  | [] => Iff.rfl
  | x :: r => by
    rw [ndup_cons]
    by_cases c : x ∈ r
    · rw [if_pos c, mem_ndup (l := r), List.mem_cons]
      exact ⟨.inr, fun h => h.elim (fun e => e ▸ c) id⟩
    · rw [if_neg c, List.mem_cons, List.mem_cons, mem_ndup (l := r)]
theorem nodup_ndup {α : Type} [DecidableEq α] : ∀ l : List α, (ndup l).Nodup
  | [] => List.nodup_nil
  | x :: r => by
    rw [ndup_cons]
    by_cases c : x ∈ r
    · rw [if_pos c]; exact nodup_ndup r
    · rw [if_neg c]; exact List.nodup_cons.mpr ⟨fun z => c (mem_ndup.mp z), nodup_ndup r⟩
theorem ndup_self {α : Type} [DecidableEq α] : ∀ {l : List α}, l.Nodup → ndup l = l
  | [], _ => rfl
  | x :: r, h => by
    rw [ndup_cons, if_neg (List.nodup_cons.mp h).1, ndup_self (List.nodup_cons.mp h).2]
theorem ndup_le {α : Type} [DecidableEq α] : ∀ l : List α, (ndup l).length ≤ l.length
  | [] => Nat.le_refl _
  | x :: r => by
    have := ndup_le r
    rw [ndup_cons]
    by_cases c : x ∈ r
    · rw [if_pos c, List.length_cons]; omega
    · rw [if_neg c, List.length_cons, List.length_cons]; omega
theorem ndup_len {α : Type} [DecidableEq α] : ∀ {l : List α}, (ndup l).length = l.length ↔ l.Nodup
  | [] => by simp [ndup]
  | x :: r => by
    rw [List.nodup_cons, ← ndup_len (l := r)]
    have := ndup_le r
    rw [ndup_cons]
    by_cases c : x ∈ r
    · rw [if_pos c, List.length_cons]
      exact ⟨fun z => by omega, fun z => absurd c z.1⟩
    · rw [if_neg c, List.length_cons, List.length_cons]
      exact ⟨fun z => ⟨c, by omega⟩, fun z => by omega⟩
def rLenSetT (K : PySem.W.Frag) : V → Hp → VK → Prop := fun x H Q => ∃ (l : Addr) (ks : List (Addr × List Int)), x = .ref l ∧ SqT K H l (ks.map fun p => V.ref p.1) ∧ (∀ p ∈ ks, SqT K H p.1 (p.2.map V.int)) ∧ ks.length < 64 ∧ Q (.int ((ndup (ks.map (·.2))).length : Nat)) H
theorem got_len {ks L : List (Addr × List Int)} (g : Got ks ks.length L) (nd : (L.map (·.2)).Nodup) : L.length = (ndup (ks.map (·.2))).length := by
  rw [← List.length_map (f := (·.2)) (as := L)]
  refine List.Perm.length_eq ((List.perm_ext_iff_of_nodup nd (nodup_ndup _)).mpr fun x => ?_)
  rw [mem_ndup]
  constructor
  · intro hx
    obtain ⟨p, hp, rfl⟩ := List.mem_map.mp hx
    exact List.mem_map.mpr ⟨p, List.mem_of_mem_take (g.sub p hp), rfl⟩
  · intro hx
    obtain ⟨p, hp, rfl⟩ := List.mem_map.mp hx
    exact g.all p (by rw [List.take_length]; exact hp)
section
variable {X : Cx}
theorem pe_lenSetT {a : Expr} {ta : TE} {p p2 q pos : Pos} (hc : X.calm = true) (hu : X.A.units + 64 < cLine) (hg : Gl X "len") (hm : X.mg "len" = none) (hg2 : Gl X "set") (hm2 : X.mg "set" = none) (ha : PE X a ta)
    (na : starEach [a] X.env = (false, eval a X.env) :: starEach [] X.env) : PE X (.Call (.Name "len" p) [.Call (.Name "set" p2) [a] [] q] [] pos) (tUn (rLenSetT X.K) ta) := by
  refine ⟨fun pins s σ H Q I h => Call_ (ld_blt I hg hm PySem.boot_len (callWith_builtin1 (args_cons ?_ rfl) rfl rfl))⟩
  refine Call_ (ld_blt I hg2 hm2 boot_set (callWith_type1 (args_cons (thn (ha.run pins s σ H _ I h) fun v s1 ⟨x, H1, I1, r1, q1⟩ => args_nil ?_) na) na rfl))
  obtain ⟨l, ks, rfl, hq, hk, hfew, q1⟩ := q1
  cases r1
  obtain ⟨its, rv, pl, hz⟩ := I1.tuple hq
  refine set_of_tuple ks (I1.ok.hd hc) pl (by simpa using refs_of_vals rv) (fun z hz => I1.isT (hk z hz)) hfew (by have : X.A.units + 3 < cLine := (by omega); exact this) fun h' tk L es ep t R g kp => args_nil ?_
  have hn := got_len g R.nd
  have I2 : Inv X pins σ H1 { s1 with heap := h', toks := tk } := I1.kept kp
  obtain ⟨o, ho, hex, hd⟩ := R.ob
  have hsz := R.size (s := { s1 with heap := h', toks := tk })
  have hfew2 := R.few
  refine call_len_set ho hex hd (R.fits (s := { s1 with heap := h', toks := tk })) (by rw [hsz]; omega) ⟨.int L.length, H1, I2.tok _, ⟨_, by rw [hsz]⟩, by rw [hn]; exact q1⟩
end
def tints : D → Option (List Int)
  | .tup xs => xs.mapM fun d => match d with | .int i => some i | _ => none
  | _ => none
def lenSetD : D → Option D
  | .tup xs => (xs.mapM tints).bind fun kss => if kss.length < 64 then some (.int ((ndup kss).length : Nat)) else none
  | _ => none
section
variable {G : Gt}
theorem reps_mints {I : Hp} : ∀ {vs : List V} {ds : List D} {is : List Int}, Reps G I vs ds → (ds.mapM fun d => match d with | .int i => some i | _ => none) = some is → vs = is.map V.int
  | _, _, is, .nil, h => by simp at h; subst h; rfl
  | _, _, is, .cons r t, h => by
    rw [List.mapM_cons] at h
    cases r with
    | int i =>
      obtain ⟨js, h1, h2⟩ := Option.bind_eq_some_iff.mp h
      cases h1
      obtain ⟨ks, h3, h4⟩ := Option.bind_eq_some_iff.mp h2
      cases h4
      rw [reps_mints t h3]; rfl
    | _ => simp at h
theorem reps_tints {I : Hp} : ∀ {vs : List V} {ds : List D} {kss : List (List Int)}, Reps G I vs ds → ds.mapM tints = some kss → ∃ ks : List (Addr × List Int), vs = ks.map (fun p => V.ref p.1) ∧ ks.map (·.2) = kss ∧ ∀ p ∈ ks, SqT G.K I p.1 (p.2.map V.int)
  | _, _, kss, .nil, h => by simp at h; subst h; exact ⟨[], rfl, rfl, fun p hp => nomatch hp⟩
  | _, _, kss, .cons r t, h => by
    rw [List.mapM_cons] at h
    obtain ⟨is, h1, h2⟩ := Option.bind_eq_some_iff.mp h
    obtain ⟨jss, h3, h4⟩ := Option.bind_eq_some_iff.mp h2
    cases h4
    obtain ⟨ks, e1, e2, e3⟩ := reps_tints t h3
    cases r with
    | @tup b ws _ hs rw_ l =>
      refine ⟨(b, is) :: ks, by rw [e1]; rfl, by rw [List.map_cons, e2], fun p hp => ?_⟩
      rcases List.mem_cons.mp hp with rfl | hp
      · have := reps_mints rw_ h1
        rw [this] at hs; exact hs
      · exact e3 p hp
    | _ => simp [tints] at h1
theorem uns_lenSet : UnS G (rLenSetT G.K) lenSetD := fun I H x a d e rx ho Q hq => by
  cases rx with
  | @tup b vs ds h r l =>
    obtain ⟨kss, h1, h2⟩ := Option.bind_eq_some_iff.mp ho
    split at h2
    · rename_i hlt
      cases h2
      obtain ⟨ks, rfl, rfl, e3⟩ := reps_tints r h1
      exact ⟨b, ks, rfl, Evl.ex_t e h, fun p hp => Evl.ex_t e (e3 p hp), by simpa using hlt, hq _ I H (Step.refl e) (.int _)⟩
    · cases h2
  | _ => cases ho
variable {ι : Type} {X : ι → Cx} {P : Program} {w : World} {mg : Str → Option Value} {base : Heap} {k : Nat} {N : List Str} {W : WX} {R : Option Addr}
theorem pd_lenSet {a : Expr} {fa : EF} {p p2 q pos : Pos} (fo : Fo X G P w mg base k N W) (hc : ∀ i, (X i).calm = true) (hg : ∀ i, Gl (X i) "len") (hm : mg "len" = none) (hg2 : ∀ i, Gl (X i) "set") (hm2 : mg "set" = none) (h : PDE X G R W a fa) (hs : ∀ i, starEach [a] (X i).env = (false, eval a (X i).env) :: starEach [] (X i).env) :
    PDE X G R W (.Call (.Name "len" p) [.Call (.Name "set" p2) [a] [] q] [] pos) (e_un lenSetD fa) :=
  let ⟨_, pa, ra⟩ := h
  ⟨_, fun i => by have := pe_lenSetT (p := p) (p2 := p2) (q := q) (pos := pos) (hc i) (fo.room i).units (hg i) (by rw [fo.hmg i]; exact hm) (hg2 i) (by rw [fo.hmg i]; exact hm2) (pa i) (hs i); rw [fo.hK i] at this; exact this, re_un uns_lenSet ra⟩
end
end PL
set_option Elab.async false
set_option linter.all false
set_option maxRecDepth 100000
set_option maxHeartbeats 4000000
/-! A tuple backwards. -/
namespace PL
open PySem PySem.Spec PyProof.Rows L2
open Evl (Ex)
section
variable {prog : Program} {w : World} {A : Around} {E : Value → Shared → Prop} {s : Shared}
theorem part_of {v : Value} {o : Option Int} {Q : Option Int → Shared → Prop} (p : IsPart v o) (h : Q o s) : wpAny (model prog w) A (Builtin.Slice.slicePartIndex v) Q E s := HT.slicePart_ p h
theorem adj_back (n : Nat) : Builtin.Slice.sliceAdjust none none (-1) (n : Int) = ((n : Int) - 1, -1) := rfl
theorem plc_back (n : Nat) : Builtin.Slice.slicePlaces ((n : Int) - 1) (-1) (-1) = n := by
  unfold Builtin.Slice.slicePlaces
  have e0 : ¬ ((-1 : Int) > 0) := by decide
  simp only [e0, if_false]
  by_cases c : (n : Int) - 1 > -1
  · rw [if_pos c, show (- -1 : Int) = 1 by decide, Int.ediv_one]; omega
  · rw [if_neg c]; omega
theorem applied_back {sl : Addr} {a b c : Value} {n : Nat} {Q : Int × Int × Nat → Shared → Prop} (hs : s.heap.IsSliceOf sl a b c) (pa : IsPart a none) (pb : IsPart b none) (pc : IsPart c (some (-1))) (h : Q ((n : Int) - 1, -1, n) s) : wpAny (model prog w) A (Builtin.Slice.sliceApplied (.ref sl) (pure (n : Int))) Q E s := by
  obtain ⟨ob, h1, h2, h3⟩ := id hs
  unfold Builtin.Slice.sliceApplied Builtin.Slice.sliceFields
  refine wpAny_bind (wpAny_bind (wpAny_field h1 h3 (x := a) rfl (wpAny_bind (wpAny_field h1 h3 (x := b) rfl (wpAny_bind (wpAny_field h1 h3 (x := c) rfl (wpAny_pure ?_)))))))
  refine wpAny_bind (part_of pc ?_)
  show wpAny _ _ (if ((-1 : Int) == 0) = true then _ else _) _ _ s
  rw [if_neg (by decide)]
  refine wpAny_bind (part_of pa (wpAny_bind (part_of pb (wpAny_bind (wpAny_pure ?_)))))
  show wpAny _ _ (match Builtin.Slice.sliceAdjust none none (-1) (n : Int) with | (x, y) => pure (x, (-1 : Int), Builtin.Slice.slicePlaces x y (-1))) _ _ s
  rw [adj_back n]
  show wpAny _ _ (pure ((n : Int) - 1, (-1 : Int), Builtin.Slice.slicePlaces ((n : Int) - 1) (-1) (-1))) _ _ s
  rw [plc_back]
  exact wpAny_pure h
theorem pick_back (xs : Array Value) : ((List.range xs.size).filterMap fun (m : Nat) => xs[((xs.size : Int) - 1 + (m : Int) * (-1)).toNat]?).toArray = xs.toList.reverse.toArray := by
  have e : (fun (m : Nat) => xs[((xs.size : Int) - 1 + (m : Int) * (-1)).toNat]?) = (fun i => xs[i]?) ∘ fun m => xs.size - 1 - m := by
    funext m
    have : ((xs.size : Int) - 1 + (m : Int) * (-1)).toNat = xs.size - 1 - m := by omega
    rw [this]; rfl
  rw [e, ← List.filterMap_map, PySem.W.krv_range, List.filterMap_reverse, PySem.W.krv_all]
theorem getItem_back {t sl : Addr} {its : Array Value} {a b c : Value} {Q : Value → Shared → Prop} (ht : IsTup s.heap t its) (hs : s.heap.IsSliceOf sl a b c) (pa : IsPart a none) (pb : IsPart b none) (pc : IsPart c (some (-1)))
    (h : Q (.ref s.heap.objs.size) { s with heap := s.heap.push { cls := .type "tuple", data := .seq its.toList.reverse.toArray } }) (hz : its.size ≤ sizeLine) : wpAny (model prog w) A (getItem (.ref t) (.ref sl)) Q E s := by
  have hfit : sizeOk (.seq its.toList.reverse.toArray) := by
    show its.toList.reverse.toArray.size ≤ sizeLine
    rw [List.size_toArray, List.length_reverse, Array.length_toList]; exact hz
  obtain ⟨ob, h1, h2, h3⟩ := id hs
  have hT : s.TypeIs (.ref sl) "slice" := ⟨ob, h1, h2⟩
  unfold getItem
  try with_reducible refine wpAny_holding ?_
  first | refine wpAny_bind (wpAny_pure ?_) | skip
  refine wpAny_bind (wpAny_sequenceKey ht.typeIs (by decide) ?_)
  refine wpAny_bind (wpAny_callSpecial?_slot (name := Str.ofString "__getitem__") ht.typeIs PyProof.Rows.slot_tuple_getitem (wpAny_call_entry PyProof.Rows.slot_tuple_getitem ht.typeIs entry_tuple_getitem ?_ (args_tuple_getitem _ _)))
  show wpAny _ _ (Builtin.Tuple.tupleItemsOf (.ref t) >>= fun _ => _) _ _ s
  refine wpAny_bind (tupleItemsOf_ ht ?_)
  refine wpAny_bind (wpAny_typeOf hT ?_)
  rw [if_pos (by decide)]
  refine wpAny_bind (applied_back hs pa pb pc ?_)
  have hno : ¬ ((((its.size : Int) - 1 == 0) && ((-1 : Int) == 1) && (its.size == its.size)) = true) := by simp
  show wpAny _ _ (if (((its.size : Int) - 1 == 0) && ((-1 : Int) == 1) && (its.size == its.size)) = true then _ else _) _ _ s
  rw [if_neg hno, pick_back]
  first
    | exact wpAny_bind (m := Builtin.Tuple.tupleExact _) (wpAny_newObj_type (wpAny_pure ⟨_, rfl, wpAny_pure h⟩) hfit)
    | exact wpAny_bind (m := Builtin.Tuple.tupleExact _) (wpAny_newObj_type (wpAny_bind (wpAny_pure (wpAny_pure ⟨_, rfl, wpAny_pure h⟩))) hfit)
    | exact wpAny_bind (wpAny_bind (m := Builtin.Tuple.tupleExact _) (wpAny_newObj_type (wpAny_pure (wpAny_pure ⟨_, rfl, wpAny_pure h⟩)) hfit))
    | exact wpAny_bind (wpAny_bind (m := Builtin.Tuple.tupleExact _) (wpAny_newObj_type (wpAny_pure ⟨_, rfl, wpAny_pure h⟩) hfit))
end
def tRevT (K : PySem.W.Frag) (te : TE) : TE := fun σ H Q => te σ H fun x H1 => ∃ a xs, x = .ref a ∧ SqT K H1 a xs ∧ ∀ p, H1 p = none → Q (.ref p) (upd H1 p (.tup xs.reverse))
section
variable {X : Cx}
theorem pe_revT {e : Expr} {te : TE} {k : Nat} {p1 p2 p3 pos : Pos} (he : PE X e te) : PE X (.Subscript e (.Slice none none (some (.UnaryOp .USub (.Constant (.int 1) k p1) p2)) p3) pos) (tRevT X.K te) := by
  refine ⟨fun pins s σ H Q I h => ?_⟩
  refine Subscript_ (thn (he.run pins s σ H _ I h) fun v s1 ⟨x, H1, I1, r1, q1⟩ => ?_)
  obtain ⟨a, xs, ex, hx, q⟩ := q1
  subst ex
  cases r1
  have hst : PO X (some (.UnaryOp .USub (.Constant (.int 1) k p1) p2)) (tPart (tUn (rU fun i => .int (-i)) (tC (.int 1)))) := po_some (pe_un un_neg pe_int)
  refine wpAny_Slice (thn (po_none.run pins s1 σ H1 (fun o G2 => o = none ∧ G2 = H1) I1 ⟨rfl, rfl⟩) fun ua s2 ⟨l, H2, I2, pl, el, e2⟩ => ?_)
  subst el e2
  refine thn (po_none.run pins s2 σ H2 (fun o G3 => o = none ∧ G3 = H2) I2 ⟨rfl, rfl⟩) fun ub s3 ⟨u, H3, I3, pu, eu, e3⟩ => ?_
  subst eu e3
  refine thn (hst.run pins s3 σ H3 (fun o G4 => o = some (-1) ∧ G4 = H3) I3 ⟨1, rfl, -1, rfl, rfl, rfl⟩) fun uc s4 ⟨o, H4, I4, ps, eo, e4⟩ => ?_
  subst eo e4
  have I5 : Inv X pins σ H4 { s4 with heap := s4.heap.push { cls := .type "slice", data := .fields #[ua, ub, uc] } } := I4.kept (t' := s4.toks) fun d od q => Heap.get?_push_of_some _ q
  obtain ⟨its, r, ht, hz⟩ := I5.tuple hx
  have hlen := r.length
  show wpAny (model X.prog X.w) X.A (subscriptTail e (.Slice none none (some (.UnaryOp .USub (.Constant (.int 1) k p1) p2)) p3) (.ref a) (.ref s4.heap.objs.size)) (EP X pins σ Q) X.xe { s4 with heap := s4.heap.push { cls := .type "slice", data := .fields #[ua, ub, uc] } }
  refine tail_any (ops := [.ref a, .ref s4.heap.objs.size]) ht.typeIs (PyProof.Rows.slot_tuple_getitem.lookup) ?_ (by with_unfolding_all rfl)
  refine getItem_back ht (Heap.IsSliceOf.new _ ua ub uc) pl pu ps ?_ (by rw [List.size_toArray]; omega)
  refine ⟨.ref _, _, I5.laid (t' := s4.toks) (o := .tup xs.reverse) (fun d od q => Heap.get?_push_of_some _ q) (Nat.le_refl _) ?_, rfl, q _ (I5.hok.fresh (Nat.le_refl _))⟩
  exact ⟨by rw [List.length_reverse]; exact hz, _, r.reverse, IsTup.new _ _⟩
end
def revD (d : D) : Option D := match d with
  | .tup xs => some (.tup xs.reverse)
  | _ => none
section
variable {G : Gt} {R : Option Addr} {W : WX}
theorem re_rev {te : TE} {fa : EF} (ha : RE G R W te fa) : RE G R W (tRevT G.K te) (e_un revD fa) := fun I H σ ρ s e ro sl Q res s' hf hp => by
  refine re_seq ha e ro sl hf (fun x ex => by subst ex; exact hp) fun x s1 h1 v I1 H1 st1 ro1 sl1 rv => ?_
  obtain ⟨d, e1, e2, e3⟩ := okR_cases h1
  subst e2; subst e3
  cases rv with
  | @tup a vs ds h r l =>
    cases e1
    refine ⟨_, _, rfl, Evl.ex_t st1.ih h, fun q hq => ?_⟩
    have l2 : vs.reverse.length ≤ sizeLine := by rw [List.length_reverse]; exact l
    have n := new_tup (R := R) st1.ih hq r.reverse l2
    exact hp _ _ _ (st1.trans n.1) (ro1.step0 (new_tup (R := none) st1.ih hq r.reverse l2).1) n.2
  | _ => cases e1
end
section
variable {ι : Type} {X : ι → Cx} {G : Gt} {P : Program} {w : World} {mg : Str → Option Value} {base : Heap} {k : Nat} {N : List Str} {R : Option Addr} {W : WX}
theorem pd_rev (fo : Fo X G P w mg base k N W) {a : Expr} {fa : EF} {j : Nat} {p1 p2 p3 pos : Pos} (ha : PDE X G R W a fa) : PDE X G R W (.Subscript a (.Slice none none (some (.UnaryOp .USub (.Constant (.int 1) j p1) p2)) p3) pos) (e_un revD fa) :=
  let ⟨_, pa, ra⟩ := ha
  ⟨_, fun i => by rw [← fo.hK i]; exact pe_revT (pa i), re_rev ra⟩
end
end PL
set_option Elab.async false
set_option linter.all false
set_option maxRecDepth 100000
set_option maxHeartbeats 4000000
/-! A call of one out of a list of defs. -/
namespace PL
open PySem PySem.Spec PyProof.Rows L2
open Evl (Ex)
def tCallE (S : Addr → Sp → Prop) (E : L2.St → XK) (tf : TE) (t : TA) : TE := fun σ H Q => tf σ H fun y H1 => ∃ f sp, y = .ref f ∧ S f sp ∧ t σ H1 fun vs H2 => sp vs H2 Q (E σ)
section
variable {X : Cx} {CX : CXT} {k : Nat} {E : L2.St → XK} {fe e : Expr} {es : List Expr} {pos : Pos} {tf : TE} {t : TA} {S : Addr → Sp → Prop}
/-- a def that may be called -/
structure Gv (P : Program) (w : World) (K : PySem.W.Frag) (mg : Str → Option Value) (base : Heap) (CX : CXT) (k : Nat) (f : Addr) (sp : Sp) : Prop where
  ex : ∃ (fd : FuncData) (ps : List Str), FnOk P w K mg base CX k f fd ps sp ∧ PySem.W.keepIn K (.ref f) = true ∧ Binds K fd ps []
theorem pe_callE (A : ∀ f sp, S f sp → Gv X.prog X.w X.K X.mg X.base CX k f sp) (hr : Room k X.A) (hx : ∀ σ, PassesAt CX X σ (E σ)) (hf : PE X fe tf) (ha : PA X (e :: es) t)
    (ht : eval (.Call fe (e :: es) [] pos) X.env = (do callWith pos (← eval fe X.env) [] (backTo pos (starEach (e :: es) X.env)) (backToKw pos (keywordEach [] X.env))))
    (he : starEach (e :: es) X.env = (false, eval e X.env) :: starEach es X.env) (hpl : (backTo pos (starEach es X.env)).any (·.1) = false) : PE X (.Call fe (e :: es) [] pos) (tCallE S E tf t) := by
  refine ⟨fun pins s σ H Q I h => ?_⟩
  refine Call_ (thn (hf.run pins s σ H _ I h) fun u s1 ⟨y, H1, I1, ry, f, sp, ey, hS, q⟩ => ?_) ht
  subst ey
  obtain rfl : u = Value.ref f := ry
  obtain ⟨fd, ps, Fn, hk, hb⟩ := (A f sp hS).ex
  refine PySem.W.callWith_K (h₀ := X.base) I1.ok.mod.kin hk (thn (ha.run pos pins s1 σ H1 _ I1 q) fun us s2 ⟨vs, H2, I2, r, q2⟩ => ⟨I2.kIn, ?_⟩) he hpl
  exact run_fnS Fn hr hb (hx σ) I2 r q2
end
def e_sel3 (F1 F2 F3 : List D → Option Res) (fi : EF) (fa : AF) : EF := fun ρ s => bE (fi ρ s) .er fun x s1 => match x with
  | .int 0 => e_call F1 fa ρ s1
  | .int 1 => e_call F2 fa ρ s1
  | .int 2 => e_call F3 fa ρ s1
  | _ => none
section
variable {G : Gt} {R : Option Addr} {W : WX}
theorem re_sel3 {f1 f2 f3 : Addr} {F1 F2 F3 : List D → Option Res} {n : Nat} {fi : EF} {fa : AF} {ti : TE} {ta : TA} (h1 : ∀ ds r, F1 ds = some r → ds.length = n) (h2 : ∀ ds r, F2 ds = some r → ds.length = n) (h3 : ∀ ds r, F3 ds = some r → ds.length = n)
    (hi : RE G R W ti fi) (ha : RA G R W ta fa) : RE G R W (tCallE (fun f sp => (f = f1 ∧ sp = sp0 G n F1) ∨ (f = f2 ∧ sp = sp0 G n F2) ∨ (f = f3 ∧ sp = sp0 G n F3)) (WE W) (tOp (rIx G.K) (tLst (tCons (tC (.ref f1)) (tCons (tC (.ref f2)) (tCons (tC (.ref f3)) tNil)))) ti) ta) (e_sel3 F1 F2 F3 fi fa) :=
  fun I H σ ρ s e ro sl Q res s' hf hp => by
  refine ⟨by show 3 ≤ sizeLine; rw [sizeLine_eq]; decide, fun p hpn => ?_⟩
  have st0 : Step R I H (upd I p (.lst [.ref f1, .ref f2, .ref f3])) (upd H p (.lst [.ref f1, .ref f2, .ref f3])) := Step.new (o := .lst [.ref f1, .ref f2, .ref f3]) e hpn
  have st0' : Step none I H (upd I p (.lst [.ref f1, .ref f2, .ref f3])) (upd H p (.lst [.ref f1, .ref f2, .ref f3])) := Step.new (o := .lst [.ref f1, .ref f2, .ref f3]) e hpn
  have sq : SqL G.K (upd I p (.lst [.ref f1, .ref f2, .ref f3])) p [.ref f1, .ref f2, .ref f3] := .inl (.inl upd_same)
  unfold e_sel3 at hf
  refine re_seq hi st0.ih (ro.step0 st0') (sl.step st0) hf (fun x ex => by subst ex; exact fun c dd I' H' st => hp c dd I' H' (st0.trans st)) fun x s1 hx v I1 H1 st1 ro1 sl1 rv => ?_
  have sq1 : SqL G.K H1 p [.ref f1, .ref f2, .ref f3] := Evl.ex_l st1.ih (Evl.ex_l st1.ii sq)
  have go : ∀ (F : List D → Option Res) (f : Addr) (j : Int), ((f = f1 ∧ F = F1) ∨ (f = f2 ∧ F = F2) ∨ (f = f3 ∧ F = F3)) → L2.atI [V.ref f1, .ref f2, .ref f3] j = some (.ref f) → v = .int j → e_call F fa ρ s1 = some (res, s') →
      rIx G.K (.ref p) v H1 fun y H2 => ∃ g sp, y = V.ref g ∧ ((g = f1 ∧ sp = sp0 G n F1) ∨ (g = f2 ∧ sp = sp0 G n F2) ∨ (g = f3 ∧ sp = sp0 G n F3)) ∧ ta σ H2 fun vs H3 => sp vs H3 Q (WE W σ) := fun F f j hF hat ev hcall => by
    subst ev
    refine .inl ⟨_, _, j, .ref f, rfl, rfl, sq1, hat, f, sp0 G n F, rfl, ?_, ?_⟩
    · rcases hF with ⟨a, b⟩ | ⟨a, b⟩ | ⟨a, b⟩
      · exact .inl ⟨a, by rw [b]⟩
      · exact .inr (.inl ⟨a, by rw [b]⟩)
      · exact .inr (.inr ⟨a, by rw [b]⟩)
    · have hn : ∀ ds r, F ds = some r → ds.length = n := by
        rcases hF with ⟨_, b⟩ | ⟨_, b⟩ | ⟨_, b⟩ <;> (subst b; assumption)
      refine re_call hn ha I1 H1 σ ρ s1 st1.ih ro1 sl1 Q res s' hcall ?_
      cases res with
      | ok d => exact fun u I' H' st => hp u I' H' ((st0.trans st1).trans st)
      | er z => exact fun c dd I' H' st => hp c dd I' H' ((st0.trans st1).trans st)
  split at hx
  · cases rv; exact go F1 f1 0 (.inl ⟨rfl, rfl⟩) rfl rfl hx
  · cases rv; exact go F2 f2 1 (.inr (.inl ⟨rfl, rfl⟩)) rfl rfl hx
  · cases rv; exact go F3 f3 2 (.inr (.inr ⟨rfl, rfl⟩)) rfl rfl hx
  · cases hx
end
section
variable {ι : Type} {X : ι → Cx} {G : Gt} {P : Program} {w : World} {mg : Str → Option Value} {base : Heap} {k j n : Nat} {N : List Str} {R : Option Addr} {W : WX}
theorem pd_sel3 (fo : Fo X G P w mg base k N W) {x1 x2 x3 : Str} {f1 f2 f3 : Addr} {fd1 fd2 fd3 : FuncData} {ps1 ps2 ps3 : List Str} {F1 F2 F3 : List D → Option Res} {j1 j2 j3 : Nat} {ei e : Expr} {es : List Expr} {fi : EF} {fa : AF} {p1 p2 p3 p4 p5 pos : Pos}
    (Fn1 : FnOk P w G.K mg base (L2.CX P w) j1 f1 fd1 ps1 (sp0 G n F1)) (Fn2 : FnOk P w G.K mg base (L2.CX P w) j2 f2 fd2 ps2 (sp0 G n F2)) (Fn3 : FnOk P w G.K mg base (L2.CX P w) j3 f3 fd3 ps3 (sp0 G n F3))
    (h1 : ∀ ds r, F1 ds = some r → ds.length = n) (h2 : ∀ ds r, F2 ds = some r → ds.length = n) (h3 : ∀ ds r, F3 ds = some r → ds.length = n) (hj1 : j1 ≤ k) (hj2 : j2 ≤ k) (hj3 : j3 ≤ k)
    (hm1 : mg x1 = some (.ref f1)) (hm2 : mg x2 = some (.ref f2)) (hm3 : mg x3 = some (.ref f3)) (hk1 : PySem.W.keepIn G.K (.ref f1) = true) (hk2 : PySem.W.keepIn G.K (.ref f2) = true) (hk3 : PySem.W.keepIn G.K (.ref f3) = true) (hb1 : Binds G.K fd1 ps1 []) (hb2 : Binds G.K fd2 ps2 []) (hb3 : Binds G.K fd3 ps3 [])
    (hg1 : ∀ i, Gl (X i) x1) (hg2 : ∀ i, Gl (X i) x2) (hg3 : ∀ i, Gl (X i) x3) (hix : PlainIx ei) (hi : PDE X G R W ei fi) (ha : PDA X G R W (e :: es) fa)
    (hs1 : ∀ i, starEach [.Name x1 p1, .Name x2 p2, .Name x3 p3] (X i).env = (false, eval (.Name x1 p1) (X i).env) :: starEach [.Name x2 p2, .Name x3 p3] (X i).env) (hs2 : ∀ i, starEach [.Name x2 p2, .Name x3 p3] (X i).env = (false, eval (.Name x2 p2) (X i).env) :: starEach [.Name x3 p3] (X i).env) (hs3 : ∀ i, starEach [.Name x3 p3] (X i).env = (false, eval (.Name x3 p3) (X i).env) :: starEach [] (X i).env)
    (ht : ∀ i, eval (.Call (.Subscript (.List [.Name x1 p1, .Name x2 p2, .Name x3 p3] p4) ei p5) (e :: es) [] pos) (X i).env = (do callWith pos (← eval (.Subscript (.List [.Name x1 p1, .Name x2 p2, .Name x3 p3] p4) ei p5) (X i).env) [] (backTo pos (starEach (e :: es) (X i).env)) (backToKw pos (keywordEach [] (X i).env))))
    (he : ∀ i, starEach (e :: es) (X i).env = (false, eval e (X i).env) :: starEach es (X i).env) (hpl : ∀ i, (backTo pos (starEach es (X i).env)).any (·.1) = false)
    (d1 : (x1 == ("__debug__" : Str)) = false := by decide) (d2 : (x2 == ("__debug__" : Str)) = false := by decide) (d3 : (x3 == ("__debug__" : Str)) = false := by decide) :
    PDE X G R W (.Call (.Subscript (.List [.Name x1 p1, .Name x2 p2, .Name x3 p3] p4) ei p5) (e :: es) [] pos) (e_sel3 F1 F2 F3 fi fa) := by
  obtain ⟨ti, pi_, ri⟩ := hi
  obtain ⟨ta, pa, ra⟩ := ha
  refine ⟨_, fun i => ?_, re_sel3 (f1 := f1) (f2 := f2) (f3 := f3) h1 h2 h3 ri ra⟩
  refine pe_callE (k := k) (CX := L2.CX P w) (fun f sp hS => ?_) ?_ (fun σ => ?_) (pe_ix (by rw [← fo.hK i]; exact ix_seq) (pe_lst (pa_cons (pe_glob (hg1 i) (by rw [fo.hmg i]; exact hm1) rfl d1) (pa_cons (pe_glob (hg2 i) (by rw [fo.hmg i]; exact hm2) rfl d2) (pa_cons (pe_glob (hg3 i) (by rw [fo.hmg i]; exact hm3) rfl d3) pa_nil (hs3 i)) (hs2 i)) (hs1 i))) (pi_ i) hix) (pa i) (ht i) (he i) (hpl i)
  · rw [fo.hK i, fo.hmg i, fo.hbase i, fo.hP i, fo.hw i]
    rcases hS with ⟨rfl, rfl⟩ | ⟨rfl, rfl⟩ | ⟨rfl, rfl⟩
    · exact ⟨fd1, ps1, Fn1.mono hj1, hk1, hb1⟩
    · exact ⟨fd2, ps2, Fn2.mono hj2, hk2, hb2⟩
    · exact ⟨fd3, ps3, Fn3.mono hj3, hk3, hb3⟩
  · exact fo.room i
  · have := passAt (fo.tk i) σ
    rw [fo.hP i, fo.hw i] at this
    exact this
end
end PL
set_option Elab.async false
set_option linter.all false
set_option maxRecDepth 100000
set_option maxHeartbeats 4000000
/-! sorted(set(xs)): a long list of few unlike numbers, of few unlike tuples of numbers. -/
namespace PL
open PySem PySem.Spec PyProof.Rows L2
open Evl (Ex)
section
variable {P : Program} {w : World} {A : Around} {E : Value → Shared → Prop} {s : Shared}
/-- a set is filled from what is walked: J i tells the set that holds the first i things -/
theorem fill_loop {I : Addr} {fp wr : List Addr} {Gg : Array GenState → Array GenState → Prop} {n : Nat} {Pv : Nat → Value → Prop} {Sn : Nat → Shared → Prop} {Rr : Result → Shared → Prop}
    (Wk : WalksS P w A.in1 I fp wr Gg n Pv Sn) (a : Addr) (hout : a ∉ fp) (J : Nat → Heap → Prop) (mv : ∀ i (t t' : Shared), Moved wr Gg t t' → J i t.heap → J i t'.heap)
    (put : ∀ (i : Nat) (v : Value) (t : Shared) (E2 : Value → Shared → Prop) (Q : Bool → Shared → Prop), i < n → Pv i v → J i t.heap → (∀ b g tk, t.toks ≤ tk → Heap.SameBut a t.heap g → J (i + 1) g → Q b { t with heap := g, toks := tk }) → wpAny (model P w) A.in1 (setAdd a v) Q E2 t) :
    ∀ (k i : Nat) (t : Shared), n - i = k → i ≤ n → Sn i t → J i t.heap → (∀ t', Moved (a :: wr) Gg t t' → J n t'.heap → Rr (.ok (.ret .none)) t') → codeAny (model P w) A (.builtin "set.update.loop" ⟨[.ref a, .ref I], []⟩) Rr t := by
  have hin : ∀ b ∈ wr, b ∈ a :: wr := fun b hb => List.mem_cons_of_mem _ hb
  intro k
  induction k with
  | zero =>
    intro i t hk hi hst hJ hR
    obtain rfl : i = n := by omega
    refine codeAny_builtin F.entry_set_update_loop ?_
    rw [Around.under_plainId F.plain_set_update_loop _]
    show wpAny _ A.in1 (pyNext (.ref I) >>= fun _ => _) _ _ t
    refine wpAny_bind (Wk.done t _ _ hst fun t' hm => ?_)
    show wpAny _ A.in1 (ret Value.none) _ _ t'
    exact wpAny_pure (hR t' (hm.mono hin) (mv _ _ _ hm hJ))
  | succ k ih =>
    intro i t hk hi hst hJ hR
    have hlt : i < n := by omega
    refine codeAny_builtin F.entry_set_update_loop ?_
    rw [Around.under_plainId F.plain_set_update_loop _]
    show wpAny _ A.in1 (pyNext (.ref I) >>= fun _ => _) _ _ t
    refine wpAny_bind (Wk.item i t _ _ hlt hst fun v t' hP hst' hm => ?_)
    have hJ' := mv _ _ _ hm hJ
    show wpAny _ A.in1 (holding [v] (setAdd a v) >>= fun _ => _) _ _ t'
    refine wpAny_bind (wpAny_holding (put i v t' _ _ hlt hP hJ' fun b g tk htk sb hJ2 => ?_))
    refine wpAny_pure ⟨plainId_quiet F.plain_set_update_loop _, ih (i + 1) _ (by omega) hlt (Wk.frame _ t' _ _ hst' htk fun b hb o e => ?_) hJ2 fun t2 hm2 hJn => ?_⟩
    · rw [sb.2 b (fun z : b = a => hout (by rw [← z]; exact hb))]; exact e
    · refine hR t2 (Moved.trans Wk.gtrans ((hm.mono hin).then_heap htk fun b o hb e => ?_) hm2) hJn
      rw [sb.2 b (fun z : b = a => hb (by rw [z]; exact List.mem_cons_self))]; exact e
/-- set(xs), xs a list -/
theorem set_of_list {l : Addr} {items : Array Value} (J : Nat → Heap → Prop) {Q : Value → Shared → Prop} (hh : A.handled = none) (hl : s.heap.IsList l items)
    (h0 : ∀ g, (∀ b o, s.heap.get? b = some o → g.get? b = some o) → g.get? s.heap.objs.size = some (set0 w) → J 0 g)
    (mv : ∀ i (g g' : Heap), (∀ b o, b ≠ s.heap.objs.size + 1 → g.get? b = some o → g'.get? b = some o) → J i g → J i g')
    (put : ∀ (i : Nat) (v : Value) (t : Shared) (E2 : Value → Shared → Prop) (Q : Bool → Shared → Prop), items[i]? = some v → J i t.heap → (∀ b g tk, t.toks ≤ tk → Heap.SameBut s.heap.objs.size t.heap g → J (i + 1) g → Q b { t with heap := g, toks := tk }) → wpAny (model P w) A.in1.in1.in1 (setAdd s.heap.objs.size v) Q E2 t)
    (h : ∀ g tk, J items.size g → (∀ b o, s.heap.get? b = some o → g.get? b = some o) → Q (.ref s.heap.objs.size) { s with heap := g, toks := tk }) :
    wpAny (model P w) A (call (.type "set") [.ref l]) Q E s := by
  obtain ⟨c, tl, hmro⟩ := F.called_set.mro
  have hmade := F.called_set.made
  have hsub := F.called_set.sub
  have h1 := F.called_set.notType
  have h2 := F.called_set.canCreate
  have hct := F.typeCall_set_1 (.ref l)
  refine wpAny_call (codeAny_of_tree ?_)
  show wpAny _ _ (callAny (.type "set") _) _ _ _
  refine wpAny_pure ⟨Code.quiet_builtin _ (by decide +kernel), codeAny_builtin F.entry_type_call ?_⟩
  rw [Around.under_plain (weight_type_call_type "set" [.ref l] []) rfl]
  repeat (any_goals (first | assumption | wp_step))
  refine codeAny_mono (code_set_led1 (.ref l) (E := E) (Q₁ := fun v t1 => v = .ref s.heap.objs.size ∧ t1 = { s with heap := s.heap.push (set0 w) }) ⟨rfl, rfl⟩) fun r t1 hr => ?_
  cases r with
  | error e => exact hr
  | ok fl =>
    cases fl with
    | ret v =>
      obtain ⟨rfl, rfl⟩ := hr
      have hS : (s.heap.push (set0 w)).get? s.heap.objs.size = some (set0 w) := Heap.get?_push_size _ rfl
      have hT : Shared.TypeIs { s with heap := s.heap.push (set0 w) } (.ref s.heap.objs.size) "set" := ⟨_, hS, rfl⟩
      have hli := F.called_set.init.lookup
      have hbi := F.called_set.init.bind (.ref s.heap.objs.size)
      repeat (any_goals (first | assumption | wp_step))
      refine codeAny_mono (codeAny_call_builtin (R := wants (fun v t2 => v = .none ∧ ∃ g tk, t2 = { s with heap := g, toks := tk } ∧ J items.size g ∧ ∀ b o, s.heap.get? b = some o → g.get? b = some o) E) F.called_set.init.plain F.entry_set_init (check_set_init_1 hT ?_)) fun r2 t2 hr2 => ?_
      · obtain ⟨⟨ocls, odict, odata, oslots⟩, hol, hcl, nl, hdl⟩ := id hl
        simp only at hcl hdl
        subst hcl; subst hdl
        have hol' := Heap.get?_push_of_some (set0 w) hol
        have hts := F.sub_list_set
        have htf := F.sub_list_frozenset
        have hne : (Value.type "list" == Value.type "dict") = false := by decide
        have hl1 : (s.heap.push (set0 w)).IsList l items := ⟨_, hol', rfl, nl, rfl⟩
        unfold Builtin.«set.__init__» noKeywords Builtin.Frozenset.updateFrom
        generalize hPI : pyIter = PI
        wp_walk
        subst hPI
        refine wpAny_pyIter_list hl1 (wpAny_bind (wpAny_runValue ?_))
        have hlt : l < s.heap.objs.size := Heap.lt_size hol
        have hh3 : A.in1.in1.in1.handled = none := by simp [hh]
        have hsz : (s.heap.push (set0 w)).objs.size = s.heap.objs.size + 1 := Heap.size_push ..
        have hneI : l ≠ (s.heap.push (set0 w)).objs.size := by rw [hsz]; exact Nat.ne_of_lt (Nat.lt_succ_of_lt hlt)
        have hout : s.heap.objs.size ∉ [(s.heap.push (set0 w)).objs.size, l] := fun z => by
          rw [hsz] at z
          rcases List.mem_cons.mp z with z | z
          · exact Nat.ne_of_lt (Nat.lt_succ_self _) z
          · exact Nat.ne_of_gt hlt (List.mem_singleton.mp z)
        have hfresh := Heap.get?_push_of_some (h := s.heap.push (set0 w)) { cls := .type "list_iterator", data := .fields #[.ref l, .int 0 0] } hS
        refine fill_loop ((Walks.list hh3 _ l hneI items).toS) s.heap.objs.size hout (fun i g => J i g ∧ ∀ b o, s.heap.get? b = some o → g.get? b = some o) (fun i t t' hm hj => ⟨mv i _ _ (fun b o hb e => hm.heap b o (fun z => hb (by rw [List.mem_singleton.mp z, hsz])) e) hj.1, fun b o e => hm.heap b o (fun z => ?_) (hj.2 b o e)⟩) (fun i v t E2 Q2 hi hP hj q => put i v t E2 Q2 hP hj.1 fun b g tk htk sb hj2 => q b g tk htk sb ⟨hj2, fun c o e => (sb.2 c (fun z => ?_)).trans (hj.2 c o e)⟩) (items.size - 0) 0 _ (by omega) (Nat.zero_le _)
          ⟨⟨_, Heap.get?_push_size _ rfl, rfl, rfl⟩, hl1.push _⟩ ⟨h0 _ (fun b o e => Heap.get?_push_of_some _ (Heap.get?_push_of_some _ e)) hfresh, fun b o e => Heap.get?_push_of_some _ (Heap.get?_push_of_some _ e)⟩ fun t2 hm hj => ?_
        · have := Heap.lt_size e
          rw [List.mem_singleton.mp z, hsz] at this
          exact absurd this (Nat.not_lt_of_le (Nat.le_succ _))
        · have := Heap.lt_size e
          rw [z] at this
          exact absurd this (Nat.lt_irrefl _)
        · obtain ⟨g, gs, dr, tk, os⟩ := t2
          obtain rfl : gs = s.gens := hm.gens
          obtain rfl : dr = s.drawn := hm.drawn
          obtain rfl : os = s.os := hm.os
          show wpAny _ _ _ _ _ _
          refine wpAny_pure ?_
          show wpAny _ _ (ret Value.none) _ _ _
          exact wpAny_pure ⟨rfl, g, tk, rfl, hj.1, hj.2⟩
      · cases r2 with
        | error e => exact hr2
        | ok fl2 =>
          cases fl2 with
          | ret v2 =>
            obtain ⟨rfl, g, tk, rfl, hj, hk⟩ := hr2
            repeat (any_goals (first | assumption | wp_step))
            exact h _ _ hj hk
          | _ => exact hr2.elim
    | _ => exact hr.elim
end
end PL
set_option Elab.async false
set_option linter.all false
set_option maxRecDepth 100000
set_option maxHeartbeats 4000000
namespace PL
open PySem PySem.Spec PyProof.Rows L2
open Evl (Ex)
/-! ### the numbers in the set -/
section
variable {P : Program} {w : World} {A : Around} {E : Value → Shared → Prop} {s : Shared}
/-- the set of the first i numbers -/
def NumJ (w : World) (a : Addr) (ns : List Int) (i : Nat) (g : Heap) : Prop := SetR w g a (fun k => decide (k ∈ ns.take i)) (ndup (ns.take i)).length
theorem ndup_snoc {α : Type} [DecidableEq α] (l : List α) (x : α) : (ndup (l ++ [x])).length = if x ∈ l then (ndup l).length else (ndup l).length + 1 := by
  have hp : ((ndup (l ++ [x]))).Perm (if x ∈ l then ndup l else ndup l ++ [x]) := by
    refine (List.perm_ext_iff_of_nodup (nodup_ndup _) ?_).mpr fun y => ?_
    · by_cases c : x ∈ l
      · rw [if_pos c]; exact nodup_ndup _
      · rw [if_neg c]
        refine List.nodup_append.mpr ⟨nodup_ndup _, by simp, fun a ha b hb => ?_⟩
        rw [List.mem_singleton.mp hb]
        exact fun e => c (mem_ndup.mp (e ▸ ha))
    · rw [mem_ndup, List.mem_append, List.mem_singleton]
      by_cases c : x ∈ l
      · rw [if_pos c, mem_ndup]
        exact ⟨fun z => z.elim id fun e => e ▸ c, .inl⟩
      · rw [if_neg c, List.mem_append, List.mem_singleton, mem_ndup]
  rw [hp.length_eq]
  by_cases c : x ∈ l
  · rw [if_pos c, if_pos c]
  · rw [if_neg c, if_neg c, List.length_append]; rfl
theorem ndup_sub {α : Type} [DecidableEq α] {l m : List α} (h : ∀ x ∈ l, x ∈ m) : (ndup l).length ≤ (ndup m).length := by
  have key : ∀ (a b : List α), a.Nodup → (∀ x ∈ a, x ∈ b) → a.length ≤ b.length := by
    intro a
    induction a with
    | nil => intro b _ _; exact Nat.zero_le _
    | cons x a ih =>
      intro b hn hs
      obtain ⟨h1, h2⟩ := List.nodup_cons.mp hn
      have hx := hs x List.mem_cons_self
      have := ih (b.erase x) h2 fun y hy => by
        have hne : y ≠ x := fun e => h1 (e ▸ hy)
        exact (List.mem_erase_of_ne hne).mpr (hs y (List.mem_cons_of_mem _ hy))
      rw [List.length_erase_of_mem hx] at this
      have := List.length_pos_of_mem hx
      rw [List.length_cons]; omega
  exact key _ _ (nodup_ndup l) fun x hx => mem_ndup.mpr (h x (mem_ndup.mp hx))
theorem take_next2 {α : Type} {l : List α} {i : Nat} {x : α} (h : l[i]? = some x) : l.take (i + 1) = l.take i ++ [x] := by
  rw [List.take_succ, h]; rfl
theorem set_of_nums {l : Addr} {items : Array Value} {ns : List Int} {Q : Value → Shared → Prop} (hh : A.handled = none) (hl : s.heap.IsList l items) (hi : IntsAre items.toList ns) (hfew : (ndup ns).length < 64)
    (h : ∀ g tk, SetR w g s.heap.objs.size (fun k => decide (k ∈ ns)) (ndup ns).length → (∀ b o, s.heap.get? b = some o → g.get? b = some o) → Q (.ref s.heap.objs.size) { s with heap := g, toks := tk }) :
    wpAny (model P w) A (call (.type "set") [.ref l]) Q E s := by
  have hlen : items.size = ns.length := by rw [← Array.length_toList]; exact IntsAre.length hi
  refine set_of_list (NumJ w s.heap.objs.size ns) hh hl (fun g hk hg => ?_) (fun i g g' hk hj => ?_) (fun i v t E2 Q2 hv hj q => ?_) fun g tk hj hk => ?_
  · unfold NumJ
    refine ⟨_, #[], 0, _, hg, ⟨rfl, rfl, rfl⟩, rfl, fun e he => by simp at he, by simp, fun k => by simp, by decide, by rfl, by simp [ndup], List.Pairwise.nil, ?_⟩
    show _ ∨ (!w.params.followText "set-order") = true
    cases w.params.followText "set-order"
    · exact .inr rfl
    · exact .inl rfl
  · obtain ⟨o, es, ep, t, ho, r⟩ := hj
    exact ⟨o, es, ep, t, hk _ o (Nat.ne_of_lt (Nat.lt_succ_self _)) ho, r⟩
  · obtain ⟨tk, rfl⟩ := hi.int_at i v (by rw [Array.getElem?_toList]; exact hv)
    have hlt : i < ns.length := by
      have := Array.getElem?_eq_some_iff.mp hv
      obtain ⟨h1, _⟩ := this
      omega
    have hget : ns[i]? = some (ns.getD i 0) := by rw [List.getD_eq_getElem?_getD, List.getElem?_eq_getElem hlt]; rfl
    unfold setAdd
    refine wpAny_holding ?_
    refine wpAny_bind ((intKind P w).pyHash (k := ns.getD i 0) (intKind_is _ _ _ _) ?_)
    have hsub := ndup_sub (l := ns.take i) (m := ns) fun x hx => List.mem_of_mem_take hx
    refine setR_add_hashed (s := { t with toks := t.toks + 1 }) hj (by unfold scanBound; omega) fun g sb r => ?_
    refine q _ g (t.toks + 1) (Nat.le_succ _) sb ?_
    unfold NumJ
    rw [take_next2 hget, ndup_snoc]
    have e1 : (if decide (ns.getD i 0 ∈ ns.take i) = true then (ndup (ns.take i)).length else (ndup (ns.take i)).length + 1) = if ns.getD i 0 ∈ ns.take i then (ndup (ns.take i)).length else (ndup (ns.take i)).length + 1 := by
      by_cases c : ns.getD i 0 ∈ ns.take i
      · rw [if_pos (decide_eq_true c), if_pos c]
      · rw [if_neg (by simpa using c), if_neg c]
    rw [← e1]
    refine SetR.congr r fun k => ?_
    rw [Bool.eq_iff_iff]
    simp
  · rw [hlen] at hj
    unfold NumJ at hj
    rw [List.take_length] at hj
    exact h g tk hj hk
end
/-! ### sorted(set(xs)), xs numbers -/
def rSrtSetI (K : PySem.W.Frag) : V → Hp → VK → Prop := fun x H Q => ∃ (l : Addr) (ns : List Int), x = .ref l ∧ SqL K H l (ns.map V.int) ∧ (ndup ns).length < 64 ∧
  ∀ (ms : List Int) (p : Addr), ms.Pairwise (· < ·) → (∀ k, k ∈ ms ↔ k ∈ ns) → H p = none → Q (.ref p) (upd H p (.lst (ms.map V.int)))
section
variable {X : Cx}
theorem pe_srtSetI {a : Expr} {ta : TE} {p p2 q pos : Pos} (hc : X.calm = true) (hg : Gl X "sorted") (hm : X.mg "sorted" = none) (hg2 : Gl X "set") (hm2 : X.mg "set" = none) (ha : PE X a ta)
    (na : starEach [a] X.env = (false, eval a X.env) :: starEach [] X.env) : PE X (.Call (.Name "sorted" p) [.Call (.Name "set" p2) [a] [] q] [] pos) (tUn (rSrtSetI X.K) ta) := by
  refine ⟨fun pins s σ H Q I h => Call_ (ld_blt I hg hm (by decide +kernel : bootBuiltins "sorted" = some (.builtin "sorted")) (callWith_builtin1 (args_cons ?_ rfl) rfl rfl))⟩
  refine Call_ (ld_blt I hg2 hm2 boot_set (callWith_type1 (args_cons (thn (ha.run pins s σ H _ I h) fun v s1 ⟨x, H1, I1, r1, q1⟩ => args_nil ?_) na) na rfl))
  obtain ⟨l, ns, rfl, hq, hfew, q1⟩ := q1
  cases r1
  obtain ⟨its, rv, pl, hz⟩ := I1.list hq
  refine set_of_nums (I1.ok.hd hc) pl.isList (by simpa using intsAre_of rv) hfew fun g tk R kp => args_nil ?_
  have I2 : Inv X pins σ H1 { s1 with heap := g, toks := tk } := I1.kept kp
  refine sorted_set (s := { s1 with heap := g, toks := tk }) R (I2.ok.hd hc) hfew fun s' p out c ms k gg o hp hgp hi hs hmm hl => ?_
  have hlen : (ms.map V.int).length ≤ sizeLine := by rw [List.length_map, hl, sizeLine_eq]; omega
  have hn : H1 p = none := I2.hok.fresh hp
  have J : Inv X pins σ (upd H1 p (.lst (ms.map V.int))) s' :=
    I2.call' (ch := []) o (Un.laid k hp hn) (I2.hok.laid k hp ⟨hlen, out.toList, c, vals_of_ints hi, hgp⟩) (by rw [gg]; exact I2.bare) (fun _ z => nomatch z)
  exact ⟨.ref p, _, J, rfl, q1 ms p hs (fun k => by rw [hmm k]; simp) hn⟩
end
def srtSetI : D → Option D
  | .lst xs => (intsOf xs).bind fun ns => if (ndup ns).length < 64 then some (.lst (((ndup ns).mergeSort fun a b => decide (a ≤ b)).map .int)) else none
  | _ => none
section
variable {G : Gt}
theorem reps_intsB {I : Hp} : ∀ {vs : List V} {ds : List D} {is : List Int}, Reps G I vs ds → intsOf ds = some is → vs = is.map V.int
  | _, _, is, .nil, h => by simp [intsOf] at h; subst h; rfl
  | _, _, is, .cons r t, h => by
    cases r with
    | int i =>
      simp only [intsOf] at h
      obtain ⟨js, h1, h2⟩ := Option.map_eq_some_iff.mp h
      subst h2
      rw [reps_intsB t h1]; rfl
    | _ => simp [intsOf] at h
theorem reps_of_ints {I : Hp} : ∀ is : List Int, Reps G I (is.map V.int) (is.map D.int)
  | [] => .nil
  | i :: is => .cons (.int i) (reps_of_ints is)
theorem sorted_one {ms ns : List Int} (h1 : ms.Pairwise (· < ·)) (h2 : ∀ k, k ∈ ms ↔ k ∈ ns) : (ndup ns).mergeSort (fun a b => decide (a ≤ b)) = ms := by
  have hnd : ms.Nodup := h1.imp fun h e => by omega
  have hp : ((ndup ns).mergeSort fun a b => decide (a ≤ b)).Perm ms := (List.mergeSort_perm _ _).trans ((List.perm_ext_iff_of_nodup (nodup_ndup _) hnd).mpr fun k => by rw [mem_ndup, h2 k])
  refine List.Perm.eq_of_pairwise (le := fun a b => a ≤ b) (fun a b _ _ x y => by omega) ?_ (h1.imp fun h => by omega) hp
  have := List.pairwise_mergeSort (le := fun a b : Int => decide (a ≤ b)) (fun a b c x y => by simp at x y ⊢; omega) (fun a b => by simp; omega) (ndup ns)
  exact this.imp fun h => by simpa using h
theorem uns_srtSetI : UnS G (rSrtSetI G.K) srtSetI := fun I H x a d e rx ho Q hq => by
  cases rx with
  | @lst b vs ds h h' r l =>
    obtain ⟨ns, h1, h2⟩ := Option.bind_eq_some_iff.mp ho
    split at h2
    · rename_i hlt
      cases h2
      rw [reps_intsB r h1] at h
      refine ⟨b, ns, rfl, Evl.ex_l e h, hlt, fun ms p hs hmm hp => ?_⟩
      rw [sorted_one hs hmm] at hq
      have hle : (ms.map V.int).length ≤ sizeLine := by
        have hnd : ms.Nodup := hs.imp fun h e => by omega
        have := ((List.perm_ext_iff_of_nodup hnd (nodup_ndup ns)).mpr fun k => by rw [mem_ndup, hmm k]).length_eq
        rw [List.length_map, sizeLine_eq]; omega
      have n := fun R => new_lst (G := G) (R := R) e hp (reps_of_ints ms) hle
      exact hq _ _ _ (n none).1 (n none).2
    · cases h2
  | _ => cases ho
variable {ι : Type} {X : ι → Cx} {P : Program} {w : World} {mg : Str → Option Value} {base : Heap} {k : Nat} {N : List Str} {W : WX} {R : Option Addr}
theorem pd_srtSetI {a : Expr} {fa : EF} {p p2 q pos : Pos} (fo : Fo X G P w mg base k N W) (hc : ∀ i, (X i).calm = true) (hg : ∀ i, Gl (X i) "sorted") (hm : mg "sorted" = none) (hg2 : ∀ i, Gl (X i) "set") (hm2 : mg "set" = none) (h : PDE X G R W a fa) (hs : ∀ i, starEach [a] (X i).env = (false, eval a (X i).env) :: starEach [] (X i).env) :
    PDE X G R W (.Call (.Name "sorted" p) [.Call (.Name "set" p2) [a] [] q] [] pos) (e_un srtSetI fa) :=
  let ⟨_, pa, ra⟩ := h
  ⟨_, fun i => by have := pe_srtSetI (p := p) (p2 := p2) (q := q) (pos := pos) (hc i) (hg i) (by rw [fo.hmg i]; exact hm) (hg2 i) (by rw [fo.hmg i]; exact hm2) (pa i) (hs i); rw [fo.hK i] at this; exact this, re_un uns_srtSetI ra⟩
end
end PL
set_option Elab.async false
set_option linter.all false
set_option maxRecDepth 100000
set_option maxHeartbeats 4000000
/-! Dicts whose keys are numbers, texts: a store, get, ==, list, sorted. list.count. -/
namespace PL
open PySem PySem.Spec PyProof.Rows L2
open Evl (Ex)
/-- what a key leads to -/
def getK (ds : List (D × D)) (k : D) : Option D := (ds.find? fun p => decide (keyO p.1 = keyO k)).map (·.2)
section
variable {G : Gt} {R : Option Addr} {W : WX}
theorem RepK.val {H : Hp} (k : Key) : ∀ {xs : List (Key × V)} {ds : List (D × D)}, RepK G H xs ds → (∀ d, getK ds (keyD k) = some d → ∃ v, valV xs k = some v ∧ Rep G H v d) ∧ (getK ds (keyD k) = none → valV xs k = none)
  | _, _, .nil => ⟨fun d h => by simp [getK] at h, fun _ => rfl⟩
  | _, _, .cons (k := j) (v := v) (d := d) r t => by
    obtain ⟨h1, h2⟩ := RepK.val k t
    unfold getK valV at h1 h2 ⊢
    rw [List.find?_cons, List.find?_cons]
    have e : decide (keyO (keyD j) = keyO (keyD k)) = decide (j = k) := by
      rw [keyO_D, keyO_D]
      exact decide_eq_decide.mpr ⟨fun z => Option.some.inj z, fun z => by rw [z]⟩
    by_cases c : j = k
    · rw [e, decide_eq_true c]
      simp only [decide_eq_true c]
      exact ⟨fun d' h => ⟨v, rfl, by cases h; exact r⟩, fun h => by cases h⟩
    · rw [e, decide_eq_false c]
      simp only [decide_eq_false c]
      exact ⟨h1, h2⟩
/-! ### x[k] = v -/
def s_kset (i : Nat) (fk fv : EF) : SF := fun ρ s => match ceAt ρ i with
  | some (.dct ds) => bE (fv ρ s) (.er · ρ) fun v s1 => bE (fk ρ s1) (.er · ρ) fun k s2 => if (keyO k).isSome = true ∧ ds.length < sizeLine then setS ρ i (.ce (.dct (storeK ds k v))) s2 else none
  | _ => none
theorem putK_len (xs : List (Key × V)) (k : Key) (v : V) : (putK xs k v).length ≤ xs.length + 1 := by
  unfold putK
  split
  · rw [List.length_map]; omega
  · rw [List.length_append]; simp
theorem rs_kset {i : Nat} {te ti : TE} {fe fx : EF} (he : RE G R W te fe) (hx : RE G R W ti fx) : RS G R W (tAsg te (gSub (tVar i) ti rSetD)) (s_kset i fx fe) := fun ps I0 H0 I H σ ρ s x Dn o s' hf hp => by
  unfold s_kset at hf
  split at hf
  · rename_i ds q
    obtain ⟨p, a1, a2, a3, a4, xs, a5, a6, a7⟩ := ce_at x q
    refine rs_eval he x hf hp fun d s1 h1 u I1 H1 st1 x1 ru => ?_
    refine ⟨.ref p, a2, rs_eval hx x1 h1 hp fun z s2 h2 w I2 H2 st2 x2 rw_ => ?_⟩
    split at h2
    · rename_i hz
      obtain ⟨_, rfl, rfl⟩ := setS_cases h2
      obtain ⟨k, hk⟩ := Option.isSome_iff_exists.mp hz.1
      obtain ⟨rfl, rfl⟩ := keyO_rep rw_ hk
      have h5 : H2 p = some (.dK xs) := st2.fr p _ (st1.fr p _ a5 a4) a4
      have r2 := (a6.mono st1.ii).mono st2.ii
      have hl : xs.length < sizeLine := by rw [a6.length]; exact hz.2
      refine ⟨p, _, rfl, DPut.k h5 hl, ?_⟩
      have hle := putK_len xs k u
      exact hp _ I2 _ (x2.upd a1 a2 ⟨_, upd_same, RepK.put (ru.mono st2.ii) r2, by omega⟩)
    · cases h2
  · cases hf
/-! ### x.get(k, d) -/
def e_get2 (fo fk fd : EF) : EF := fun ρ s => bE (fo ρ s) .er fun x s1 => match x with
  | .dct ds => bE (fk ρ s1) .er fun y s2 => bE (fd ρ s2) .er fun z s3 => okR (if (keyO y).isSome = true then some ((getK ds y).getD z) else none) s3
  | _ => none
theorem re_get2 {td ty tx : TE} {fo fk fd : EF} (ho : RE G R W td fo) (hk : RE G R W ty fk) (hd : RE G R W tx fd) : RE G R W (tDGet2 td ty tx) (e_get2 fo fk fd) := fun I H σ ρ s e ro sl Q res s' hf hp => by
  refine re_seq ho e ro sl hf (fun x ex => by subst ex; exact hp) fun x s1 h1 v I1 H1 st1 ro1 sl1 rv => ?_
  split at h1
  · rename_i ds
    cases rv with
    | @dK a kvs _ ha rk l =>
      refine ⟨a, rfl, .inl ⟨kvs, .inl (st1.ih _ _ ha)⟩, ?_⟩
      refine re_seq hk st1.ih ro1 sl1 h1 (fun z ez => by subst ez; exact fun c dd I' H' st => hp c dd I' H' (st1.trans st)) fun y s2 h2 u I2 H2 st2 ro2 sl2 ru => ?_
      refine re_seq hd st2.ih ro2 sl2 h2 (fun z ez => by subst ez; exact fun c dd I' H' st => hp c dd I' H' ((st1.trans st2).trans st)) fun z s3 h3 w I3 H3 st3 ro3 sl3 rw_ => ?_
      obtain ⟨d, e1, e2, e3⟩ := okR_cases h3
      subst e2; subst e3
      split at e1
      · rename_i hs
        cases e1
        obtain ⟨k, hk'⟩ := Option.isSome_iff_exists.mp hs
        obtain ⟨rfl, rfl⟩ := keyO_rep ru hk'
        have ha3 : I3 a = some (.dK kvs) := st3.ii _ _ (st2.ii _ _ ha)
        have rk3 := (rk.mono st2.ii).mono st3.ii
        refine ⟨_, DGet.k (st3.ih _ _ ha3), ?_⟩
        refine hp _ I3 H3 ((st1.trans st2).trans st3) ro3 ?_
        obtain ⟨g1, g2⟩ := RepK.val k rk3
        cases q : getK ds (keyD k) with
        | none => rw [g2 q]; exact rw_
        | some d =>
          obtain ⟨v, q1, q2⟩ := g1 d q
          rw [q1]; exact q2
      · cases e1
    | _ => trivial
  · cases h1
/-! ### xs.count(k) -/
def e_cnt (fo fe : EF) : EF := fun ρ s => bE (fo ρ s) .er fun x s1 => match x with
  | .lst xs => bE (fe ρ s1) .er fun y s2 => match y with
    | .int k => okR ((intsOf xs).map fun ns => .int ((ns.count k : Nat) : Int)) s2
    | _ => none
  | _ => none
theorem re_cnt {to te : TE} {fo fe : EF} (ho : RE G R W to fo) (he : RE G R W te fe) : RE G R W (tBM G.K "list" (rCntI G.K) to (tCons te tNil)) (e_cnt fo fe) := fun I H σ ρ s e ro sl Q res s' hf hp => by
  refine re_seq ho e ro sl hf (fun x ex => by subst ex; exact hp) fun x s1 h1 v I1 H1 st1 ro1 sl1 rv => ?_
  split at h1
  · rename_i xs
    cases rv with
    | @lst a vs _ hq ha r l =>
      refine ⟨.inl ⟨rfl, vs, Evl.ex_l st1.ih hq⟩, ?_⟩
      refine re_seq he st1.ih ro1 sl1 h1 (fun z ez => by subst ez; exact fun c dd I' H' st => hp c dd I' H' (st1.trans st)) fun y s2 h2 u I2 H2 st2 ro2 sl2 ru => ?_
      split at h2
      · rename_i k
        cases ru
        obtain ⟨d, e1, e2, e3⟩ := okR_cases h2
        subst e2; subst e3
        obtain ⟨ns, n1, n2⟩ := Option.map_eq_some_iff.mp e1
        subst n2
        have hv := Reps.ints r n1
        subst hv
        exact ⟨a, ns, k, rfl, rfl, Evl.ex_l st2.ih (Evl.ex_l st2.ii hq), hp _ I2 H2 (st1.trans st2) ro2 (.int _)⟩
      · cases h2
    | _ => trivial
  · cases h1
/-! ### == of two -/
def isInt : D → Bool
  | .int _ => true
  | _ => false
def sameK (xs ys : List (D × D)) : Bool := decide (xs.length = ys.length) && xs.all fun p => isInt p.2 && (match getK ys p.1, p.2 with | some (.int i), .int j => decide (i = j) | _, _ => false)
def eqKD : D → D → Option D
  | .dct xs, .dct ys => if sameK xs ys = true then some (.bl true) else none
  | _, _ => none
def neKD : D → D → Option D
  | .dct xs, .dct ys => if sameK xs ys = true then some (.bl false) else none
  | _, _ => none
theorem sameK_all {I : Hp} {ls : List (Key × V)} {ys : List (D × D)} (rb : RepK G I ls ys) : ∀ {ks : List (Key × V)} {xs : List (D × D)}, RepK G I ks xs → (∀ p ∈ xs, (isInt p.2 && (match getK ys p.1, p.2 with | some (.int i), .int j => decide (i = j) | _, _ => false)) = true) → ∀ p ∈ ks, valV ls p.1 = some p.2 ∧ flatB p.2 = true
  | _, _, .nil, _ => fun p hp => nomatch hp
  | _, _, .cons (k := j) (d := d) r t, h2 => fun p hp => by
    rcases List.mem_cons.mp hp with rfl | hp
    · have := h2 (keyD j, d) List.mem_cons_self
      rw [Bool.and_eq_true] at this
      obtain ⟨a1, a2⟩ := this
      cases d with
      | int i =>
        cases r
        obtain ⟨g1, _⟩ := RepK.val j rb
        simp only at a2
        cases q : getK ys (keyD j) with
        | none => rw [q] at a2; cases a2
        | some e =>
          rw [q] at a2
          cases e with
          | int i2 =>
            obtain ⟨u, u1, u2⟩ := g1 _ q
            cases u2
            have : i2 = i := of_decide_eq_true a2
            subst this
            exact ⟨u1, rfl⟩
          | _ => cases a2
      | _ => cases a1
    · exact sameK_all rb t (fun q hq => h2 q (List.mem_cons_of_mem _ hq)) p hp
theorem sameK_rep {I : Hp} {ks ls : List (Key × V)} {xs ys : List (D × D)} (ra : RepK G I ks xs) (rb : RepK G I ls ys) (h : sameK xs ys = true) : ks.length = ls.length ∧ ∀ p ∈ ks, valV ls p.1 = some p.2 ∧ flatB p.2 = true := by
  unfold sameK at h
  rw [Bool.and_eq_true, decide_eq_true_eq, List.all_eq_true] at h
  exact ⟨by rw [ra.length, rb.length]; exact h.1, sameK_all rb ra h.2⟩
theorem ops_eqK : OpS G rEqDA eqKD := fun I H x y a b d e rx ry ho Q hq => by
  cases rx with
  | @dK p ks xs ha ra la =>
    cases ry with
    | @dK q ls ys hb rb lb =>
      have ho' : (if sameK xs ys = true then some (D.bl true) else none) = some d := ho
      split at ho'
      · rename_i hs
        cases ho'
        obtain ⟨h1, h2⟩ := sameK_rep ra rb hs
        exact ⟨p, q, ks, ls, rfl, rfl, e _ _ ha, e _ _ hb, h1, h2, hq _ I H (Step.refl e) (.bl _)⟩
      · cases ho'
    | _ => cases ho
  | _ => cases ho
theorem ops_neK : OpS G rNeDA neKD := fun I H x y a b d e rx ry ho Q hq => by
  cases rx with
  | @dK p ks xs ha ra la =>
    cases ry with
    | @dK q ls ys hb rb lb =>
      have ho' : (if sameK xs ys = true then some (D.bl false) else none) = some d := ho
      split at ho'
      · rename_i hs
        cases ho'
        obtain ⟨h1, h2⟩ := sameK_rep ra rb hs
        exact ⟨p, q, ks, ls, rfl, rfl, e _ _ ha, e _ _ hb, h1, h2, hq _ I H (Step.refl e) (.bl _)⟩
      · cases ho'
    | _ => cases ho
  | _ => cases ho
/-! ### list, sorted -/
def keysI : List (D × D) → Option (List Int)
  | [] => some []
  | (.int i, _) :: r => (keysI r).map (i :: ·)
  | _ => none
def listK : List D → Option D
  | [.dct ds] => some (.lst (ds.map (·.1)))
  | _ => none
def sortedK : List D → Option D
  | [.dct ds] => (keysI ds).bind fun ks => if ks.length < 64 ∧ ks.Nodup then some (.lst ((ks.mergeSort fun a b => decide (a ≤ b)).map .int)) else none
  | _ => none
theorem repK_keys {I : Hp} : ∀ {kvs : List (Key × V)} {ds : List (D × D)}, RepK G I kvs ds → Reps G I (kvs.map fun kv => kV kv.1) (ds.map (·.1))
  | _, _, .nil => .nil
  | _, _, .cons (k := j) r t => by
    rw [List.map_cons, List.map_cons]
    refine .cons ?_ (repK_keys t)
    cases j with
    | inl i => exact .int i
    | inr x => exact .str x
theorem lss_listK : LsS G (fun xs H Q => ∃ (a : Addr) (kvs : List (Key × V)), xs = [.ref a] ∧ Rd H a (.dK kvs) ∧ ∀ p, H p = none → Q (.ref p) (upd H p (.lst (kvs.map fun kv => kV kv.1)))) listK := fun I H xs as d e rs ho Q hq => by
  match as, ho with
  | [.dct ds], ho =>
    cases ho
    obtain ⟨v, rfl, rv⟩ := reps1 rs
    cases rv with
    | @dK a kvs _ ha r l =>
      refine ⟨a, kvs, rfl, .inl (e _ _ ha), fun p hp => ?_⟩
      have n := fun R => new_lst (R := R) e hp (repK_keys r) (by rw [List.length_map]; exact l)
      exact hq _ _ _ (n none).1 (n none).2
theorem repK_ints {I : Hp} : ∀ {kvs : List (Key × V)} {ds : List (D × D)} {ks : List Int}, RepK G I kvs ds → keysI ds = some ks → kvs.map (·.1) = ks.map Sum.inl
  | _, _, ks, .nil, h => by cases h; rfl
  | _, _, ks, .cons (k := j) r t, h => by
    cases j with
    | inl i =>
      have h' : (keysI _).map (i :: ·) = some ks := h
      obtain ⟨js, h1, h2⟩ := Option.map_eq_some_iff.mp h'
      subst h2
      rw [List.map_cons, List.map_cons, repK_ints t h1]
    | inr x => cases h
theorem lss_sortedK : LsS G (fun xs H Q => ∃ (a : Addr) (kvs : List (Key × V)) (ks : List Int), xs = [.ref a] ∧ Rd H a (.dK kvs) ∧ kvs.map (·.1) = ks.map Sum.inl ∧ ks.length < 64 ∧ ∀ (ys : List Int) (p : Addr), ys.Perm ks → ys.Pairwise (· ≤ ·) → H p = none → Q (.ref p) (upd H p (.lst (ys.map V.int)))) sortedK := fun I H xs as d e rs ho Q hq => by
  match as, ho with
  | [.dct ds], ho =>
    have ho' : ((keysI ds).bind fun ks => if ks.length < 64 ∧ ks.Nodup then some (D.lst ((ks.mergeSort fun a b => decide (a ≤ b)).map .int)) else none) = some d := ho
    obtain ⟨ks, h1, h2⟩ := Option.bind_eq_some_iff.mp ho'
    split at h2
    · rename_i hl
      cases h2
      obtain ⟨v, rfl, rv⟩ := reps1 rs
      cases rv with
      | @dK a kvs _ ha r l =>
        refine ⟨a, kvs, ks, rfl, .inl (e _ _ ha), repK_ints r h1, hl.1, fun ys p hp1 hp2 hp => ?_⟩
        have hs : ks.mergeSort (fun a b => decide (a ≤ b)) = ys := by
          refine List.Perm.eq_of_pairwise (le := fun a b => a ≤ b) (fun a b _ _ x y => by omega) ?_ hp2 ((List.mergeSort_perm _ _).trans hp1.symm)
          have := List.pairwise_mergeSort (le := fun a b : Int => decide (a ≤ b)) (fun a b c x y => by simp at x y ⊢; omega) (fun a b => by simp; omega) ks
          exact this.imp fun h => by simpa using h
        rw [hs] at hq
        have n := fun R => new_lst (G := G) (R := R) e hp (reps_ints ys) (by rw [List.length_map, hp1.length_eq, sizeLine_eq]; omega)
        exact hq _ _ _ (n none).1 (n none).2
    · cases h2
end
section
variable {ι : Type} {X : ι → Cx} {G : Gt} {P : Program} {w : World} {mg : Str → Option Value} {base : Heap} {k : Nat} {N : List Str} {R : Option Addr} {W : WX} {a b e : Expr} {fa fb_ fe fo_ fk fd : EF} {y : Str} {pos apos cpos : Pos}
theorem pd_eqK (fo : Fo X G P w mg base k N W) (hm : behindInMarks .Eq b = false) (ha : PDE X G R W a fa) (hb : PDE X G R W b fb_) : PDE X G R W (.Compare a [.Eq] [b] pos) (e_bin eqKD fa fb_) := pd_cmp (fun i => op_eq_dictA (by have := (fo.room i).units; omega)) ops_eqK hm ha hb
theorem pd_neK (fo : Fo X G P w mg base k N W) (hm : behindInMarks .NotEq b = false) (ha : PDE X G R W a fa) (hb : PDE X G R W b fb_) : PDE X G R W (.Compare a [.NotEq] [b] pos) (e_bin neKD fa fb_) := pd_cmp (fun i => op_ne_dictA (by have := (fo.room i).units; omega)) ops_neK hm ha hb
theorem pdt_eqK (fo : Fo X G P w mg base k N W) (hm : behindInMarks .Eq b = false) (ha : PDE X G R W a fa) (hb : PDE X G R W b fb_) : PDT X G R W (.Compare a [.Eq] [b] pos) (t_of (e_bin eqKD fa fb_)) := pdt_cmp (fun i => op_eq_dictA (by have := (fo.room i).units; omega)) ops_eqK hm ha hb
theorem pdt_neK (fo : Fo X G P w mg base k N W) (hm : behindInMarks .NotEq b = false) (ha : PDE X G R W a fa) (hb : PDE X G R W b fb_) : PDT X G R W (.Compare a [.NotEq] [b] pos) (t_of (e_bin neKD fa fb_)) := pdt_cmp (fun i => op_ne_dictA (by have := (fo.room i).units; omega)) ops_neK hm ha hb
theorem pd_get2 (fo : Fo X G P w mg base k N W) {o e1 e2 : Expr} (ho : PDE X G R W o fo_) (hk : PDE X G R W e1 fk) (hd : PDE X G R W e2 fd)
    (hb : ∀ i, attributeBase o "get" (X i).env (eval o (X i).env) = eval o (X i).env) (hf : ∀ i, ((backTo cpos (starEach [e1, e2] (X i).env)).all (fun x => !x.1) && (backToKw cpos (keywordEach [] (X i).env)).all (fun x => x.1.isSome) && decide (([e1, e2] : List Expr).length + ([] : List Keyword).length + (if ([] : List Keyword).isEmpty then 0 else 1) < 30)) = true)
    (hl : (apos.endLine == cpos.line) = true) (ht : ∀ i, backTo cpos (starEach [e1, e2] (X i).env) = [(false, eval e1 (X i).env), (false, eval e2 (X i).env)]) : PDE X G R W (.Call (.Attribute o "get" apos) [e1, e2] [] cpos) (e_get2 fo_ fk fd) :=
  let ⟨_, po, ro⟩ := ho; let ⟨_, pk, rk⟩ := hk; let ⟨_, pd, rd⟩ := hd
  ⟨_, fun i => pe_dget2 (by have := (fo.room i).units; omega) (po i) (pk i) (pd i) ⟨hb i, hf i, hl, ht i⟩, re_get2 ro rk rd⟩
theorem pd_cnt (fo : Fo X G P w mg base k N W) {o : Expr} (ho : PDE X G R W o fo_) (he : PDE X G R W e fe) (m : Mw X o "count" e apos cpos) : PDE X G R W (.Call (.Attribute o "count" apos) [e] [] cpos) (e_cnt fo_ fe) :=
  let ⟨_, po, ro⟩ := ho; let ⟨_, pe, re⟩ := he
  ⟨_, fun i => by
    have := pe_bm (X := X i) (cpos := cpos) (apos := apos) PySem.F.plainAttrs_list PySem.F.slot_list_count PySem.F.type_list_count mt_lcount (po i) (pa_cons (pe i) pa_nil (m.star i)) (m.base i) (m.few i) m.line (m.star i) rfl
    rw [fo.hK i] at this
    exact this, re_cnt ro re⟩
theorem pds_kset (fo : Fo X G P w mg base k N W) (j : Nat) {yp sp : Pos} (hN : N[j]? = some y) (hv : ∀ i, Vis (X i).env.scope y) (hi : PDE X G R W a fa) (h : PDE X G R W e fe)
    (ha : ∀ i v, assign (.Subscript (.Name y yp) a sp) (X i).env v = (do
      let ov ← holding [v] (eval (.Name y yp) (X i).env)
      let iv ← holding [v, ov] (eval a (X i).env)
      standAt sp
      holding [v, ov, iv] (setItem ov iv v)
      release [v, ov, iv] []))
    (hs : ∀ i, swapsWithSole [.Subscript (.Name y yp) a sp] e pos.line (X i).env = pure false) (hw : ∀ i, swappedStores [.Subscript (.Name y yp) a sp] e (X i).env = pure none) (h1 : ∀ i, (assignEach [.Subscript (.Name y yp) a sp] (X i).env).map (·.2) = [assign (.Subscript (.Name y yp) a sp) (X i).env])
    (hd : (y == ("__debug__" : Str)) = false := by decide) (hcd : (y == ("__classdict__" : Str)) = false := by decide) : PDS X G R W (.Assign [.Subscript (.Name y yp) a sp] e pos) (s_kset j fa fe) :=
  let ⟨_, p, r⟩ := h; let ⟨_, p', r'⟩ := hi
  ⟨_, fun i => ps_asg (p i) (pg_sub (pe_var (by rw [fo.hN i]; exact hN) (hv i) hd hcd) (p' i) (set_dict (by have := (fo.room i).units; omega)) (ha i)) (hs i) (hw i) (h1 i), rs_kset r r'⟩
end
end PL
set_option Elab.async false
set_option linter.all false
set_option maxRecDepth 100000
set_option maxHeartbeats 4000000
/-! sorted(set(xs)): a long list of few unlike tuples of numbers. -/
namespace PL
open PySem PySem.Spec PyProof.Rows L2
open Evl (Ex)
theorem perm_lift {α β : Type} {f : α → β} : ∀ {us ws : List β}, us.Perm ws → ∀ T : List α, T.map f = ws → ∃ T' : List α, T'.Perm T ∧ T'.map f = us := by
  intro us ws h
  induction h with
  | nil =>
    intro T hT
    exact ⟨[], by rw [List.map_eq_nil_iff.mp hT], rfl⟩
  | cons x h ih =>
    intro T hT
    cases T with
    | nil => cases hT
    | cons a T =>
      rw [List.map_cons] at hT
      cases hT
      obtain ⟨T', h1, h2⟩ := ih T rfl
      exact ⟨a :: T', h1.cons a, by rw [List.map_cons, h2]⟩
  | swap x y l =>
    intro T hT
    match T, hT with
    | a :: b :: T, hT =>
      simp only [List.map_cons, List.cons.injEq] at hT
      obtain ⟨rfl, rfl, rfl⟩ := hT
      exact ⟨b :: a :: T, List.Perm.swap a b T, rfl⟩
  | trans h1 h2 ih1 ih2 =>
    intro T hT
    obtain ⟨T1, a1, a2⟩ := ih2 T hT
    obtain ⟨T2, b1, b2⟩ := ih1 T1 a2
    exact ⟨T2, b1.trans a1, b2⟩
section
variable {X : Cx} {pins : List (Addr × Obj)} {σ : L2.St} {H : Hp} {s : Shared}
theorem dpAll_of {K : PySem.W.Frag} {H : Hp} : ∀ {T : List (V × D)}, (∀ z ∈ T, Dp K H z.1 (py z.2)) → DpAll K H (T.map (·.1)) (pys (T.map (·.2)))
  | [], _ => .nil
  | z :: T, h => .cons (h z List.mem_cons_self) (dpAll_of fun y hy => h y (List.mem_cons_of_mem _ hy))
/-- sorted(x) by what is collected off x, in whatever order -/
theorem sorted_any {a : Addr} {T0 : List ((V × D) × Value)} {Q : VK} (I : Inv X pins σ H s) (hu : X.A.units + 64 < cLine)
    (col : ∀ R : List Value → Shared → Prop, (∀ s1 us, (∀ b o, s.heap.get? b = some o → s1.heap.get? b = some o) → s1.gens = s.gens → s1.os = s.os → us.Perm (T0.map (·.2)) → R us s1) → wpAny (model X.prog X.w) X.A.in1 (collect (.ref a)) R X.xe s)
    (rel : ∀ z ∈ T0, RelV z.1.1 z.2) (dp : ∀ z ∈ T0, Dp X.K H z.1.1 (py z.1.2)) (nk : ∀ z ∈ T0, (nkD z.1.2).isSome = true) (al : ∀ z ∈ T0, ∀ y ∈ T0, PySem.W.alike (py z.1.2) (py y.1.2) = true) (so : ∀ z ∈ T0, py z.1.2 ≠ .none) (de : ∀ z ∈ T0, (py z.1.2).depth ≤ 60) (le : T0.length ≤ sizeLine)
    (q : ∀ (T : List (V × D)) p, T.Perm (T0.map (·.1)) → H p = none → Q (.ref p) (upd H p (.lst (sortV (T.map (·.1)) (pys (T.map (·.2))))))) : wpAny (model X.prog X.w) X.A (call (.builtin "sorted") [.ref a]) (EP X pins σ Q) X.xe s := by
  suffices body : wpAny (model X.prog X.w) X.A.in1 (Builtin.«sorted» ⟨[.ref a], []⟩) (fun r s' => ∃ v, r = .done (.ret v) ∧ EP X pins σ Q v s') X.xe s from
    Calls.call_function_entry kind_sorted plain_sorted entry_sorted (args_sorted1 _) body
  unfold Builtin.«sorted»
  refine wpAny_bind (m := checkCount "sorted" 1 1 _) (wpAny_pure ?_)
  refine wpAny_bind (col _ fun s1 us kp hg ho pm => ?_)
  obtain ⟨T', hT', hus⟩ := perm_lift pm T0 rfl
  have mem : ∀ z ∈ T', z ∈ T0 := fun z hz => hT'.mem_iff.mp hz
  obtain ⟨T, hT⟩ : ∃ T, T'.map (·.1) = T := ⟨_, rfl⟩
  have rv : Vals (T.map (·.1)) us := by
    rw [← hT, ← hus]
    have : ∀ L : List ((V × D) × Value), (∀ z ∈ L, RelV z.1.1 z.2) → Vals ((L.map (·.1)).map (·.1)) (L.map (·.2)) := by
      intro L
      induction L with
      | nil => intro _; exact .nil
      | cons z L ih => intro h; exact .cons (h z List.mem_cons_self) (ih fun y hy => h y (List.mem_cons_of_mem _ hy))
    exact this T' fun z hz => rel z (mem z hz)
  have hmT : ∀ y ∈ T, ∃ z ∈ T0, z.1 = y := fun y hy => by
    rw [← hT] at hy
    obtain ⟨z, hz, rfl⟩ := List.mem_map.mp hy
    exact ⟨z, mem z hz, rfl⟩
  have hdp : DpAll X.K H (T.map (·.1)) (pys (T.map (·.2))) := dpAll_of fun y hy => by
    obtain ⟨z, hz, rfl⟩ := hmT y hy
    exact dp z hz
  have hlen := dpAll_len hdp
  have em : ((T.map (·.1)).zip (pys (T.map (·.2)))).map (fun b => b.2) = pys (T.map (·.2)) := List.map_snd_zip (by omega)
  have hsz : us.length = T.length := by rw [← rv.length, List.length_map]
  have hTl : T.length ≤ sizeLine := by rw [← hT, List.length_map, hT'.length_eq]; exact le
  have hpd : ∀ d ∈ pys (T.map (·.2)), ∃ z ∈ T0, d = py z.1.2 := fun d hd => by
    rw [pys_eq] at hd
    obtain ⟨e, he, rfl⟩ := List.mem_map.mp hd
    obtain ⟨y, hy, rfl⟩ := List.mem_map.mp he
    obtain ⟨z, hz, rfl⟩ := hmT y hy
    exact ⟨z, hz, rfl⟩
  have I1 : Inv X pins σ H s1 := I.call' (ch := []) ho (Un.kept kp) (I.hok.kept kp) (by rw [hg]; exact I.bare) fun _ z => nomatch z
  refine wpAny_bind (wpAny_newList ?_ (by rw [hsz]; exact hTl))
  obtain ⟨g2, hg2⟩ : ∃ g2, s1.heap.push (seqObj "list" us.toArray 0) = g2 := ⟨_, rfl⟩
  have hat : g2.get? s1.heap.objs.size = some (seqObj "list" us.toArray 0) := by rw [← hg2]; exact Heap.get?_push_size _ rfl
  have k2 : ∀ b o, s1.heap.get? b = some o → g2.get? b = some o := fun b o e => by rw [← hg2]; exact Heap.get?_push_of_some _ e
  show wpAny _ _ _ _ _ { s1 with heap := s1.heap.push (seqObj "list" us.toArray 0) }
  rw [hg2]
  refine wpAny_bind (wpAny_holding (list_sort_data2 (s := { s1 with heap := g2 }) (enc := fun b : V × PyData => b.2) hat (each_rel rv hlen)
    (each_rd0 I1 k2 _ rv hdp (fun d hd => by
      obtain ⟨y, hy, rfl⟩ := List.mem_map.mp hd
      obtain ⟨z, hz, rfl⟩ := hmT y hy
      exact nk z hz)) (by
      rw [em]
      intro x hx y hy
      obtain ⟨z, hz, rfl⟩ := hpd x hx
      obtain ⟨z2, hz2, rfl⟩ := hpd y hy
      exact al z hz z2 hz2) (by
      rw [em]
      intro x hx
      obtain ⟨z, hz, rfl⟩ := hpd x hx
      exact so z hz) (by simp; omega) (fun b hb => ?_) fun out o1 o2 => ?_))
  · have hb2 : b.2 ∈ pys (T.map (·.2)) := by rw [← em]; exact List.mem_map.mpr ⟨b, hb, rfl⟩
    obtain ⟨z, hz, e⟩ := hpd _ hb2
    have h1 := de z hz
    rw [← e] at h1
    have h2 : X.A.in1.units = X.A.units + 1 := rfl
    show X.A.in1.units + 1 + b.2.depth < cLine
    omega
  · obtain ⟨e', he'⟩ := sortedHeap_at (vs := us) (out := out.toArray) hat
    have hv : Vals (sortV (T.map (·.1)) (pys (T.map (·.2)))) out := each_back (h := 0) o2
    have hln : (sortV (T.map (·.1)) (pys (T.map (·.2)))).length ≤ sizeLine := by rw [hv.length, o1]; simp; omega
    refine wpAny_pure ⟨_, rfl, .ref s1.heap.objs.size, upd H s1.heap.objs.size (.lst (sortV (T.map (·.1)) (pys (T.map (·.2))))), I1.laid (t' := s1.toks) (fun b u e => ?_) (Nat.le_refl _) ⟨hln, out, e', hv, he'⟩, rfl, q T _ (by rw [← hT]; exact hT'.map _) (I1.hok.fresh (Nat.le_refl _))⟩
    have hb : b < s1.heap.objs.size := Heap.lt_size e
    exact (sortedHeap_old (Nat.ne_of_lt hb) (by rw [← hg2, size_push']; exact Nat.lt_succ_of_lt hb)).trans (k2 b u e)
end
/-! ### the tuples in the set -/
section
variable {P : Program} {w : World} {A : Around} {E : Value → Shared → Prop} {s : Shared}
theorem isT_at {h h' : Heap} {k : List Int} {b : Addr} (x : IsT P w h k b) (hk : ∀ o, h.get? b = some o → h'.get? b = some o) : IsT P w h' k b := by
  obtain ⟨o, items, n, ho, r⟩ := x
  exact ⟨o, items, n, hk o ho, r⟩
theorem isT_lt {h : Heap} {k : List Int} {b : Addr} (x : IsT P w h k b) : b < h.objs.size := by
  obtain ⟨o, items, n, ho, r⟩ := x
  exact Heap.lt_size ho
/-- the set of the first i tuples -/
def TupJ (P : Program) (w : World) (a : Addr) (ks : List (Addr × List Int)) (i : Nat) (g : Heap) : Prop :=
  ∃ L es ep t, SetTR P w g a L es ep t ∧ (∀ p ∈ L, p ∈ ks) ∧ (∀ p ∈ ks.take i, p.2 ∈ L.map (·.2)) ∧ (∀ p ∈ L, p.2 ∈ (ks.take i).map (·.2)) ∧ ∀ p ∈ ks, IsT P w g p.2 p.1
theorem set_of_tups {l : Addr} {items : Array Value} (ks : List (Addr × List Int)) {Q : Value → Shared → Prop} (hh : A.handled = none) (hl : s.heap.IsList l items) (hit : items.toList = ks.map fun p => Value.ref p.1)
    (hk : ∀ p ∈ ks, IsT P w s.heap p.2 p.1) (hfew : (ndup (ks.map (·.2))).length < 63) (hu : A.units + 3 < cLine)
    (h : ∀ g tk L es ep t, SetTR P w g s.heap.objs.size L es ep t → (∀ p ∈ L, p ∈ ks) → (∀ x, x ∈ L.map (·.2) ↔ x ∈ ks.map (·.2)) → (∀ b o, s.heap.get? b = some o → g.get? b = some o) → Q (.ref s.heap.objs.size) { s with heap := g, toks := tk }) :
    wpAny (model P w) A (call (.type "set") [.ref l]) Q E s := by
  have hlen : items.size = ks.length := by rw [← Array.length_toList, hit, List.length_map]
  have hklt : ∀ p ∈ ks, p.1 < s.heap.objs.size := fun p hp => isT_lt (hk p hp)
  refine set_of_list (TupJ P w s.heap.objs.size ks) hh hl (fun g hkp hg => ?_) (fun i g g' hkp hj => ?_) (fun i v t E2 Q2 hv hj q => ?_) fun g tk hj hkp => ?_
  · exact ⟨[], #[], 0, _, setTR_fresh hg, by simp, by simp, by simp, fun p hp => isT_keep (hk p hp) hkp⟩
  · obtain ⟨L, es, ep, t, R, h1, h2, h3, h4⟩ := hj
    have k' : ∀ p ∈ ks, IsT P w g' p.2 p.1 := fun p hp => isT_at (h4 p hp) fun o ho => hkp _ o (Nat.ne_of_lt (Nat.lt_succ_of_lt (hklt p hp))) ho
    exact ⟨L, es, ep, t, R.keep (fun o ho => hkp _ o (Nat.ne_of_lt (Nat.lt_succ_self _)) ho) fun p hp => k' p (h1 p hp), h1, h2, h3, k'⟩
  · obtain ⟨L, es, ep, t0, R, h1, h2, h3, h4⟩ := hj
    have hv2 : (ks.map fun p => Value.ref p.1)[i]? = some v := by rw [← hit, Array.getElem?_toList]; exact hv
    rw [List.getElem?_map] at hv2
    obtain ⟨p, hp, rfl⟩ := Option.map_eq_some_iff.mp hv2
    have hpm : p ∈ ks := List.mem_of_getElem? hp
    have hx := h4 p hpm
    have hLl : L.length ≤ (ndup (ks.map (·.2))).length := by
      rw [← List.length_map (f := (·.2)) (as := L)]
      have := ndup_sub (l := L.map (·.2)) (m := ks.map (·.2)) fun x hx => by
        obtain ⟨y, hy, rfl⟩ := List.mem_map.mp hx
        exact List.mem_map.mpr ⟨y, h1 y hy, rfl⟩
      rwa [ndup_self R.nd] at this
    unfold setAdd
    refine wpAny_holding ?_
    refine wpAny_bind (wpAny_pyHash_tuple (by have h9 : A.in1.in1.in1.units = A.units + 3 := rfl; omega) hx ?_)
    refine add_at (s := { t with toks := t.toks + (p.2.length + 1) }) R hx (by have h9 : A.in1.in1.in1.units = A.units + 3 := rfl; omega) (by omega) fun b g L' es' ep' t' sb R2 c1 c2 => ?_
    refine q b g _ (Nat.le_add_right _ _) sb ?_
    have k' : ∀ y ∈ ks, IsT P w g y.2 y.1 := fun y hy => isT_at (h4 y hy) fun o ho => (sb.2 _ (Nat.ne_of_lt (hklt y hy))).trans ho
    rw [TupJ, take_next2 hp]
    rcases Classical.em (p.2 ∈ L.map (·.2)) with c | c
    · rw [c1 c] at R2
      refine ⟨L, es', ep', t', R2, h1, fun y hy => ?_, fun y hy => ?_, k'⟩
      · rcases List.mem_append.mp hy with z | z
        · exact h2 y z
        · rw [List.mem_singleton.mp z]; exact c
      · rw [List.map_append]; exact List.mem_append_left _ (h3 y hy)
    · have pm := c2 c
      refine ⟨L', es', ep', t', R2, fun y hy => ?_, fun y hy => ?_, fun y hy => ?_, k'⟩
      · rcases List.mem_cons.mp (pm.mem_iff.mp hy) with e | z
        · rw [e]; exact hpm
        · exact h1 y z
      · rw [(pm.map (·.2)).mem_iff, List.map_cons]
        rcases List.mem_append.mp hy with z | z
        · exact List.mem_cons_of_mem _ (h2 y z)
        · rw [List.mem_singleton.mp z]; exact List.mem_cons_self
      · rw [List.map_append]
        rcases List.mem_cons.mp (pm.mem_iff.mp hy) with e | z
        · rw [e]; exact List.mem_append_right _ (by simp)
        · exact List.mem_append_left _ (h3 y z)
  · obtain ⟨L, es, ep, t, R, h1, h2, h3, h4⟩ := hj
    rw [hlen, List.take_length] at h2 h3
    refine h g tk L es ep t R h1 (fun x => ⟨fun hx => ?_, fun hx => ?_⟩) hkp
    · obtain ⟨y, hy, rfl⟩ := List.mem_map.mp hx
      exact h3 y hy
    · obtain ⟨y, hy, rfl⟩ := List.mem_map.mp hx
      exact h2 y hy
end
/-! ### sorted(set(xs)), xs tuples of numbers -/
abbrev tI (xs : List Int) : D := .tup (xs.map .int)
theorem py_tI (xs : List Int) : py (tI xs) = .tuple (xs.map .int) := by
  rw [py, pys_eq, List.map_map]; rfl
theorem dLe_tI (a b : List Int) : dLe (tI a) (tI b) = decide (a ≤ b) := by
  have h : dLe (tI a) (tI b) = !PySem.W.dataLt (py (tI b)) (py (tI a)) := rfl
  rw [h, py_tI, py_tI, PySem.W.dataLt_tuple]
  have e := PySem.W.dataLt_ints b a
  unfold PySem.W.rowLt at e
  rw [e]
  by_cases c : a ≤ b
  · simp [c, List.not_lt.mpr c]
  · simp [c, List.not_le.mp c]
theorem tI_inj {a b : List Int} (h : tI a = tI b) : a = b := by
  have h2 : a.map D.int = b.map D.int := by injection h
  exact List.map_inj_right (fun x y e => by injection e) |>.mp h2
def srtL (L : List (List Int)) : List (List Int) := L.mergeSort fun a b => decide (a ≤ b)
theorem srt_uniq {A B : List (List Int)} (h : A.Perm B) : srtL A = srtL B := by
  have key : ∀ M : List (List Int), (srtL M).Pairwise fun a b => a ≤ b := fun M => by
    have := List.pairwise_mergeSort (le := fun a b : List Int => decide (a ≤ b)) (fun a b c x y => by simp at x y ⊢; exact List.le_trans x y) (fun a b => by simp; exact List.le_total a b) M
    exact this.imp fun h => by simpa using h
  exact List.Perm.eq_of_pairwise (le := fun a b => a ≤ b) (fun a b _ _ x y => List.le_antisymm x y) (key _) (key _) ((List.mergeSort_perm _ _).trans (h.trans (List.mergeSort_perm _ _).symm))
theorem dp_ints {K : PySem.W.Frag} {H : Hp} : ∀ is : List Int, DpAll K H (is.map V.int) (is.map .int)
  | [] => .nil
  | i :: is => .cons (.int i) (dp_ints is)
theorem nk_tI (xs : List Int) : (nkD (tI xs)).isSome = true := by
  have : ∀ l : List Int, (nkDs (l.map D.int)).isSome = true := by
    intro l
    induction l with
    | nil => simp [nkDs]
    | cons i l ih =>
      obtain ⟨k, hk⟩ := Option.isSome_iff_exists.mp ih
      simp [nkDs, nkD, hk]
  obtain ⟨k, hk⟩ := Option.isSome_iff_exists.mp (this xs)
  simp [nkD, hk]
theorem zip_self {α β : Type} : ∀ L : List (α × β), (L.map (·.1)).zip (L.map (·.2)) = L
  | [] => rfl
  | x :: L => by rw [List.map_cons, List.map_cons, List.zip_cons_cons, zip_self L]
theorem lift_mem {α β : Type} {f : α → β} {T : List α} : ∀ Z : List β, (∀ b ∈ Z, ∃ q ∈ T, b = f q) → ∃ M : List α, Z = M.map f ∧ ∀ q ∈ M, q ∈ T
  | [], _ => ⟨[], rfl, fun q hq => nomatch hq⟩
  | b :: Z, h => by
    obtain ⟨q, hq, rfl⟩ := h b List.mem_cons_self
    obtain ⟨M, rfl, hM⟩ := lift_mem Z fun c hc => h c (List.mem_cons_of_mem _ hc)
    refine ⟨q :: M, rfl, fun r hr => ?_⟩
    rcases List.mem_cons.mp hr with e | z
    · rw [e]; exact hq
    · exact hM r z
def rSrtSetT (K : PySem.W.Frag) : V → Hp → VK → Prop := fun x H Q => ∃ (l : Addr) (ks : List (Addr × List Int)), x = .ref l ∧ SqL K H l (ks.map fun p => V.ref p.1) ∧ (∀ p ∈ ks, SqT K H p.1 (p.2.map V.int)) ∧ (ndup (ks.map (·.2))).length < 63 ∧
  ∀ (M : List (Addr × List Int)) (p : Addr), (∀ q ∈ M, q ∈ ks) → M.map (·.2) = srtL (ndup (ks.map (·.2))) → H p = none → Q (.ref p) (upd H p (.lst (M.map fun q => V.ref q.1)))
section
variable {X : Cx}
theorem pe_srtSetT {a : Expr} {ta : TE} {p p2 q pos : Pos} (hc : X.calm = true) (hu : X.A.units + 64 < cLine) (hg : Gl X "sorted") (hm : X.mg "sorted" = none) (hg2 : Gl X "set") (hm2 : X.mg "set" = none) (ha : PE X a ta)
    (na : starEach [a] X.env = (false, eval a X.env) :: starEach [] X.env) : PE X (.Call (.Name "sorted" p) [.Call (.Name "set" p2) [a] [] q] [] pos) (tUn (rSrtSetT X.K) ta) := by
  refine ⟨fun pins s σ H Q I h => Call_ (ld_blt I hg hm (by decide +kernel : bootBuiltins "sorted" = some (.builtin "sorted")) (callWith_builtin1 (args_cons ?_ rfl) rfl rfl))⟩
  refine Call_ (ld_blt I hg2 hm2 boot_set (callWith_type1 (args_cons (thn (ha.run pins s σ H _ I h) fun v s1 ⟨x, H1, I1, r1, q1⟩ => args_nil ?_) na) na rfl))
  obtain ⟨l, ks, rfl, hq, hk, hfew, q1⟩ := q1
  cases r1
  obtain ⟨its, rv, pl, hz⟩ := I1.list hq
  refine set_of_tups ks (I1.ok.hd hc) pl.isList (by simpa using refs_of_vals rv) (fun z hz => I1.isT (hk z hz)) hfew (by have : X.A.units + 3 < cLine := (by omega); exact this) fun g tk L es ep t R h1 h2 kp => args_nil ?_
  have I2 : Inv X pins σ H1 { s1 with heap := g, toks := tk } := I1.kept kp
  obtain ⟨o, ho, hex, hd⟩ := R.ob
  have hsz := R.size (s := { s1 with heap := g, toks := tk })
  have hfew2 := R.few
  have hes : es.toList.map (·.2) = L.map fun q => Value.ref q.1 := by
    rw [R.rows]
    unfold rowsOf
    rw [List.map_map]; rfl
  refine sorted_any (T0 := L.map fun q => ((V.ref q.1, tI q.2), Value.ref q.1)) I2 hu (fun Rr hR => ?_) (fun z hz => ?_) (fun z hz => ?_) (fun z hz => ?_) (fun z hz y hy => ?_) (fun z hz => ?_) (fun z hz => ?_) (by rw [List.length_map, sizeLine_eq]; omega) fun T p hT hp => ?_
  · refine collect_set (A := X.A.in1) (by have := I2.ok.hd hc; simpa using this) ⟨o, ho, hex.1, hd⟩ (R.fits (s := { s1 with heap := g, toks := tk })) (by rw [hsz]; unfold scanBound; omega) R.tab.ris R.led fun s2 us k2 hz2 g2 o2 pm => hR s2 us k2 g2 o2 ?_
    rw [List.map_map]
    rw [hes] at pm
    exact pm
  · obtain ⟨q, hq, rfl⟩ := List.mem_map.mp hz; rfl
  · obtain ⟨q, hq, rfl⟩ := List.mem_map.mp hz
    show Dp _ _ (.ref q.1) (py (tI q.2))
    rw [py_tI]
    exact .tup (hk q (h1 q hq)) (dp_ints q.2)
  · obtain ⟨q, hq, rfl⟩ := List.mem_map.mp hz; exact nk_tI q.2
  · obtain ⟨q, hq, rfl⟩ := List.mem_map.mp hz
    obtain ⟨r, hr, rfl⟩ := List.mem_map.mp hy
    show PySem.W.alike (py (tI q.2)) (py (tI r.2)) = true
    rw [py_tI, py_tI]
    simp only [PySem.W.alike]
    exact PySem.W.alike_ints _ _
  · obtain ⟨q, hq, rfl⟩ := List.mem_map.mp hz
    show py (tI q.2) ≠ .none
    rw [py_tI]; exact fun e => by cases e
  · obtain ⟨q, hq, rfl⟩ := List.mem_map.mp hz
    show (py (tI q.2)).depth ≤ 60
    rw [py_tI, PyData.depth, PySem.W.depth_ints]; decide
  · rw [List.map_map] at hT
    obtain ⟨T1, hT1, rfl⟩ := perm_lift hT L rfl
    have eT : T1.map ((fun x => x.1) ∘ fun q : Addr × List Int => ((V.ref q.1, tI q.2), Value.ref q.1)) = T1.map fun q => (V.ref q.1, tI q.2) := rfl
    rw [eT]
    obtain ⟨Z, z1, z2, z3⟩ := sort_zip ((T1.map fun q => (V.ref q.1, tI q.2)).map (·.1)) ((T1.map fun q => (V.ref q.1, tI q.2)).map (·.2)) (by simp)
    rw [← pys_eq] at z1
    rw [zip_self] at z3
    obtain ⟨M, rfl, hM⟩ := lift_mem Z fun b hb => by
      obtain ⟨q, hq, e⟩ := List.mem_map.mp (z3 b hb)
      exact ⟨q, hq, e.symm⟩
    rw [← z1, List.map_map]
    have e1 : M.map (·.2) = srtL (T1.map (·.2)) := by
      have e2 : (M.map (·.2)).map tI = (srtL (T1.map (·.2))).map tI := by
        have a1 : (M.map (·.2)).map tI = (M.map fun q => (V.ref q.1, tI q.2)).map (·.2) := by rw [List.map_map, List.map_map]; rfl
        have a2 : (T1.map fun q => (V.ref q.1, tI q.2)).map (·.2) = (T1.map (·.2)).map tI := by rw [List.map_map, List.map_map]; rfl
        rw [a1, z2, a2]
        unfold srtL
        exact (List.map_mergeSort (r := fun a b : List Int => decide (a ≤ b)) (s := dLe) fun a _ b _ => (dLe_tI a b).symm).symm
      exact List.map_inj_right (fun x y e => tI_inj e) |>.mp e2
    have e3 : srtL (T1.map (·.2)) = srtL (ndup (ks.map (·.2))) := by
      refine srt_uniq ((hT1.map (·.2)).trans ((List.perm_ext_iff_of_nodup R.nd (nodup_ndup _)).mpr fun x => ?_))
      rw [h2 x, mem_ndup]
    exact q1 M p (fun q hq => h1 q (hT1.mem_iff.mp (hM q hq))) (e1.trans e3) hp
end
def srtSetT : D → Option D
  | .lst xs => (xs.mapM tints).bind fun kss => if (ndup kss).length < 63 then some (.lst ((srtL (ndup kss)).map tI)) else none
  | _ => none
section
variable {G : Gt}
theorem reps_tups {I : Hp} : ∀ {ks M : List (Addr × List Int)}, (∀ p ∈ ks, SqT G.K I p.1 (p.2.map V.int)) → (∀ p ∈ ks, (p.2.map V.int).length ≤ sizeLine) → (∀ q ∈ M, q ∈ ks) → Reps G I (M.map fun q => V.ref q.1) ((M.map (·.2)).map tI)
  | _, [], _, _, _ => .nil
  | ks, q :: M, h, hl, hm => by
    have hq := hm q List.mem_cons_self
    exact .cons (.tup (h q hq) (reps_ints q.2) (hl q hq)) (reps_tups h hl fun r hr => hm r (List.mem_cons_of_mem _ hr))
theorem reps_tlen {I : Hp} : ∀ {vs : List V} {ds : List D} {kss : List (List Int)}, Reps G I vs ds → ds.mapM tints = some kss → ∀ k ∈ kss, k.length ≤ sizeLine
  | _, _, kss, .nil, h => by simp at h; subst h; exact fun k hk => nomatch hk
  | _, _, kss, .cons r t, h => by
    rw [List.mapM_cons] at h
    obtain ⟨is, h1, h2⟩ := Option.bind_eq_some_iff.mp h
    obtain ⟨jss, h3, h4⟩ := Option.bind_eq_some_iff.mp h2
    cases h4
    intro k hk
    rcases List.mem_cons.mp hk with rfl | hk
    · cases r with
      | @tup b ws _ hs rw_ l =>
        have := reps_mints rw_ h1
        rw [this, List.length_map] at l
        exact l
      | _ => simp [tints] at h1
    · exact reps_tlen t h3 k hk
theorem uns_srtSetT : UnS G (rSrtSetT G.K) srtSetT := fun I H x a d e rx ho Q hq => by
  cases rx with
  | @lst b vs ds h h' r l =>
    obtain ⟨kss, h1, h2⟩ := Option.bind_eq_some_iff.mp ho
    split at h2
    · rename_i hlt
      cases h2
      obtain ⟨ks, rfl, rfl, e3⟩ := reps_tints r h1
      have hln := reps_tlen r h1
      refine ⟨b, ks, rfl, Evl.ex_l e h, fun p hp => Evl.ex_t e (e3 p hp), hlt, fun M p hM hs hp => ?_⟩
      rw [← hs] at hq
      have hle : (M.map fun q => V.ref q.1).length ≤ sizeLine := by
        have h3 : M.length = (srtL (ndup (ks.map (·.2)))).length := by rw [← hs, List.length_map]
        rw [List.length_map, h3]
        unfold srtL
        rw [List.length_mergeSort, sizeLine_eq]; omega
      have n := fun R => new_lst (G := G) (R := R) e hp (reps_tups e3 (fun p hp => by rw [List.length_map]; exact hln _ (List.mem_map.mpr ⟨p, hp, rfl⟩)) hM) hle
      exact hq _ _ _ (n none).1 (n none).2
    · cases h2
  | _ => cases ho
variable {ι : Type} {X : ι → Cx} {P : Program} {w : World} {mg : Str → Option Value} {base : Heap} {k : Nat} {N : List Str} {W : WX} {R : Option Addr}
theorem pd_srtSetT {a : Expr} {fa : EF} {p p2 q pos : Pos} (fo : Fo X G P w mg base k N W) (hc : ∀ i, (X i).calm = true) (hg : ∀ i, Gl (X i) "sorted") (hm : mg "sorted" = none) (hg2 : ∀ i, Gl (X i) "set") (hm2 : mg "set" = none) (h : PDE X G R W a fa) (hs : ∀ i, starEach [a] (X i).env = (false, eval a (X i).env) :: starEach [] (X i).env) :
    PDE X G R W (.Call (.Name "sorted" p) [.Call (.Name "set" p2) [a] [] q] [] pos) (e_un srtSetT fa) :=
  let ⟨_, pa, ra⟩ := h
  ⟨_, fun i => by have := pe_srtSetT (p := p) (p2 := p2) (q := q) (pos := pos) (hc i) (fo.room i).units (hg i) (by rw [fo.hmg i]; exact hm) (hg2 i) (by rw [fo.hmg i]; exact hm2) (pa i) (hs i); rw [fo.hK i] at this; exact this, re_un uns_srtSetT ra⟩
end
end PL
set_option Elab.async false
set_option linter.all false
set_option maxRecDepth 100000
set_option maxHeartbeats 4000000
/-! x == y by the own == of x's class, y anything. -/
namespace PL
open PySem PySem.Spec PyProof.Rows L2
open Evl (Ex)
def rOwnE (K : PySem.W.Frag) (C : Addr) (sp : Sp) : R2 := fun x y H Q => rEqD K x y H Q ∨ ∃ a dx fs t, x = .ref a ∧ H a = some (.ins C dx fs) ∧ TyX K H y t ∧ PySem.W.notFirst K C t = true ∧ sp [x, y] H Q E0
def eqO (nm : Str) (F : List D → Option Res) (a b : D) : Option D := match a with
  | .ins n _ => if n = nm then (match F [a, b] with | some (.ok (.bl r)) => some (.bl r) | _ => none) else none
  | _ => eqD a b
section
variable {X : Cx} {f C : Addr} {fd : FuncData} {ps : List Str} {k : Nat} {sp : Sp}
theorem op_ownE (F : FnOk X.prog X.w X.K X.mg X.base (L2.CX X.prog X.w) k f fd ps sp) (hr : Room k X.A) (hu : OpR X (compareOp .Eq) (rEqD X.K)) (hb : Binds X.K fd ps []) (hs : PySem.W.findIn X.K (.ref C) "__eq__" = some (some (.ref f))) (hf : PySem.W.isFn X.K (.ref f) = true) : OpR X (compareOp .Eq) (rOwnE X.K C sp) := by
  intro pins s σ H x y v u Q I rx ry h
  rcases h with h | ⟨a, dx, fs, t, rfl, ha, ty, hn, q⟩
  · exact hu pins s σ H x y v u Q I rx ry h
  · cases (show v = Value.ref a from rx)
    obtain ⟨mA, J, _⟩ := ins_get I.hok ha
    obtain ⟨od, J, _⟩ := J.look
    obtain ⟨P, Z, p, hx⟩ := kit_of I ry ty
    obtain ⟨m, hF⟩ := I.fr
    show wpAny _ _ (richCompare .Eq (Value.ref a) u) _ _ _
    refine PySem.W.cmp_K (op := .Eq) hr.units0 hF I.ok.mod.kin J (Z.ty _ _ I.kIn p) hn hs hf ?_
    have hl := F.len _ _ _ _ q
    have r2 : Vals [V.ref a, y] [Value.ref a, u] := .cons rfl (.cons ry .nil)
    refine wpAny_call (codeAny_mono (F.run X.A X.stack s H ⟨[.ref a, u], []⟩ [.ref a, u] [.ref a, y] Q _ hr I.env0 (by
      have := hb s [.ref a, u] I.kIn (by simpa using hl)
      simpa using this) r2 q) fun r s' hq => ?_)
    cases r with
    | error e => exact passL pins σ H s e s' I hq
    | ok fl =>
      cases fl with
      | ret w =>
        obtain ⟨z, H', I', rz, ez⟩ := I.after hq
        exact SlX.cmpback rz ⟨z, H', I', rz, ez⟩
      | next => exact False.elim hq
      | brk => exact False.elim hq
      | cont => exact False.elim hq
end
section
variable {G : Gt} {R : Option Addr} {W : WX} {nm : Str} {C : Addr}
theorem OwnIs.first (o : OwnIs G nm C) {d : D} {T : String} (h : tyD d = some T) : PySem.W.notFirst G.K C (.type T) = true := by
  have key : ∀ T : String, PySem.W.subIn G.K (.type T) (.ref C) = some false → PySem.W.notFirst G.K C (.type T) = true := fun T h => by
    unfold PySem.W.notFirst; rw [h]; simp
  cases d <;> cases h
  · exact key _ o.n1
  · exact key _ o.n2
  · exact key _ o.n3
  · exact key _ o.n4
  · exact key _ o.n5
  · exact key _ o.n6
  · exact key _ o.n7
/-- the second is no dict of another kind, no instance of another class -/
def oneOf (nm : Str) (d : D) : Bool := match d with
  | .ins n _ => decide (n = nm)
  | d => (tyD d).isSome
def eqP (nm : Str) (F : List D → Option Res) (a b : D) : Option D := if oneOf nm b then eqO nm F a b else (match a with | .ins _ _ => none | _ => eqD a b)
theorem ops_ownE (o : OwnIs G nm C) {F : List D → Option Res} : OpS G (rOwnE G.K C (sp0 G 2 F)) (eqP nm F) := fun I H x y a b d e rx ry ho Q hq => by
  have base : eqD a b = some d → rOwnE G.K C (sp0 G 2 F) x y H Q := fun h => .inl (ops_eq I H x y a b d e rx ry h Q hq)
  unfold eqP at ho
  cases a with
  | ins n fs =>
    by_cases hb : oneOf nm b = true
    · rw [if_pos hb] at ho
      unfold eqO at ho
      dsimp only at ho
      by_cases hn : n = nm
      · rw [if_pos hn] at ho
        subst hn
        split at ho
        · rename_i r hF
          cases ho
          cases rx with
          | @ins a C' dx _ vs _ h1 h2 h3 =>
            rw [o.cls] at h1
            cases h1
            have ty : ∃ t, TyX G.K H y t ∧ PySem.W.notFirst G.K C t = true := by
              cases b with
              | ins m gs =>
                have hm : m = n := of_decide_eq_true hb
                subst hm
                cases ry with
                | @ins a' C'' dx' _ vs' _ g1 g2 g3 =>
                  rw [o.cls] at g1
                  cases g1
                  exact ⟨.ref C, .base (.ins (e _ _ g2) o.cl o.ca o.cg o.ct o.mr), by unfold PySem.W.notFirst; simp⟩
              | non => exact ⟨_, ry.tyX e rfl, o.first (d := .non) rfl⟩
              | bl b => exact ⟨_, ry.tyX e rfl, o.first (d := .bl b) rfl⟩
              | int b => exact ⟨_, ry.tyX e rfl, o.first (d := .int b) rfl⟩
              | str b => exact ⟨_, ry.tyX e rfl, o.first (d := .str b) rfl⟩
              | tup b => exact ⟨_, ry.tyX e rfl, o.first (d := .tup b) rfl⟩
              | lst b => exact ⟨_, ry.tyX e rfl, o.first (d := .lst b) rfl⟩
              | dct b => exact ⟨_, ry.tyX e rfl, o.first (d := .dct b) rfl⟩
              | dcn b => cases hb
              | dcb b => cases hb
            obtain ⟨t, ht, hf⟩ := ty
            refine .inr ⟨a, dx, vs, t, rfl, e _ _ h2, ht, hf, rfl, I, [.ins n fs, b], .ok (.bl r), e, .cons (.ins o.cls h2 h3) (.cons ry .nil), hF, fun v I' H' st rv => ?_⟩
            exact hq v I' H' st rv
        · cases ho
      · rw [if_neg hn] at ho; cases ho
    · rw [if_neg hb] at ho; cases ho
  | _ =>
    split at ho
    · exact base ho
    · exact base ho
variable {ι : Type} {X : ι → Cx} {P : Program} {w : World} {mg : Str → Option Value} {base : Heap} {k j : Nat} {N : List Str} {a b : Expr} {fa fb : EF} {f : Addr} {fd : FuncData} {ps : List Str} {pos : Pos}
theorem opr_ownE (fo : Fo X G P w mg base k N W) {F : List D → Option Res} (Fn : FnOk P w G.K mg base (L2.CX P w) j f fd ps (sp0 G 2 F)) (hj : j ≤ k) (hb : Binds G.K fd ps []) (hs : PySem.W.findIn G.K (.ref C) "__eq__" = some (some (.ref f))) (hf : PySem.W.isFn G.K (.ref f) = true) (i : ι) : OpR (X i) (compareOp .Eq) (rOwnE G.K C (sp0 G 2 F)) := by
  have h := op_ownE (C := C) (fo.fnOk Fn i) ((fo.room i).mono hj) (op_eqD (by have := fo.units i; omega)) (by rw [fo.hK i]; exact hb) (by rw [fo.hK i]; exact hs) (by rw [fo.hK i]; exact hf)
  rw [fo.hK i] at h
  exact h
theorem pd_eqP (fo : Fo X G P w mg base k N W) {F : List D → Option Res} (o : OwnIs G nm C) (Fn : FnOk P w G.K mg base (L2.CX P w) j f fd ps (sp0 G 2 F)) (hj : j ≤ k) (hbn : Binds G.K fd ps []) (hs : PySem.W.findIn G.K (.ref C) "__eq__" = some (some (.ref f))) (hf : PySem.W.isFn G.K (.ref f) = true)
    (ha : PDE X G R W a fa) (hb : PDE X G R W b fb) : PDE X G R W (.Compare a [.Eq] [b] pos) (e_bin (eqP nm F) fa fb) := pd_cmp (opr_ownE (C := C) fo Fn hj hbn hs hf) (ops_ownE o) (nomark _) ha hb
theorem pdt_eqP (fo : Fo X G P w mg base k N W) {F : List D → Option Res} (o : OwnIs G nm C) (Fn : FnOk P w G.K mg base (L2.CX P w) j f fd ps (sp0 G 2 F)) (hj : j ≤ k) (hbn : Binds G.K fd ps []) (hs : PySem.W.findIn G.K (.ref C) "__eq__" = some (some (.ref f))) (hf : PySem.W.isFn G.K (.ref f) = true)
    (ha : PDE X G R W a fa) (hb : PDE X G R W b fb) : PDT X G R W (.Compare a [.Eq] [b] pos) (t_of (e_bin (eqP nm F) fa fb)) := pdt_cmp (opr_ownE (C := C) fo Fn hj hbn hs hf) (ops_ownE o) (nomark _) ha hb
end
end PL
set_option Elab.async false
set_option linter.all false
set_option maxRecDepth 100000
set_option maxHeartbeats 4000000
namespace PL
open PySem PySem.Spec PyProof.Rows L2
def XS : List Str := ["BadClass", "BadClasses", "BadIndex", "BadLine", "BadLots", "BadMost", "BadNumber", "BadSeen", "BadSteps", "NotThere", "TooMany"]
def B_is_from : SF := s_ret (e_and (e_un (isB "int") (e_var 0)) (e_and (e_un notV (e_un (isB "bool") (e_var 0))) (e_chain leD leD (e_var 1) (e_var 0) (e_var 2))))
def F_is_from : List D → Option Res := fnD 3 3 B_is_from
def B_is_class : SF := s_seq (s_if (t_or (t_not (t_of (e_un (isB "tuple") (e_var 0)))) (t_or (t_of (e_bin neD (e_args lenD (a_cons (e_var 0) (a_nil))) (e_c (.int 2)))) (t_not (t_of (e_call F_is_from (a_cons (e_bin ixD (e_var 0) (e_c (.int 1))) (a_cons (e_c (.int 1)) (a_cons (e_c (.int 12)) (a_nil))))))))) (s_ret (e_c (.bl false))) (s_skip)) (s_ret (e_call F_is_from (a_cons (e_bin ixD (e_var 0) (e_c (.int 0))) (a_cons (e_c (.int 0)) (a_cons (e_bin subD (e_bin ixD (e_var 0) (e_c (.int 1))) (e_c (.int 1))) (a_nil))))))
def F_is_class : List D → Option Res := fnD 1 1 B_is_class
def B_Plan_init : SF := s_seq (s_if (t_or (t_not (t_of (e_un (isB "tuple") (e_var 1)))) (t_of (e_bin gtD (e_args lenD (a_cons (e_var 1) (a_nil))) (e_c (.int 8))))) (s_raise1 "BadClasses" "index" (e_c .non)) (s_skip)) (s_seq (s_for (i_enum (a_cons (e_var 1) a_nil)) (g_tup (gs_cons (g_name 2) (gs_cons (g_name 3) (gs_nil)))) (s_if (t_or (t_not (t_of (e_call F_is_class (a_cons (e_var 3) (a_nil))))) (t_of (e_bin inD (e_var 3) (e_sl (e_var 1) (o_none) (o_some (e_var 2)))))) (s_raise1 "BadClasses" "index" (e_var 2)) (s_skip))) (s_setattr 0 "Plan" "rows" (e_var 1)))
def I_Plan : List D → Option (Except Exn (List (Str × D))) := fnI "Plan" 4 2 B_Plan_init
def B_Plan_eq : SF := s_ret (e_and (e_un (isO "Plan") (e_var 1)) (e_bin eqD (e_un (fldD "Plan" "rows") (e_var 0)) (e_un (fldD "Plan" "rows") (e_var 1))))
def F_Plan_eq : List D → Option Res := fnD 2 2 B_Plan_eq
def B__law_pick : SF := s_seq (s_if (t_of (e_bin eqD (e_rowI 0 2) (e_c (.int 0)))) (s_if (t_of (e_bin ltD (e_rowI 0 1) (e_args lenD (a_cons (e_rowS 0) (a_nil))))) (s_seq (s_asg (e_bin ixD (e_rowS 0) (e_rowI 0 1)) (g_name 2)) (s_seq (s_rowset 0 1 (e_bin addD (e_rowI 0 1) (e_c (.int 1)))) (s_if (t_of (e_bin geD (e_var 2) (e_bin powD (e_c (.int 10)) (e_c (.int 18))))) (s_rowset 0 2 (e_var 2)) (s_rowset 0 3 (e_bin modD (e_args intD (a_cons (e_bin addD (e_bin addD (e_bin mulD (e_rowI 0 3) (e_c (.int 48271))) (e_bin mulD (e_var 2) (e_c (.int 69621)))) (e_c (.int 11))) (a_nil))) (e_c (.int 2147483647))))))) (s_rowset 0 3 (e_bin modD (e_args intD (a_cons (e_bin addD (e_bin mulD (e_rowI 0 3) (e_c (.int 48271))) (e_c (.int 7))) (a_nil))) (e_c (.int 2147483647))))) (s_skip)) (s_seq (s_if (t_of (e_bin gtD (e_rowI 0 2) (e_c (.int 0)))) (s_seq (s_asg (e_bin modD (e_args intD (a_cons (e_rowI 0 2) (a_nil))) (e_var 1)) (g_name 3)) (s_seq (s_rowset 0 2 (e_bin fdivD (e_rowI 0 2) (e_var 1))) (s_ret (e_var 3)))) (s_skip)) (s_ret (e_bin modD (e_bin modD (e_args intD (a_cons (e_bin mulD (e_rowI 0 3) (e_c (.int 16807))) (a_nil))) (e_c (.int 2147483629))) (e_var 1))))
def F__law_pick : List D → Row → Option (Res × Row) := fnR 4 2 B__law_pick
def B__law_rows : SF := s_seq (s_par 2 3 (e_args tupD (a_nil)) (e_callR 0 F__law_pick (a_cons (e_c (.int 4)) (a_nil)))) (s_seq (s_asg (e_bin ixD (e_args lstD (a_cons (e_args lstD (a_cons (e_c (.int 1)) (a_cons (e_c (.int 2)) (a_cons (e_c (.int 3)) (a_cons (e_c (.int 4)) (a_cons (e_c (.int 6)) (a_cons (e_c (.int 12)) (a_nil)))))))) (a_cons (e_args lstD (a_cons (e_c (.int 2)) (a_cons (e_c (.int 4)) (a_cons (e_c (.int 8)) (a_cons (e_c (.int 2)) (a_cons (e_c (.int 4)) (a_cons (e_c (.int 12)) (a_nil)))))))) (a_cons (e_args lstD (a_cons (e_c (.int 2)) (a_cons (e_c (.int 3)) (a_cons (e_c (.int 5)) (a_cons (e_c (.int 6)) (a_cons (e_c (.int 10)) (a_cons (e_c (.int 4)) (a_nil)))))))) (a_cons (e_args lstD (a_cons (e_c (.int 1)) (a_cons (e_c (.int 7)) (a_cons (e_c (.int 9)) (a_cons (e_c (.int 11)) (a_cons (e_c (.int 2)) (a_cons (e_c (.int 3)) (a_nil)))))))) (a_nil)))))) (e_var 3)) (g_name 4)) (s_seq (s_for (i_range1 (e_callR 0 F__law_pick (a_cons (e_bin addD (e_var 1) (e_c (.int 1))) (a_nil)))) (g_name 5) (s_seq (s_asg (e_bin ixD (e_var 4) (e_callR 0 F__law_pick (a_cons (e_c (.int 6)) (a_nil)))) (g_name 6)) (s_seq (s_asg (e_args tupD (a_cons (e_callR 0 F__law_pick (a_cons (e_var 6) (a_nil))) (a_cons (e_var 6) (a_nil)))) (g_name 7)) (s_if (t_of (e_bin notinD (e_var 7) (e_var 2))) (s_asg (e_bin addD (e_var 2) (e_args tupD (a_cons (e_var 7) (a_nil)))) (g_name 2)) (s_skip))))) (s_ret (e_var 2))))
def F__law_rows : List D → Row → Option (Res × Row) := fnR 8 2 B__law_rows
def B__law_odd_classes : SF := s_ret (e_args lstD (a_cons (e_c .non) (a_cons (e_c (.int 5)) (a_cons (e_args tupD (a_cons (e_c (.int 0)) (a_nil))) (a_cons (e_args lstD (a_cons (e_c (.int 0)) (a_cons (e_c (.int 1)) (a_nil)))) (a_cons (e_args tupD (a_cons (e_c (.int 0)) (a_cons (e_c (.int 0)) (a_nil)))) (a_cons (e_args tupD (a_cons (e_c (.int 1)) (a_cons (e_c (.int 1)) (a_nil)))) (a_cons (e_args tupD (a_cons (e_un negD (e_c (.int 1))) (a_cons (e_c (.int 2)) (a_nil)))) (a_cons (e_args tupD (a_cons (e_c (.int 0)) (a_cons (e_c (.int 13)) (a_nil)))) (a_cons (e_args tupD (a_cons (e_c (.bl true)) (a_cons (e_c (.int 2)) (a_nil)))) (a_cons (e_args tupD (a_cons (e_c (.int 0)) (a_cons (e_c (.bl true)) (a_nil)))) (a_cons (e_args tupD (a_cons (e_c (.int 0)) (a_cons (e_c (.int 1)) (a_cons (e_c (.int 2)) (a_nil))))) (a_cons (e_c (.str "01")) (a_cons (e_args tupD (a_cons (e_c (.str "0")) (a_cons (e_c (.int 2)) (a_nil)))) (a_nil)))))))))))))))
def F__law_odd_classes : List D → Option Res := fnD 0 0 B__law_odd_classes
def B__law_is_whole : SF := s_ret (e_and (e_un (isB "int") (e_var 0)) (e_and (e_un notV (e_un (isB "bool") (e_var 0))) (e_chain leD leD (e_var 1) (e_var 0) (e_var 2))))
def F__law_is_whole : List D → Option Res := fnD 3 3 B__law_is_whole
def B__law_due : SF := s_seq (s_if (t_or (t_not (t_of (e_un (isB "tuple") (e_var 0)))) (t_of (e_bin gtD (e_args lenD (a_cons (e_var 0) (a_nil))) (e_c (.int 8))))) (s_ret (e_args lstD (a_cons (e_c (.str "classes")) (a_cons (e_c .non) (a_nil))))) (s_skip)) (s_seq (s_for (i_range1 (e_args lenD (a_cons (e_var 0) (a_nil)))) (g_name 1) (s_seq (s_asg (e_bin ixD (e_var 0) (e_var 1)) (g_name 2)) (s_seq (s_if (t_or (t_not (t_of (e_un (isB "tuple") (e_var 2)))) (t_or (t_of (e_bin neD (e_args lenD (a_cons (e_var 2) (a_nil))) (e_c (.int 2)))) (t_not (t_of (e_call F__law_is_whole (a_cons (e_bin ixD (e_var 2) (e_c (.int 1))) (a_cons (e_c (.int 1)) (a_cons (e_c (.int 12)) (a_nil))))))))) (s_ret (e_args lstD (a_cons (e_c (.str "classes")) (a_cons (e_var 1) (a_nil))))) (s_skip)) (s_if (t_or (t_not (t_of (e_call F__law_is_whole (a_cons (e_bin ixD (e_var 2) (e_c (.int 0))) (a_cons (e_c (.int 0)) (a_cons (e_bin subD (e_bin ixD (e_var 2) (e_c (.int 1))) (e_c (.int 1))) (a_nil))))))) (t_of (e_bin inD (e_var 2) (e_sl (e_var 0) (o_none) (o_some (e_var 1)))))) (s_ret (e_args lstD (a_cons (e_c (.str "classes")) (a_cons (e_var 1) (a_nil))))) (s_skip))))) (s_ret (e_c .non)))
def F__law_due : List D → Option Res := fnD 3 1 B__law_due
def B_check_number : SF := s_if (t_not (t_of (e_call F_is_from (a_cons (e_var 0) (a_cons (e_un negD (e_c (.int 1000000000))) (a_cons (e_c (.int 1000000000)) (a_nil))))))) (s_raise0 "BadNumber") (s_skip)
def F_check_number : List D → Option Res := fnD 1 1 B_check_number
def B_check_index : SF := s_if (t_not (t_of (e_call F_is_from (a_cons (e_var 1) (a_cons (e_c (.int 0)) (a_cons (e_bin subD (e_args lenD (a_cons (e_un (fldD "Plan" "rows") (e_var 0)) (a_nil))) (e_c (.int 1))) (a_nil))))))) (s_raise0 "BadIndex") (s_skip)
def F_check_index : List D → Option Res := fnD 2 2 B_check_index
def B_divisor : SF := s_seq (s_while 64 (t_of (e_bin gtD (e_var 1) (e_c (.int 0)))) (s_par 0 1 (e_var 1) (e_bin modD (e_var 0) (e_var 1)))) (s_ret (e_var 0))
def F_divisor : List D → Option Res := fnD 2 2 B_divisor
def B_multiple : SF := s_seq (s_asg (e_c (.int 1)) (g_name 1)) (s_seq (s_for (i_seq (e_var 0)) (g_name 2) (s_asg (e_bin fdivD (e_bin mulD (e_var 1) (e_var 2)) (e_call F_divisor (a_cons (e_var 1) (a_cons (e_var 2) (a_nil))))) (g_name 1))) (s_ret (e_var 1)))
def F_multiple : List D → Option Res := fnD 3 1 B_multiple
def B_period_of : SF := s_ret (e_call F_multiple (a_cons (e_lc [1, 2] (i_seq (e_un (fldD "Plan" "rows") (e_var 0))) (g_tup (gs_cons (g_name 1) (gs_cons (g_name 2) (gs_nil)))) (t_yes) (e_var 2)) (a_nil)))
def F_period_of : List D → Option Res := fnD 3 1 B_period_of
def B_period : SF := s_ret (e_call F_period_of (a_cons (e_var 0) (a_nil)))
def F_period : List D → Option Res := fnD 1 1 B_period
def B_does_hold : SF := s_ret (e_bin eqD (e_bin modD (e_var 1) (e_bin ixD (e_var 0) (e_c (.int 1)))) (e_bin ixD (e_var 0) (e_c (.int 0))))
def F_does_hold : List D → Option Res := fnD 2 2 B_does_hold
def B_holders_of : SF := s_ret (e_args tupleD (a_cons (e_lc [2, 3] (i_enum (a_cons (e_un (fldD "Plan" "rows") (e_var 0)) a_nil)) (g_tup (gs_cons (g_name 2) (gs_cons (g_name 3) (gs_nil)))) (t_of (e_call F_does_hold (a_cons (e_var 3) (a_cons (e_var 1) (a_nil))))) (e_var 2)) (a_nil)))
def F_holders_of : List D → Option Res := fnD 4 2 B_holders_of
def B_holders : SF := s_seq (s_expr (e_call F_check_number (a_cons (e_var 1) (a_nil)))) (s_ret (e_args listD (a_cons (e_call F_holders_of (a_cons (e_var 0) (a_cons (e_var 1) (a_nil)))) (a_nil))))
def F_holders : List D → Option Res := fnD 2 2 B_holders
def B_first_from : SF := s_ret (e_bin addD (e_var 1) (e_bin modD (e_bin subD (e_bin ixD (e_var 0) (e_c (.int 0))) (e_var 1)) (e_bin ixD (e_var 0) (e_c (.int 1)))))
def F_first_from : List D → Option Res := fnD 2 2 B_first_from
def B_following : SF := s_seq (s_expr (e_call F_check_index (a_cons (e_var 0) (a_cons (e_var 1) (a_nil))))) (s_seq (s_expr (e_call F_check_number (a_cons (e_var 2) (a_nil)))) (s_ret (e_call F_first_from (a_cons (e_bin ixD (e_un (fldD "Plan" "rows") (e_var 0)) (e_var 1)) (a_cons (e_var 2) (a_nil))))))
def F_following : List D → Option Res := fnD 3 3 B_following
def B__law_period : SF := s_seq (s_asg (e_c (.int 1)) (g_name 1)) (s_seq (s_for (i_seq (e_var 0)) (g_tup (gs_cons (g_name 2) (gs_cons (g_name 3) (gs_nil)))) (s_seq (s_asg (e_var 1) (g_name 4)) (s_seq (s_while 100000 (t_of (e_bin neD (e_bin modD (e_var 4) (e_var 3)) (e_c (.int 0)))) (s_asg (e_bin addD (e_var 4) (e_var 1)) (g_name 4))) (s_asg (e_var 4) (g_name 1))))) (s_ret (e_var 1)))
def F__law_period : List D → Option Res := fnD 5 1 B__law_period
def B__law_has : SF := s_ret (e_bin eqD (e_bin modD (e_bin subD (e_var 1) (e_bin ixD (e_var 0) (e_c (.int 0)))) (e_bin ixD (e_var 0) (e_c (.int 1)))) (e_c (.int 0)))
def F__law_has : List D → Option Res := fnD 2 2 B__law_has
def B__law_number : SF := s_ret (e_bin ixD (e_args lstD (a_cons (e_c (.int 0)) (a_cons (e_bin subD (e_callR 0 F__law_pick (a_cons (e_c (.int 60)) (a_nil))) (e_c (.int 30))) (a_cons (e_bin subD (e_callR 0 F__law_pick (a_cons (e_c (.int 2000000001)) (a_nil))) (e_c (.int 1000000000))) (a_nil))))) (e_callR 0 F__law_pick (a_cons (e_c (.int 3)) (a_nil))))
def F__law_number : List D → Row → Option (Res × Row) := fnR 1 1 B__law_number
def B__law_odd_numbers : SF := s_ret (e_args lstD (a_cons (e_c .non) (a_cons (e_c (.str "0")) (a_cons (e_c (.bl true)) (a_cons (e_args tupD (a_cons (e_c (.int 0)) (a_nil))) (a_cons (e_c (.int 1000000001)) (a_cons (e_un negD (e_c (.int 1000000001))) (a_nil))))))))
def F__law_odd_numbers : List D → Option Res := fnD 0 0 B__law_odd_numbers
def B_lots_of : SF := s_ret (e_lc [1] (i_range1 (e_call F_period_of (a_cons (e_var 0) (a_nil)))) (g_name 1) (t_yes) (e_call F_holders_of (a_cons (e_var 0) (a_cons (e_var 1) (a_nil)))))
def F_lots_of : List D → Option Res := fnD 2 1 B_lots_of
def B_doubled : SF := s_seq (s_asg (e_c (.int 1)) (g_name 1)) (s_seq (s_for (i_range1 (e_var 0)) (g_name 2) (s_asg (e_bin mulD (e_c (.int 2)) (e_var 1)) (g_name 1))) (s_ret (e_var 1)))
def F_doubled : List D → Option Res := fnD 3 1 B_doubled
def B_first_missed : SF := s_seq (s_for (i_range1 (e_call F_doubled (a_cons (e_args lenD (a_cons (e_un (fldD "Plan" "rows") (e_var 0)) (a_nil))) (a_nil)))) (g_name 1) (s_if (t_of (e_bin eqD (e_call F_holders_of (a_cons (e_var 0) (a_cons (e_var 1) (a_nil)))) (e_args tupD (a_nil)))) (s_ret (e_var 1)) (s_skip))) (s_ret (e_c .non))
def F_first_missed : List D → Option Res := fnD 2 1 B_first_missed
def B_covers_all : SF := s_ret (e_bin isND (e_call F_first_missed (a_cons (e_var 0) (a_nil))) (e_c .non))
def F_covers_all : List D → Option Res := fnD 1 1 B_covers_all
def B_least_missed : SF := s_ret (e_call F_first_missed (a_cons (e_var 0) (a_nil)))
def F_least_missed : List D → Option Res := fnD 1 1 B_least_missed
def B_missed : SF := s_ret (e_lc [1, 2] (i_enum (a_cons (e_call F_lots_of (a_cons (e_var 0) (a_nil))) a_nil)) (g_tup (gs_cons (g_name 1) (gs_cons (g_name 2) (gs_nil)))) (t_of (e_bin eqD (e_var 2) (e_args tupD (a_nil)))) (e_var 1))
def F_missed : List D → Option Res := fnD 3 1 B_missed
def B_times : SF := s_seq (s_asg (e_lc [2] (i_seq (e_call F_lots_of (a_cons (e_var 0) (a_nil)))) (g_name 2) (t_yes) (e_args lenD (a_cons (e_var 2) (a_nil)))) (g_name 1)) (s_ret (e_dc [] putKD .dct [3] (i_seq (e_un srtSetI (e_var 1))) (g_name 3) (t_yes) (e_var 3) (e_cnt (e_var 1) (e_var 3))))
def F_times : List D → Option Res := fnD 4 1 B_times
def B__law_once : SF := s_seq (s_asg (e_args lstD (a_cons (e_args tupD (a_cons (e_c (.int 0)) (a_cons (e_c (.int 1)) (a_nil)))) (a_nil))) (g_name 1)) (s_seq (s_for (i_range1 (e_callR 0 F__law_pick (a_cons (e_c (.int 5)) (a_nil)))) (g_name 2) (s_seq (s_asg (e_args tupD (a_cons (e_callR 0 F__law_pick (a_cons (e_args lenD (a_cons (e_var 1) (a_nil))) (a_nil))) (a_cons (e_bin addD (e_c (.int 2)) (e_callR 0 F__law_pick (a_cons (e_c (.int 2)) (a_nil)))) (a_nil)))) (g_tup (gs_cons (g_name 3) (gs_cons (g_name 4) (gs_nil))))) (s_seq (s_asg (e_bin ixD (e_var 1) (e_var 3)) (g_tup (gs_cons (g_name 5) (gs_cons (g_name 6) (gs_nil))))) (s_if (t_and (t_of (e_bin leD (e_bin mulD (e_var 6) (e_var 4)) (e_c (.int 12)))) (t_of (e_bin leD (e_bin addD (e_args lenD (a_cons (e_var 1) (a_nil))) (e_var 4)) (e_c (.int 9))))) (s_asg (e_bin addD (e_bin addD (e_sl (e_var 1) (o_none) (o_some (e_var 3))) (e_lc [7] (i_range1 (e_var 4)) (g_name 7) (t_yes) (e_args tupD (a_cons (e_bin addD (e_var 5) (e_bin mulD (e_var 6) (e_var 7))) (a_cons (e_bin mulD (e_var 6) (e_var 4)) (a_nil)))))) (e_sl (e_var 1) (o_some (e_bin addD (e_var 3) (e_c (.int 1)))) (o_none))) (g_name 1)) (s_skip))))) (s_ret (e_args tupleD (a_cons (e_var 1) (a_nil)))))
def F__law_once : List D → Row → Option (Res × Row) := fnR 8 1 B__law_once
def B__law_lots : SF := s_seq (s_new 1 (e_bin repL (e_args lstD (a_cons (e_args tupD (a_nil)) (a_nil))) (e_call F__law_period (a_cons (e_var 0) (a_nil))))) (s_seq (s_for (i_range1 (e_args lenD (a_cons (e_var 0) (a_nil)))) (g_name 2) (s_seq (s_asg (e_bin ixD (e_bin ixD (e_var 0) (e_var 2)) (e_c (.int 0))) (g_name 3)) (s_while 100000 (t_peek 1 (t_of (e_bin ltD (e_var 3) (e_args lenD (a_cons (e_var 1) (a_nil)))))) (s_seq (s_setitem 1 (e_var 3) (e_peek 1 (e_bin addD (e_bin ixD (e_var 1) (e_var 3)) (e_args tupD (a_cons (e_var 2) (a_nil)))))) (s_asg (e_bin addD (e_var 3) (e_bin ixD (e_bin ixD (e_var 0) (e_var 2)) (e_c (.int 1)))) (g_name 3)))))) (s_frz 1 (s_ret (e_var 1))))
def F__law_lots : List D → Option Res := fnD 4 1 B__law_lots
def B_gaps_of : SF := s_seq (s_parC 1 2 false true (e_call F_lots_of (a_cons (e_var 0) (a_nil))) (e_args lstD (a_nil))) (s_seq (s_asg (e_args lenD (a_cons (e_var 1) (a_nil))) (g_name 3)) (s_seq (s_for (i_range1 (e_var 3)) (g_name 4) (s_if (t_and (t_of (e_bin eqD (e_bin ixD (e_var 1) (e_var 4)) (e_args tupD (a_nil)))) (t_of (e_bin neD (e_bin ixD (e_var 1) (e_bin subD (e_var 4) (e_c (.int 1)))) (e_args tupD (a_nil))))) (s_seq (s_asg (e_c (.int 1)) (g_name 5)) (s_seq (s_while 100000 (t_of (e_bin eqD (e_bin ixD (e_var 1) (e_bin modD (e_bin addD (e_var 4) (e_var 5)) (e_var 3))) (e_args tupD (a_nil)))) (s_aug 5 addI (e_c (.int 1)))) (s_append 2 (e_args tupD (a_cons (e_var 5) (a_cons (e_var 4) (a_nil))))))) (s_skip))) (s_frz 2 (s_ret (e_var 2)))))
def F_gaps_of : List D → Option Res := fnD 6 1 B_gaps_of
def B_longest_gap : SF := s_seq (s_asg (e_call F_gaps_of (a_cons (e_var 0) (a_nil))) (g_name 1)) (s_seq (s_if (t_of (e_bin eqD (e_var 1) (e_args lstD (a_nil)))) (s_ret (e_c .non)) (s_skip)) (s_seq (s_asg (e_args maxD (a_cons (e_lc [2, 3] (i_seq (e_var 1)) (g_tup (gs_cons (g_name 2) (gs_cons (g_name 3) (gs_nil)))) (t_yes) (e_var 2)) (a_nil))) (g_name 2)) (s_ret (e_args tupD (a_cons (e_var 2) (a_cons (e_args minD (a_cons (e_lc [4, 3] (i_seq (e_var 1)) (g_tup (gs_cons (g_name 4) (gs_cons (g_name 3) (gs_nil)))) (t_of (e_bin eqD (e_var 4) (e_var 2))) (e_var 3)) (a_nil))) (a_nil)))))))
def F_longest_gap : List D → Option Res := fnD 5 1 B_longest_gap
def B_paper : SF := s_seq (s_expr (e_call F_check_number (a_cons (e_var 1) (a_nil)))) (s_seq (s_asg (e_call F_first_missed (a_cons (e_var 0) (a_nil))) (g_name 2)) (s_seq (s_if (t_of (e_bin notND (e_var 2) (e_c .non))) (s_ret (e_args tupD (a_cons (e_c (.str "missed")) (a_cons (e_var 2) (a_nil))))) (s_skip)) (s_ret (e_args tupD (a_cons (e_c (.str "all")) (a_cons (e_var 1) (a_cons (e_args tupleD (a_cons (e_lc [3] (i_range1 (e_call F_doubled (a_cons (e_args lenD (a_cons (e_un (fldD "Plan" "rows") (e_var 0)) (a_nil))) (a_nil)))) (g_name 3) (t_yes) (e_bin ixD (e_call F_holders_of (a_cons (e_var 0) (a_cons (e_bin addD (e_var 1) (e_var 3)) (a_nil)))) (e_c (.int 0)))) (a_nil))) (a_nil))))))))
def F_paper : List D → Option Res := fnD 4 2 B_paper
def B_is_row : SF := s_seq (s_if (t_or (t_not (t_of (e_un (isB "tuple") (e_var 2)))) (t_of (e_bin neD (e_args lenD (a_cons (e_var 2) (a_nil))) (e_call F_doubled (a_cons (e_args lenD (a_cons (e_un (fldD "Plan" "rows") (e_var 0)) (a_nil))) (a_nil)))))) (s_ret (e_c (.bl false))) (s_skip)) (s_seq (s_if (t_not (t_of (e_args allD (a_cons (e_lc [4] (i_seq (e_var 2)) (g_name 4) (t_yes) (e_call F_is_from (a_cons (e_var 4) (a_cons (e_c (.int 0)) (a_cons (e_bin subD (e_args lenD (a_cons (e_un (fldD "Plan" "rows") (e_var 0)) (a_nil))) (e_c (.int 1))) (a_nil)))))) (a_nil))))) (s_ret (e_c (.bl false))) (s_skip)) (s_ret (e_args allD (a_cons (e_lc [3, 4] (i_enum (a_cons (e_var 2) a_nil)) (g_tup (gs_cons (g_name 3) (gs_cons (g_name 4) (gs_nil)))) (t_yes) (e_call F_does_hold (a_cons (e_bin ixD (e_un (fldD "Plan" "rows") (e_var 0)) (e_var 4)) (a_cons (e_bin addD (e_var 1) (e_var 3)) (a_nil))))) (a_nil)))))
def F_is_row : List D → Option Res := fnD 5 3 B_is_row
def B_is_paper : SF := s_seq (s_if (t_or (t_not (t_of (e_un (isB "tuple") (e_var 1)))) (t_or (t_of (e_bin notinD (e_args lenD (a_cons (e_var 1) (a_nil))) (e_args tupD (a_cons (e_c (.int 2)) (a_cons (e_c (.int 3)) (a_nil)))))) (t_not (t_of (e_un (isB "str") (e_bin ixD (e_var 1) (e_c (.int 0)))))))) (s_ret (e_c (.bl false))) (s_skip)) (s_seq (s_if (t_not (t_of (e_call F_is_from (a_cons (e_bin ixD (e_var 1) (e_c (.int 1))) (a_cons (e_un negD (e_c (.int 1000000000))) (a_cons (e_c (.int 1000000000)) (a_nil))))))) (s_ret (e_c (.bl false))) (s_skip)) (s_seq (s_if (t_of (e_bin eqD (e_args lenD (a_cons (e_var 1) (a_nil))) (e_c (.int 2)))) (s_ret (e_and (e_bin eqD (e_bin ixD (e_var 1) (e_c (.int 0))) (e_c (.str "missed"))) (e_bin eqD (e_call F_holders_of (a_cons (e_var 0) (a_cons (e_bin ixD (e_var 1) (e_c (.int 1))) (a_nil)))) (e_args tupD (a_nil))))) (s_skip)) (s_ret (e_and (e_bin eqD (e_bin ixD (e_var 1) (e_c (.int 0))) (e_c (.str "all"))) (e_call F_is_row (a_cons (e_var 0) (a_cons (e_bin ixD (e_var 1) (e_c (.int 1))) (a_cons (e_bin ixD (e_var 1) (e_c (.int 2))) (a_nil)))))))))
def F_is_paper : List D → Option Res := fnD 2 2 B_is_paper
def B_shows : SF := s_ret (e_call F_is_paper (a_cons (e_var 0) (a_cons (e_var 1) (a_nil))))
def F_shows : List D → Option Res := fnD 2 2 B_shows
def B__law_subsets : SF := s_seq (s_asg (e_args lstD (a_cons (e_args tupD (a_nil)) (a_nil))) (g_name 1)) (s_seq (s_for (i_seq (e_var 0)) (g_name 2) (s_asg (e_bin addD (e_var 1) (e_lc [3] (i_seq (e_var 1)) (g_name 3) (t_yes) (e_bin addD (e_var 3) (e_args tupD (a_cons (e_var 2) (a_nil)))))) (g_name 1))) (s_ret (e_args sortedD (a_cons (e_var 1) (a_nil)))))
def F__law_subsets : List D → Option Res := fnD 4 1 B__law_subsets
def B__law_shows : SF := s_seq (s_if (t_or (t_not (t_of (e_un (isB "tuple") (e_var 1)))) (t_or (t_of (e_bin notinD (e_args lenD (a_cons (e_var 1) (a_nil))) (e_args lstD (a_cons (e_c (.int 2)) (a_cons (e_c (.int 3)) (a_nil)))))) (t_not (t_of (e_un (isB "str") (e_bin ixD (e_var 1) (e_c (.int 0)))))))) (s_ret (e_c (.bl false))) (s_skip)) (s_seq (s_if (t_not (t_of (e_call F__law_is_whole (a_cons (e_bin ixD (e_var 1) (e_c (.int 1))) (a_cons (e_un negD (e_c (.int 1000000000))) (a_cons (e_c (.int 1000000000)) (a_nil))))))) (s_ret (e_c (.bl false))) (s_skip)) (s_seq (s_if (t_of (e_bin eqD (e_args lenD (a_cons (e_var 1) (a_nil))) (e_c (.int 2)))) (s_ret (e_and (e_bin eqD (e_bin ixD (e_var 1) (e_c (.int 0))) (e_c (.str "missed"))) (e_bin eqD (e_lc [4] (i_seq (e_var 0)) (g_name 4) (t_of (e_call F__law_has (a_cons (e_var 4) (a_cons (e_bin ixD (e_var 1) (e_c (.int 1))) (a_nil))))) (e_var 4)) (e_args lstD (a_nil))))) (s_skip)) (s_seq (s_asg (e_args lenD (a_cons (e_call F__law_subsets (a_cons (e_un listR1 (e_args lenD (a_cons (e_var 0) (a_nil)))) (a_nil))) (a_nil))) (g_name 2)) (s_seq (s_if (t_or (t_of (e_bin neD (e_bin ixD (e_var 1) (e_c (.int 0))) (e_c (.str "all")))) (t_or (t_not (t_of (e_un (isB "tuple") (e_bin ixD (e_var 1) (e_c (.int 2)))))) (t_of (e_bin neD (e_args lenD (a_cons (e_bin ixD (e_var 1) (e_c (.int 2))) (a_nil))) (e_var 2))))) (s_ret (e_c (.bl false))) (s_skip)) (s_seq (s_for (i_range1 (e_var 2)) (g_name 3) (s_if (t_or (t_not (t_of (e_call F__law_is_whole (a_cons (e_bin ixD (e_bin ixD (e_var 1) (e_c (.int 2))) (e_var 3)) (a_cons (e_c (.int 0)) (a_cons (e_bin subD (e_args lenD (a_cons (e_var 0) (a_nil))) (e_c (.int 1))) (a_nil))))))) (t_not (t_of (e_call F__law_has (a_cons (e_bin ixD (e_var 0) (e_bin ixD (e_bin ixD (e_var 1) (e_c (.int 2))) (e_var 3))) (a_cons (e_bin addD (e_bin ixD (e_var 1) (e_c (.int 1))) (e_var 3)) (a_nil))))))) (s_ret (e_c (.bl false))) (s_skip))) (s_ret (e_c (.bl true))))))))
def F__law_shows : List D → Option Res := fnD 5 2 B__law_shows
def B__law_spoilt : SF := s_seq (s_if (t_of (e_bin eqD (e_args lenD (a_cons (e_var 1) (a_nil))) (e_c (.int 2)))) (s_seq (s_asg (e_bin ixD (e_args lstD (a_cons (e_un negD (e_c (.int 1))) (a_cons (e_c (.int 1000000000)) (a_cons (e_c (.int 1000000001)) (a_cons (e_un negD (e_c (.int 1000000000))) (a_cons (e_c (.bl true)) (a_cons (e_c .non) (a_cons (e_args lstD (a_cons (e_c (.int 1)) (a_nil))) (a_cons (e_c (.dct [])) (a_nil)))))))))) (e_callR 0 F__law_pick (a_cons (e_c (.int 8)) (a_nil)))) (g_name 3)) (s_seq (s_asg (e_args lstD (a_cons (e_args tupD (a_cons (e_c (.str "missed")) (a_cons (e_bin addD (e_bin ixD (e_var 1) (e_c (.int 1))) (e_callR 0 F__law_pick (a_cons (e_c (.int 5)) (a_nil)))) (a_nil)))) (a_cons (e_bin addD (e_var 1) (e_args tupD (a_cons (e_c (.int 0)) (a_nil)))) (a_cons (e_args listD (a_cons (e_var 1) (a_nil))) (a_cons (e_bin addD (e_args tupD (a_cons (e_c (.str "all")) (a_nil))) (e_sl (e_var 1) (o_some (e_c (.int 1))) (o_none))) (a_nil)))))) (g_name 4)) (s_frz 4 (s_ret (e_bin ixD (e_bin addD (e_var 4) (e_args lstD (a_cons (e_args tupD (a_cons (e_c (.str "missed")) (a_cons (e_var 3) (a_nil)))) (a_cons (e_args tupD (a_cons (e_c (.str "missed")) (a_cons (e_var 3) (a_nil)))) (a_nil))))) (e_callR 0 F__law_pick (a_cons (e_c (.int 6)) (a_nil)))))))) (s_skip)) (s_seq (s_par 5 6 (e_bin ixD (e_var 1) (e_c (.int 1))) (e_bin ixD (e_var 1) (e_c (.int 2)))) (s_seq (s_asg (e_callR 0 F__law_pick (a_cons (e_args lenD (a_cons (e_var 6) (a_nil))) (a_nil))) (g_name 7)) (s_seq (s_asg (e_bin ixD (e_args lstD (a_cons (e_c .non) (a_cons (e_var 2) (a_cons (e_un negD (e_c (.int 1))) (a_cons (e_c (.bl true)) (a_cons (e_callR 0 F__law_pick (a_cons (e_var 2) (a_nil))) (a_cons (e_bin ixD (e_var 6) (e_var 7)) (a_nil)))))))) (e_callR 0 F__law_pick (a_cons (e_c (.int 6)) (a_nil)))) (g_name 3)) (s_seq (s_asg (e_args lstD (a_cons (e_args tupD (a_cons (e_c (.str "all")) (a_cons (e_bin addD (e_var 5) (e_c (.int 1))) (a_cons (e_var 6) (a_nil))))) (a_cons (e_args tupD (a_cons (e_c (.str "all")) (a_cons (e_var 5) (a_cons (e_args listD (a_cons (e_var 6) (a_nil))) (a_nil))))) (a_cons (e_args tupD (a_cons (e_c (.str "all")) (a_cons (e_var 5) (a_cons (e_sl (e_var 6) (o_none) (o_some (e_un negD (e_c (.int 1))))) (a_nil))))) (a_cons (e_sl (e_var 1) (o_none) (o_some (e_c (.int 2)))) (a_nil)))))) (g_name 4)) (s_seq (s_frz 4 (s_new 4 (e_bin catL (e_var 4) (e_args lstD (a_cons (e_args tupD (a_cons (e_c (.str "all")) (a_cons (e_c .non) (a_cons (e_var 6) (a_nil))))) (a_cons (e_args tupD (a_cons (e_c (.str "all")) (a_cons (e_var 5) (a_cons (e_bin addD (e_var 6) (e_sl (e_var 6) (o_none) (o_some (e_c (.int 1))))) (a_nil))))) (a_cons (e_bin addD (e_args tupD (a_cons (e_c (.str "missed")) (a_nil))) (e_sl (e_var 1) (o_some (e_c (.int 1))) (o_none))) (a_cons (e_bin mulD (e_var 1) (e_c (.int 2))) (a_nil))))))))) (s_seq (s_append 4 (e_args tupD (a_cons (e_c (.str "all")) (a_cons (e_var 5) (a_cons (e_bin addD (e_bin addD (e_sl (e_var 6) (o_none) (o_some (e_var 7))) (e_args tupD (a_cons (e_var 3) (a_nil)))) (e_sl (e_var 6) (o_some (e_bin addD (e_var 7) (e_c (.int 1)))) (o_none))) (a_nil)))))) (s_frz 4 (s_ret (e_bin ixD (e_var 4) (e_callR 0 F__law_pick (a_cons (e_c (.int 9)) (a_nil))))))))))))
def F__law_spoilt : List D → Row → Option (Res × Row) := fnR 8 3 B__law_spoilt
def B_needless : SF := s_seq (s_asg (e_dc [] putN .dcn [2] (i_seq (e_call F_lots_of (a_cons (e_var 0) (a_nil)))) (g_name 2) (t_yes) (e_var 2) (e_c (.bl true))) (g_name 1)) (s_ret (e_lc [3] (i_range1 (e_args lenD (a_cons (e_un (fldD "Plan" "rows") (e_var 0)) (a_nil)))) (g_name 3) (t_of (e_bin notinN (e_args tupD (a_cons (e_var 3) (a_nil))) (e_var 1))) (e_var 3)))
def F_needless : List D → Option Res := fnD 4 1 B_needless
def B_sets_of (rec : List D → Option Res) : SF := s_seq (s_if (t_of (e_bin eqD (e_var 1) (e_c (.int 0)))) (s_ret (e_args lstD (a_cons (e_args tupD (a_nil)) (a_nil)))) (s_skip)) (s_seq (s_new 2 (e_args lstD (a_nil))) (s_seq (s_for (i_enum (a_cons (e_var 0) a_nil)) (g_tup (gs_cons (g_name 3) (gs_cons (g_name 4) (gs_nil)))) (s_extend 2 (e_lc [5] (i_seq (e_call rec (a_cons (e_sl (e_var 0) (o_some (e_bin addD (e_var 3) (e_c (.int 1)))) (o_none)) (a_cons (e_bin subD (e_var 1) (e_c (.int 1))) (a_nil))))) (g_name 5) (t_yes) (e_args tupD (a_cons (e_var 4) (a_star (e_var 5) (a_nil))))))) (s_frz 2 (s_ret (e_var 2)))))
def R_sets_of : Nat → List D → Option Res
  | 0 => fun _ => none
  | nn + 1 => fnD 6 2 (B_sets_of (R_sets_of nn))
def F_sets_of : List D → Option Res := R_sets_of 10
def B_does_meet : SF := s_ret (e_or (e_bin eqD (e_var 0) (e_args tupD (a_nil))) (e_args anyD (a_cons (e_lc [2] (i_seq (e_var 0)) (g_name 2) (t_yes) (e_bin inD (e_var 2) (e_var 1))) (a_nil))))
def F_does_meet : List D → Option Res := fnD 3 2 B_does_meet
def B_leanest : SF := s_seq (s_asg (e_args tupD (a_cons (e_args listN (a_cons (e_dc [] putN .dcn [6] (i_seq (e_call F_lots_of (a_cons (e_var 0) (a_nil)))) (g_name 6) (t_yes) (e_var 6) (e_c (.bl true))) (a_nil))) (a_cons (e_un listR1 (e_args lenD (a_cons (e_un (fldD "Plan" "rows") (e_var 0)) (a_nil)))) (a_nil)))) (g_tup (gs_cons (g_name 1) (gs_cons (g_name 2) (gs_nil))))) (s_seq (s_for (i_range1 (e_bin addD (e_args lenD (a_cons (e_var 2) (a_nil))) (e_c (.int 1)))) (g_name 3) (s_seq (s_asg (e_lc [5] (i_seq (e_call F_sets_of (a_cons (e_var 2) (a_cons (e_var 3) (a_nil))))) (g_name 5) (t_of (e_args allD (a_cons (e_lc [6] (i_seq (e_var 1)) (g_name 6) (t_yes) (e_call F_does_meet (a_cons (e_var 6) (a_cons (e_var 5) (a_nil))))) (a_nil)))) (e_var 5)) (g_name 4)) (s_if (t_of (e_bin neD (e_var 4) (e_args lstD (a_nil)))) (s_ret (e_var 4)) (s_skip)))) (s_ret (e_args lstD (a_cons (e_args tupleD (a_cons (e_var 2) (a_nil))) (a_nil)))))
def F_leanest : List D → Option Res := fnD 7 1 B_leanest
def B_check_steps : SF := s_seq (s_if (t_or (t_not (t_of (e_un (isB "tuple") (e_var 0)))) (t_not (t_of (e_chain leD leD (e_c (.int 1)) (e_args lenD (a_cons (e_var 0) (a_nil))) (e_c (.int 6)))))) (s_raise1 "BadSteps" "index" (e_c .non)) (s_skip)) (s_for (i_enum (a_cons (e_var 0) a_nil)) (g_tup (gs_cons (g_name 1) (gs_cons (g_name 2) (gs_nil)))) (s_if (t_or (t_not (t_of (e_call F_is_from (a_cons (e_var 2) (a_cons (e_c (.int 1)) (a_cons (e_c (.int 12)) (a_nil))))))) (t_and (t_of (e_bin gtD (e_var 1) (e_c (.int 0)))) (t_of (e_bin leD (e_var 2) (e_bin ixD (e_var 0) (e_bin subD (e_var 1) (e_c (.int 1)))))))) (s_raise1 "BadSteps" "index" (e_var 1)) (s_skip)))
def F_check_steps : List D → Option Res := fnD 3 1 B_check_steps
def B_fills_of (rec : List D → Option Res) : SF := s_seq (s_if (t_of (e_bin eqD (e_var 0) (e_args lstD (a_nil)))) (s_ret (e_args lstD (a_cons (e_args tupD (a_nil)) (a_nil)))) (s_skip)) (s_seq (s_if (t_of (e_bin eqD (e_var 2) (e_c (.int 0)))) (s_ret (e_args lstD (a_nil))) (s_skip)) (s_seq (s_new 3 (e_c (.dcn []))) (s_seq (s_for (i_seq (e_var 1)) (g_name 4) (s_seq (s_asg (e_args tupD (a_cons (e_bin modD (e_bin ixD (e_var 0) (e_c (.int 0))) (e_var 4)) (a_cons (e_var 4) (a_nil)))) (g_name 5)) (s_seq (s_asg (e_lc [8] (i_seq (e_var 0)) (g_name 8) (t_not (t_of (e_call F_does_hold (a_cons (e_var 5) (a_cons (e_var 8) (a_nil)))))) (e_var 8)) (g_name 6)) (s_for (i_seq (e_call rec (a_cons (e_var 6) (a_cons (e_var 1) (a_cons (e_bin subD (e_var 2) (e_c (.int 1))) (a_nil)))))) (g_name 7) (s_dset 3 (e_args tupleD (a_cons (e_args sortedD (a_cons (e_args lstD (a_cons (e_var 5) (a_star (e_var 7) (a_nil)))) (a_nil))) (a_nil))) (e_c (.bl true))))))) (s_frz 3 (s_ret (e_args sortedN (a_cons (e_var 3) (a_nil))))))))
def R_fills_of : Nat → List D → Option Res
  | 0 => fun _ => none
  | nn + 1 => fnD 9 3 (B_fills_of (R_fills_of nn))
def F_fills_of : List D → Option Res := R_fills_of 6
def B_fills : SF := s_seq (s_expr (e_call F_check_steps (a_cons (e_var 1) (a_nil)))) (s_seq (s_if (t_not (t_of (e_call F_is_from (a_cons (e_var 2) (a_cons (e_c (.int 0)) (a_cons (e_c (.int 3)) (a_nil))))))) (s_raise0 "BadMost") (s_skip)) (s_seq (s_asg (e_call F_multiple (a_cons (e_bin addD (e_lc [8, 9] (i_seq (e_un (fldD "Plan" "rows") (e_var 0))) (g_tup (gs_cons (g_name 8) (gs_cons (g_name 9) (gs_nil)))) (t_yes) (e_var 9)) (e_args listD (a_cons (e_var 1) (a_nil)))) (a_nil))) (g_name 3)) (s_seq (s_asg (e_lc [7] (i_range1 (e_var 3)) (g_name 7) (t_of (e_bin eqD (e_call F_holders_of (a_cons (e_var 0) (a_cons (e_var 7) (a_nil)))) (e_args tupD (a_nil)))) (e_var 7)) (g_name 4)) (s_seq (s_for (i_range1 (e_bin addD (e_var 2) (e_c (.int 1)))) (g_name 5) (s_seq (s_asg (e_call F_fills_of (a_cons (e_var 4) (a_cons (e_var 1) (a_cons (e_var 5) (a_nil))))) (g_name 6)) (s_if (t_of (e_bin neD (e_var 6) (e_args lstD (a_nil)))) (s_ret (e_var 6)) (s_skip)))) (s_ret (e_args lstD (a_nil)))))))
def F_fills : List D → Option Res := fnD 10 3 B_fills
def B__law_sets : SF := s_seq (s_asg (e_args lstD (a_cons (e_args tupD (a_nil)) (a_nil))) (g_name 2)) (s_seq (s_for (i_seq (e_var 0)) (g_name 3) (s_asg (e_bin addD (e_var 2) (e_lc [4] (i_seq (e_var 2)) (g_name 4) (t_of (e_bin ltD (e_args lenD (a_cons (e_var 4) (a_nil))) (e_var 1))) (e_bin addD (e_var 4) (e_args tupD (a_cons (e_var 3) (a_nil)))))) (g_name 2))) (s_ret (e_args sortedD (a_cons (e_lc [4] (i_seq (e_var 2)) (g_name 4) (t_of (e_bin eqD (e_args lenD (a_cons (e_var 4) (a_nil))) (e_var 1))) (e_var 4)) (a_nil)))))
def F__law_sets : List D → Option Res := fnD 5 2 B__law_sets
def B_parts_of : SF := s_seq (s_asg (e_var 0) (g_tup (gs_cons (g_name 2) (gs_cons (g_name 3) (gs_nil))))) (s_ret (e_lc [4] (i_range1 (e_var 1)) (g_name 4) (t_yes) (e_args tupD (a_cons (e_bin addD (e_var 2) (e_bin mulD (e_var 3) (e_var 4))) (a_cons (e_bin mulD (e_var 3) (e_var 1)) (a_nil))))))
def F_parts_of : List D → Option Res := fnD 5 2 B_parts_of
def B_split : SF := s_seq (s_expr (e_call F_check_index (a_cons (e_var 0) (a_cons (e_var 1) (a_nil))))) (s_seq (s_asg (e_bin ixD (e_un (fldD "Plan" "rows") (e_var 0)) (e_var 1)) (g_name 3)) (s_seq (s_if (t_or (t_not (t_of (e_call F_is_from (a_cons (e_var 2) (a_cons (e_c (.int 2)) (a_cons (e_c (.int 12)) (a_nil))))))) (t_or (t_of (e_bin gtD (e_bin mulD (e_bin ixD (e_var 3) (e_c (.int 1))) (e_var 2)) (e_c (.int 12)))) (t_of (e_bin gtD (e_bin subD (e_bin addD (e_args lenD (a_cons (e_un (fldD "Plan" "rows") (e_var 0)) (a_nil))) (e_var 2)) (e_c (.int 1))) (e_c (.int 8)))))) (s_raise0 "BadMost") (s_skip)) (s_seq (s_asg (e_args lstD (a_star (e_sl (e_un (fldD "Plan" "rows") (e_var 0)) (o_none) (o_some (e_var 1))) (a_star (e_call F_parts_of (a_cons (e_var 3) (a_cons (e_var 2) (a_nil)))) (a_star (e_sl (e_un (fldD "Plan" "rows") (e_var 0)) (o_some (e_bin addD (e_var 1) (e_c (.int 1)))) (o_none)) (a_nil))))) (g_name 4)) (s_seq (s_if (t_of (e_bin ltD (e_args lenN (a_cons (e_dc [] putN .dcn [5] (i_seq (e_var 4)) (g_name 5) (t_yes) (e_var 5) (e_c (.bl true))) (a_nil))) (e_args lenD (a_cons (e_var 4) (a_nil))))) (s_raise0 "BadMost") (s_skip)) (s_ret (e_make "Plan" I_Plan (a_cons (e_args tupleD (a_cons (e_var 4) (a_nil))) (a_nil))))))))
def F_split : List D → Option Res := fnD 6 3 B_split
def B_merges_of : SF := s_seq (s_new 1 (e_args lstD (a_nil))) (s_seq (s_for (i_range2 (e_c (.int 1)) (e_c (.int 12))) (g_name 2) (s_for (i_range1 (e_var 2)) (g_name 3) (s_for (i_range2 (e_c (.int 2)) (e_bin addD (e_bin fdivD (e_c (.int 12)) (e_var 2)) (e_c (.int 1)))) (g_name 4) (s_seq (s_asg (e_call F_parts_of (a_cons (e_args tupD (a_cons (e_var 3) (a_cons (e_var 2) (a_nil)))) (a_cons (e_var 4) (a_nil)))) (g_name 5)) (s_if (t_of (e_args allD (a_cons (e_lc [6] (i_seq (e_var 5)) (g_name 6) (t_yes) (e_bin inD (e_var 6) (e_var 0))) (a_nil)))) (s_append 1 (e_args tupD (a_cons (e_args tupD (a_cons (e_var 3) (a_cons (e_var 2) (a_nil)))) (a_cons (e_args tupleD (a_cons (e_var 5) (a_nil))) (a_nil))))) (s_skip)))))) (s_frz 1 (s_ret (e_args sortedD (a_cons (e_var 1) (a_nil))))))
def F_merges_of : List D → Option Res := fnD 7 1 B_merges_of
def B_merges : SF := s_ret (e_call F_merges_of (a_cons (e_un (fldD "Plan" "rows") (e_var 0)) (a_nil)))
def F_merges : List D → Option Res := fnD 1 1 B_merges
def B__law_parts : SF := s_ret (e_args tupleD (a_cons (e_lc [2] (i_range1 (e_var 1)) (g_name 2) (t_yes) (e_args tupD (a_cons (e_bin addD (e_bin ixD (e_var 0) (e_c (.int 0))) (e_bin mulD (e_bin ixD (e_var 0) (e_c (.int 1))) (e_var 2))) (a_cons (e_bin mulD (e_bin ixD (e_var 0) (e_c (.int 1))) (e_var 1)) (a_nil))))) (a_nil)))
def F__law_parts : List D → Option Res := fnD 3 2 B__law_parts
def B_is_once : SF := s_ret (e_args allD (a_cons (e_lc [1] (i_seq (e_call F_lots_of (a_cons (e_var 0) (a_nil)))) (g_name 1) (t_yes) (e_bin eqD (e_args lenD (a_cons (e_var 1) (a_nil))) (e_c (.int 1)))) (a_nil)))
def F_is_once : List D → Option Res := fnD 2 1 B_is_once
def B_merged : SF := s_ret (e_args tupleD (a_cons (e_args sortedD (a_cons (e_bin addD (e_lc [3] (i_seq (e_var 0)) (g_name 3) (t_of (e_bin notinD (e_var 3) (e_var 2))) (e_var 3)) (e_args lstD (a_cons (e_var 1) (a_nil)))) (a_nil))) (a_nil)))
def F_merged : List D → Option Res := fnD 4 3 B_merged
def B_is_split : SF := s_seq (s_parC 1 2 true true (e_c (.dcn [])) (e_args lstD (a_cons (e_args tupleD (a_cons (e_args sortedT (a_cons (e_un (fldD "Plan" "rows") (e_var 0)) (a_nil))) (a_nil))) (a_nil)))) (s_seq (s_while 100000 (t_peek 2 (t_of (e_bin neD (e_var 2) (e_args lstD (a_nil))))) (s_seq (s_pop 3 2) (s_if (t_peek 1 (t_of (e_bin notinN (e_var 3) (e_var 1)))) (s_seq (s_dset 1 (e_var 3) (e_c (.bl true))) (s_seq (s_if (t_of (e_bin eqD (e_var 3) (e_args tupD (a_cons (e_args tupD (a_cons (e_c (.int 0)) (a_cons (e_c (.int 1)) (a_nil)))) (a_nil))))) (s_ret (e_c (.bl true))) (s_skip)) (s_extend 2 (e_lc [4, 5] (i_seq (e_call F_merges_of (a_cons (e_var 3) (a_nil)))) (g_tup (gs_cons (g_name 4) (gs_cons (g_name 5) (gs_nil)))) (t_of (e_bin notinD (e_var 4) (e_var 3))) (e_call F_merged (a_cons (e_var 3) (a_cons (e_var 4) (a_cons (e_var 5) (a_nil))))))))) (s_skip)))) (s_ret (e_c (.bl false))))
def F_is_split : List D → Option Res := fnD 6 1 B_is_split
def B__law_is_split (rec : List D → Option Res) : SF := s_seq (s_if (t_of (e_bin eqD (e_args sortedT (a_cons (e_var 0) (a_nil))) (e_args lstD (a_cons (e_args tupD (a_cons (e_c (.int 0)) (a_cons (e_c (.int 1)) (a_nil)))) (a_nil))))) (s_ret (e_c (.bl true))) (s_skip)) (s_seq (s_for (i_range2 (e_c (.int 2)) (e_c (.int 13))) (g_name 1) (s_if (t_and (t_of (e_bin neD (e_var 0) (e_args tupD (a_nil)))) (t_of (e_args allD (a_cons (e_lc [4] (i_seq (e_var 0)) (g_name 4) (t_yes) (e_bin eqD (e_bin modD (e_bin ixD (e_var 4) (e_c (.int 1))) (e_var 1)) (e_c (.int 0)))) (a_nil))))) (s_seq (s_asg (e_lc [3] (i_range1 (e_var 1)) (g_name 3) (t_yes) (e_args tupleD (a_cons (e_lc [4] (i_seq (e_var 0)) (g_name 4) (t_of (e_bin eqD (e_bin modD (e_bin ixD (e_var 4) (e_c (.int 0))) (e_var 1)) (e_var 3))) (e_args tupD (a_cons (e_bin fdivD (e_bin ixD (e_var 4) (e_c (.int 0))) (e_var 1)) (a_cons (e_bin fdivD (e_bin ixD (e_var 4) (e_c (.int 1))) (e_var 1)) (a_nil))))) (a_nil)))) (g_name 2)) (s_if (t_and (t_of (e_bin notinD (e_args tupD (a_nil)) (e_var 2))) (t_of (e_args allD (a_cons (e_lc [5] (i_seq (e_var 2)) (g_name 5) (t_yes) (e_call rec (a_cons (e_var 5) (a_nil)))) (a_nil))))) (s_ret (e_c (.bl true))) (s_skip))) (s_skip))) (s_ret (e_c (.bl false))))
def R__law_is_split : Nat → List D → Option Res
  | 0 => fun _ => none
  | nn + 1 => fnD 6 1 (B__law_is_split (R__law_is_split nn))
def F__law_is_split : List D → Option Res := R__law_is_split 7
def B_check_class : SF := s_if (t_not (t_of (e_call F_is_class (a_cons (e_var 0) (a_nil))))) (s_raise0 "BadClass") (s_skip)
def F_check_class : List D → Option Res := fnD 1 1 B_check_class
def B_meeting : SF := s_seq (s_expr (e_call F_check_class (a_cons (e_var 0) (a_nil)))) (s_seq (s_expr (e_call F_check_class (a_cons (e_var 1) (a_nil)))) (s_seq (s_asg (e_call F_multiple (a_cons (e_args lstD (a_cons (e_bin ixD (e_var 0) (e_c (.int 1))) (a_cons (e_bin ixD (e_var 1) (e_c (.int 1))) (a_nil)))) (a_nil))) (g_name 2)) (s_seq (s_asg (e_lc [4] (i_range1 (e_var 2)) (g_name 4) (t_and (t_of (e_call F_does_hold (a_cons (e_var 0) (a_cons (e_var 4) (a_nil))))) (t_of (e_call F_does_hold (a_cons (e_var 1) (a_cons (e_var 4) (a_nil)))))) (e_var 4)) (g_name 3)) (s_ret (e_if (t_of (e_bin neD (e_var 3) (e_args lstD (a_nil)))) (e_args tupD (a_cons (e_bin ixD (e_var 3) (e_c (.int 0))) (a_cons (e_var 2) (a_nil)))) (e_c .non))))))
def F_meeting : List D → Option Res := fnD 5 2 B_meeting
def B_common_period : SF := s_ret (e_call F_multiple (a_cons (e_lc [2, 3] (i_seq (e_bin addD (e_un (fldD "Plan" "rows") (e_var 0)) (e_un (fldD "Plan" "rows") (e_var 1)))) (g_tup (gs_cons (g_name 2) (gs_cons (g_name 3) (gs_nil)))) (t_yes) (e_var 3)) (a_nil)))
def F_common_period : List D → Option Res := fnD 4 2 B_common_period
def B_first_apart : SF := s_seq (s_for (i_range1 (e_call F_common_period (a_cons (e_var 0) (a_cons (e_var 1) (a_nil))))) (g_name 2) (s_if (t_of (e_bin neD (e_bin eqD (e_call F_holders_of (a_cons (e_var 0) (a_cons (e_var 2) (a_nil)))) (e_args tupD (a_nil))) (e_bin eqD (e_call F_holders_of (a_cons (e_var 1) (a_cons (e_var 2) (a_nil)))) (e_args tupD (a_nil))))) (s_ret (e_var 2)) (s_skip))) (s_ret (e_c .non))
def F_first_apart : List D → Option Res := fnD 3 2 B_first_apart
def B_same : SF := s_ret (e_bin isND (e_call F_first_apart (a_cons (e_var 0) (a_cons (e_var 1) (a_nil)))) (e_c .non))
def F_same : List D → Option Res := fnD 2 2 B_same
def B_within : SF := s_seq (s_asg (e_un listR1 (e_call F_common_period (a_cons (e_var 0) (a_cons (e_var 1) (a_nil))))) (g_name 2)) (s_ret (e_args allD (a_cons (e_lc [3] (i_seq (e_var 2)) (g_name 3) (t_yes) (e_or (e_bin eqD (e_call F_holders_of (a_cons (e_var 0) (a_cons (e_var 3) (a_nil)))) (e_args tupD (a_nil))) (e_bin neD (e_call F_holders_of (a_cons (e_var 1) (a_cons (e_var 3) (a_nil)))) (e_args tupD (a_nil))))) (a_nil))))
def F_within : List D → Option Res := fnD 4 2 B_within
def B_left : SF := s_seq (s_expr (e_call F_check_class (a_cons (e_var 1) (a_nil)))) (s_seq (s_asg (e_call F_multiple (a_cons (e_bin addD (e_args lstD (a_cons (e_bin ixD (e_var 1) (e_c (.int 1))) (a_nil))) (e_lc [4, 5] (i_seq (e_un (fldD "Plan" "rows") (e_var 0))) (g_tup (gs_cons (g_name 4) (gs_cons (g_name 5) (gs_nil)))) (t_yes) (e_var 5))) (a_nil))) (g_name 2)) (s_ret (e_args tupD (a_cons (e_lc [3] (i_range1 (e_var 2)) (g_name 3) (t_and (t_of (e_call F_does_hold (a_cons (e_var 1) (a_cons (e_var 3) (a_nil))))) (t_of (e_bin eqD (e_call F_holders_of (a_cons (e_var 0) (a_cons (e_var 3) (a_nil)))) (e_args tupD (a_nil))))) (e_var 3)) (a_cons (e_var 2) (a_nil))))))
def F_left : List D → Option Res := fnD 6 2 B_left
def B__law_wrong_left : SF := s_seq (s_asg (e_c .non) (g_name 2)) (s_seq (s_try (s_asg (e_call F_left (a_cons (e_var 0) (a_cons (e_var 1) (a_nil)))) (g_name 2)) ([⟨subT XS "BadClass", 3, 2, v_isif ["BadClass"] (v_str "class")⟩])) (s_ret (e_var 2)))
def F__law_wrong_left : List D → Option Res := fnD 4 2 B__law_wrong_left
def B_is_lot : SF := s_seq (s_if (t_or (t_not (t_of (e_un (isB "tuple") (e_var 0)))) (t_or (t_of (e_bin neD (e_args lenD (a_cons (e_var 0) (a_nil))) (e_c (.int 4)))) (t_not (t_of (e_call F_is_from (a_cons (e_bin ixD (e_var 0) (e_c (.int 3))) (a_cons (e_c (.int 1)) (a_cons (e_c (.int 6)) (a_nil))))))))) (s_ret (e_c (.bl false))) (s_skip)) (s_ret (e_args allD (a_cons (e_lc [1] (i_seq (e_sl (e_var 0) (o_none) (o_some (e_c (.int 3))))) (g_name 1) (t_yes) (e_call F_is_from (a_cons (e_var 1) (a_cons (e_c (.int 0)) (a_cons (e_bin subD (e_bin ixD (e_var 0) (e_c (.int 3))) (e_c (.int 1))) (a_nil)))))) (a_nil))))
def F_is_lot : List D → Option Res := fnD 2 1 B_is_lot
def B_check_lots : SF := s_seq (s_if (t_or (t_not (t_of (e_un (isB2 "list" "tuple") (e_var 0)))) (t_of (e_bin gtD (e_args lenD (a_cons (e_var 0) (a_nil))) (e_c (.int 6))))) (s_raise1 "BadLots" "index" (e_c .non)) (s_skip)) (s_for (i_enum (a_cons (e_var 0) a_nil)) (g_tup (gs_cons (g_name 1) (gs_cons (g_name 2) (gs_nil)))) (s_if (t_not (t_of (e_call F_is_lot (a_cons (e_var 2) (a_nil))))) (s_raise1 "BadLots" "index" (e_var 1)) (s_skip)))
def F_check_lots : List D → Option Res := fnD 3 1 B_check_lots
def B_does_have : SF := s_seq (s_asg (e_var 0) (g_tup (gs_cons (g_name 3) (gs_cons (g_name 4) (gs_cons (g_name 5) (gs_cons (g_name 6) (gs_nil))))))) (s_ret (e_bin eqD (e_bin modD (e_bin addD (e_bin mulD (e_var 3) (e_var 1)) (e_bin mulD (e_var 4) (e_var 2))) (e_var 6)) (e_var 5)))
def F_does_have : List D → Option Res := fnD 7 3 B_does_have
def B_open_cells : SF := s_seq (s_expr (e_call F_check_lots (a_cons (e_var 0) (a_nil)))) (s_seq (s_asg (e_call F_multiple (a_cons (e_lc [5] (i_seq (e_var 0)) (g_name 5) (t_yes) (e_bin ixD (e_var 5) (e_c (.int 3)))) (a_nil))) (g_name 1)) (s_seq (s_asg (e_lc2 [3, 4] (i_range1 (e_var 1)) (g_name 3) (t_yes) (i_range1 (e_var 1)) [4] (g_name 4) (t_yes) (e_args tupD (a_cons (e_var 3) (a_cons (e_var 4) (a_nil))))) (g_name 2)) (s_ret (e_args tupD (a_cons (e_var 1) (a_cons (e_lc [6] (i_seq (e_var 2)) (g_name 6) (t_not (t_of (e_args anyD (a_cons (e_lc [5] (i_seq (e_var 0)) (g_name 5) (t_yes) (e_call F_does_have (a_cons (e_var 5) (a_cons (e_bin ixD (e_var 6) (e_c (.int 0))) (a_cons (e_bin ixD (e_var 6) (e_c (.int 1))) (a_nil)))))) (a_nil))))) (e_var 6)) (a_nil)))))))
def F_open_cells : List D → Option Res := fnD 7 1 B_open_cells
def B_covers_cells : SF := s_ret (e_bin eqD (e_bin ixD (e_call F_open_cells (a_cons (e_var 0) (a_nil))) (e_c (.int 1))) (e_args lstD (a_nil)))
def F_covers_cells : List D → Option Res := fnD 1 1 B_covers_cells
def B_check_seen : SF := s_seq (s_if (t_not (t_of (e_call F_is_from (a_cons (e_var 0) (a_cons (e_c (.int 1)) (a_cons (e_c (.int 12)) (a_nil))))))) (s_raise0 "BadMost") (s_skip)) (s_for (i_enum (a_cons (e_var 1) a_nil)) (g_tup (gs_cons (g_name 2) (gs_cons (g_name 3) (gs_nil)))) (s_seq (s_if (t_or (t_not (t_of (e_un (isB "tuple") (e_var 3)))) (t_or (t_of (e_bin neD (e_args lenD (a_cons (e_var 3) (a_nil))) (e_c (.int 2)))) (t_not (t_of (e_call F_is_from (a_cons (e_bin ixD (e_var 3) (e_c (.int 0))) (a_cons (e_un negD (e_c (.int 1000000000))) (a_cons (e_c (.int 1000000000)) (a_nil))))))))) (s_raise1 "BadSeen" "index" (e_var 2)) (s_skip)) (s_if (t_not (t_of (e_un (isB "bool") (e_bin ixD (e_var 3) (e_c (.int 1)))))) (s_raise1 "BadSeen" "index" (e_var 2)) (s_skip))))
def F_check_seen : List D → Option Res := fnD 4 2 B_check_seen
def B_fitting : SF := s_seq (s_asg (e_lc2 [3, 4] (i_range2 (e_c (.int 1)) (e_bin addD (e_var 0) (e_c (.int 1)))) (g_name 3) (t_yes) (i_range1 (e_var 3)) [4] (g_name 4) (t_yes) (e_args tupD (a_cons (e_var 4) (a_cons (e_var 3) (a_nil))))) (g_name 2)) (s_ret (e_lc [5] (i_seq (e_var 2)) (g_name 5) (t_of (e_args allD (a_cons (e_lc [6, 7] (i_seq (e_var 1)) (g_tup (gs_cons (g_name 6) (gs_cons (g_name 7) (gs_nil)))) (t_yes) (e_bin eqD (e_call F_does_hold (a_cons (e_var 5) (a_cons (e_var 6) (a_nil)))) (e_var 7))) (a_nil)))) (e_var 5)))
def F_fitting : List D → Option Res := fnD 8 2 B_fitting
def B_classes_seen : SF := s_seq (s_expr (e_call F_check_seen (a_cons (e_var 0) (a_cons (e_var 1) (a_nil))))) (s_ret (e_call F_fitting (a_cons (e_var 0) (a_cons (e_var 1) (a_nil)))))
def F_classes_seen : List D → Option Res := fnD 2 2 B_classes_seen
def B_surely : SF := s_seq (s_expr (e_call F_check_seen (a_cons (e_var 0) (a_cons (e_var 1) (a_nil))))) (s_seq (s_expr (e_call F_check_number (a_cons (e_var 2) (a_nil)))) (s_seq (s_asg (e_args sortedB (a_cons (e_dc [] putB .dcb [4] (i_seq (e_call F_fitting (a_cons (e_var 0) (a_cons (e_var 1) (a_nil))))) (g_name 4) (t_yes) (e_call F_does_hold (a_cons (e_var 4) (a_cons (e_var 2) (a_nil)))) (e_c (.bl true))) (a_nil))) (g_name 3)) (s_ret (e_if (t_of (e_bin eqD (e_args lenD (a_cons (e_var 3) (a_nil))) (e_c (.int 1)))) (e_bin ixD (e_var 3) (e_c (.int 0))) (e_c .non)))))
def F_surely : List D → Option Res := fnD 5 3 B_surely
def B_Desk_init : SF := s_setattr 0 "Desk" "states" (e_args tupD (a_cons (e_var 1) (a_nil)))
def I_Desk : List D → Option (Except Exn (List (Str × D))) := fnI "Desk" 2 2 B_Desk_init
def B__law_step : SF := s_seq (s_par 2 3 (e_callR 0 F__law_pick (a_cons (e_c (.int 3)) (a_nil))) (e_bin ixD (e_args lstD (a_cons (e_c (.int 1)) (a_cons (e_c (.int 2)) (a_cons (e_c (.int 3)) (a_cons (e_c (.int 4)) (a_cons (e_c (.int 6)) (a_nil))))))) (e_callR 0 F__law_pick (a_cons (e_c (.int 5)) (a_nil))))) (s_seq (s_asg (e_bin ixD (e_bin addD (e_var 1) (e_args tupD (a_cons (e_args tupD (a_cons (e_callR 0 F__law_pick (a_cons (e_var 3) (a_nil))) (a_cons (e_var 3) (a_nil)))) (a_nil)))) (e_callR 0 F__law_pick (a_cons (e_bin addD (e_args lenD (a_cons (e_var 1) (a_nil))) (e_c (.int 1))) (a_nil)))) (g_name 4)) (s_seq (s_if (t_of (e_bin eqD (e_var 2) (e_c (.int 0)))) (s_seq (s_asg (e_and (e_bin notinD (e_var 4) (e_var 1)) (e_bin ltD (e_args lenD (a_cons (e_var 1) (a_nil))) (e_c (.int 8)))) (g_name 5)) (s_ret (e_args lstD (a_cons (e_args tupD (a_cons (e_c (.str "add")) (a_cons (e_var 4) (a_nil)))) (a_cons (e_if (t_of (e_var 5)) (e_c .non) (e_c (.str "class"))) (a_cons (e_if (t_of (e_var 5)) (e_bin addD (e_var 1) (e_args tupD (a_cons (e_var 4) (a_nil)))) (e_var 1)) (a_nil))))))) (s_skip)) (s_seq (s_if (t_of (e_bin eqD (e_var 2) (e_c (.int 1)))) (s_ret (e_args lstD (a_cons (e_args tupD (a_cons (e_c (.str "drop")) (a_cons (e_var 4) (a_nil)))) (a_cons (e_if (t_of (e_bin inD (e_var 4) (e_var 1))) (e_c .non) (e_c (.str "there"))) (a_cons (e_args tupleD (a_cons (e_lc [8] (i_seq (e_var 1)) (g_name 8) (t_of (e_bin neD (e_var 8) (e_var 4))) (e_var 8)) (a_nil))) (a_nil)))))) (s_skip)) (s_seq (s_asg (e_callR 0 F__law_number (a_nil)) (g_name 6)) (s_ret (e_args lstD (a_cons (e_args tupD (a_cons (e_c (.str "move")) (a_cons (e_var 6) (a_nil)))) (a_cons (e_c .non) (a_cons (e_args tupleD (a_cons (e_lc [7, 3] (i_seq (e_var 1)) (g_tup (gs_cons (g_name 7) (gs_cons (g_name 3) (gs_nil)))) (t_yes) (e_args tupD (a_cons (e_bin modD (e_bin addD (e_var 7) (e_var 6)) (e_var 3)) (a_cons (e_var 3) (a_nil))))) (a_nil))) (a_nil))))))))))
def F__law_step : List D → Row → Option (Res × Row) := fnR 9 2 B__law_step
def B_number_in : SF := s_seq (s_if (t_or (t_of (e_bin geD (e_var 1) (e_args lenD (a_cons (e_var 0) (a_nil))))) (t_of (e_bin notinD (e_bin ixD (e_var 0) (e_var 1)) (e_lc [5] (i_range2 (e_var 3) (e_bin addD (e_var 4) (e_c (.int 1)))) (g_name 5) (t_yes) (e_args strD (a_cons (e_var 5) (a_nil))))))) (s_raise2 "BadLine" "line" "word" (e_var 2) (e_bin addD (e_var 1) (e_c (.int 1)))) (s_skip)) (s_ret (e_args intD (a_cons (e_bin ixD (e_var 0) (e_var 1)) (a_nil))))
def F_number_in : List D → Option Res := fnD 6 5 B_number_in
def B_class_in : SF := s_seq (s_if (t_of (e_bin neD (e_sl (e_var 0) (o_none) (o_some (e_c (.int 1)))) (e_args lstD (a_cons (e_c (.str "class")) (a_nil))))) (s_raise2 "BadLine" "line" "word" (e_var 1) (e_c (.int 1))) (s_skip)) (s_seq (s_asg (e_call F_number_in (a_cons (e_var 0) (a_cons (e_c (.int 1)) (a_cons (e_var 1) (a_cons (e_c (.int 0)) (a_cons (e_bin subD (e_c (.int 12)) (e_c (.int 1))) (a_nil))))))) (g_name 3)) (s_seq (s_asg (e_call F_number_in (a_cons (e_var 0) (a_cons (e_c (.int 2)) (a_cons (e_var 1) (a_cons (e_bin addD (e_var 3) (e_c (.int 1))) (a_cons (e_c (.int 12)) (a_nil))))))) (g_name 4)) (s_seq (s_if (t_of (e_bin inD (e_args tupD (a_cons (e_var 3) (a_cons (e_var 4) (a_nil)))) (e_var 2))) (s_raise2 "BadLine" "line" "word" (e_var 1) (e_c (.int 3))) (s_skip)) (s_seq (s_if (t_of (e_bin gtD (e_args lenD (a_cons (e_var 0) (a_nil))) (e_c (.int 3)))) (s_raise2 "BadLine" "line" "word" (e_var 1) (e_c (.int 4))) (s_skip)) (s_ret (e_args tupD (a_cons (e_var 3) (a_cons (e_var 4) (a_nil)))))))))
def F_class_in : List D → Option Res := fnD 5 3 B_class_in
def B__law_fault : SF := s_seq (s_if (t_or (t_of (e_bin eqD (e_var 0) (e_args lstD (a_nil)))) (t_or (t_of (e_bin neD (e_bin ixD (e_var 0) (e_c (.int 0))) (e_c (.str "class")))) (t_of (e_bin eqD (e_args lenD (a_cons (e_var 1) (a_nil))) (e_c (.int 8)))))) (s_ret (e_c (.int 1))) (s_skip)) (s_seq (s_if (t_or (t_of (e_bin ltD (e_args lenD (a_cons (e_var 0) (a_nil))) (e_c (.int 2)))) (t_of (e_bin notinD (e_bin ixD (e_var 0) (e_c (.int 1))) (e_lc [2] (i_range1 (e_c (.int 12))) (g_name 2) (t_yes) (e_args strD (a_cons (e_var 2) (a_nil))))))) (s_ret (e_c (.int 2))) (s_skip)) (s_seq (s_if (t_or (t_of (e_bin ltD (e_args lenD (a_cons (e_var 0) (a_nil))) (e_c (.int 3)))) (t_of (e_bin notinD (e_bin ixD (e_var 0) (e_c (.int 2))) (e_lc [2] (i_range2 (e_bin addD (e_args intD (a_cons (e_bin ixD (e_var 0) (e_c (.int 1))) (a_nil))) (e_c (.int 1))) (e_c (.int 13))) (g_name 2) (t_yes) (e_args strD (a_cons (e_var 2) (a_nil))))))) (s_ret (e_c (.int 3))) (s_skip)) (s_seq (s_if (t_of (e_bin inD (e_args tupD (a_cons (e_args intD (a_cons (e_bin ixD (e_var 0) (e_c (.int 1))) (a_nil))) (a_cons (e_args intD (a_cons (e_bin ixD (e_var 0) (e_c (.int 2))) (a_nil))) (a_nil)))) (e_var 1))) (s_ret (e_c (.int 3))) (s_skip)) (s_ret (e_if (t_of (e_bin gtD (e_args lenD (a_cons (e_var 0) (a_nil))) (e_c (.int 3)))) (e_c (.int 4)) (e_c (.int 0)))))))
def F__law_fault : List D → Option Res := fnD 3 2 B__law_fault
def B__law_of_once : SF := s_seq (s_asg (e_lc [5, 6] (i_seq (e_var 0)) (g_tup (gs_cons (g_name 5) (gs_cons (g_name 6) (gs_nil)))) (t_yes) (e_var 6)) (g_name 2)) (s_seq (s_if (t_and (t_of (e_bin gtD (e_args maxD (a_cons (e_var 2) (a_nil))) (e_c (.int 1)))) (t_of (e_bin ltD (e_cnt (e_var 2) (e_args maxD (a_cons (e_var 2) (a_nil)))) (e_c (.int 2))))) (s_ret (e_c (.bl false))) (s_skip)) (s_seq (s_if (t_of (e_bin neD (e_args sumD (a_cons (e_lc [6] (i_seq (e_var 2)) (g_name 6) (t_yes) (e_bin fdivD (e_call F_period (a_cons (e_var 1) (a_nil))) (e_var 6))) (a_nil))) (e_call F_period (a_cons (e_var 1) (a_nil))))) (s_ret (e_c (.bl false))) (s_skip)) (s_seq (s_for (i_range1 (e_args lenD (a_cons (e_var 0) (a_nil)))) (g_name 3) (s_for (i_range1 (e_var 3)) (g_name 4) (s_if (t_of (e_bin notND (e_call F_meeting (a_cons (e_bin ixD (e_var 0) (e_var 4)) (a_cons (e_bin ixD (e_var 0) (e_var 3)) (a_nil)))) (e_c .non))) (s_ret (e_c (.bl false))) (s_skip)))) (s_ret (e_and (e_bin eqD (e_args listK (a_cons (e_call F_times (a_cons (e_var 1) (a_nil))) (a_nil))) (e_args lstD (a_cons (e_c (.int 1)) (a_nil)))) (e_bin eqD (e_call F_needless (a_cons (e_var 1) (a_nil))) (e_args lstD (a_nil))))))))
def F__law_of_once : List D → Option Res := fnD 7 2 B__law_of_once
def B__law_moved : SF := s_ret (e_make "Plan" I_Plan (a_cons (e_args tupleD (a_cons (e_lc [2, 3] (i_seq (e_var 0)) (g_tup (gs_cons (g_name 2) (gs_cons (g_name 3) (gs_nil)))) (t_yes) (e_args tupD (a_cons (e_bin modD (e_bin addD (e_var 2) (e_var 1)) (e_var 3)) (a_cons (e_var 3) (a_nil))))) (a_nil))) (a_nil)))
def F__law_moved : List D → Option Res := fnD 4 2 B__law_moved
def B__law_steps : SF := s_seq (s_asg (e_make "Plan" I_Plan (a_cons (e_args tupleD (a_cons (e_lc [2] (i_range1 (e_args min2D (a_cons (e_var 0) (a_cons (e_c (.int 8)) (a_nil))))) (g_name 2) (t_yes) (e_args tupD (a_cons (e_var 2) (a_cons (e_var 0) (a_nil))))) (a_nil))) (a_nil))) (g_name 1)) (s_seq (s_if (t_or (t_of (e_bin neD (e_call F_covers_all (a_cons (e_var 1) (a_nil))) (e_bin leD (e_var 0) (e_c (.int 8))))) (t_or (t_of (e_bin neD (e_call F_is_once (a_cons (e_var 1) (a_nil))) (e_bin leD (e_var 0) (e_c (.int 8))))) (t_of (e_bin neD (e_call F_is_split (a_cons (e_var 1) (a_nil))) (e_bin leD (e_var 0) (e_c (.int 8))))))) (s_ret (e_c (.bl false))) (s_skip)) (s_seq (s_if (t_of (e_bin neD (e_call F_longest_gap (a_cons (e_var 1) (a_nil))) (e_if (t_of (e_bin leD (e_var 0) (e_c (.int 8)))) (e_c .non) (e_args tupD (a_cons (e_bin subD (e_var 0) (e_c (.int 8))) (a_cons (e_c (.int 8)) (a_nil))))))) (s_ret (e_c (.bl false))) (s_skip)) (s_ret (e_and (e_bin eqD (e_call F_missed (a_cons (e_var 1) (a_nil))) (e_bin listR2 (e_c (.int 8)) (e_var 0))) (e_call F_within (a_cons (e_var 1) (a_cons (e_make "Plan" I_Plan (a_cons (e_args tupD (a_cons (e_args tupD (a_cons (e_c (.int 0)) (a_cons (e_c (.int 1)) (a_nil)))) (a_nil))) (a_nil))) (a_nil))))))))
def F__law_steps : List D → Option Res := fnD 3 1 B__law_steps
def B__law_others : SF := s_seq (s_if (t_or (t_of (e_bin neD (e_call F_meeting (a_cons (e_args tupD (a_cons (e_c (.int 1)) (a_cons (e_c (.int 4)) (a_nil)))) (a_cons (e_args tupD (a_cons (e_c (.int 3)) (a_cons (e_c (.int 6)) (a_nil)))) (a_nil)))) (e_args tupD (a_cons (e_c (.int 9)) (a_cons (e_c (.int 12)) (a_nil)))))) (t_of (e_bin notND (e_call F_meeting (a_cons (e_args tupD (a_cons (e_c (.int 0)) (a_cons (e_c (.int 4)) (a_nil)))) (a_cons (e_args tupD (a_cons (e_c (.int 1)) (a_cons (e_c (.int 6)) (a_nil)))) (a_nil)))) (e_c .non)))) (s_ret (e_c (.bl false))) (s_skip)) (s_seq (s_if (t_of (e_bin neD (e_call F_meeting (a_cons (e_args tupD (a_cons (e_c (.int 2)) (a_cons (e_c (.int 11)) (a_nil)))) (a_cons (e_args tupD (a_cons (e_c (.int 3)) (a_cons (e_c (.int 12)) (a_nil)))) (a_nil)))) (e_args tupD (a_cons (e_c (.int 123)) (a_cons (e_c (.int 132)) (a_nil)))))) (s_ret (e_c (.bl false))) (s_skip)) (s_seq (s_if (t_or (t_of (e_bin neD (e_call F_open_cells (a_cons (e_args lstD (a_cons (e_args tupD (a_cons (e_c (.int 0)) (a_cons (e_c (.int 1)) (a_cons (e_c (.int 0)) (a_cons (e_c (.int 2)) (a_nil)))))) (a_cons (e_args tupD (a_cons (e_c (.int 1)) (a_cons (e_c (.int 0)) (a_cons (e_c (.int 0)) (a_cons (e_c (.int 2)) (a_nil)))))) (a_nil)))) (a_nil))) (e_args tupD (a_cons (e_c (.int 2)) (a_cons (e_args lstD (a_cons (e_args tupD (a_cons (e_c (.int 1)) (a_cons (e_c (.int 1)) (a_nil)))) (a_nil))) (a_nil)))))) (t_of (e_bin neD (e_bin ixD (e_bin ixD (e_call F_open_cells (a_cons (e_args lstD (a_cons (e_args tupD (a_cons (e_c (.int 0)) (a_cons (e_c (.int 0)) (a_cons (e_c (.int 1)) (a_cons (e_c (.int 3)) (a_nil)))))) (a_nil))) (a_nil))) (e_c (.int 1))) (e_c (.int 0))) (e_args tupD (a_cons (e_c (.int 0)) (a_cons (e_c (.int 0)) (a_nil))))))) (s_ret (e_c (.bl false))) (s_skip)) (s_ret (e_bin eqD (e_call F_classes_seen (a_cons (e_c (.int 5)) (a_cons (e_args lstD (a_cons (e_args tupD (a_cons (e_var 0) (a_cons (e_c (.bl true)) (a_nil)))) (a_cons (e_args tupD (a_cons (e_bin addD (e_var 0) (e_c (.int 1))) (a_cons (e_c (.bl false)) (a_nil)))) (a_cons (e_args tupD (a_cons (e_bin addD (e_var 0) (e_c (.int 4))) (a_cons (e_c (.bl true)) (a_nil)))) (a_nil))))) (a_nil)))) (e_args lstD (a_cons (e_args tupD (a_cons (e_bin modD (e_var 0) (e_c (.int 2))) (a_cons (e_c (.int 2)) (a_nil)))) (a_cons (e_args tupD (a_cons (e_bin modD (e_var 0) (e_c (.int 4))) (a_cons (e_c (.int 4)) (a_nil)))) (a_nil))))))))
def F__law_others : List D → Option Res := fnD 1 1 B__law_others
def B__wall : SF := s_while 100000 (t_of (e_c (.bl true))) (s_skip)
def F__wall : List D → Option Res := fnD 1 1 B__wall
def B_Desk_add : SF := s_expr (e_call F__wall (a_cons (e_c (.int 1)) (a_nil)))
def F_Desk_add : List D → Option Res := fnD 2 2 B_Desk_add
def B_Desk_move : SF := s_expr (e_call F__wall (a_cons (e_c (.int 2)) (a_nil)))
def F_Desk_move : List D → Option Res := fnD 2 2 B_Desk_move
def B_Desk_undo : SF := s_expr (e_call F__wall (a_cons (e_c (.int 3)) (a_nil)))
def F_Desk_undo : List D → Option Res := fnD 1 1 B_Desk_undo
def B_Desk_copy : SF := s_expr (e_call F__wall (a_cons (e_c (.int 4)) (a_nil)))
def F_Desk_copy : List D → Option Res := fnD 1 1 B_Desk_copy
def B_rcheck_steps : SF := s_seq (s_if (t_or (t_not (t_of (e_un (isB "tuple") (e_var 0)))) (t_not (t_of (e_chain leD leD (e_c (.int 1)) (e_args lenD (a_cons (e_var 0) (a_nil))) (e_c (.int 5)))))) (s_raise1 "BadSteps" "index" (e_c .non)) (s_skip)) (s_for (i_enum (a_cons (e_var 0) a_nil)) (g_tup (gs_cons (g_name 1) (gs_cons (g_name 2) (gs_nil)))) (s_if (t_not (t_of (e_call F_is_from (a_cons (e_var 2) (a_cons (e_c (.int 1)) (a_cons (e_c (.int 12)) (a_nil))))))) (s_raise1 "BadSteps" "index" (e_var 1)) (s_skip)))
def F_rcheck_steps : List D → Option Res := fnD 3 1 B_rcheck_steps
def B_check_few : SF := s_seq (s_expr (e_call F_rcheck_steps (a_cons (e_var 0) (a_nil)))) (s_seq (s_asg (e_c (.int 1)) (g_name 1)) (s_seq (s_for (i_seq (e_var 0)) (g_name 2) (s_asg (e_bin mulD (e_var 1) (e_var 2)) (g_name 1))) (s_if (t_of (e_bin gtD (e_var 1) (e_c (.int 20000)))) (s_raise0 "TooMany") (s_skip))))
def F_check_few : List D → Option Res := fnD 3 1 B_check_few
def B_marks_of : SF := s_seq (s_asg (e_c (.int 0)) (g_name 3)) (s_seq (s_for (i_range3 (e_var 1) (e_var 2) (e_var 0)) (g_name 4) (s_aug 3 addI (e_bin shlD (e_c (.int 1)) (e_var 4)))) (s_ret (e_var 3)))
def F_marks_of : List D → Option Res := fnD 5 3 B_marks_of
def B_figures_of : SF := s_seq (s_asg (e_c (.int 0)) (g_name 1)) (s_seq (s_while 100000 (t_of (e_bin gtD (e_var 0) (e_c (.int 0)))) (s_par 0 1 (e_bin andD (e_var 0) (e_bin subD (e_var 0) (e_c (.int 1)))) (e_bin addD (e_var 1) (e_c (.int 1))))) (s_ret (e_var 1)))
def F_figures_of : List D → Option Res := fnD 2 1 B_figures_of
def B_covers_of : SF := s_seq (s_asg (e_call F_multiple (a_cons (e_var 0) (a_nil))) (g_name 1)) (s_seq (s_asg (e_args lstD (a_cons (e_args tupD (a_cons (e_call F_marks_of (a_cons (e_bin ixD (e_var 0) (e_c (.int 0))) (a_cons (e_c (.int 0)) (a_cons (e_var 1) (a_nil))))) (a_cons (e_args tupD (a_cons (e_c (.int 0)) (a_nil))) (a_nil)))) (a_nil))) (g_name 2)) (s_seq (s_for (i_seq (e_sl (e_var 0) (o_some (e_c (.int 1))) (o_none))) (g_name 3) (s_seq (s_asg (e_lc [7] (i_range1 (e_var 3)) (g_name 7) (t_yes) (e_call F_marks_of (a_cons (e_var 3) (a_cons (e_var 7) (a_cons (e_var 1) (a_nil)))))) (g_name 4)) (s_asg (e_lc2 [5, 6, 7] (i_seq (e_var 2)) (g_tup (gs_cons (g_name 5) (gs_cons (g_name 6) (gs_nil)))) (t_yes) (i_range1 (e_var 3)) [7] (g_name 7) (t_yes) (e_args tupD (a_cons (e_bin orD (e_var 5) (e_bin ixD (e_var 4) (e_var 7))) (a_cons (e_args tupD (a_star (e_var 6) (a_cons (e_var 7) (a_nil)))) (a_nil))))) (g_name 2)))) (s_ret (e_lc [5, 6] (i_seq (e_var 2)) (g_tup (gs_cons (g_name 5) (gs_cons (g_name 6) (gs_nil)))) (t_yes) (e_args tupD (a_cons (e_call F_figures_of (a_cons (e_var 5) (a_nil))) (a_cons (e_var 6) (a_nil))))))))
def F_covers_of : List D → Option Res := fnD 8 1 B_covers_of
def B_best_cover : SF := s_seq (s_expr (e_call F_check_few (a_cons (e_var 0) (a_nil)))) (s_seq (s_asg (e_call F_multiple (a_cons (e_var 0) (a_nil))) (g_name 1)) (s_ret (e_args minA (a_cons (e_lc [2, 3] (i_seq (e_call F_covers_of (a_cons (e_var 0) (a_nil)))) (g_tup (gs_cons (g_name 2) (gs_cons (g_name 3) (gs_nil)))) (t_yes) (e_args tupD (a_cons (e_bin subD (e_var 1) (e_var 2)) (a_cons (e_var 3) (a_nil))))) (a_nil)))))
def F_best_cover : List D → Option Res := fnD 4 1 B_best_cover
def B_many_covers : SF := s_seq (s_expr (e_call F_check_few (a_cons (e_var 0) (a_nil)))) (s_seq (s_asg (e_call F_multiple (a_cons (e_var 0) (a_nil))) (g_name 1)) (s_ret (e_bin mulD (e_bin ixD (e_var 0) (e_c (.int 0))) (e_args lenD (a_cons (e_lc [2, 3] (i_seq (e_call F_covers_of (a_cons (e_var 0) (a_nil)))) (g_tup (gs_cons (g_name 2) (gs_cons (g_name 3) (gs_nil)))) (t_of (e_bin eqD (e_var 2) (e_var 1))) (e_var 3)) (a_nil))))))
def F_many_covers : List D → Option Res := fnD 4 1 B_many_covers
def B__law_rests : SF := s_seq (s_asg (e_args lstD (a_cons (e_args tupD (a_nil)) (a_nil))) (g_name 1)) (s_seq (s_for (i_seq (e_var 0)) (g_name 2) (s_seq (s_asg (e_args lstD (a_nil)) (g_name 3)) (s_seq (s_for (i_seq (e_var 1)) (g_name 4) (s_asg (e_bin addD (e_var 3) (e_lc [5] (i_range1 (e_var 2)) (g_name 5) (t_yes) (e_bin addD (e_var 4) (e_args tupD (a_cons (e_var 5) (a_nil)))))) (g_name 3))) (s_asg (e_var 3) (g_name 1))))) (s_ret (e_var 1)))
def F__law_rests : List D → Option Res := fnD 6 1 B__law_rests
def B__law_missed : SF := s_seq (s_asg (e_c (.int 0)) (g_name 3)) (s_seq (s_for (i_range1 (e_var 2)) (g_name 4) (s_asg (e_bin addD (e_var 3) (e_args intD (a_cons (e_bin eqD (e_lc [5] (i_range1 (e_args lenD (a_cons (e_var 0) (a_nil)))) (g_name 5) (t_of (e_bin eqD (e_bin modD (e_var 4) (e_bin ixD (e_var 0) (e_var 5))) (e_bin ixD (e_var 1) (e_var 5)))) (e_var 5)) (e_args lstD (a_nil))) (a_nil)))) (g_name 3))) (s_ret (e_var 3)))
def F__law_missed : List D → Option Res := fnD 6 3 B__law_missed
def B_does_part : SF := s_seq (s_asg (e_bin ixD (e_var 0) (e_args lenD (a_cons (e_var 1) (a_nil)))) (g_name 3)) (s_seq (s_for (i_zip (a_cons (e_var 1) (a_cons (e_var 0) a_nil))) (g_tup (gs_cons (g_name 4) (gs_cons (g_name 5) (gs_nil)))) (s_if (t_of (e_bin eqD (e_bin modD (e_bin subD (e_var 4) (e_var 2)) (e_call F_divisor (a_cons (e_var 3) (a_cons (e_var 5) (a_nil))))) (e_c (.int 0)))) (s_ret (e_c (.bl false))) (s_skip))) (s_ret (e_c (.bl true))))
def F_does_part : List D → Option Res := fnD 6 3 B_does_part
def B_packed_rows : SF := s_seq (s_asg (e_args lstD (a_cons (e_args tupD (a_cons (e_c (.int 0)) (a_nil))) (a_nil))) (g_name 1)) (s_seq (s_for (i_seq (e_sl (e_var 0) (o_some (e_c (.int 1))) (o_none))) (g_name 2) (s_asg (e_lc2 [3, 4] (i_seq (e_var 1)) (g_name 3) (t_yes) (i_range1 (e_var 2)) [4] (g_name 4) (t_of (e_call F_does_part (a_cons (e_var 0) (a_cons (e_var 3) (a_cons (e_var 4) (a_nil)))))) (e_args tupD (a_star (e_var 3) (a_cons (e_var 4) (a_nil))))) (g_name 1))) (s_ret (e_var 1)))
def F_packed_rows : List D → Option Res := fnD 5 1 B_packed_rows
def B_packed : SF := s_seq (s_expr (e_call F_rcheck_steps (a_cons (e_var 0) (a_nil)))) (s_seq (s_asg (e_call F_packed_rows (a_cons (e_var 0) (a_nil))) (g_name 1)) (s_ret (e_if (t_of (e_bin neD (e_var 1) (e_args lstD (a_nil)))) (e_bin ixD (e_var 1) (e_c (.int 0))) (e_c .non))))
def F_packed : List D → Option Res := fnD 2 1 B_packed
def B_many_packed : SF := s_seq (s_expr (e_call F_rcheck_steps (a_cons (e_var 0) (a_nil)))) (s_ret (e_bin mulD (e_bin ixD (e_var 0) (e_c (.int 0))) (e_args lenD (a_cons (e_call F_packed_rows (a_cons (e_var 0) (a_nil))) (a_nil)))))
def F_many_packed : List D → Option Res := fnD 1 1 B_many_packed
def B_exact : SF := s_seq (s_expr (e_call F_rcheck_steps (a_cons (e_var 0) (a_nil)))) (s_seq (s_asg (e_call F_multiple (a_cons (e_var 0) (a_nil))) (g_name 1)) (s_ret (e_if (t_of (e_bin eqD (e_args sumD (a_cons (e_lc [2] (i_seq (e_var 0)) (g_name 2) (t_yes) (e_bin fdivD (e_var 1) (e_var 2))) (a_nil))) (e_var 1))) (e_call F_packed (a_cons (e_var 0) (a_nil))) (e_c .non))))
def F_exact : List D → Option Res := fnD 3 1 B_exact
def B__law_often : SF := s_seq (s_new 3 (e_args lstD (a_nil))) (s_seq (s_for (i_range1 (e_var 2)) (g_name 4) (s_append 3 (e_args lenD (a_cons (e_lc [5] (i_range1 (e_args lenD (a_cons (e_var 0) (a_nil)))) (g_name 5) (t_of (e_bin eqD (e_bin modD (e_var 4) (e_bin ixD (e_var 0) (e_var 5))) (e_bin ixD (e_var 1) (e_var 5)))) (e_var 5)) (a_nil))))) (s_frz 3 (s_ret (e_var 3))))
def F__law_often : List D → Option Res := fnD 6 3 B__law_often
end PL
set_option Elab.async false
set_option linter.all false
set_option maxRecDepth 100000
set_option maxHeartbeats 4000000
namespace PL
open PySem PySem.Spec PyProof.Rows L2
def B__law_told_there : SF := s_seq (s_asg (e_c .non) (g_name 1)) (s_seq (s_try (s_asg (e_make "Plan" I_Plan (a_cons (e_var 0) (a_nil))) (g_name 1)) ([⟨subT XS "BadClasses", 2, 1, v_isif ["BadClasses"] (v_lst (v_cons (v_str "classes") (v_cons (v_isif ["BadClasses"] (v_fld "index")) (v_nil))))⟩])) (s_ret (e_var 1)))
def F__law_told_there : List D → Option Res := fnD 3 1 B__law_told_there
def B_law_105 : SF := s_ret (e_bin eqD (e_call F__law_told_there (a_cons (e_args tupleD (a_cons (e_lc [11] (i_range1 (e_c (.int 9))) (g_name 11) (t_yes) (e_args tupD (a_cons (e_var 11) (a_cons (e_c (.int 12)) (a_nil))))) (a_nil))) (a_nil))) (e_args lstD (a_cons (e_c (.str "classes")) (a_cons (e_c .non) (a_nil)))))
def B_law_104 : SF := s_append 2 (e_args tupD (a_cons (e_var 8) (a_cons (e_var 4) (a_nil))))
def B_law_102 : SF := s_seq (s_if (t_peek 2 (t_of (e_bin neD (e_lc [9, 10] (i_seq (e_var 2)) (g_tup (gs_cons (g_name 9) (gs_cons (g_name 10) (gs_nil)))) (t_of (e_bin neD (e_bin (eqP "Plan" F_Plan_eq) (e_var 9) (e_var 8)) (e_bin eqD (e_var 10) (e_var 4)))) (e_var 9)) (e_args lstD (a_nil))))) (s_ret (e_c (.bl false))) (s_skip)) (B_law_104)
def B_law_100 : SF := s_seq (s_if (t_of (e_bin neD (e_lc [9] (i_seq (e_args lstD (a_cons (e_var 4) (a_cons (e_c .non) (a_cons (e_c (.str "plan")) (a_cons (e_c (.int 5)) (a_cons (e_args listD (a_cons (e_var 4) (a_nil))) (a_nil)))))))) (g_name 9) (t_of (e_bin (eqP "Plan" F_Plan_eq) (e_var 8) (e_var 9))) (e_var 9)) (e_args lstD (a_nil)))) (s_ret (e_c (.bl false))) (s_skip)) (B_law_102)
def B_law_98 : SF := s_seq (s_if (t_or (t_not (t_of (e_un (isO "Plan") (e_var 8)))) (t_of (e_bin neD (e_un (fldD "Plan" "rows") (e_var 8)) (e_var 4)))) (s_ret (e_c (.bl false))) (s_skip)) (B_law_100)
def B_law_94 : SF := s_if (t_of (e_bin notND (e_var 7) (e_c .non))) (s_if (t_of (e_bin neD (e_var 8) (e_var 7))) (s_ret (e_c (.bl false))) (s_skip)) (B_law_98)
def B_law_93 : SF := s_seq (s_asg (e_args tupD (a_cons (e_call F__law_due (a_cons (e_var 4) (a_nil))) (a_cons (e_call F__law_told_there (a_cons (e_var 4) (a_nil))) (a_nil)))) (g_tup (gs_cons (g_name 7) (gs_cons (g_name 8) (gs_nil))))) (B_law_94)
def B_law_90 : SF := s_asg (e_bin addD (e_bin addD (e_sl (e_var 4) (o_none) (o_some (e_var 5))) (e_args tupD (a_cons (e_bin ixD (e_var 6) (e_callR 1 F__law_pick (a_cons (e_c (.int 16)) (a_nil)))) (a_nil)))) (e_sl (e_var 4) (o_some (e_var 5)) (o_none))) (g_name 4)
def B_law_89 : SF := s_seq (s_asg (e_bin addD (e_call0 F__law_odd_classes) (e_args lstD (a_cons (e_args tupD (a_cons (e_c (.int 0)) (a_cons (e_c (.int 1)) (a_nil)))) (a_cons (e_args tupD (a_cons (e_c (.int 11)) (a_cons (e_c (.int 12)) (a_nil)))) (a_cons (e_args tupD (a_cons (e_c (.int 0)) (a_cons (e_c (.int 12)) (a_nil)))) (a_nil)))))) (g_name 6)) (B_law_90)
def B_law_88 : SF := s_seq (s_if (t_of (e_bin eqD (e_callR 1 F__law_pick (a_cons (e_c (.int 3)) (a_nil))) (e_c (.int 0)))) (B_law_89) (s_if (t_of (e_bin eqD (e_callR 1 F__law_pick (a_cons (e_c (.int 5)) (a_nil))) (e_c (.int 0)))) (s_asg (e_bin ixD (e_args lstD (a_cons (e_c .non) (a_cons (e_args listD (a_cons (e_var 4) (a_nil))) (a_cons (e_bin addD (e_var 4) (e_var 4)) (a_cons (e_c (.str "rows")) (a_cons (e_c (.int 5)) (a_nil))))))) (e_callR 1 F__law_pick (a_cons (e_c (.int 5)) (a_nil)))) (g_name 4)) (s_skip))) (B_law_93)
def B_law_87 : SF := s_seq (s_asg (e_callR 1 F__law_pick (a_cons (e_bin addD (e_args lenD (a_cons (e_var 4) (a_nil))) (e_c (.int 1))) (a_nil))) (g_name 5)) (B_law_88)
def B_law_86 : SF := s_seq (s_asg (e_callR 1 F__law_rows (a_cons (e_c (.int 8)) (a_nil))) (g_name 4)) (B_law_87)
def B_law_85 : SF := s_seq (s_for (i_range1 (e_c (.int 8))) (g_name 3) (B_law_86)) (B_law_105)
def B_law : SF := s_seq (s_new 2 (e_args lstD (a_nil))) (B_law_85)
end PL
set_option Elab.async false
set_option linter.all false
set_option maxRecDepth 100000
set_option maxHeartbeats 4000000
namespace PL
open PySem PySem.Spec PyProof.Rows L2
def top (i : Nat) : Stmt := PySem.Challenge.pw_coverclasses_k01_plans_refused.main.body.getD i (.Pass ⟨0, 0, 0, 0⟩)
abbrev st_is_from : Stmt := top 6
abbrev st_is_class : Stmt := top 7
abbrev st_Plan_init : Stmt := inClass (top 8) 0
abbrev st_Plan_classes : Stmt := inClass (top 8) 1
abbrev st_Plan_eq : Stmt := inClass (top 8) 2
abbrev st__law_draws : Stmt := top 10
abbrev st__law_pick : Stmt := top 11
abbrev st__law_rows : Stmt := top 12
abbrev st__law_odd_classes : Stmt := top 13
abbrev st__law_is_whole : Stmt := top 14
abbrev st__law_told_there : Stmt := top 15
abbrev st__law_due : Stmt := top 16
abbrev st_law : Stmt := top 17
abbrev st_xBadClasses : Stmt := inClass (top 2) 0
theorem sc_is_from : FnScope ["value", "low", "high"] ["value", "low", "high"] (defScope st_is_from) := ⟨rfl, rfl, rfl, by decide +kernel, rfl, by decide +kernel, by decide +kernel⟩
theorem sc_is_class : FnScope ["value"] ["value"] (defScope st_is_class) := ⟨rfl, rfl, rfl, by decide +kernel, rfl, by decide +kernel, by decide +kernel⟩
theorem sc_Plan_init : FnScope ["self", "classes", "index", "told"] ["self", "classes"] (defScope st_Plan_init) := ⟨rfl, rfl, rfl, by decide +kernel, rfl, by decide +kernel, by decide +kernel⟩
theorem sc_Plan_classes : FnScope ["self"] ["self"] (defScope st_Plan_classes) := ⟨rfl, rfl, rfl, by decide +kernel, rfl, by decide +kernel, by decide +kernel⟩
theorem sc_Plan_eq : FnScope ["self", "other"] ["self", "other"] (defScope st_Plan_eq) := ⟨rfl, rfl, rfl, by decide +kernel, rfl, by decide +kernel, by decide +kernel⟩
theorem sc__law_draws : FnScope ["_law_script"] ["_law_script"] (defScope st__law_draws) := ⟨rfl, rfl, rfl, by decide +kernel, rfl, by decide +kernel, by decide +kernel⟩
theorem sc__law_pick : FnScope ["_law_row", "_law_many", "_law_cell", "_law_found"] ["_law_row", "_law_many"] (defScope st__law_pick) := ⟨rfl, rfl, rfl, by decide +kernel, rfl, by decide +kernel, by decide +kernel⟩
theorem sc__law_rows : FnScope ["_law_row", "_law_most", "_law_found", "_law_sort", "_law_steps", "_law_k", "_law_step", "_law_one"] ["_law_row", "_law_most"] (defScope st__law_rows) := ⟨rfl, rfl, rfl, by decide +kernel, rfl, by decide +kernel, by decide +kernel⟩
theorem sc__law_odd_classes : FnScope [] [] (defScope st__law_odd_classes) := ⟨rfl, rfl, rfl, by decide +kernel, rfl, by decide +kernel, by decide +kernel⟩
theorem sc__law_is_whole : FnScope ["_law_value", "_law_low", "_law_high"] ["_law_value", "_law_low", "_law_high"] (defScope st__law_is_whole) := ⟨rfl, rfl, rfl, by decide +kernel, rfl, by decide +kernel, by decide +kernel⟩
theorem sc__law_told_there : FnScope ["_law_classes", "_law_told_there_here", "e"] ["_law_classes"] (defScope st__law_told_there) := ⟨rfl, rfl, rfl, by decide +kernel, rfl, by decide +kernel, by decide +kernel⟩
theorem sc__law_due : FnScope ["_law_classes", "_law_k", "_law_one"] ["_law_classes"] (defScope st__law_due) := ⟨rfl, rfl, rfl, by decide +kernel, rfl, by decide +kernel, by decide +kernel⟩
theorem sc_law : FnScope ["_law_script", "_law_row", "_law_before", "_law_turn", "_law_rows_here", "_law_at", "_law_odd", "_law_due_here", "_law_told_there_here", "_law_one", "_law_some", "_law_k"] ["_law_script"] (defScope st_law) := ⟨rfl, rfl, rfl, by decide +kernel, rfl, by decide +kernel, by decide +kernel⟩
theorem sc_xBadClasses : FnScope ["self", "index"] ["self", "index"] (defScope st_xBadClasses) := ⟨rfl, rfl, rfl, by decide +kernel, rfl, by decide +kernel, by decide +kernel⟩
structure Ad where
  c_Plan : Addr
  c_ClassError : Addr
  c_BadClasses : Addr
  f_is_from : Addr
  f_is_class : Addr
  f_Plan_init : Addr
  f_Plan_classes : Addr
  f_Plan_eq : Addr
  f__law_draws : Addr
  f__law_pick : Addr
  f__law_rows : Addr
  f__law_odd_classes : Addr
  f__law_is_whole : Addr
  f__law_told_there : Addr
  f__law_due : Addr
  f_law : Addr
  f_xBadClasses : Addr
  p_Plan_classes : Addr
  d_is_from : FuncData
  d_is_class : FuncData
  d_Plan_init : FuncData
  d_Plan_classes : FuncData
  d_Plan_eq : FuncData
  d__law_draws : FuncData
  d__law_pick : FuncData
  d__law_rows : FuncData
  d__law_odd_classes : FuncData
  d__law_is_whole : FuncData
  d__law_told_there : FuncData
  d__law_due : FuncData
  d_law : FuncData
  d_xBadClasses : FuncData
def gt (P : Program) (w : World) (K : PySem.W.Frag) (Z : Ad) : Gt := ⟨w, K, fun n => if n = "Plan" then some Z.c_Plan else if n = "ClassError" then some Z.c_ClassError else if n = "BadClasses" then some Z.c_BadClasses else none⟩
structure Tx (P : Program) (w : World) (K : PySem.W.Frag) (mg : Str → Option Value) (Z : Ad) : Prop where
  m_Plan : mg "Plan" = some (.ref Z.c_Plan)
  cl_Plan : Cls K Z.c_Plan
  na_Plan_rows : NoAttr K Z.c_Plan "rows"
  mk_Plan : Mk K Z.c_Plan Z.f_Plan_init
  eqs_Plan : PySem.W.findIn K (.ref Z.c_Plan) "__eq__" = some (some (.ref Z.f_Plan_eq))
  eqf_Plan : PySem.W.isFn K (.ref Z.f_Plan_eq) = true
  oi_Plan : OwnIs (gt P w K Z) "Plan" Z.c_Plan
  pr_Plan_classes : PropOf K Z.c_Plan "classes" Z.p_Plan_classes Z.f_Plan_classes
  m_ClassError : mg "ClassError" = some (.ref Z.c_ClassError)
  ek_ClassError : ErK K Z.c_ClassError
  m_BadClasses : mg "BadClasses" = some (.ref Z.c_BadClasses)
  ek_BadClasses : ErK K Z.c_BadClasses
  x_BadClasses : ExF (gt P w K Z) mg "BadClasses" Z.c_BadClasses
  xi_BadClasses : ExI (gt P w K Z) Z.c_BadClasses Z.f_xBadClasses
  xa_BadClasses_index : PySem.W.findIn K (.ref Z.c_BadClasses) "index" = some none
  sub_BadClasses : ∀ nm C b, (gt P w K Z).cls nm = some C → subT XS "BadClasses" nm = some b → PySem.W.exmOne K (.ref C) (.ref Z.c_BadClasses) = some b
  en_BadClasses : ExN (gt P w K Z) Z.c_ClassError "BadClasses"
  ef_BadClasses_index : ExNF (gt P w K Z) "BadClasses" "index"
  n_bool : mg "bool" = none
  n_enumerate : mg "enumerate" = none
  n_int : mg "int" = none
  n_isinstance : mg "isinstance" = none
  n_len : mg "len" = none
  n_list : mg "list" = none
  n_range : mg "range" = none
  n_tuple : mg "tuple" = none
  c_MOST_CLASSES : ∃ t, mg "MOST_CLASSES" = some (.int 8 t)
  c_MOST_STEP : ∃ t, mg "MOST_STEP" = some (.int 12 t)
  m_is_from : mg "is_from" = some (.ref Z.f_is_from)
  u_is_from : Fun K "is_from" "is_from" st_is_from Z.f_is_from Z.d_is_from
  b_is_from : Binds K Z.d_is_from ["value", "low", "high"] []
  m_is_class : mg "is_class" = some (.ref Z.f_is_class)
  u_is_class : Fun K "is_class" "is_class" st_is_class Z.f_is_class Z.d_is_class
  b_is_class : Binds K Z.d_is_class ["value"] []
  u_Plan_init : Fun K "__init__" "Plan.__init__" st_Plan_init Z.f_Plan_init Z.d_Plan_init
  b_Plan_init : Binds K Z.d_Plan_init ["self", "classes"] []
  u_Plan_classes : Fun K "classes" "Plan.classes" st_Plan_classes Z.f_Plan_classes Z.d_Plan_classes
  b_Plan_classes : Binds K Z.d_Plan_classes ["self"] []
  u_Plan_eq : Fun K "__eq__" "Plan.__eq__" st_Plan_eq Z.f_Plan_eq Z.d_Plan_eq
  b_Plan_eq : Binds K Z.d_Plan_eq ["self", "other"] []
  m__law_draws : mg "_law_draws" = some (.ref Z.f__law_draws)
  u__law_draws : Fun K "_law_draws" "_law_draws" st__law_draws Z.f__law_draws Z.d__law_draws
  b__law_draws : Binds K Z.d__law_draws ["_law_script"] []
  m__law_pick : mg "_law_pick" = some (.ref Z.f__law_pick)
  u__law_pick : Fun K "_law_pick" "_law_pick" st__law_pick Z.f__law_pick Z.d__law_pick
  b__law_pick : Binds K Z.d__law_pick ["_law_row", "_law_many"] []
  m__law_rows : mg "_law_rows" = some (.ref Z.f__law_rows)
  u__law_rows : Fun K "_law_rows" "_law_rows" st__law_rows Z.f__law_rows Z.d__law_rows
  b__law_rows : Binds K Z.d__law_rows ["_law_row", "_law_most"] []
  m__law_odd_classes : mg "_law_odd_classes" = some (.ref Z.f__law_odd_classes)
  u__law_odd_classes : Fun K "_law_odd_classes" "_law_odd_classes" st__law_odd_classes Z.f__law_odd_classes Z.d__law_odd_classes
  b__law_odd_classes : Binds K Z.d__law_odd_classes [] []
  m__law_is_whole : mg "_law_is_whole" = some (.ref Z.f__law_is_whole)
  u__law_is_whole : Fun K "_law_is_whole" "_law_is_whole" st__law_is_whole Z.f__law_is_whole Z.d__law_is_whole
  b__law_is_whole : Binds K Z.d__law_is_whole ["_law_value", "_law_low", "_law_high"] []
  m__law_told_there : mg "_law_told_there" = some (.ref Z.f__law_told_there)
  u__law_told_there : Fun K "_law_told_there" "_law_told_there" st__law_told_there Z.f__law_told_there Z.d__law_told_there
  b__law_told_there : Binds K Z.d__law_told_there ["_law_classes"] []
  m__law_due : mg "_law_due" = some (.ref Z.f__law_due)
  u__law_due : Fun K "_law_due" "_law_due" st__law_due Z.f__law_due Z.d__law_due
  b__law_due : Binds K Z.d__law_due ["_law_classes"] []
  m_law : mg "law" = some (.ref Z.f_law)
  u_law : Fun K "law" "law" st_law Z.f_law Z.d_law
  b_law : Binds K Z.d_law ["_law_script"] []
  u_xBadClasses : Fun K "__init__" "BadClasses.__init__" st_xBadClasses Z.f_xBadClasses Z.d_xBadClasses
  b_xBadClasses : Binds K Z.d_xBadClasses ["self", "index"] []
  xb_BadClasses : Binds K Z.d_xBadClasses ["self", "index"] []
section
variable {P : Program} {w : World} {K : PySem.W.Frag} {mg : Str → Option Value} {base : Heap} {Z : Ad}
theorem okx_BadClasses (T : Tx P w K mg Z) : FnOk P w K mg base (L2.CX P w) 1 Z.f_xBadClasses Z.d_xBadClasses ["self", "index"] (spX1 K "index") := okx1 (G := gt P w K Z) T.u_xBadClasses sc_xBadClasses rfl rfl rfl (.inl rfl) (.inl rfl) rfl rfl (fun _ => rfl)
theorem ok_is_from (T : Tx P w K mg Z) : FnOk P w K mg base (L2.CX P w) 1 Z.f_is_from Z.d_is_from ["value", "low", "high"] (sp0 (gt P w K Z) 3 F_is_from) :=
 fn0 (G := gt P w K Z) (k := 0) T.u_is_from sc_is_from fun cdv A outer s H E fb =>
 pdb_one (pds_ret (pd_and (pd_isB fb.fo T.n_isinstance T.n_int bb_int (fun _ => rfl) (fun _ => rfl) (pd_var fb.fo 0 rfl (fun _ => .inl rfl)) (fun _ => rfl) (fun _ => rfl) (fun _ => rfl) bb_isinstance) (pd_and (pd_not (pd_isB fb.fo T.n_isinstance T.n_bool bb_bool (fun _ => rfl) (fun _ => rfl) (pd_var fb.fo 0 rfl (fun _ => .inl rfl)) (fun _ => rfl) (fun _ => rfl) (fun _ => rfl) bb_isinstance)) (pd_one (pd_chainle (pd_var fb.fo 1 rfl (fun _ => .inl rfl)) (pd_var fb.fo 0 rfl (fun _ => .inl rfl)) (pd_var fb.fo 2 rfl (fun _ => .inl rfl)))))))
theorem ok_is_class (T : Tx P w K mg Z) : FnOk P w K mg base (L2.CX P w) 2 Z.f_is_class Z.d_is_class ["value"] (sp0 (gt P w K Z) 1 F_is_class) :=
 fn0 (G := gt P w K Z) (k := 1) T.u_is_class sc_is_class fun cdv A outer s H E fb =>
 pdb_cons (pds_if (PDW.pt (pdw_or (pdt_not (pdt_val (pd_isB fb.fo T.n_isinstance T.n_tuple bb_tuple (fun _ => rfl) (fun _ => rfl) (pd_var fb.fo 0 rfl (fun _ => .inl rfl)) (fun _ => rfl) (fun _ => rfl) (fun _ => rfl) bb_isinstance) (fun _ _ => rfl))) (pdw_or (pdt_ne fb.fo (pd_callB fb.fo (call_lenF fb.fo) lss_len bb_len T.n_len (fun _ => rfl) (pda_cons (pd_var fb.fo 0 rfl (fun _ => .inl rfl)) (pda_nil) (fun _ => rfl)) (fun _ => rfl) (fun _ => rfl)) (pd_int)) (pdw_or1 (pdt_not (pdt_val (pd_call fb.fo (ok_is_from T) fnD_len (by decide) T.m_is_from T.u_is_from.kp T.b_is_from (fun _ => rfl) (pda_cons (pd_ix fb.fo (fun _ _ => rfl) (pd_var fb.fo 0 rfl (fun _ => .inl rfl)) (pd_int)) (pda_cons (pd_int) (pda_cons (pd_gint fb.fo (fun _ => rfl) T.c_MOST_STEP.choose_spec) (pda_nil) (fun _ => rfl)) (fun _ => rfl)) (fun _ => rfl)) (fun _ => rfl) (fun _ => rfl)) (fun _ _ => rfl))))))) (pdb_one (pds_ret (pd_bl))) (pdb_nil))
 (pdb_one (pds_ret (pd_call fb.fo (ok_is_from T) fnD_len (by decide) T.m_is_from T.u_is_from.kp T.b_is_from (fun _ => rfl) (pda_cons (pd_ix fb.fo (fun _ _ => rfl) (pd_var fb.fo 0 rfl (fun _ => .inl rfl)) (pd_int)) (pda_cons (pd_int) (pda_cons (pd_sub (pd_ix fb.fo (fun _ _ => rfl) (pd_var fb.fo 0 rfl (fun _ => .inl rfl)) (pd_int)) (pd_int)) (pda_nil) (fun _ => rfl)) (fun _ => rfl)) (fun _ => rfl)) (fun _ => rfl) (fun _ => rfl))))
theorem ok_Plan_init (T : Tx P w K mg Z) : FnOk P w K mg base (L2.CX P w) 3 Z.f_Plan_init Z.d_Plan_init ["self", "classes"] (spI (gt P w K Z) "Plan" 2 I_Plan) :=
 fnInit (G := gt P w K Z) (k := 2) T.u_Plan_init sc_Plan_init fun cdv A outer s H E fb =>
 pdb_cons (pds_if (PDW.pt (pdw_or (pdt_not (pdt_val (pd_isB fb.fo T.n_isinstance T.n_tuple bb_tuple (fun _ => rfl) (fun _ => rfl) (pd_var fb.fo 1 rfl (fun _ => .inl rfl)) (fun _ => rfl) (fun _ => rfl) (fun _ => rfl) bb_isinstance) (fun _ _ => rfl))) (pdw_or1 (pdt_gt (pd_callB fb.fo (call_lenF fb.fo) lss_len bb_len T.n_len (fun _ => rfl) (pda_cons (pd_var fb.fo 1 rfl (fun _ => .inl rfl)) (pda_nil) (fun _ => rfl)) (fun _ => rfl) (fun _ => rfl)) (pd_gint fb.fo (fun _ => rfl) T.c_MOST_CLASSES.choose_spec))))) (pdb_one (pds_raise1 fb T.x_BadClasses T.xi_BadClasses T.xa_BadClasses_index (okx_BadClasses T) (by decide) T.xb_BadClasses (fun _ => rfl) (pd_non) (fun _ => rfl) (fun _ => rfl))) (pdb_nil))
 (pdb_cons (pds_for fb (pdi_enum fb.fo (fun _ => rfl) T.n_enumerate (pd_var fb.fo 1 rfl (fun _ => .inl rfl)) (fun _ => rfl)) (pdg_tup fb.fo fb.calm (pdgs_cons (pdg_name fb.fo 2 rfl (fun _ => .inl rfl) (fun i => .inl (fb.fn i _))) (pdgs_cons (pdg_name fb.fo 3 rfl (fun _ => .inl rfl) (fun i => .inl (fb.fn i _))) (pdgs_nil) (fun _ => rfl)) (fun _ => rfl)) (fun _ => rfl) (fun _ => rfl)) (gok_tup (goks_cons (gok_name) (goks_cons (gok_name) (goks_nil)))) (pdb_one (pds_if (PDW.pt (pdw_or (pdt_not (pdt_val (pd_call fb.fo (ok_is_class T) fnD_len (by decide) T.m_is_class T.u_is_class.kp T.b_is_class (fun _ => rfl) (pda_cons (pd_var fb.fo 3 rfl (fun _ => .inl rfl)) (pda_nil) (fun _ => rfl)) (fun _ => rfl) (fun _ => rfl)) (fun _ _ => rfl))) (pdw_or1 (pdt_in fb.fo (by first | rfl | decide | with_unfolding_all rfl) (pd_var fb.fo 3 rfl (fun _ => .inl rfl)) (pd_sl fb.fo (pd_var fb.fo 1 rfl (fun _ => .inl rfl)) (pdo_none) (pdo_some (pd_var fb.fo 2 rfl (fun _ => .inl rfl)))))))) (pdb_one (pds_raise1 fb T.x_BadClasses T.xi_BadClasses T.xa_BadClasses_index (okx_BadClasses T) (by decide) T.xb_BadClasses (fun _ => rfl) (pd_var fb.fo 2 rfl (fun _ => .inl rfl)) (fun _ => rfl) (fun _ => rfl))) (pdb_nil))) (fun _ _ => rfl))
 (pdb_one (pds_setattr fb.fo 0 rfl T.cl_Plan T.na_Plan_rows rfl (fun _ => .inl rfl) (pd_var fb.fo 1 rfl (fun _ => .inl rfl)) (fun _ => rfl))))
theorem ok_Plan_classes (T : Tx P w K mg Z) : FnOk P w K mg base (L2.CX P w) 1 Z.f_Plan_classes Z.d_Plan_classes ["self"] (getSp Z.c_Plan "rows") := fn_getterF (G := gt P w K Z) T.u_Plan_classes sc_Plan_classes rfl rfl T.cl_Plan T.na_Plan_rows
theorem ok_Plan_eq (T : Tx P w K mg Z) : FnOk P w K mg base (L2.CX P w) 1 Z.f_Plan_eq Z.d_Plan_eq ["self", "other"] (sp0 (gt P w K Z) 2 F_Plan_eq) :=
 fn0 (G := gt P w K Z) (k := 0) T.u_Plan_eq sc_Plan_eq fun cdv A outer s H E fb =>
 pdb_one (pds_ret (pd_and (pd_isO fb.fo T.oi_Plan T.n_isinstance T.m_Plan (fun _ => rfl) (fun _ => rfl) (pd_var fb.fo 1 rfl (fun _ => .inl rfl)) (fun _ => rfl) (fun _ => rfl) (fun _ => rfl)) (pd_one (pd_eq fb.fo (pd_fld fb.fo rfl T.cl_Plan T.na_Plan_rows (pd_var fb.fo 0 rfl (fun _ => .inl rfl)) (fun _ => rfl)) (pd_fld fb.fo rfl T.cl_Plan T.na_Plan_rows (pd_var fb.fo 1 rfl (fun _ => .inl rfl)) (fun _ => rfl))))))
theorem ok__law_draws (T : Tx P w K mg Z) : FnOk P w K mg base (L2.CX P w) 1 Z.f__law_draws Z.d__law_draws ["_law_script"] (spDraws K) := fn_draws (G := gt P w K Z) T.u__law_draws sc__law_draws rfl (.inl rfl) T.n_list (fun _ _ _ _ _ _ _ => rfl) rfl rfl bb_list
theorem ok__law_pick (T : Tx P w K mg Z) : FnOk P w K mg base (L2.CX P w) 1 Z.f__law_pick Z.d__law_pick ["_law_row", "_law_many"] (spR (gt P w K Z) 2 F__law_pick) :=
 fnRow (G := gt P w K Z) (k := 0) T.u__law_pick sc__law_pick fun a cdv A outer s H E fb =>
 pdb_cons (pds_if (pdt_eq fb.fo (pd_rowI fb.fo 0 rfl (fun _ => .inl rfl) (fun _ _ => rfl)) (pd_int)) (pdb_one (pds_if (pdt_lt (pd_rowI fb.fo 0 rfl (fun _ => .inl rfl) (fun _ _ => rfl)) (pd_callB fb.fo (call_lenF fb.fo) lss_len bb_len T.n_len (fun _ => rfl) (pda_cons (pd_rowS fb.fo 0 rfl (fun _ => .inl rfl) (fun _ _ => rfl)) (pda_nil) (fun _ => rfl)) (fun _ => rfl) (fun _ => rfl))) (pdb_cons (pds_set fb 2 rfl (.inl rfl) (pd_ix fb.fo (fun _ _ => rfl) (pd_rowS fb.fo 0 rfl (fun _ => .inl rfl) (fun _ _ => rfl)) (pd_rowI fb.fo 0 rfl (fun _ => .inl rfl) (fun _ _ => rfl))) (fun _ => rfl))
 (pdb_cons (pds_rowset fb.fo 0 rfl (fun _ => .inl rfl) (pd_add fb.fo (pd_rowI fb.fo 0 rfl (fun _ => .inl rfl) (fun _ _ => rfl)) (pd_int)) (fun _ _ => rfl) (fun _ => rfl) (fun _ => rfl) (fun _ => rfl))
 (pdb_one (pds_if (pdt_ge (pd_var fb.fo 2 rfl (fun _ => .inl rfl)) (pd_pow (pd_int) (pd_int))) (pdb_one (pds_rowset fb.fo 0 rfl (fun _ => .inl rfl) (pd_var fb.fo 2 rfl (fun _ => .inl rfl)) (fun _ _ => rfl) (fun _ => rfl) (fun _ => rfl) (fun _ => rfl))) (pdb_one (pds_rowset fb.fo 0 rfl (fun _ => .inl rfl) (pd_mod (pd_callTy fb.fo (fun _ => call_int1) lss_int bb_int T.n_int (fun _ => rfl) (pda_cons (pd_add fb.fo (pd_add fb.fo (pd_mul fb.fo (pd_rowI fb.fo 0 rfl (fun _ => .inl rfl) (fun _ _ => rfl)) (pd_int)) (pd_mul fb.fo (pd_var fb.fo 2 rfl (fun _ => .inl rfl)) (pd_int))) (pd_int)) (pda_nil) (fun _ => rfl)) (fun _ => rfl) (fun _ => rfl)) (pd_int)) (fun _ _ => rfl) (fun _ => rfl) (fun _ => rfl) (fun _ => rfl))))))) (pdb_one (pds_rowset fb.fo 0 rfl (fun _ => .inl rfl) (pd_mod (pd_callTy fb.fo (fun _ => call_int1) lss_int bb_int T.n_int (fun _ => rfl) (pda_cons (pd_add fb.fo (pd_mul fb.fo (pd_rowI fb.fo 0 rfl (fun _ => .inl rfl) (fun _ _ => rfl)) (pd_int)) (pd_int)) (pda_nil) (fun _ => rfl)) (fun _ => rfl) (fun _ => rfl)) (pd_int)) (fun _ _ => rfl) (fun _ => rfl) (fun _ => rfl) (fun _ => rfl))))) (pdb_nil))
 (pdb_cons (pds_if (pdt_gt (pd_rowI fb.fo 0 rfl (fun _ => .inl rfl) (fun _ _ => rfl)) (pd_int)) (pdb_cons (pds_set fb 3 rfl (.inl rfl) (pd_mod (pd_callTy fb.fo (fun _ => call_int1) lss_int bb_int T.n_int (fun _ => rfl) (pda_cons (pd_rowI fb.fo 0 rfl (fun _ => .inl rfl) (fun _ _ => rfl)) (pda_nil) (fun _ => rfl)) (fun _ => rfl) (fun _ => rfl)) (pd_var fb.fo 1 rfl (fun _ => .inl rfl))) (fun _ => rfl))
 (pdb_cons (pds_rowset fb.fo 0 rfl (fun _ => .inl rfl) (pd_fdiv (pd_rowI fb.fo 0 rfl (fun _ => .inl rfl) (fun _ _ => rfl)) (pd_var fb.fo 1 rfl (fun _ => .inl rfl))) (fun _ _ => rfl) (fun _ => rfl) (fun _ => rfl) (fun _ => rfl))
 (pdb_one (pds_ret (pd_var fb.fo 3 rfl (fun _ => .inl rfl)))))) (pdb_nil))
 (pdb_one (pds_ret (pd_mod (pd_mod (pd_callTy fb.fo (fun _ => call_int1) lss_int bb_int T.n_int (fun _ => rfl) (pda_cons (pd_mul fb.fo (pd_rowI fb.fo 0 rfl (fun _ => .inl rfl) (fun _ _ => rfl)) (pd_int)) (pda_nil) (fun _ => rfl)) (fun _ => rfl) (fun _ => rfl)) (pd_int)) (pd_var fb.fo 1 rfl (fun _ => .inl rfl))))))
theorem ok__law_rows (T : Tx P w K mg Z) : FnOk P w K mg base (L2.CX P w) 2 Z.f__law_rows Z.d__law_rows ["_law_row", "_law_most"] (spR (gt P w K Z) 2 F__law_rows) :=
 fnRow (G := gt P w K Z) (k := 1) T.u__law_rows sc__law_rows fun a cdv A outer s H E fb =>
 pdb_cons (pds_par fb 2 3 rfl rfl (by decide) rfl rfl (pd_tup (pda_nil)) (pd_callR fb.fo 0 (ok__law_pick T) fnR_len (by decide) T.m__law_pick T.u__law_pick.kp T.b__law_pick (fun _ => rfl) rfl (fun _ => .inl rfl) (pda_cons (pd_int) (pda_nil) (fun _ => rfl)) (fun _ => rfl) (fun _ => rfl)) (fun _ => rfl) (fun _ => rfl) (fun _ => rfl) (fun _ => rfl))
 (pdb_cons (pds_set fb 4 rfl (.inl rfl) (pd_ix fb.fo (fun _ _ => rfl) (pd_lst (pda_cons (pd_lst (pda_cons (pd_int) (pda_cons (pd_int) (pda_cons (pd_int) (pda_cons (pd_int) (pda_cons (pd_int) (pda_cons (pd_int) (pda_nil) (fun _ => rfl)) (fun _ => rfl)) (fun _ => rfl)) (fun _ => rfl)) (fun _ => rfl)) (fun _ => rfl))) (pda_cons (pd_lst (pda_cons (pd_int) (pda_cons (pd_int) (pda_cons (pd_int) (pda_cons (pd_int) (pda_cons (pd_int) (pda_cons (pd_int) (pda_nil) (fun _ => rfl)) (fun _ => rfl)) (fun _ => rfl)) (fun _ => rfl)) (fun _ => rfl)) (fun _ => rfl))) (pda_cons (pd_lst (pda_cons (pd_int) (pda_cons (pd_int) (pda_cons (pd_int) (pda_cons (pd_int) (pda_cons (pd_int) (pda_cons (pd_int) (pda_nil) (fun _ => rfl)) (fun _ => rfl)) (fun _ => rfl)) (fun _ => rfl)) (fun _ => rfl)) (fun _ => rfl))) (pda_cons (pd_lst (pda_cons (pd_int) (pda_cons (pd_int) (pda_cons (pd_int) (pda_cons (pd_int) (pda_cons (pd_int) (pda_cons (pd_int) (pda_nil) (fun _ => rfl)) (fun _ => rfl)) (fun _ => rfl)) (fun _ => rfl)) (fun _ => rfl)) (fun _ => rfl))) (pda_nil) (fun _ => rfl)) (fun _ => rfl)) (fun _ => rfl)) (fun _ => rfl))) (pd_var fb.fo 3 rfl (fun _ => .inl rfl))) (fun _ => rfl))
 (pdb_cons (pds_for fb (pdi_range1 fb.fo (fun _ => rfl) T.n_range (pd_callR fb.fo 0 (ok__law_pick T) fnR_len (by decide) T.m__law_pick T.u__law_pick.kp T.b__law_pick (fun _ => rfl) rfl (fun _ => .inl rfl) (pda_cons (pd_add fb.fo (pd_var fb.fo 1 rfl (fun _ => .inl rfl)) (pd_int)) (pda_nil) (fun _ => rfl)) (fun _ => rfl) (fun _ => rfl)) (fun _ => rfl)) (pdg_name fb.fo 5 rfl (fun _ => .inl rfl) (fun i => .inl (fb.fn i _))) (gok_name) (pdb_cons (pds_set fb 6 rfl (.inl rfl) (pd_ix fb.fo (fun _ _ => rfl) (pd_var fb.fo 4 rfl (fun _ => .inl rfl)) (pd_callR fb.fo 0 (ok__law_pick T) fnR_len (by decide) T.m__law_pick T.u__law_pick.kp T.b__law_pick (fun _ => rfl) rfl (fun _ => .inl rfl) (pda_cons (pd_int) (pda_nil) (fun _ => rfl)) (fun _ => rfl) (fun _ => rfl))) (fun _ => rfl))
 (pdb_cons (pds_set fb 7 rfl (.inl rfl) (pd_tup (pda_cons (pd_callR fb.fo 0 (ok__law_pick T) fnR_len (by decide) T.m__law_pick T.u__law_pick.kp T.b__law_pick (fun _ => rfl) rfl (fun _ => .inl rfl) (pda_cons (pd_var fb.fo 6 rfl (fun _ => .inl rfl)) (pda_nil) (fun _ => rfl)) (fun _ => rfl) (fun _ => rfl)) (pda_cons (pd_var fb.fo 6 rfl (fun _ => .inl rfl)) (pda_nil) (fun _ => rfl)) (fun _ => rfl))) (fun _ => rfl))
 (pdb_one (pds_if (pdt_notin fb.fo (by first | rfl | decide | with_unfolding_all rfl) (pd_var fb.fo 7 rfl (fun _ => .inl rfl)) (pd_var fb.fo 2 rfl (fun _ => .inl rfl))) (pdb_one (pds_set fb 2 rfl (.inl rfl) (pd_add fb.fo (pd_var fb.fo 2 rfl (fun _ => .inl rfl)) (pd_tup (pda_cons (pd_var fb.fo 7 rfl (fun _ => .inl rfl)) (pda_nil) (fun _ => rfl)))) (fun _ => rfl))) (pdb_nil))))) (fun _ _ => rfl))
 (pdb_one (pds_ret (pd_var fb.fo 2 rfl (fun _ => .inl rfl))))))
theorem ok__law_odd_classes (T : Tx P w K mg Z) : FnOk P w K mg base (L2.CX P w) 1 Z.f__law_odd_classes Z.d__law_odd_classes [] (sp0 (gt P w K Z) 0 F__law_odd_classes) :=
 fn0 (G := gt P w K Z) (k := 0) T.u__law_odd_classes sc__law_odd_classes fun cdv A outer s H E fb =>
 pdb_one (pds_ret (pd_lst (pda_cons (pd_non) (pda_cons (pd_int) (pda_cons (pd_tup (pda_cons (pd_int) (pda_nil) (fun _ => rfl))) (pda_cons (pd_lst (pda_cons (pd_int) (pda_cons (pd_int) (pda_nil) (fun _ => rfl)) (fun _ => rfl))) (pda_cons (pd_tup (pda_cons (pd_int) (pda_cons (pd_int) (pda_nil) (fun _ => rfl)) (fun _ => rfl))) (pda_cons (pd_tup (pda_cons (pd_int) (pda_cons (pd_int) (pda_nil) (fun _ => rfl)) (fun _ => rfl))) (pda_cons (pd_tup (pda_cons (pd_neg (pd_int)) (pda_cons (pd_int) (pda_nil) (fun _ => rfl)) (fun _ => rfl))) (pda_cons (pd_tup (pda_cons (pd_int) (pda_cons (pd_int) (pda_nil) (fun _ => rfl)) (fun _ => rfl))) (pda_cons (pd_tup (pda_cons (pd_bl) (pda_cons (pd_int) (pda_nil) (fun _ => rfl)) (fun _ => rfl))) (pda_cons (pd_tup (pda_cons (pd_int) (pda_cons (pd_bl) (pda_nil) (fun _ => rfl)) (fun _ => rfl))) (pda_cons (pd_tup (pda_cons (pd_int) (pda_cons (pd_int) (pda_cons (pd_int) (pda_nil) (fun _ => rfl)) (fun _ => rfl)) (fun _ => rfl))) (pda_cons (pd_str) (pda_cons (pd_tup (pda_cons (pd_str) (pda_cons (pd_int) (pda_nil) (fun _ => rfl)) (fun _ => rfl))) (pda_nil) (fun _ => rfl)) (fun _ => rfl)) (fun _ => rfl)) (fun _ => rfl)) (fun _ => rfl)) (fun _ => rfl)) (fun _ => rfl)) (fun _ => rfl)) (fun _ => rfl)) (fun _ => rfl)) (fun _ => rfl)) (fun _ => rfl)) (fun _ => rfl))))
theorem ok__law_is_whole (T : Tx P w K mg Z) : FnOk P w K mg base (L2.CX P w) 1 Z.f__law_is_whole Z.d__law_is_whole ["_law_value", "_law_low", "_law_high"] (sp0 (gt P w K Z) 3 F__law_is_whole) :=
 fn0 (G := gt P w K Z) (k := 0) T.u__law_is_whole sc__law_is_whole fun cdv A outer s H E fb =>
 pdb_one (pds_ret (pd_and (pd_isB fb.fo T.n_isinstance T.n_int bb_int (fun _ => rfl) (fun _ => rfl) (pd_var fb.fo 0 rfl (fun _ => .inl rfl)) (fun _ => rfl) (fun _ => rfl) (fun _ => rfl) bb_isinstance) (pd_and (pd_not (pd_isB fb.fo T.n_isinstance T.n_bool bb_bool (fun _ => rfl) (fun _ => rfl) (pd_var fb.fo 0 rfl (fun _ => .inl rfl)) (fun _ => rfl) (fun _ => rfl) (fun _ => rfl) bb_isinstance)) (pd_one (pd_chainle (pd_var fb.fo 1 rfl (fun _ => .inl rfl)) (pd_var fb.fo 0 rfl (fun _ => .inl rfl)) (pd_var fb.fo 2 rfl (fun _ => .inl rfl)))))))
theorem ok__law_told_there (T : Tx P w K mg Z) : FnOk P w K mg base (L2.CX P w) 5 Z.f__law_told_there Z.d__law_told_there ["_law_classes"] (sp0 (gt P w K Z) 1 F__law_told_there) :=
 fn0 (G := gt P w K Z) (k := 4) T.u__law_told_there sc__law_told_there fun cdv A outer s H E fb =>
 pdb_cons (pds_set fb 1 rfl (.inl rfl) (pd_non) (fun _ => rfl))
 (pdb_cons (pds_try fb (fun W' fb => pdb_one (pds_set fb 1 rfl (.inl rfl) (pd_make fb.fo rfl T.mk_Plan (ok_Plan_init T) fnI_len (by decide) T.m_Plan T.b_Plan_init (fun _ => rfl) (pda_cons (pd_var fb.fo 0 rfl (fun _ => .inl rfl)) (pda_nil) (fun _ => rfl)) (fun _ => rfl) (fun _ => rfl)) (fun _ => rfl))) (pdc_cons fb 2 1 (subT XS "BadClasses") (T.sub_BadClasses) rfl (fun _ => rfl) T.m_BadClasses (fun _ => rfl) rfl (.inl rfl) (pdx_isif fb.fo ["BadClasses"] (by intro m hm; simp only [List.mem_singleton] at hm; subst hm; exact T.en_BadClasses) rfl (fun _ => .inl rfl) T.n_isinstance (fun _ => rfl) T.m_ClassError (fun _ => rfl) (pdx_lst (pdxa_cons (pdx_str) (pdxa_cons ((pdx_fld fb.fo ["BadClasses"] (by intro m hm; simp only [List.mem_singleton] at hm; subst hm; exact T.ef_BadClasses_index) rfl (fun _ => .inl rfl) (fun _ => rfl))) (pdxa_nil) (fun _ => rfl)) (fun _ => rfl))) (pdx_str) (fun _ => rfl) (fun _ => rfl) (fun _ => rfl) bb_isinstance) (fun _ => rfl) (pdc_nil)))
 (pdb_one (pds_ret (pd_var fb.fo 1 rfl (fun _ => .inl rfl)))))
theorem ok__law_due (T : Tx P w K mg Z) : FnOk P w K mg base (L2.CX P w) 2 Z.f__law_due Z.d__law_due ["_law_classes"] (sp0 (gt P w K Z) 1 F__law_due) :=
 fn0 (G := gt P w K Z) (k := 1) T.u__law_due sc__law_due fun cdv A outer s H E fb =>
 pdb_cons (pds_if (PDW.pt (pdw_or (pdt_not (pdt_val (pd_isB fb.fo T.n_isinstance T.n_tuple bb_tuple (fun _ => rfl) (fun _ => rfl) (pd_var fb.fo 0 rfl (fun _ => .inl rfl)) (fun _ => rfl) (fun _ => rfl) (fun _ => rfl) bb_isinstance) (fun _ _ => rfl))) (pdw_or1 (pdt_gt (pd_callB fb.fo (call_lenF fb.fo) lss_len bb_len T.n_len (fun _ => rfl) (pda_cons (pd_var fb.fo 0 rfl (fun _ => .inl rfl)) (pda_nil) (fun _ => rfl)) (fun _ => rfl) (fun _ => rfl)) (pd_int))))) (pdb_one (pds_ret (pd_lst (pda_cons (pd_str) (pda_cons (pd_non) (pda_nil) (fun _ => rfl)) (fun _ => rfl))))) (pdb_nil))
 (pdb_cons (pds_for fb (pdi_range1 fb.fo (fun _ => rfl) T.n_range (pd_callB fb.fo (call_lenF fb.fo) lss_len bb_len T.n_len (fun _ => rfl) (pda_cons (pd_var fb.fo 0 rfl (fun _ => .inl rfl)) (pda_nil) (fun _ => rfl)) (fun _ => rfl) (fun _ => rfl)) (fun _ => rfl)) (pdg_name fb.fo 1 rfl (fun _ => .inl rfl) (fun i => .inl (fb.fn i _))) (gok_name) (pdb_cons (pds_set fb 2 rfl (.inl rfl) (pd_ix fb.fo (fun _ _ => rfl) (pd_var fb.fo 0 rfl (fun _ => .inl rfl)) (pd_var fb.fo 1 rfl (fun _ => .inl rfl))) (fun _ => rfl))
 (pdb_cons (pds_if (PDW.pt (pdw_or (pdt_not (pdt_val (pd_isB fb.fo T.n_isinstance T.n_tuple bb_tuple (fun _ => rfl) (fun _ => rfl) (pd_var fb.fo 2 rfl (fun _ => .inl rfl)) (fun _ => rfl) (fun _ => rfl) (fun _ => rfl) bb_isinstance) (fun _ _ => rfl))) (pdw_or (pdt_ne fb.fo (pd_callB fb.fo (call_lenF fb.fo) lss_len bb_len T.n_len (fun _ => rfl) (pda_cons (pd_var fb.fo 2 rfl (fun _ => .inl rfl)) (pda_nil) (fun _ => rfl)) (fun _ => rfl) (fun _ => rfl)) (pd_int)) (pdw_or1 (pdt_not (pdt_val (pd_call fb.fo (ok__law_is_whole T) fnD_len (by decide) T.m__law_is_whole T.u__law_is_whole.kp T.b__law_is_whole (fun _ => rfl) (pda_cons (pd_ix fb.fo (fun _ _ => rfl) (pd_var fb.fo 2 rfl (fun _ => .inl rfl)) (pd_int)) (pda_cons (pd_int) (pda_cons (pd_int) (pda_nil) (fun _ => rfl)) (fun _ => rfl)) (fun _ => rfl)) (fun _ => rfl) (fun _ => rfl)) (fun _ _ => rfl))))))) (pdb_one (pds_ret (pd_lst (pda_cons (pd_str) (pda_cons (pd_var fb.fo 1 rfl (fun _ => .inl rfl)) (pda_nil) (fun _ => rfl)) (fun _ => rfl))))) (pdb_nil))
 (pdb_one (pds_if (PDW.pt (pdw_or (pdt_not (pdt_val (pd_call fb.fo (ok__law_is_whole T) fnD_len (by decide) T.m__law_is_whole T.u__law_is_whole.kp T.b__law_is_whole (fun _ => rfl) (pda_cons (pd_ix fb.fo (fun _ _ => rfl) (pd_var fb.fo 2 rfl (fun _ => .inl rfl)) (pd_int)) (pda_cons (pd_int) (pda_cons (pd_sub (pd_ix fb.fo (fun _ _ => rfl) (pd_var fb.fo 2 rfl (fun _ => .inl rfl)) (pd_int)) (pd_int)) (pda_nil) (fun _ => rfl)) (fun _ => rfl)) (fun _ => rfl)) (fun _ => rfl) (fun _ => rfl)) (fun _ _ => rfl))) (pdw_or1 (pdt_in fb.fo (by first | rfl | decide | with_unfolding_all rfl) (pd_var fb.fo 2 rfl (fun _ => .inl rfl)) (pd_sl fb.fo (pd_var fb.fo 0 rfl (fun _ => .inl rfl)) (pdo_none) (pdo_some (pd_var fb.fo 1 rfl (fun _ => .inl rfl)))))))) (pdb_one (pds_ret (pd_lst (pda_cons (pd_str) (pda_cons (pd_var fb.fo 1 rfl (fun _ => .inl rfl)) (pda_nil) (fun _ => rfl)) (fun _ => rfl))))) (pdb_nil))))) (fun _ _ => rfl))
 (pdb_one (pds_ret (pd_non))))
theorem ok_law (T : Tx P w K mg Z) (hF : ∀ (sa : Addr) (ns : List Int), ns.length ≤ 63 → (∀ q ∈ ns, Builtin.Int.intBits q ≤ 1048576) → isT (B_law (env0L 12) ⟨sa, ns, 0, 0, 7⟩) = true) : FnOk P w K mg base (L2.CX P w) 6 Z.f_law Z.d_law ["_law_script"] (spLaw K) :=
 fn_law (G := gt P w K Z) (k := 5) (N := ["_law_script", "_law_row", "_law_before", "_law_turn", "_law_rows_here", "_law_at", "_law_odd", "_law_due_here", "_law_told_there_here", "_law_one", "_law_some", "_law_k"]) (F := B_law) T.u_law sc_law rfl rfl rfl (.inl rfl) (.inl rfl) (by decide) T.m__law_draws T.u__law_draws.kp T.b__law_draws (ok__law_draws T) (by decide) (fun _ _ _ _ _ _ _ => rfl) (fun _ _ _ _ _ _ _ => rfl) rfl rfl rfl (fun a cdv A outer s H E fb =>
 pdb_cons (pds_new fb 2 rfl (.inl rfl) (pdf_lst (pda_nil)) (fun _ => rfl))
 (pdb_cons (pds_for fb (pdi_range1 fb.fo (fun _ => rfl) T.n_range (pd_int) (fun _ => rfl)) (pdg_name fb.fo 3 rfl (fun _ => .inl rfl) (fun i => .inl (fb.fn i _))) (gok_name) (pdb_cons (pds_set fb 4 rfl (.inr rfl) (pd_callR fb.fo 1 (ok__law_rows T) fnR_len (by decide) T.m__law_rows T.u__law_rows.kp T.b__law_rows (fun _ => rfl) rfl (fun _ => .inl rfl) (pda_cons (pd_int) (pda_nil) (fun _ => rfl)) (fun _ => rfl) (fun _ => rfl)) (fun _ => rfl))
 (pdb_cons (pds_set fb 5 rfl (.inl rfl) (pd_callR fb.fo 1 (ok__law_pick T) fnR_len (by decide) T.m__law_pick T.u__law_pick.kp T.b__law_pick (fun _ => rfl) rfl (fun _ => .inl rfl) (pda_cons (pd_add fb.fo (pd_callB fb.fo (call_lenF fb.fo) lss_len bb_len T.n_len (fun _ => rfl) (pda_cons (pd_var fb.fo 4 rfl (fun _ => .inr (.inl rfl))) (pda_nil) (fun _ => rfl)) (fun _ => rfl) (fun _ => rfl)) (pd_int)) (pda_nil) (fun _ => rfl)) (fun _ => rfl) (fun _ => rfl)) (fun _ => rfl))
 (pdb_cons (pds_if (pdt_eq fb.fo (pd_callR fb.fo 1 (ok__law_pick T) fnR_len (by decide) T.m__law_pick T.u__law_pick.kp T.b__law_pick (fun _ => rfl) rfl (fun _ => .inl rfl) (pda_cons (pd_int) (pda_nil) (fun _ => rfl)) (fun _ => rfl) (fun _ => rfl)) (pd_int)) (pdb_cons (pds_set fb 6 rfl (.inl rfl) (pd_add fb.fo (pd_call0 fb.fo (ok__law_odd_classes T) (by decide) T.m__law_odd_classes T.u__law_odd_classes.kp T.b__law_odd_classes (fun _ => rfl)) (pd_lst (pda_cons (pd_tup (pda_cons (pd_int) (pda_cons (pd_int) (pda_nil) (fun _ => rfl)) (fun _ => rfl))) (pda_cons (pd_tup (pda_cons (pd_int) (pda_cons (pd_int) (pda_nil) (fun _ => rfl)) (fun _ => rfl))) (pda_cons (pd_tup (pda_cons (pd_int) (pda_cons (pd_int) (pda_nil) (fun _ => rfl)) (fun _ => rfl))) (pda_nil) (fun _ => rfl)) (fun _ => rfl)) (fun _ => rfl)))) (fun _ => rfl))
 (pdb_one (pds_set fb 4 rfl (.inr rfl) (pd_add fb.fo (pd_add fb.fo (pd_sl fb.fo (pd_var fb.fo 4 rfl (fun _ => .inr (.inl rfl))) (pdo_none) (pdo_some (pd_var fb.fo 5 rfl (fun _ => .inl rfl)))) (pd_tup (pda_cons (pd_ix fb.fo (fun _ _ => rfl) (pd_var fb.fo 6 rfl (fun _ => .inl rfl)) (pd_callR fb.fo 1 (ok__law_pick T) fnR_len (by decide) T.m__law_pick T.u__law_pick.kp T.b__law_pick (fun _ => rfl) rfl (fun _ => .inl rfl) (pda_cons (pd_int) (pda_nil) (fun _ => rfl)) (fun _ => rfl) (fun _ => rfl))) (pda_nil) (fun _ => rfl)))) (pd_sl fb.fo (pd_var fb.fo 4 rfl (fun _ => .inr (.inl rfl))) (pdo_some (pd_var fb.fo 5 rfl (fun _ => .inl rfl))) (pdo_none))) (fun _ => rfl)))) (pdb_one (pds_if (pdt_eq fb.fo (pd_callR fb.fo 1 (ok__law_pick T) fnR_len (by decide) T.m__law_pick T.u__law_pick.kp T.b__law_pick (fun _ => rfl) rfl (fun _ => .inl rfl) (pda_cons (pd_int) (pda_nil) (fun _ => rfl)) (fun _ => rfl) (fun _ => rfl)) (pd_int)) (pdb_one (pds_set fb 4 rfl (.inr rfl) (pd_ix fb.fo (fun _ _ => rfl) (pd_lst (pda_cons (pd_non) (pda_cons (pd_callTy fb.fo (call_listF fb.fo) lss_list bb_list T.n_list (fun _ => rfl) (pda_cons (pd_var fb.fo 4 rfl (fun _ => .inr (.inl rfl))) (pda_nil) (fun _ => rfl)) (fun _ => rfl) (fun _ => rfl)) (pda_cons (pd_add fb.fo (pd_var fb.fo 4 rfl (fun _ => .inr (.inl rfl))) (pd_var fb.fo 4 rfl (fun _ => .inr (.inl rfl)))) (pda_cons (pd_str) (pda_cons (pd_int) (pda_nil) (fun _ => rfl)) (fun _ => rfl)) (fun _ => rfl)) (fun _ => rfl)) (fun _ => rfl))) (pd_callR fb.fo 1 (ok__law_pick T) fnR_len (by decide) T.m__law_pick T.u__law_pick.kp T.b__law_pick (fun _ => rfl) rfl (fun _ => .inl rfl) (pda_cons (pd_int) (pda_nil) (fun _ => rfl)) (fun _ => rfl) (fun _ => rfl))) (fun _ => rfl))) (pdb_nil))))
 (pdb_cons (pds_asg (pd_tup (pda_cons (pd_call fb.fo (ok__law_due T) fnD_len (by decide) T.m__law_due T.u__law_due.kp T.b__law_due (fun _ => rfl) (pda_cons (pd_var fb.fo 4 rfl (fun _ => .inr (.inl rfl))) (pda_nil) (fun _ => rfl)) (fun _ => rfl) (fun _ => rfl)) (pda_cons (pd_call fb.fo (ok__law_told_there T) fnD_len (by decide) T.m__law_told_there T.u__law_told_there.kp T.b__law_told_there (fun _ => rfl) (pda_cons (pd_var fb.fo 4 rfl (fun _ => .inr (.inl rfl))) (pda_nil) (fun _ => rfl)) (fun _ => rfl) (fun _ => rfl)) (pda_nil) (fun _ => rfl)) (fun _ => rfl))) (pdg_tup fb.fo fb.calm (pdgs_cons (pdg_name fb.fo 7 rfl (fun _ => .inl rfl) (fun i => .inl (fb.fn i _))) (pdgs_cons (pdg_name fb.fo 8 rfl (fun _ => .inr rfl) (fun i => .inl (fb.fn i _))) (pdgs_nil) (fun _ => rfl)) (fun _ => rfl)) (fun _ => rfl) (fun _ => rfl)) (gok_tup (goks_cons (gok_name) (goks_cons (gok_name) (goks_nil)))) (fun _ => rfl) (fun _ => rfl) (fun _ => rfl))
 (pdb_one (pds_if (pdt_isnot (pd_var fb.fo 7 rfl (fun _ => .inl rfl)) (pd_non)) (pdb_one (pds_if (pdt_ne fb.fo (pd_var fb.fo 8 rfl (fun _ => .inr (.inl rfl))) (pd_var fb.fo 7 rfl (fun _ => .inl rfl))) (pdb_one (pds_ret (pd_bl))) (pdb_nil))) (pdb_cons (pds_if (PDW.pt (pdw_or (pdt_not (pdt_val (pd_isO fb.fo T.oi_Plan T.n_isinstance T.m_Plan (fun _ => rfl) (fun _ => rfl) (pd_var fb.fo 8 rfl (fun _ => .inr (.inl rfl))) (fun _ => rfl) (fun _ => rfl) (fun _ => rfl)) (fun _ _ => rfl))) (pdw_or1 (pdt_ne fb.fo (pd_prop fb.fo rfl T.cl_Plan T.pr_Plan_classes (ok_Plan_classes T) (by decide) T.b_Plan_classes (pd_var fb.fo 8 rfl (fun _ => .inr (.inl rfl))) (fun _ => rfl)) (pd_var fb.fo 4 rfl (fun _ => .inr (.inl rfl))))))) (pdb_one (pds_ret (pd_bl))) (pdb_nil))
 (pdb_cons (pds_if (pdt_ne fb.fo (pd_lc fb.fo fb.calm (own := [("_law_one", 9)]) (fun i => by rw [fb.sc i]; exact blkOk_by (by decide +kernel)) (pdl_mk (pdi_seq fb.fo (pd_lst (pda_cons (pd_var fb.fo 4 rfl (fun _ => .inr (.inl rfl))) (pda_cons (pd_non) (pda_cons (pd_str) (pda_cons (pd_int) (pda_cons (pd_callTy fb.fo (call_listF fb.fo) lss_list bb_list T.n_list (fun _ => rfl) (pda_cons (pd_var fb.fo 4 rfl (fun _ => .inr (.inl rfl))) (pda_nil) (fun _ => rfl)) (fun _ => rfl) (fun _ => rfl)) (pda_nil) (fun _ => rfl)) (fun _ => rfl)) (fun _ => rfl)) (fun _ => rfl)) (fun _ => rfl)))) (pdg_name (fb.fo.blk _) 9 rfl (fun _ => .inl rfl) (fun _ => by first | exact .inr rfl | exact .inl rfl)) (pdts_one (pdt_eqP (fb.fo.blk _) T.oi_Plan (ok_Plan_eq T) (by decide) T.b_Plan_eq T.eqs_Plan T.eqf_Plan (pd_var (fb.fo.blk _) 8 rfl (fun _ => by first | exact .inr (.inl rfl) | exact .inr (.inr rfl))) (pd_var (fb.fo.blk _) 9 rfl (fun _ => .inl rfl)))) (pd_var (fb.fo.blk _) 9 rfl (fun _ => .inl rfl)) (by decide)) (fun _ _ => rfl)) (pd_lst (pda_nil))) (pdb_one (pds_ret (pd_bl))) (pdb_nil))
 (pdb_cons (pds_if (pdt_peek 2 (pdt_ne fb.fo (pd_lc fb.fo fb.calm (own := [("_law_one", 9), ("_law_some", 10)]) (fun i => by rw [fb.sc i]; exact blkOk_by (by decide +kernel)) (pdl_mk (pdi_seq fb.fo (pd_var fb.fo 2 rfl (fun _ => .inl rfl))) (pdg_tup (fb.fo.blk _) (fun _ => rfl) (pdgs_cons (pdg_name (fb.fo.blk _) 9 rfl (fun _ => .inl rfl) (fun _ => by first | exact .inr rfl | exact .inl rfl)) (pdgs_cons (pdg_name (fb.fo.blk _) 10 rfl (fun _ => .inl rfl) (fun _ => by first | exact .inr rfl | exact .inl rfl)) (pdgs_nil) (fun _ => rfl)) (fun _ => rfl)) (fun _ => rfl) (fun _ => rfl)) (pdts_one (pdt_ne (fb.fo.blk _) (pd_eqP (fb.fo.blk _) T.oi_Plan (ok_Plan_eq T) (by decide) T.b_Plan_eq T.eqs_Plan T.eqf_Plan (pd_var (fb.fo.blk _) 9 rfl (fun _ => .inl rfl)) (pd_var (fb.fo.blk _) 8 rfl (fun _ => by first | exact .inr (.inl rfl) | exact .inr (.inr rfl)))) (pd_eq (fb.fo.blk _) (pd_var (fb.fo.blk _) 10 rfl (fun _ => .inl rfl)) (pd_var (fb.fo.blk _) 4 rfl (fun _ => by first | exact .inr (.inl rfl) | exact .inr (.inr rfl)))))) (pd_var (fb.fo.blk _) 9 rfl (fun _ => .inl rfl)) (by decide)) (fun _ _ => rfl)) (pd_lst (pda_nil)))) (pdb_one (pds_ret (pd_bl))) (pdb_nil))
 (pdb_one (pds_append fb.fo 2 rfl (fun _ => .inl rfl) (pd_tup (pda_cons (pd_var fb.fo 8 rfl (fun _ => .inr (.inl rfl))) (pda_cons (pd_var fb.fo 4 rfl (fun _ => .inr (.inl rfl))) (pda_nil) (fun _ => rfl)) (fun _ => rfl))) ⟨fun _ => rfl, fun _ => rfl, rfl, fun _ => rfl⟩ (fun _ => rfl)))))))))))) (fun _ _ => rfl))
 (pdb_one (pds_ret (pd_eq fb.fo (pd_call fb.fo (ok__law_told_there T) fnD_len (by decide) T.m__law_told_there T.u__law_told_there.kp T.b__law_told_there (fun _ => rfl) (pda_cons (pd_callTy fb.fo (call_tupleF fb.fo) lss_tuple bb_tuple T.n_tuple (fun _ => rfl) (pda_cons (pd_lc fb.fo fb.calm (own := [("_law_k", 11)]) (fun i => by rw [fb.sc i]; exact blkOk_by (by decide +kernel)) (pdl_mk (pdi_range1 fb.fo (fun _ => rfl) T.n_range (pd_int) (fun _ => rfl)) (pdg_name (fb.fo.blk _) 11 rfl (fun _ => .inl rfl) (fun _ => by first | exact .inr rfl | exact .inl rfl)) (pdts_nil) (pd_tup (pda_cons (pd_var (fb.fo.blk _) 11 rfl (fun _ => .inl rfl)) (pda_cons (pd_int) (pda_nil) (fun _ => rfl)) (fun _ => rfl))) (by decide)) (fun _ _ => rfl)) (pda_nil) (fun _ => rfl)) (fun _ => rfl) (fun _ => rfl)) (pda_nil) (fun _ => rfl)) (fun _ => rfl) (fun _ => rfl)) (pd_lst (pda_cons (pd_str) (pda_cons (pd_non) (pda_nil) (fun _ => rfl)) (fun _ => rfl)))))))) hF
end
end PL
set_option Elab.async false
set_option linter.all false
set_option maxRecDepth 100000
set_option maxHeartbeats 4000000
namespace PL
open PySem PySem.Spec PyProof.Rows L2
/-! ### data operators on the constructors -/
@[simp] theorem sizeLine_val : sizeLine = 16777216 := sizeLine_eq
@[simp] theorem imAt_zero {d : D} {ρ : Env} : imAt (some (.im d) :: ρ) 0 = some d := rfl
@[simp] theorem imAt_succ {x : Option Sl} {ρ : Env} {i : Nat} : imAt (x :: ρ) (i + 1) = imAt ρ i := by unfold imAt; simp
@[simp] theorem imAt_one {x : Option Sl} {ρ : Env} : imAt (x :: ρ) 1 = imAt ρ 0 := imAt_succ
@[simp] theorem g_name_zero {d : D} {x : Option Sl} {ρ : Env} : g_name 0 d (x :: ρ) = some (some (.im d) :: ρ) := by unfold g_name; simp
@[simp] theorem g_name_succ {d : D} {x : Option Sl} {ρ : Env} {i : Nat} : g_name (i + 1) d (x :: ρ) = (g_name i d ρ).map (x :: ·) := by
  unfold g_name
  by_cases h : i < ρ.length
  · rw [if_pos (by simpa using h), if_pos h]; simp
  · rw [if_neg (by simpa using h), if_neg h]; simp
@[simp] theorem g_name_one {d : D} {x : Option Sl} {ρ : Env} : g_name 1 d (x :: ρ) = (g_name 0 d ρ).map (x :: ·) := g_name_succ
@[simp] theorem g_tup_tup {r : GFs} {ds : List D} {ρ : Env} : g_tup r (.tup ds) ρ = r ds ρ := rfl
@[simp] theorem gs_cons_cons {g : GF} {r : GFs} {d : D} {ds : List D} {ρ : Env} : gs_cons g r (d :: ds) ρ = (g d ρ).bind (r ds) := rfl
@[simp] theorem gs_nil_nil {ρ : Env} : gs_nil [] ρ = some ρ := rfl
@[simp] theorem wipeE_nil {ρ : Env} : wipeE ρ [] = ρ := rfl
@[simp] theorem wipeE_cons {ρ : Env} {v : Nat} {vs : List Nat} : wipeE ρ (v :: vs) = (wipeE ρ vs).set v none := rfl
theorem kit_int_non : kitB "NoneType" "int" = some false := by decide +kernel
@[simp] theorem isB_int_non  : isB "int" .non = some (.bl false) := by simp [isB, tyD, kit_int_non]
theorem kit_int_bl : kitB "bool" "int" = some true := by decide +kernel
@[simp] theorem isB_int_bl (b : Bool) : isB "int" (.bl b) = some (.bl true) := by simp [isB, tyD, kit_int_bl]
theorem kit_int_int : kitB "int" "int" = some true := by decide +kernel
@[simp] theorem isB_int_int (i : Int) : isB "int" (.int i) = some (.bl true) := by simp [isB, tyD, kit_int_int]
theorem kit_int_str : kitB "str" "int" = some false := by decide +kernel
@[simp] theorem isB_int_str (x : Str) : isB "int" (.str x) = some (.bl false) := by simp [isB, tyD, kit_int_str]
theorem kit_int_tup : kitB "tuple" "int" = some false := by decide +kernel
@[simp] theorem isB_int_tup (xs : List D) : isB "int" (.tup xs) = some (.bl false) := by simp [isB, tyD, kit_int_tup]
theorem kit_int_lst : kitB "list" "int" = some false := by decide +kernel
@[simp] theorem isB_int_lst (xs : List D) : isB "int" (.lst xs) = some (.bl false) := by simp [isB, tyD, kit_int_lst]
theorem kit_int_dct : kitB "dict" "int" = some false := by decide +kernel
@[simp] theorem isB_int_dct (kv : List (D × D)) : isB "int" (.dct kv) = some (.bl false) := by simp [isB, tyD, kit_int_dct]
theorem kit_bool_non : kitB "NoneType" "bool" = some false := by decide +kernel
@[simp] theorem isB_bool_non  : isB "bool" .non = some (.bl false) := by simp [isB, tyD, kit_bool_non]
theorem kit_bool_bl : kitB "bool" "bool" = some true := by decide +kernel
@[simp] theorem isB_bool_bl (b : Bool) : isB "bool" (.bl b) = some (.bl true) := by simp [isB, tyD, kit_bool_bl]
theorem kit_bool_int : kitB "int" "bool" = some false := by decide +kernel
@[simp] theorem isB_bool_int (i : Int) : isB "bool" (.int i) = some (.bl false) := by simp [isB, tyD, kit_bool_int]
theorem kit_bool_str : kitB "str" "bool" = some false := by decide +kernel
@[simp] theorem isB_bool_str (x : Str) : isB "bool" (.str x) = some (.bl false) := by simp [isB, tyD, kit_bool_str]
theorem kit_bool_tup : kitB "tuple" "bool" = some false := by decide +kernel
@[simp] theorem isB_bool_tup (xs : List D) : isB "bool" (.tup xs) = some (.bl false) := by simp [isB, tyD, kit_bool_tup]
theorem kit_bool_lst : kitB "list" "bool" = some false := by decide +kernel
@[simp] theorem isB_bool_lst (xs : List D) : isB "bool" (.lst xs) = some (.bl false) := by simp [isB, tyD, kit_bool_lst]
theorem kit_bool_dct : kitB "dict" "bool" = some false := by decide +kernel
@[simp] theorem isB_bool_dct (kv : List (D × D)) : isB "bool" (.dct kv) = some (.bl false) := by simp [isB, tyD, kit_bool_dct]
theorem kit_tuple_non : kitB "NoneType" "tuple" = some false := by decide +kernel
@[simp] theorem isB_tuple_non  : isB "tuple" .non = some (.bl false) := by simp [isB, tyD, kit_tuple_non]
theorem kit_tuple_bl : kitB "bool" "tuple" = some false := by decide +kernel
@[simp] theorem isB_tuple_bl (b : Bool) : isB "tuple" (.bl b) = some (.bl false) := by simp [isB, tyD, kit_tuple_bl]
theorem kit_tuple_int : kitB "int" "tuple" = some false := by decide +kernel
@[simp] theorem isB_tuple_int (i : Int) : isB "tuple" (.int i) = some (.bl false) := by simp [isB, tyD, kit_tuple_int]
theorem kit_tuple_str : kitB "str" "tuple" = some false := by decide +kernel
@[simp] theorem isB_tuple_str (x : Str) : isB "tuple" (.str x) = some (.bl false) := by simp [isB, tyD, kit_tuple_str]
theorem kit_tuple_tup : kitB "tuple" "tuple" = some true := by decide +kernel
@[simp] theorem isB_tuple_tup (xs : List D) : isB "tuple" (.tup xs) = some (.bl true) := by simp [isB, tyD, kit_tuple_tup]
theorem kit_tuple_lst : kitB "list" "tuple" = some false := by decide +kernel
@[simp] theorem isB_tuple_lst (xs : List D) : isB "tuple" (.lst xs) = some (.bl false) := by simp [isB, tyD, kit_tuple_lst]
theorem kit_tuple_dct : kitB "dict" "tuple" = some false := by decide +kernel
@[simp] theorem isB_tuple_dct (kv : List (D × D)) : isB "tuple" (.dct kv) = some (.bl false) := by simp [isB, tyD, kit_tuple_dct]
theorem kit_list_non : kitB "NoneType" "list" = some false := by decide +kernel
@[simp] theorem isB_list_non  : isB "list" .non = some (.bl false) := by simp [isB, tyD, kit_list_non]
theorem kit_list_bl : kitB "bool" "list" = some false := by decide +kernel
@[simp] theorem isB_list_bl (b : Bool) : isB "list" (.bl b) = some (.bl false) := by simp [isB, tyD, kit_list_bl]
theorem kit_list_int : kitB "int" "list" = some false := by decide +kernel
@[simp] theorem isB_list_int (i : Int) : isB "list" (.int i) = some (.bl false) := by simp [isB, tyD, kit_list_int]
theorem kit_list_str : kitB "str" "list" = some false := by decide +kernel
@[simp] theorem isB_list_str (x : Str) : isB "list" (.str x) = some (.bl false) := by simp [isB, tyD, kit_list_str]
theorem kit_list_tup : kitB "tuple" "list" = some false := by decide +kernel
@[simp] theorem isB_list_tup (xs : List D) : isB "list" (.tup xs) = some (.bl false) := by simp [isB, tyD, kit_list_tup]
theorem kit_list_lst : kitB "list" "list" = some true := by decide +kernel
@[simp] theorem isB_list_lst (xs : List D) : isB "list" (.lst xs) = some (.bl true) := by simp [isB, tyD, kit_list_lst]
theorem kit_list_dct : kitB "dict" "list" = some false := by decide +kernel
@[simp] theorem isB_list_dct (kv : List (D × D)) : isB "list" (.dct kv) = some (.bl false) := by simp [isB, tyD, kit_list_dct]
theorem kit_str_non : kitB "NoneType" "str" = some false := by decide +kernel
@[simp] theorem isB_str_non  : isB "str" .non = some (.bl false) := by simp [isB, tyD, kit_str_non]
theorem kit_str_bl : kitB "bool" "str" = some false := by decide +kernel
@[simp] theorem isB_str_bl (b : Bool) : isB "str" (.bl b) = some (.bl false) := by simp [isB, tyD, kit_str_bl]
theorem kit_str_int : kitB "int" "str" = some false := by decide +kernel
@[simp] theorem isB_str_int (i : Int) : isB "str" (.int i) = some (.bl false) := by simp [isB, tyD, kit_str_int]
theorem kit_str_str : kitB "str" "str" = some true := by decide +kernel
@[simp] theorem isB_str_str (x : Str) : isB "str" (.str x) = some (.bl true) := by simp [isB, tyD, kit_str_str]
theorem kit_str_tup : kitB "tuple" "str" = some false := by decide +kernel
@[simp] theorem isB_str_tup (xs : List D) : isB "str" (.tup xs) = some (.bl false) := by simp [isB, tyD, kit_str_tup]
theorem kit_str_lst : kitB "list" "str" = some false := by decide +kernel
@[simp] theorem isB_str_lst (xs : List D) : isB "str" (.lst xs) = some (.bl false) := by simp [isB, tyD, kit_str_lst]
theorem kit_str_dct : kitB "dict" "str" = some false := by decide +kernel
@[simp] theorem isB_str_dct (kv : List (D × D)) : isB "str" (.dct kv) = some (.bl false) := by simp [isB, tyD, kit_str_dct]
section
variable {i j : Int} {a b : Bool} {x y : Str} {xs ys : List D} {n : Nat}
@[simp] theorem addD_int : addD (.int i) (.int j) = some (.int (i + j)) := rfl
@[simp] theorem addI_int : addI (.int i) (.int j) = some (.int (i + j)) := rfl
@[simp] theorem addD_tup : addD (.tup xs) (.tup ys) = if xs.length + ys.length ≤ sizeLine then some (.tup (xs ++ ys)) else none := rfl
@[simp] theorem addD_lst : addD (.lst xs) (.lst ys) = if xs.length + ys.length ≤ sizeLine then some (.lst (xs ++ ys)) else none := rfl
@[simp] theorem subD_int : subD (.int i) (.int j) = some (.int (i - j)) := rfl
@[simp] theorem mulD_int : mulD (.int i) (.int j) = if (-(2 ^ 64) < i ∧ i < 2 ^ 64) ∨ (-(2 ^ 64) < j ∧ j < 2 ^ 64) then some (.int (i * j)) else none := rfl
@[simp] theorem fdivD_int : fdivD (.int i) (.int j) = if 0 < j ∧ j < 18446744073709551616 then some (.int (i / j)) else none := rfl
@[simp] theorem modD_int : modD (.int i) (.int j) = if 0 < j then some (.int (i % j)) else none := rfl
@[simp] theorem negD_int : negD (.int i) = some (.int (-i)) := rfl
@[simp] theorem notV_bl : notV (.bl a) = some (.bl (!a)) := rfl
@[simp] theorem ltD_int : ltD (.int i) (.int j) = some (.bl (decide (i < j))) := rfl
@[simp] theorem leD_int : leD (.int i) (.int j) = some (.bl (decide (i ≤ j))) := rfl
@[simp] theorem gtD_int : gtD (.int i) (.int j) = some (.bl (decide (j < i))) := rfl
@[simp] theorem geD_int : geD (.int i) (.int j) = some (.bl (decide (j ≤ i))) := rfl
theorem eqv_int : PyData.eqv (.int i) (.int j) = decide (i = j) := by
  first | rfl | (simp [PyData.eqv]) | (unfold PyData.eqv; rfl)
@[simp] theorem eqD_int : eqD (.int i) (.int j) = some (.bl (decide (i = j))) := by
  unfold eqD; rw [if_pos (by rfl)]; simp only [py, eqv_int]
@[simp] theorem neD_int : neD (.int i) (.int j) = some (.bl (!decide (i = j))) := by
  unfold neD; rw [if_pos (by rfl)]; simp only [py, eqv_int]
@[simp] theorem isND_non {d : D} : isND d .non = some (.bl (isNone d)) := rfl
@[simp] theorem notND_non {d : D} : notND d .non = some (.bl (!isNone d)) := rfl
@[simp] theorem isNone_non : isNone .non = true := rfl
@[simp] theorem isNone_int : isNone (.int i) = false := rfl
@[simp] theorem isNone_tup : isNone (.tup xs) = false := rfl
@[simp] theorem isNone_lst : isNone (.lst xs) = false := rfl
@[simp] theorem isNone_str : isNone (.str x) = false := rfl
@[simp] theorem isNone_bl : isNone (.bl a) = false := rfl
@[simp] theorem ixD_lst : ixD (.lst xs) (.int i) = atI xs i := rfl
@[simp] theorem ixD_tup : ixD (.tup xs) (.int i) = atI xs i := rfl
@[simp] theorem fldD_ins {nm f : Str} {fs : List (Str × D)} : fldD nm f (.ins nm fs) = fs.lookup f := by unfold fldD; simp
@[simp] theorem tupD_eq : tupD xs = if xs.length ≤ sizeLine then some (.tup xs) else none := rfl
@[simp] theorem lstD_eq : lstD xs = if xs.length ≤ sizeLine then some (.lst xs) else none := rfl
@[simp] theorem intD_int : intD [.int i] = some (.int i) := rfl
@[simp] theorem some?_if {c : Prop} [Decidable c] {d : D} {k : D → Prop} : some? (if c then some d else none) k ↔ c ∧ k d := by
  split <;> simp [*]
end

@[simp] theorem ofString_iff {a b : String} : Str.ofString a = Str.ofString b ↔ a = b := by
  refine ⟨fun h => ?_, fun h => by rw [h]⟩
  rw [Str.ofString_eq_toList, Str.ofString_eq_toList] at h
  have h2 : a.toList.map Char.toNat = b.toList.map Char.toNat := by
    have := congrArg (fun s : Str => s.cps.toList) h
    simpa using this
  have h3 : a.toList = b.toList := (List.map_inj_right (fun x y hxy => Char.toNat_inj.mp hxy)).mp h2
  exact String.toList_inj.mp h3
@[simp] theorem ofString_beq {a b : String} : (Str.ofString a == Str.ofString b) = decide (a = b) := by
  rw [Bool.eq_iff_iff]; simp
end PL
set_option Elab.async false
set_option linter.all false
set_option maxRecDepth 100000
set_option maxHeartbeats 4000000
namespace PL
open PySem PySem.Spec PyProof.Rows L2
/-! ### data of a Lean type -/
theorem pys_map : ∀ xs : List D, pys xs = xs.map py
  | [] => by rw [pys]; rfl
  | x :: xs => by rw [pys, pys_map xs]; rfl
theorem flats_all : ∀ xs : List D, flats xs = xs.all flat
  | [] => by rw [flats]; rfl
  | x :: xs => by rw [flats, flats_all xs]; rfl
class Cod (α : Type) [DecidableEq α] where
  d : α → D
  fl : ∀ x, flat (d x) = true
  cl : ∀ x, (py (d x)).canLay0 = true
  dep : Nat
  dp : ∀ x, (py (d x)).depth ≤ dep
  ev : ∀ x y, PyData.eqv (py (d x)) (py (d y)) = decide (x = y)
instance : Cod Int where
  d := .int
  fl _ := rfl
  cl _ := rfl
  dep := 0
  dp _ := Nat.le_refl _
  ev x y := eqv_int
/-- a tuple of any length -/
structure Tp (α : Type) where
  items : List α
instance {α : Type} [DecidableEq α] : DecidableEq (Tp α) := fun a b => decidable_of_iff (a.items = b.items) ⟨fun h => by cases a; cases b; exact congrArg Tp.mk h, fun h => by rw [h]⟩
section
variable {α β : Type} [DecidableEq α] [Cod α] [DecidableEq β] [Cod β]
theorem cod_fls (xs : List α) : flats (xs.map Cod.d) = true := by
  rw [flats_all]; simp [Cod.fl]
theorem cod_cls : ∀ xs : List α, PyData.canLayAll0 (pys (xs.map Cod.d)) = true
  | [] => by simp [pys, PyData.canLayAll0]
  | x :: xs => by simp [pys, PyData.canLayAll0, Cod.cl, cod_cls xs]
theorem cod_dps : ∀ xs : List α, PyData.depthAll (pys (xs.map Cod.d)) ≤ Cod.dep α
  | [] => by simp [pys, PyData.depthAll]
  | x :: xs => by
    simp only [List.map_cons, pys, PyData.depthAll]
    exact Nat.max_le.mpr ⟨Cod.dp x, cod_dps xs⟩
theorem cod_evs : ∀ xs ys : List α, PyData.eqvAll (pys (xs.map Cod.d)) (pys (ys.map Cod.d)) = decide (xs = ys)
  | [], [] => by simp [pys, PyData.eqvAll]
  | [], _ :: _ => by simp [pys, PyData.eqvAll]
  | _ :: _, [] => by simp [pys, PyData.eqvAll]
  | x :: xs, y :: ys => by
    simp only [List.map_cons, pys, PyData.eqvAll, Cod.ev, cod_evs xs ys, List.cons.injEq]
    by_cases h1 : x = y <;> by_cases h2 : xs = ys <;> simp [h1, h2]
instance : Cod (List α) where
  d xs := .lst (xs.map Cod.d)
  fl xs := by rw [flat]; exact cod_fls xs
  cl xs := by rw [py, PyData.canLay0]; exact cod_cls xs
  dep := Cod.dep α + 1
  dp xs := by rw [py, PyData.depth]; exact Nat.succ_le_succ (cod_dps xs)
  ev xs ys := by rw [py, py, PyData.eqv]; exact cod_evs xs ys
instance : Cod (Tp α) where
  d xs := .tup (xs.items.map Cod.d)
  fl xs := by rw [flat]; exact cod_fls xs.items
  cl xs := by rw [py, PyData.canLay0]; exact cod_cls xs.items
  dep := Cod.dep α + 1
  dp xs := by rw [py, PyData.depth]; exact Nat.succ_le_succ (cod_dps xs.items)
  ev xs ys := by
    rw [py, py, PyData.eqv, cod_evs]
    obtain ⟨xs⟩ := xs; obtain ⟨ys⟩ := ys
    exact decide_eq_decide.mpr ⟨fun h => congrArg Tp.mk h, fun h => congrArg Tp.items h⟩
instance : Cod (α × β) where
  d p := .tup [Cod.d p.1, Cod.d p.2]
  fl p := by simp [flat, flats, Cod.fl]
  cl p := by simp [py, pys, PyData.canLay0, PyData.canLayAll0, Cod.cl]
  dep := max (Cod.dep α) (Cod.dep β) + 1
  dp p := by
    simp only [py, pys, PyData.depth, PyData.depthAll]
    exact Nat.succ_le_succ (Nat.max_le.mpr ⟨Nat.le_trans (Cod.dp p.1) (Nat.le_max_left _ _), Nat.max_le.mpr ⟨Nat.le_trans (Cod.dp p.2) (Nat.le_max_right _ _), Nat.zero_le _⟩⟩)
  ev p q := by
    simp only [py, pys, PyData.eqv, PyData.eqvAll, Cod.ev, Bool.and_true]
    obtain ⟨a, b⟩ := p; obtain ⟨c, d⟩ := q
    by_cases h1 : a = c <;> by_cases h2 : b = d <;> simp [h1, h2]
/-- shallow enough -/
class Shal (α : Type) [DecidableEq α] [Cod α] : Prop where
  le : Cod.dep α ≤ 60
instance : Shal Int := ⟨by decide⟩
instance : Shal (Int × Int) := ⟨by decide⟩
instance : Shal (List Int) := ⟨by decide⟩
instance : Shal (List (Int × Int)) := ⟨by decide⟩
instance : Shal (Tp Int) := ⟨by decide⟩
instance : Shal (Tp (Int × Int)) := ⟨by decide⟩
theorem cod_shaped [Shal α] (x : α) : SeqAt.shaped (py (Cod.d x)) = true := by
  unfold SeqAt.shaped
  rw [Bool.and_eq_true, decide_eq_true_eq]
  exact ⟨Cod.cl x, Nat.le_trans (Cod.dp x) (Nat.le_trans Shal.le (by decide))⟩
theorem cod_shapedL [Shal α] (xs : List α) : SeqAt.shaped (py (.lst (xs.map Cod.d))) = true := by
  unfold SeqAt.shaped
  rw [Bool.and_eq_true, decide_eq_true_eq]
  refine ⟨Cod.cl xs, ?_⟩
  have := Cod.dp xs
  have h2 : Cod.dep α ≤ 60 := Shal.le
  have h3 : Cod.dep (List α) = Cod.dep α + 1 := rfl
  have h4 : (py (Cod.d xs)).depth = (py (D.lst (xs.map Cod.d))).depth := rfl
  omega
theorem cod_shapedT [Shal α] (xs : List α) : SeqAt.shaped (py (.tup (xs.map Cod.d))) = true := by
  unfold SeqAt.shaped
  rw [Bool.and_eq_true, decide_eq_true_eq]
  refine ⟨Cod.cl (Tp.mk xs), ?_⟩
  have := Cod.dp (Tp.mk xs)
  have h2 : Cod.dep α ≤ 60 := Shal.le
  have h3 : Cod.dep (Tp α) = Cod.dep α + 1 := rfl
  have h4 : (py (Cod.d (Tp.mk xs))).depth = (py (D.tup (xs.map Cod.d))).depth := rfl
  omega
theorem eqD_cod [Shal α] (x y : α) : eqD (Cod.d x) (Cod.d y) = some (.bl (decide (x = y))) := by
  unfold eqD eqOk
  rw [if_pos (by simp [Cod.fl, cod_shaped]), Cod.ev]
theorem neD_cod [Shal α] (x y : α) : neD (Cod.d x) (Cod.d y) = some (.bl (!decide (x = y))) := by
  unfold neD eqOk
  rw [if_pos (by simp [Cod.fl, cod_shaped]), Cod.ev]
theorem any_cod (x : α) : ∀ xs : List α, ((pys (xs.map Cod.d)).any fun z => PyData.eqv z (py (Cod.d x))) = decide (x ∈ xs)
  | [] => by simp [pys]
  | y :: ys => by
    rw [List.map_cons, pys, List.any_cons, any_cod x ys, Cod.ev]
    by_cases h : y = x
    · subst h; simp
    · simp [h, Ne.symm h]
theorem okL [Shal α] (x : α) (xs : List α) : eqOk (Cod.d x) (.lst (xs.map Cod.d)) = true := by
  unfold eqOk; simp [Cod.fl, cod_shaped, cod_shapedL, flat, cod_fls]
theorem okT [Shal α] (x : α) (xs : List α) : eqOk (Cod.d x) (.tup (xs.map Cod.d)) = true := by
  unfold eqOk; simp [Cod.fl, cod_shaped, cod_shapedT, flat, cod_fls]
theorem inD_lst [Shal α] (x : α) (xs : List α) : inD (Cod.d x) (.lst (xs.map Cod.d)) = some (.bl (decide (x ∈ xs))) := by
  show (if eqOk (Cod.d x) _ = true then _ else none) = _
  rw [if_pos (okL x xs), any_cod]
theorem inD_tup [Shal α] (x : α) (xs : List α) : inD (Cod.d x) (.tup (xs.map Cod.d)) = some (.bl (decide (x ∈ xs))) := by
  show (if eqOk (Cod.d x) _ = true then _ else none) = _
  rw [if_pos (okT x xs), any_cod]
theorem notinD_lst [Shal α] (x : α) (xs : List α) : notinD (Cod.d x) (.lst (xs.map Cod.d)) = some (.bl (!decide (x ∈ xs))) := by
  show (if eqOk (Cod.d x) _ = true then _ else none) = _
  rw [if_pos (okL x xs), any_cod]
theorem notinD_tup [Shal α] (x : α) (xs : List α) : notinD (Cod.d x) (.tup (xs.map Cod.d)) = some (.bl (!decide (x ∈ xs))) := by
  show (if eqOk (Cod.d x) _ = true then _ else none) = _
  rw [if_pos (okT x xs), any_cod]
theorem inD_tup_t [Shal α] {x : α} {xs : List α} (h : x ∈ xs) : inD (Cod.d x) (.tup (xs.map Cod.d)) = some (.bl true) := by rw [inD_tup]; simp [h]
theorem inD_tup_f [Shal α] {x : α} {xs : List α} (h : x ∉ xs) : inD (Cod.d x) (.tup (xs.map Cod.d)) = some (.bl false) := by rw [inD_tup]; simp [h]
theorem inD_lst_t [Shal α] {x : α} {xs : List α} (h : x ∈ xs) : inD (Cod.d x) (.lst (xs.map Cod.d)) = some (.bl true) := by rw [inD_lst]; simp [h]
theorem inD_lst_f [Shal α] {x : α} {xs : List α} (h : x ∉ xs) : inD (Cod.d x) (.lst (xs.map Cod.d)) = some (.bl false) := by rw [inD_lst]; simp [h]
theorem notinD_tup_t [Shal α] {x : α} {xs : List α} (h : x ∈ xs) : notinD (Cod.d x) (.tup (xs.map Cod.d)) = some (.bl false) := by rw [notinD_tup]; simp [h]
theorem notinD_tup_f [Shal α] {x : α} {xs : List α} (h : x ∉ xs) : notinD (Cod.d x) (.tup (xs.map Cod.d)) = some (.bl true) := by rw [notinD_tup]; simp [h]
theorem notinD_lst_t [Shal α] {x : α} {xs : List α} (h : x ∈ xs) : notinD (Cod.d x) (.lst (xs.map Cod.d)) = some (.bl false) := by rw [notinD_lst]; simp [h]
theorem notinD_lst_f [Shal α] {x : α} {xs : List α} (h : x ∉ xs) : notinD (Cod.d x) (.lst (xs.map Cod.d)) = some (.bl true) := by rw [notinD_lst]; simp [h]
theorem eqD_cod_t [Shal α] {x y : α} (h : x = y) : eqD (Cod.d x) (Cod.d y) = some (.bl true) := by rw [eqD_cod]; simp [h]
theorem eqD_cod_f [Shal α] {x y : α} (h : x ≠ y) : eqD (Cod.d x) (Cod.d y) = some (.bl false) := by rw [eqD_cod]; simp [h]
theorem neD_cod_t [Shal α] {x y : α} (h : x = y) : neD (Cod.d x) (Cod.d y) = some (.bl false) := by rw [neD_cod]; simp [h]
theorem neD_cod_f [Shal α] {x y : α} (h : x ≠ y) : neD (Cod.d x) (Cod.d y) = some (.bl true) := by rw [neD_cod]; simp [h]
end
theorem eqD_refl {d : D} (h : eqOk d d = true) : eqD d d = some (.bl true) := by
  unfold eqD; rw [if_pos h]
  unfold eqOk at h
  simp only [Bool.and_eq_true] at h
  rw [PySem.SeqAt.eqv_refl _ (SeqAt.canLay_of_shaped h.2)]
theorem neD_refl {d : D} (h : eqOk d d = true) : neD d d = some (.bl false) := by
  unfold neD; rw [if_pos h]
  unfold eqOk at h
  simp only [Bool.and_eq_true] at h
  rw [PySem.SeqAt.eqv_refl _ (SeqAt.canLay_of_shaped h.2)]; rfl
end PL
set_option Elab.async false
set_option linter.all false
set_option maxRecDepth 100000
set_option maxHeartbeats 4000000
namespace PL
open PySem PySem.Spec PyProof.Rows L2
/-! ### the small defs of the program -/
def isFrom : D → Int → Int → Bool
  | .int v, lo, hi => decide (lo ≤ v) && decide (v ≤ hi)
  | _, _, _ => false
def notIns : D → Bool
  | .ins _ _ => false
  | .dcn _ => false
  | .dcb _ => false
  | _ => true
theorem F_is_from_eq (d : D) (lo hi : Int) (h : notIns d = true) : F_is_from [d, .int lo, .int hi] = some (.ok (.bl (isFrom d lo hi))) := by
  refine fnD_wp rfl ?_
  cases d with
  | ins _ _ => cases h
  | dcn _ => cases h
  | dcb _ => cases h
  | int v => by_cases h1 : lo ≤ v <;> by_cases h2 : v ≤ hi <;> simp [B_is_from, env0, isFrom, h1, h2]
  | _ => simp [B_is_from, env0, isFrom]
@[simp] theorem F_is_from_int (v lo hi : Int) : F_is_from [.int v, .int lo, .int hi] = some (.ok (.bl (decide (lo ≤ v ∧ v ≤ hi)))) := by
  rw [F_is_from_eq _ _ _ rfl]; simp [isFrom]
abbrev cD (p : Int × Int) : D := .tup [.int p.1, .int p.2]
abbrev rowsD (rs : List (Int × Int)) : D := .tup (rs.map cD)
def planD (rs : List (Int × Int)) : D := .ins "Plan" [("rows", rowsD rs)]
@[simp] theorem planD_fold {rs : List (Int × Int)} : D.ins "Plan" [("rows", rowsD rs)] = planD rs := rfl
@[simp] theorem planD_rows {rs : List (Int × Int)} : fldD "Plan" "rows" (planD rs) = some (rowsD rs) := by
  unfold planD; rw [fldD_ins]; rfl
def isCl (p : Int × Int) : Prop := (1 ≤ p.2 ∧ p.2 ≤ 12) ∧ 0 ≤ p.1 ∧ p.1 < p.2
instance (p : Int × Int) : Decidable (isCl p) := by unfold isCl; infer_instance
def isCls : D → Bool
  | .tup [a, b] => isFrom b 1 12 && (match b with | .int m => isFrom a 0 (m - 1) | _ => false)
  | _ => false
@[simp] theorem lenD_tup {xs : List D} : lenD [.tup xs] = some (.int xs.length) := rfl
@[simp] theorem lenD_lst {xs : List D} : lenD [.lst xs] = some (.int xs.length) := rfl
@[simp] theorem listD_lst {xs : List D} : listD [.lst xs] = some (.lst xs) := rfl
@[simp] theorem listD_tup {xs : List D} : listD [.tup xs] = some (.lst xs) := rfl
@[simp] theorem tupleD_lst {xs : List D} : tupleD [.lst xs] = some (.tup xs) := rfl
@[simp] theorem tupleD_tup {xs : List D} : tupleD [.tup xs] = some (.tup xs) := rfl
@[simp] theorem atI_zero {a : D} {xs : List D} : atI (a :: xs) 0 = some a := by simp [atI, ixN]
@[simp] theorem atI_one {a b : D} {xs : List D} : atI (a :: b :: xs) 1 = some b := by
  have : (1 : Int) < (xs.length : Int) + 1 + 1 := by omega
  simp [atI, ixN, this]
theorem atI_nat {α : Type} {xs : List α} {i : Nat} (h : i < xs.length) : atI xs (i : Int) = xs[i]? := by
  unfold atI ixN
  simp [h]
theorem F_is_class_eq (d : D) (h : notIns d = true) (h2 : ∀ xs, d = .tup xs → xs.all notIns = true) : F_is_class [d] = some (.ok (.bl (isCls d))) := by
  refine fnD_wp rfl ?_
  cases d with
  | ins _ _ => cases h
  | dcn _ => cases h
  | dcb _ => cases h
  | tup xs =>
    have h3 := h2 xs rfl
    match xs, h3 with
    | [], _ => simp [B_is_class, env0, isCls]
    | [a], _ => simp [B_is_class, env0, isCls]
    | [a, b], h3 =>
      simp only [List.all_cons, List.all_nil, Bool.and_true, Bool.and_eq_true] at h3
      simp [B_is_class, env0, isCls, F_is_from_eq _ _ _ h3.1, F_is_from_eq _ _ _ h3.2]
      cases b with
      | int m => simp [F_is_from_eq _ _ _ h3.1]; cases isFrom (.int m) 1 12 <;> simp
      | _ => simp [isFrom]
    | a :: b :: c :: r, _ =>
      have : ¬((r.length : Int) + 1 + 1 + 1 = 2) := by omega
      simp [B_is_class, env0, isCls, this]
  | _ => simp [B_is_class, env0, isCls]
theorem isCls_cD (p : Int × Int) : isCls (cD p) = decide (isCl p) := by
  obtain ⟨r, m⟩ := p
  have h : (r ≤ m - 1) ↔ r < m := by omega
  rw [Bool.eq_iff_iff, decide_eq_true_eq]
  simp only [isCls, isFrom, isCl, h, Bool.and_eq_true, decide_eq_true_eq]
@[simp] theorem F_is_class_cD (p : Int × Int) : F_is_class [cD p] = some (.ok (.bl (decide (isCl p)))) := by
  rw [F_is_class_eq _ rfl (fun xs h => by cases h; rfl), isCls_cD]
/-- the rows of a plan -/
structure Rows (rs : List (Int × Int)) : Prop where
  cl : ∀ p ∈ rs, isCl p
  nd : rs.Nodup
  le : rs.length ≤ 8
instance : Cod (Int × Int) := inferInstance
theorem cD_cod (p : Int × Int) : cD p = Cod.d p := rfl
theorem rowsD_cod (rs : List (Int × Int)) : rowsD rs = .tup (rs.map Cod.d) := rfl

/-! ### loops and comprehensions over lists of a Lean type -/
section
variable {β : Type} {g : GF} {tf : TF} {fe : EF} {f : SF} {ρ ρw : Env} {s : Row} {QL : List D → Row → Prop} {QS : Out → Row → Prop}
theorem enumL_map (L : List β) (h : β → D) : enumL (L.map h) = L.zipIdx.map fun q => D.tup [.int (q.2 : Nat), h q.1] := by
  unfold enumL
  rw [List.zipIdx_map, List.map_map]
  rfl
theorem rangeL_eq (lo hi : Int) : rangeL lo hi = (List.range (hi - lo).toNat).map fun (i : Nat) => D.int (lo + i) := rfl
theorem rangeL_zero (n : Nat) : rangeL 0 (n : Int) = (List.range n).map fun (i : Nat) => D.int (i : Int) := by
  rw [rangeL_eq]; simp
theorem lc_map (h : β → D) (p : β → Bool) (v : β → D) {L : List β} (hx : ∀ x ∈ L, ∃ ρ1, g (h x) ρw = some ρ1 ∧ wp (tf ρ1 s) fun b s1 => s1 = s ∧ b = .ok (p x) ∧ (p x = true → wp (fe ρ1 s) fun y s2 => s2 = s ∧ y = .ok (v x))) (hq : QL ((L.filter p).map v) s) : wp (lcGo g tf fe ρw (L.map h) s) QL := by
  have key : ∀ L : List β, (∀ x ∈ L, ∃ ρ1, g (h x) ρw = some ρ1 ∧ wp (tf ρ1 s) fun b s1 => s1 = s ∧ b = .ok (p x) ∧ (p x = true → wp (fe ρ1 s) fun y s2 => s2 = s ∧ y = .ok (v x))) → lcGo g tf fe ρw (L.map h) s = some ((L.filter p).map v, s) := by
    intro L
    induction L with
    | nil => intro _; rfl
    | cons x L ih =>
      intro hx
      obtain ⟨ρ1, e1, b, s1, e2, rfl, rfl, q⟩ := hx x List.mem_cons_self
      have ih' := ih fun y hy => hx y (List.mem_cons_of_mem _ hy)
      rw [List.map_cons, lcGo, e1, Option.bind_some, e2]
      cases hp : p x with
      | false => simp only [hp, List.filter_cons]; simpa using ih'
      | true =>
        obtain ⟨y, s2, e3, rfl, rfl⟩ := q hp
        simp only [e3, ih', List.filter_cons, hp, Option.map_some, if_true, List.map_cons]
  rw [key L hx]
  exact wp_some.mpr hq
/-- .. all are kept -/
theorem lc_all (h : β → D) (v : β → D) {L : List β} (hx : ∀ x ∈ L, ∃ ρ1, g (h x) ρw = some ρ1 ∧ wp (fe ρ1 s) fun y s2 => s2 = s ∧ y = .ok (v x)) (hq : QL (L.map v) s) : wp (lcGo g t_yes fe ρw (L.map h) s) QL :=
  lc_map h (fun _ => true) v (fun x m => let ⟨ρ1, e, q⟩ := hx x m; ⟨ρ1, e, by simpa [t_yes] using q⟩) (by rw [List.filter_eq_self.mpr (fun _ _ => rfl)]; exact hq)
theorem wp_forN (h : β → D) {L : List β} (J : Nat → Env → Row → Prop) (step : ∀ k (hk : k < L.length) ρ s, J k ρ s → ∃ ρ1, g (h L[k]) ρ = some ρ1 ∧ wp (f ρ1 s) (nk (fun ρ2 s2 => J (k + 1) ρ2 s2) QS)) (fin : ∀ ρ s, J L.length ρ s → QS (.nx ρ) s) (h0 : J 0 ρ s) : wp (forGo g f (L.map h) ρ s) QS := by
  refine wp_forGo (fun xs ρ s => ∃ k, k ≤ L.length ∧ xs = (L.drop k).map h ∧ J k ρ s) ?_ ?_ _ ρ s ⟨0, Nat.zero_le _, rfl, h0⟩
  · rintro x xs ρ s ⟨k, hk, e, hJ⟩
    have hlt : k < L.length := by
      rcases Nat.lt_or_ge k L.length with q | q
      · exact q
      · rw [List.drop_eq_nil_of_le q] at e; cases e
    rw [List.drop_eq_getElem_cons hlt, List.map_cons] at e
    cases e
    obtain ⟨ρ1, e1, q⟩ := step k hlt ρ s hJ
    refine ⟨ρ1, e1, wp_mono q fun o s1 q => ?_⟩
    cases o with
    | nx ρ2 => exact ⟨k + 1, hlt, rfl, q⟩
    | _ => exact q
  · rintro ρ s ⟨k, hk, e, hJ⟩
    have : k = L.length := by
      have := congrArg List.length e
      simp at this
      omega
    subst this
    exact fin ρ s hJ
theorem wp_forR {n : Nat} (J : Nat → Env → Row → Prop) (step : ∀ k, k < n → ∀ ρ s, J k ρ s → ∃ ρ1, g (.int (k : Int)) ρ = some ρ1 ∧ wp (f ρ1 s) (nk (fun ρ2 s2 => J (k + 1) ρ2 s2) QS)) (fin : ∀ ρ s, J n ρ s → QS (.nx ρ) s) (h0 : J 0 ρ s) : wp (forGo g f (rangeL 0 (n : Int)) ρ s) QS := by
  rw [rangeL_zero]
  refine wp_forN (fun (i : Nat) => D.int (i : Int)) J (fun k hk ρ s hJ => ?_) (fun ρ s hJ => fin ρ s (by simpa using hJ)) h0
  have hk' : k < n := by simpa using hk
  simpa using step k hk' ρ s hJ
end
theorem cutD_take {xs : List D} {k : Nat} (h : k ≤ xs.length) : cutD xs none (some (k : Int)) = xs.take k := by
  unfold cutD
  rw [HT.sIx_none, HT.sIx_nat]
  simp [Nat.min_eq_left h]
@[simp] theorem wp_setattr {ρ : Env} {s : Row} {QS : Out → Row → Prop} {i : Nat} {nm f : Str} {fe : EF} {fs : List (Str × D)} (h : ceAt ρ i = some (.ins nm fs)) (h2 : fs.length < 900) : wp (s_setattr i nm f fe ρ s) QS ↔ wp (fe ρ s) (rk (fun d s1 => i < ρ.length ∧ QS (.nx (ρ.set i (some (.ce (.ins nm (putFD f d fs)))))) s1) fun e s => QS (.er e ρ) s) := by
  unfold s_setattr
  rw [h]
  show wp (if nm = nm ∧ fs.length < 900 then _ else _) QS ↔ _
  rw [if_pos ⟨rfl, h2⟩, wp_bE]
  refine wrk fun d s1 => ?_
  unfold setS
  split
  · rename_i h; simp [h]
  · rename_i h; simp [h]
/-! ### a plan is made -/
theorem I_Plan_rows {rs : List (Int × Int)} (h : Rows rs) : I_Plan [rowsD rs] = some (.ok [("rows", rowsD rs)]) := by
  have hl := h.le
  have main : wp (B_Plan_init (env0I "Plan" 4 [rowsD rs]) row0) fun o _ => outI "Plan" (some (o, row0)) = some (.ok [("rows", rowsD rs)]) := by
    unfold B_Plan_init env0I
    have h8 : ¬ (8 < rs.length) := by omega
    have h8' : ¬ (8 < (rs.length : Int)) := by omega
    simp [h8, h8', -List.map_map]
    rw [enumL_map]
    refine wp_forN (fun (q : (Int × Int) × Nat) => D.tup [.int (q.2 : Nat), cD q.1]) (fun _ ρ _ => ∃ a b, ρ = [some (.ce (.ins "Plan" [])), some (.im (rowsD rs)), a, b]) (fun k hk ρ s hJ => ?_) (fun ρ s hJ => ?_) ⟨_, _, rfl⟩
    · obtain ⟨a, b, rfl⟩ := hJ
      have hk' : k < rs.length := by simpa using hk
      have hc := h.cl _ (List.getElem_mem hk')
      have nm : rs[k] ∉ rs.take k := fun hm => by
        obtain ⟨j, hj, e⟩ := List.getElem_of_mem hm
        have hj' : j < k := by simp at hj; omega
        rw [List.getElem_take] at e
        exact List.pairwise_iff_getElem.mp h.nd j k (by omega) hk' hj' e
      simp only [List.getElem_zipIdx, Nat.zero_add]
      have e3 : slD (rowsD rs) none (some (k : Int)) = some (.tup ((rs.take k).map cD)) := by
        unfold slD
        show some (D.tup (cutD _ _ _)) = _
        rw [cutD_take (by simpa using Nat.le_of_lt hk'), List.map_take]
      simp [hc, e3]
      rw [show inD (cD rs[k]) (.tup ((rs.map cD).take k)) = some (.bl false) from by rw [← List.map_take]; exact inD_tup_f (α := Int × Int) nm]
      simp
    · obtain ⟨a, b, rfl⟩ := hJ
      rw [nk_nx, wp_setattr rfl (by decide)]
      simp [outI, ceAt, putFD]
  obtain ⟨o, s', e, q⟩ := main
  unfold I_Plan fnI
  rw [if_pos (by rfl), e]
  cases o <;> exact q
end PL
set_option Elab.async false
set_option linter.all false
set_option maxRecDepth 100000
set_option maxHeartbeats 4000000
namespace PL
open PySem PySem.Spec PyProof.Rows L2
/-! ### numbers, indexes -/
theorem F_check_number_eq (d : D) (h : notIns d = true) : F_check_number [d] = some (if isFrom d (-1000000000) 1000000000 = true then .ok .non else .er ⟨"BadNumber", []⟩) := by
  refine fnD_wp rfl ?_
  simp [B_check_number, env0, F_is_from_eq _ _ _ h]
theorem F_check_number_ok {n : Int} (h1 : -1000000000 ≤ n) (h2 : n ≤ 1000000000) : F_check_number [.int n] = some (.ok .non) := by
  rw [F_check_number_eq _ rfl]; simp [isFrom, h1, h2]
theorem F_check_index_eq (rs : List (Int × Int)) (d : D) (h : notIns d = true) : F_check_index [planD rs, d] = some (if isFrom d 0 (rs.length - 1) = true then .ok .non else .er ⟨"BadIndex", []⟩) := by
  refine fnD_wp rfl ?_
  simp [B_check_index, env0, F_is_from_eq _ _ _ h]
/-! ### the greatest common divisor, the least common multiple -/
theorem F_divisor_eq {a b : Int} (ha : 0 ≤ a) (hb : 0 ≤ b) (hb2 : b < 64) : F_divisor [.int a, .int b] = some (.ok (.int (Int.gcd a b : Nat))) := by
  refine fnD_wp rfl ?_
  unfold B_divisor env0
  simp
  refine wp_while (fun m ρ _ => ∃ a' b' : Int, ρ = [some (.im (.int a')), some (.im (.int b'))] ∧ 0 ≤ a' ∧ 0 ≤ b' ∧ b'.toNat ≤ m ∧ Int.gcd a' b' = Int.gcd a b) ?_ 64 63 _ _ (by decide) ⟨a, b, rfl, ha, hb, by omega, rfl⟩
  rintro m ρ s ⟨a', b', rfl, h1, h2, h3, h4⟩
  simp
  by_cases hp : 0 < b'
  · right
    refine ⟨hp, m - 1, by omega, ?_⟩
    have hm := Int.emod_lt_of_pos a' hp
    have hm0 := Int.emod_nonneg a' (by omega : b' ≠ 0)
    simp [hp]
    refine ⟨_, _, ⟨rfl, rfl⟩, h2, hm0, by omega, ?_⟩
    rw [← h4]
    rw [Int.emod_def, Int.gcd_sub_mul_left_right, Int.gcd_comm]
  · left
    have : b' = 0 := by omega
    subst this
    rw [Int.gcd_zero_right] at h4
    rw [← h4]
    exact ⟨by omega, by omega⟩
/-- the least common multiple of steps -/
def lcmL (ss : List Int) : Int := ss.foldl (fun a b => (Int.lcm a b : Int)) 1
theorem F_multiple_eq {ss : List Int} (h : ∀ x ∈ ss, 1 ≤ x ∧ x ≤ 12) : F_multiple [.lst (ss.map .int)] = some (.ok (.int (lcmL ss))) := by
  refine fnD_wp rfl ?_
  unfold B_multiple env0
  simp
  refine wp_forN D.int (fun k ρ _ => ∃ (f : Int) (a : Option Sl), ρ = [some (.im (.lst (ss.map .int))), some (.im (.int f)), a] ∧ 0 < f ∧ f ∣ 27720 ∧ (ss.drop k).foldl (fun a b => (Int.lcm a b : Int)) f = lcmL ss) (fun k hk ρ s hJ => ?_) (fun ρ s hJ => ?_) ⟨1, _, rfl, by decide, by decide, rfl⟩
  · obtain ⟨f, a, rfl, h1, h2, h3⟩ := hJ
    have hx := h _ (List.getElem_mem hk)
    have hf : f ≤ 27720 := Int.le_of_dvd (by decide) h2
    simp [F_divisor_eq (show 0 ≤ f by omega) (show (0 : Int) ≤ ss[k] by omega) (show ss[k] < 64 by omega)]
    have hg : 0 < (Int.gcd f ss[k] : Int) := by
      have : 0 < Int.gcd f ss[k] := Int.gcd_pos_of_ne_zero_left ss[k] (by omega)
      omega
    have hgle : (Int.gcd f ss[k] : Int) ≤ ss[k] := Int.gcd_le_right _ (by omega)
    have hq : f * ss[k] / (Int.gcd f ss[k] : Int) = (Int.lcm f ss[k] : Int) := by
      have e := Int.gcd_mul_lcm f ss[k]
      have e2 : (Int.gcd f ss[k] : Int) * (Int.lcm f ss[k] : Int) = f * ss[k] := by
        have : ((Int.gcd f ss[k] * Int.lcm f ss[k] : Nat) : Int) = ((f.natAbs * ss[k].natAbs : Nat) : Int) := by rw [e]
        rw [Int.natCast_mul, Int.natCast_mul, Int.natAbs_of_nonneg (by omega), Int.natAbs_of_nonneg (by omega)] at this
        exact this
      rw [← e2, Int.mul_ediv_cancel_left _ (by omega)]
    refine ⟨by left; omega, ⟨by left; omega, by omega⟩, ?_⟩
    rw [hq]
    refine ⟨?_, ?_, ?_⟩
    · have := Int.lcm_pos (m := f) (n := ss[k]) (by omega) (by omega)
      omega
    · refine Int.coe_lcm_dvd h2 ?_
      have := hx
      generalize ss[k] = x at hx ⊢
      have : x = 1 ∨ x = 2 ∨ x = 3 ∨ x = 4 ∨ x = 5 ∨ x = 6 ∨ x = 7 ∨ x = 8 ∨ x = 9 ∨ x = 10 ∨ x = 11 ∨ x = 12 := by omega
      rcases this with rfl | rfl | rfl | rfl | rfl | rfl | rfl | rfl | rfl | rfl | rfl | rfl <;> decide
    · rw [← h3, List.drop_eq_getElem_cons hk, List.foldl_cons]
  · obtain ⟨f, a, rfl, h1, h2, h3⟩ := hJ
    simp
    rw [List.drop_length] at h3
    exact h3
end PL
set_option Elab.async false
set_option linter.all false
set_option maxRecDepth 100000
set_option maxHeartbeats 4000000
namespace PL
open PySem PySem.Spec PyProof.Rows L2
/-! ### the period -/
theorem dvd_of_step {x : Int} (h : 1 ≤ x ∧ x ≤ 12) : x ∣ 27720 := by
  have : x = 1 ∨ x = 2 ∨ x = 3 ∨ x = 4 ∨ x = 5 ∨ x = 6 ∨ x = 7 ∨ x = 8 ∨ x = 9 ∨ x = 10 ∨ x = 11 ∨ x = 12 := by omega
  rcases this with rfl | rfl | rfl | rfl | rfl | rfl | rfl | rfl | rfl | rfl | rfl | rfl <;> decide
theorem lcmF_dvd : ∀ (ss : List Int) (f c : Int), f ∣ c → (∀ x ∈ ss, x ∣ c) → ss.foldl (fun a b => (Int.lcm a b : Int)) f ∣ c
  | [], f, c, h, _ => h
  | x :: ss, f, c, h, hx => by
    rw [List.foldl_cons]
    exact lcmF_dvd ss _ c (Int.coe_lcm_dvd h (hx x (by simp))) fun y hy => hx y (by simp [hy])
theorem dvd_lcmF : ∀ (ss : List Int) (f : Int), f ∣ ss.foldl (fun a b => (Int.lcm a b : Int)) f ∧ ∀ x ∈ ss, x ∣ ss.foldl (fun a b => (Int.lcm a b : Int)) f
  | [], f => ⟨Int.dvd_refl _, by simp⟩
  | x :: ss, f => by
    rw [List.foldl_cons]
    obtain ⟨h1, h2⟩ := dvd_lcmF ss (Int.lcm f x : Int)
    refine ⟨Int.dvd_trans (Int.dvd_lcm_left f x) h1, fun y hy => ?_⟩
    rcases List.mem_cons.mp hy with rfl | hy
    · exact Int.dvd_trans (Int.dvd_lcm_right f y) h1
    · exact h2 y hy
theorem dvd_lcmL {ss : List Int} {x : Int} (h : x ∈ ss) : x ∣ lcmL ss := (dvd_lcmF ss 1).2 x h
theorem lcmL_dvd {ss : List Int} {c : Int} (h : ∀ x ∈ ss, x ∣ c) : lcmL ss ∣ c := lcmF_dvd ss 1 c (Int.one_dvd c) h
theorem lcmF_pos : ∀ (ss : List Int) (f : Int), 0 < f → (∀ x ∈ ss, 0 < x) → 0 < ss.foldl (fun a b => (Int.lcm a b : Int)) f
  | [], f, h, _ => h
  | x :: ss, f, h, hx => by
    rw [List.foldl_cons]
    have h1 := hx x (by simp)
    have := Int.lcm_pos (m := f) (n := x) (by omega) (by omega)
    exact lcmF_pos ss _ (by omega) fun y hy => hx y (by simp [hy])
theorem lcmL_pos {ss : List Int} (h : ∀ x ∈ ss, 0 < x) : 0 < lcmL ss := lcmF_pos ss 1 (by decide) h
theorem lcmL_le {ss : List Int} (h : ∀ x ∈ ss, 1 ≤ x ∧ x ≤ 12) : lcmL ss ≤ 27720 := Int.le_of_dvd (by decide) (lcmL_dvd fun x hx => dvd_of_step (h x hx))
/-- the least number that all steps divide -/
theorem lcmL_eq {ss : List Int} {c : Int} (h0 : 0 < c) (h1 : ∀ x ∈ ss, x ∣ c) (h2 : ∀ x ∈ ss, 0 < x) (h3 : ∀ d : Int, 0 < d → (∀ x ∈ ss, x ∣ d) → c ∣ d) : lcmL ss = c := by
  have a := lcmL_dvd h1
  have b := h3 (lcmL ss) (lcmL_pos h2) fun x hx => dvd_lcmL hx
  exact Int.dvd_antisymm (by have := lcmL_pos h2; omega) (by omega) a b
abbrev stepsOf (rs : List (Int × Int)) : List Int := rs.map (·.2)
def per (rs : List (Int × Int)) : Int := lcmL (stepsOf rs)
theorem Rows.steps {rs : List (Int × Int)} (h : Rows rs) : ∀ x ∈ stepsOf rs, 1 ≤ x ∧ x ≤ 12 := fun x hx => by
  obtain ⟨p, hp, rfl⟩ := List.mem_map.mp hx
  exact (h.cl p hp).1
theorem Rows.per_pos {rs : List (Int × Int)} (h : Rows rs) : 0 < per rs := lcmL_pos fun x hx => by have := h.steps x hx; omega
theorem Rows.per_le {rs : List (Int × Int)} (h : Rows rs) : per rs ≤ 27720 := lcmL_le h.steps
theorem F_period_of_eq {rs : List (Int × Int)} (h : Rows rs) : F_period_of [planD rs] = some (.ok (.int (per rs))) := by
  refine fnD_wp rfl ?_
  unfold B_period_of env0
  simp [wp_lc, -List.map_map]
  refine lc_all cD (fun p => .int p.2) (fun p hp => ?_) ?_
  · simp
  · rw [show (rs.map fun p => D.int p.2) = (stepsOf rs).map D.int from by rw [List.map_map]; rfl, F_multiple_eq h.steps]
    simp [per]
theorem F_period_eq {rs : List (Int × Int)} (h : Rows rs) : F_period [planD rs] = some (.ok (.int (per rs))) := by
  refine fnD_wp rfl ?_
  unfold B_period env0
  simp [F_period_of_eq h]
/-! ### who has a number -/
def hasB (n : Int) (p : Int × Int) : Bool := decide (n % p.2 = p.1)
theorem F_does_hold_eq {p : Int × Int} (h : 0 < p.2) (n : Int) : F_does_hold [cD p, .int n] = some (.ok (.bl (hasB n p))) := by
  refine fnD_wp rfl ?_
  unfold B_does_hold env0
  simp [h, hasB]
def holdI (rs : List (Int × Int)) (n : Int) : List Int := (rs.zipIdx.filter fun q => hasB n q.1).map fun q => (q.2 : Int)
theorem F_holders_of_eq {rs : List (Int × Int)} (h : Rows rs) (n : Int) : F_holders_of [planD rs, .int n] = some (.ok (.tup ((holdI rs n).map .int))) := by
  refine fnD_wp rfl ?_
  unfold B_holders_of env0
  simp [wp_lc, -List.map_map]
  rw [enumL_map]
  refine lc_map (fun (q : (Int × Int) × Nat) => D.tup [.int (q.2 : Nat), cD q.1]) (fun q => hasB n q.1) (fun q => .int (q.2 : Int)) (fun q hq => ?_) ?_
  · have hm : q.1 ∈ rs := by
      have := List.fst_mem_of_mem_zipIdx hq
      simpa using this
    have hp : 0 < q.1.2 := by have := (h.cl _ hm).1; omega
    simp [F_does_hold_eq hp]
  · simp [holdI]
theorem F_holders_eq {rs : List (Int × Int)} (h : Rows rs) (d : D) (hd : notIns d = true) : F_holders [planD rs, d] = some (match d with | .int n => if -1000000000 ≤ n ∧ n ≤ 1000000000 then .ok (.lst ((holdI rs n).map .int)) else .er ⟨"BadNumber", []⟩ | _ => .er ⟨"BadNumber", []⟩) := by
  refine fnD_wp rfl ?_
  unfold B_holders env0
  simp [F_check_number_eq d hd]
  cases d with
  | ins _ _ => cases hd
  | int n =>
    by_cases hn : -1000000000 ≤ n ∧ n ≤ 1000000000
    · simp [isFrom, hn, F_holders_of_eq h]
    · have : isFrom (.int n) (-1000000000) 1000000000 = false := by
        simp only [isFrom, Bool.and_eq_false_iff, decide_eq_false_iff_not]; omega
      simp [this, hn]
  | _ => simp [isFrom]
theorem F_first_from_eq {p : Int × Int} (h : 0 < p.2) (n : Int) : F_first_from [cD p, .int n] = some (.ok (.int (n + (p.1 - n) % p.2))) := by
  refine fnD_wp rfl ?_
  unfold B_first_from env0
  simp [h]
theorem F_following_ok {rs : List (Int × Int)} (h : Rows rs) {k : Nat} (hk : k < rs.length) {n : Int} (h1 : -1000000000 ≤ n) (h2 : n ≤ 1000000000) : F_following [planD rs, .int k, .int n] = some (.ok (.int (n + (rs[k].1 - n) % rs[k].2))) := by
  have hp : 0 < rs[k].2 := by have := (h.cl _ (List.getElem_mem hk)).1; omega
  refine fnD_wp rfl ?_
  unfold B_following env0
  have e1 : isFrom (.int (k : Int)) 0 ((rs.length : Int) - 1) = true := by
    simp only [isFrom, Bool.and_eq_true, decide_eq_true_eq]; omega
  have e2 : isFrom (.int n) (-1000000000) 1000000000 = true := by simp [isFrom, h1, h2]
  have e3 : atI (rs.map cD) (k : Int) = some (cD rs[k]) := by rw [atI_nat (by simpa using hk)]; simp [hk]
  simp [F_check_index_eq rs (.int (k : Int)) rfl, F_check_number_eq (.int n) rfl, e1, e2, e3, F_first_from_eq hp]
theorem F_following_ix {rs : List (Int × Int)} {d e : D} (hd : notIns d = true) (hx : isFrom d 0 (rs.length - 1) = false) : F_following [planD rs, d, e] = some (.er ⟨"BadIndex", []⟩) := by
  refine fnD_wp rfl ?_
  unfold B_following env0
  simp [F_check_index_eq _ _ hd, hx]
theorem F_following_nr {rs : List (Int × Int)} {d e : D} (hd : notIns d = true) (he : notIns e = true) (hx : isFrom d 0 (rs.length - 1) = true) (hn : isFrom e (-1000000000) 1000000000 = false) : F_following [planD rs, d, e] = some (.er ⟨"BadNumber", []⟩) := by
  refine fnD_wp rfl ?_
  unfold B_following env0
  simp [F_check_index_eq _ _ hd, F_check_number_eq _ he, hx, hn]
end PL
set_option Elab.async false
set_option linter.all false
set_option maxRecDepth 100000
set_option maxHeartbeats 4000000
namespace PL
open PySem PySem.Spec PyProof.Rows L2
/-! ### the drawing -/
structure Good (s : Row) : Prop where
  ok : s.Ok
  ix : s.ix ≤ s.scr.length
@[simp] theorem powD_int {i j : Int} : powD (.int i) (.int j) = if 0 ≤ j ∧ j ≤ 1000000 ∧ i.natAbs < 2 ^ 64 then some (.int (i ^ j.toNat)) else none := rfl
theorem intBits_mono {a b : Int} (h0 : 0 ≤ a) (h : a ≤ b) : Builtin.Int.intBits a ≤ Builtin.Int.intBits b := by
  unfold Builtin.Int.intBits
  by_cases ha : a = 0
  · simp [ha]
  · have hb : b ≠ 0 := by omega
    simp [ha, hb]
    have : a.natAbs ≤ b.natAbs := by omega
    have h1 : a.natAbs ≠ 0 := by omega
    have h2 : b.natAbs ≠ 0 := by omega
    have := (Nat.le_log2 h2 (k := a.natAbs.log2)).mpr (Nat.le_trans ((Nat.le_log2 h1).mp (Nat.le_refl _)) this)
    omega
@[simp] theorem rowAt_1 {s : Row} : rowAt s 1 = some s.ix := rfl
@[simp] theorem rowAt_2 {s : Row} : rowAt s 2 = some s.cl := rfl
@[simp] theorem rowAt_3 {s : Row} : rowAt s 3 = some s.sd := rfl
theorem rowPut_1 {s : Row} {v : Int} (h : 0 ≤ v ∧ v ≤ 63) : rowPut s 1 v = some { s with ix := v } := by unfold rowPut; rw [if_pos rfl, if_pos h]
theorem rowPut_2 {s : Row} {v : Int} (h : 0 ≤ v ∧ Builtin.Int.intBits v ≤ 1048576) : rowPut s 2 v = some { s with cl := v } := by unfold rowPut; rw [if_neg (by decide), if_pos rfl, if_pos h]
theorem rowPut_3 {s : Row} {v : Int} (h : 0 ≤ v ∧ v ≤ 2147483647) : rowPut s 3 v = some { s with sd := v } := by unfold rowPut; rw [if_neg (by decide), if_neg (by decide), if_pos rfl, if_pos h]
def B_pick2 : SF := s_seq (s_if (t_of (e_bin gtD (e_rowI 0 2) (e_c (.int 0)))) (s_seq (s_asg (e_bin modD (e_args intD (a_cons (e_rowI 0 2) (a_nil))) (e_var 1)) (g_name 3)) (s_seq (s_rowset 0 2 (e_bin fdivD (e_rowI 0 2) (e_var 1))) (s_ret (e_var 3)))) (s_skip)) (s_ret (e_bin modD (e_bin modD (e_args intD (a_cons (e_bin mulD (e_rowI 0 3) (e_c (.int 16807))) (a_nil))) (e_c (.int 2147483629))) (e_var 1)))
theorem pick2 {many : Int} (h1 : 1 ≤ many) (h2 : many ≤ 2000000001) {s : Row} (g : Good s) {x : Option Sl} {QS : Out → Row → Prop} (hq : ∀ v s' ρ, 0 ≤ v → v < many → Good s' → QS (.rt (.int v) ρ) s') : wp (B_pick2 [some .row, some (.im (.int many)), x, none] s) QS := by
  have hs := g.ok.sd
  have hc := g.ok.cl
  have hm : 0 < many := by omega
  have lt : many < 18446744073709551616 := by omega
  unfold B_pick2
  by_cases c : 0 < s.cl
  · have d0 : 0 ≤ s.cl / many := Int.ediv_nonneg hc.1 (by omega)
    have d1 : s.cl / many ≤ s.cl := Int.ediv_le_self _ hc.1
    have d2 : Builtin.Int.intBits (s.cl / many) ≤ 1048576 := Nat.le_trans (intBits_mono d0 d1) hc.2
    have d3 := rowPut_2 (s := s) ⟨d0, d2⟩
    simp [c, hm, lt, Int.not_le.mpr c]
    exact ⟨_, d3, hq _ _ _ (Int.emod_nonneg _ (by omega)) (Int.emod_lt_of_pos _ hm) ⟨⟨g.ok.len, g.ok.bits, g.ok.ix, ⟨d0, d2⟩, g.ok.sd⟩, g.ix⟩⟩
  · simp [c, hm, Int.not_lt.mp c]
    exact hq _ _ _ (Int.emod_nonneg _ (by omega)) (Int.emod_lt_of_pos _ hm) g
theorem pick_ok {many : Int} (h1 : 1 ≤ many) (h2 : many ≤ 2000000001) {s : Row} (g : Good s) {Q : Res → Row → Prop} (hq : ∀ v s', 0 ≤ v → v < many → Good s' → Q (.ok (.int v)) s') : wp (F__law_pick [.int many] s) Q := by
  refine fnR_wp rfl ?_
  have hs := g.ok.sd
  have hc := g.ok.cl
  have hi := g.ok.ix
  have hx := g.ix
  have hl := g.ok.len
  have key : ∀ (x : Option Sl) (s' : Row), Good s' → wp (B_pick2 [some .row, some (.im (.int many)), x, none] s') (fun o s' => Q (match o with | .rt d _ => Res.ok d | .nx _ => .ok .non | .er x _ => .er x) s') := fun x s' g' => pick2 h1 h2 g' fun v s' ρ a b c => hq v s' a b c
  show wp (s_seq _ B_pick2 _ s) _
  rw [wp_seq]
  have sd3 : ∀ z : Int, 0 ≤ z % 2147483647 ∧ z % 2147483647 ≤ 2147483647 := fun z => ⟨Int.emod_nonneg _ (by decide), Int.le_of_lt (Int.emod_lt_of_pos _ (by decide))⟩
  by_cases c : s.cl = 0
  · by_cases d : s.ix < (s.scr.length : Int)
    · have hk : s.ix.toNat < s.scr.length := by omega
      have e : atI (s.scr.map D.int) s.ix = some (.int s.scr[s.ix.toNat]) := by
        have h := atI_nat (xs := s.scr.map D.int) (i := s.ix.toNat) (by simpa using hk)
        rw [Int.toNat_of_nonneg hi.1] at h
        rw [h]
        simp [hk]
      have b := g.ok.bits _ (List.getElem_mem hk)
      have p1 := rowPut_1 (s := s) (v := s.ix + 1) ⟨by omega, by omega⟩
      by_cases f : 1000000000000000000 ≤ s.scr[s.ix.toNat]
      · have p2 := rowPut_2 (s := { s with ix := s.ix + 1 }) (v := s.scr[s.ix.toNat]) ⟨by omega, b⟩
        simp [env0R, c, d, e, p1, f, Int.not_le.mpr d, Int.not_lt.mpr f]
        simp [c] at p2
        exact ⟨_, p2, key _ _ ⟨⟨g.ok.len, g.ok.bits, ⟨by show 0 ≤ s.ix + 1; omega, by show s.ix + 1 ≤ 63; omega⟩, ⟨by show (0:Int) ≤ s.scr[s.ix.toNat]; omega, b⟩, g.ok.sd⟩, by show s.ix + 1 ≤ (s.scr.length : Int); omega⟩⟩
      · have p3 := rowPut_3 (s := { s with ix := s.ix + 1 }) (sd3 (s.sd * 48271 + s.scr[s.ix.toNat] * 69621 + 11))
        simp [env0R, c, d, e, p1, f, Int.not_le.mpr d, Int.not_le.mp f]
        simp [c] at p3
        exact ⟨_, p3, key _ _ ⟨⟨g.ok.len, g.ok.bits, ⟨by show 0 ≤ s.ix + 1; omega, by show s.ix + 1 ≤ 63; omega⟩, ⟨by show (0:Int) ≤ 0; decide, by show Builtin.Int.intBits 0 ≤ 1048576; decide⟩, sd3 _⟩, by show s.ix + 1 ≤ (s.scr.length : Int); omega⟩⟩
    · have p3 := rowPut_3 (s := s) (sd3 (s.sd * 48271 + 7))
      simp [env0R, c, d, Int.not_lt.mp d]
      exact ⟨_, p3, key _ _ ⟨⟨g.ok.len, g.ok.bits, g.ok.ix, g.ok.cl, sd3 _⟩, g.ix⟩⟩
  · simp [env0R, c]
    exact key _ _ g
end PL
set_option Elab.async false
set_option linter.all false
set_option maxRecDepth 100000
set_option maxHeartbeats 4000000
namespace PL
open PySem PySem.Spec PyProof.Rows L2
theorem atI_at {xs : List D} {v : Int} {n : Nat} (h0 : 0 ≤ v) (h1 : v < n) (hl : xs.length = n) : ∃ d, atI xs v = some d ∧ d ∈ xs := by
  have hk : v.toNat < xs.length := by omega
  have h := atI_nat hk
  rw [Int.toNat_of_nonneg h0] at h
  exact ⟨xs[v.toNat], by rw [h]; simp [hk], List.getElem_mem hk⟩
/-- the rows of a plan are drawn -/
theorem rows_ok {most : Int} (h1 : 0 ≤ most) (h2 : most ≤ 8) {s : Row} (g : Good s) {Q : Res → Row → Prop} (hq : ∀ rs s', Rows rs → (rs.length : Int) ≤ most → Good s' → Q (.ok (rowsD rs)) s') : wp (F__law_rows [.int most] s) Q := by
  refine fnR_wp rfl ?_
  unfold B__law_rows env0R
  simp
  refine pick_ok (by decide) (by decide) g fun v s1 v0 v1 g1 => ?_
  have hst : ∃ st : List Int, atI [D.lst [D.int 1, D.int 2, D.int 3, D.int 4, D.int 6, D.int 12], D.lst [D.int 2, D.int 4, D.int 8, D.int 2, D.int 4, D.int 12], D.lst [D.int 2, D.int 3, D.int 5, D.int 6, D.int 10, D.int 4], D.lst [D.int 1, D.int 7, D.int 9, D.int 11, D.int 2, D.int 3]] v = some (.lst (st.map .int)) ∧ st.length = 6 ∧ ∀ x ∈ st, 1 ≤ x ∧ x ≤ 12 := by
    have : v = 0 ∨ v = 1 ∨ v = 2 ∨ v = 3 := by omega
    rcases this with rfl | rfl | rfl | rfl
    · exact ⟨[1, 2, 3, 4, 6, 12], rfl, rfl, by decide⟩
    · exact ⟨[2, 4, 8, 2, 4, 12], rfl, rfl, by decide⟩
    · exact ⟨[2, 3, 5, 6, 10, 4], rfl, rfl, by decide⟩
    · exact ⟨[1, 7, 9, 11, 2, 3], rfl, rfl, by decide⟩
  obtain ⟨st, e1, e2, e3⟩ := hst
  simp [e1]
  refine pick_ok (by omega) (by omega) g1 fun many s2 m0 m1 g2 => ?_
  obtain ⟨n, rfl⟩ : ∃ n : Nat, many = n := Int.eq_ofNat_of_zero_le m0
  simp
  refine ⟨by omega, ?_⟩
  obtain ⟨J, hJ⟩ : ∃ J : Nat → Env → Row → Prop, ∀ k ρ s, J k ρ s ↔ ∃ (rs : List (Int × Int)) (a b c : Option Sl), ρ = [some .row, some (.im (.int most)), some (.im (rowsD rs)), some (.im (.int v)), some (.im (.lst (st.map .int))), a, b, c] ∧ (∀ p ∈ rs, isCl p) ∧ rs.Nodup ∧ rs.length ≤ k ∧ Good s := ⟨_, fun _ _ _ => Iff.rfl⟩
  refine wp_forR J (fun k hk ρ s h => ?_) (fun ρ s h => ?_) ((hJ ..).mpr ⟨[], _, _, _, rfl, by simp, by simp, by simp, g2⟩)
  · obtain ⟨rs, a, b, c, rfl, c1, c2, c3, gs⟩ := (hJ ..).mp h
    simp
    refine pick_ok (by decide) (by decide) gs fun w s3 w0 w1 g3 => ?_
    obtain ⟨d, hd, hm⟩ := atI_at (xs := st.map D.int) (v := w) (n := 6) w0 w1 (by simpa using e2)
    obtain ⟨x, hx, rfl⟩ := List.mem_map.mp hm
    have hx2 := e3 x hx
    simp [hd]
    refine pick_ok (by omega) (by omega) g3 fun r s4 r0 r1 g4 => ?_
    have hc : isCl (r, x) := ⟨hx2, r0, r1⟩
    simp
    by_cases hin : (r, x) ∈ rs
    · rw [show notinD (.tup [.int r, .int x]) (.tup (rs.map cD)) = some (.bl false) from notinD_tup_t (α := Int × Int) hin]
      simp
      exact (hJ ..).mpr ⟨rs, _, _, _, rfl, c1, c2, by omega, g4⟩
    · rw [show notinD (.tup [.int r, .int x]) (.tup (rs.map cD)) = some (.bl true) from notinD_tup_f (α := Int × Int) hin]
      simp
      refine ⟨by omega, ?_⟩
      have ee : rowsD (rs ++ [(r, x)]) = .tup (rs.map cD ++ [.tup [.int r, .int x]]) := by simp
      refine (hJ ..).mpr ⟨rs ++ [(r, x)], _, _, _, by rw [ee], ?_, ?_, by simp; omega, g4⟩
      · intro p hp
        rcases List.mem_append.mp hp with hp | hp
        · exact c1 p hp
        · simp at hp; subst hp; exact hc
      · rw [List.nodup_append]
        refine ⟨c2, by simp, ?_⟩
        intro a ha b hb
        simp at hb; subst hb
        exact fun z => hin (z ▸ ha)
  · obtain ⟨rs, a, b, c, rfl, c1, c2, c3, gs⟩ := (hJ ..).mp h
    simp
    exact hq rs s ⟨c1, c2, by omega⟩ (by omega) gs
end PL
set_option Elab.async false
set_option linter.all false
set_option maxRecDepth 100000
set_option maxHeartbeats 4000000
namespace PL
open PySem PySem.Spec PyProof.Rows L2
theorem lc_range {g : GF} {tf : TF} {fe : EF} {ρw : Env} {s : Row} {QL : List D → Row → Prop} {n : Nat} (p : Nat → Bool) (v : Nat → D) (hx : ∀ i, i < n → ∃ ρ1, g (.int (i : Int)) ρw = some ρ1 ∧ wp (tf ρ1 s) fun b s1 => s1 = s ∧ b = .ok (p i) ∧ (p i = true → wp (fe ρ1 s) fun y s2 => s2 = s ∧ y = .ok (v i))) (hq : QL (((List.range n).filter p).map v) s) : wp (lcGo g tf fe ρw (rangeL 0 (n : Int)) s) QL := by
  rw [rangeL_zero]
  exact lc_map (fun (i : Nat) => D.int (i : Int)) p v (fun i hi => hx i (List.mem_range.mp hi)) hq
/-! ### indexes kept -/
def atB {β : Type} (p : β → Bool) (L : List β) (i : Nat) : Bool := (L[i]?).any p
theorem zip_range' {β : Type} (p : β → Bool) : ∀ (L : List β) (k : Nat), ((L.zipIdx k).filter fun q => p q.1).map (fun q => (q.2 : Int)) = ((List.range' k L.length).filter fun i => atB p L (i - k)).map fun (i : Nat) => (i : Int)
  | [], k => rfl
  | x :: L, k => by
    have ih := zip_range' p L (k + 1)
    have e : (List.range' (k + 1) L.length).filter (fun i => atB p (x :: L) (i - k)) = (List.range' (k + 1) L.length).filter fun i => atB p L (i - (k + 1)) := by
      refine List.filter_congr fun i hi => ?_
      have := (List.mem_range'_1.mp hi).1
      unfold atB
      rw [show i - k = (i - (k + 1)) + 1 from by omega, List.getElem?_cons_succ]
    rw [List.zipIdx_cons, List.length_cons, List.range'_succ, List.filter_cons, List.filter_cons, e]
    have e0 : atB p (x :: L) (k - k) = p x := by unfold atB; simp
    rw [e0]
    cases p x with
    | true => simp only [if_true, List.map_cons, ih]
    | false => simp only [Bool.false_eq_true, if_false, ih]
theorem zip_range {β : Type} (p : β → Bool) (L : List β) : (L.zipIdx.filter fun q => p q.1).map (fun q => (q.2 : Int)) = ((List.range L.length).filter fun i => atB p L i).map fun (i : Nat) => (i : Int) := by
  have := zip_range' p L 0
  rw [List.range_eq_range']
  simpa using this
theorem holdI_range (rs : List (Int × Int)) (n : Int) : holdI rs n = ((List.range rs.length).filter fun i => atB (hasB n) rs i).map fun (i : Nat) => (i : Int) := zip_range (hasB n) rs
theorem map_int (L : List Nat) : L.map (fun (i : Nat) => D.int (i : Int)) = (L.map fun (i : Nat) => (i : Int)).map D.int := by rw [List.map_map]; rfl
theorem neD_ints {xs ys : List Int} (h : xs = ys) : neD (.lst (xs.map .int)) (.lst (ys.map .int)) = some (.bl false) := neD_cod_t (α := List Int) h
theorem first_of {p : Nat → Bool} {N j : Nat} (h1 : j < N) (h2 : p j = true) (h3 : ∀ i, i < j → p i = false) : ∃ r, (List.range N).filter p = j :: r := by
  have e : (List.range N).find? p = some j := by
    rw [List.find?_range_eq_some]
    exact ⟨h2, List.mem_range.mpr h1, fun i hi => by rw [h3 i hi]; rfl⟩
  rw [← List.head?_filter] at e
  cases q : (List.range N).filter p with
  | nil => rw [q] at e; cases e
  | cons a r => rw [q] at e; cases e; exact ⟨r, rfl⟩
theorem atI_rows {rs : List (Int × Int)} {k : Nat} (hk : k < rs.length) : atI (rs.map cD) (k : Int) = some (cD rs[k]) := by rw [atI_nat (by simpa using hk)]; simp [hk]
theorem Good.start (sa : Addr) {ns : List Int} (h : ns.length ≤ 63) (hb : ∀ q ∈ ns, Builtin.Int.intBits q ≤ 1048576) : Good ⟨sa, ns, 0, 0, 7⟩ :=
  ⟨⟨h, hb, ⟨by show (0:Int) ≤ 0; decide, by show (0:Int) ≤ 63; decide⟩, ⟨by show (0:Int) ≤ 0; decide, by show Builtin.Int.intBits 0 ≤ 1048576; decide⟩, ⟨by show (0:Int) ≤ 7; decide, by show (7:Int) ≤ 2147483647; decide⟩⟩, by show (0:Int) ≤ ns.length; omega⟩

theorem neD_nil {rs : List (Int × Int)} : neD (rowsD rs) (.tup []) = some (.bl (!decide (rs = []))) := by
  by_cases h : rs = []
  · subst h; simp only [decide_true, Bool.not_true]; exact neD_cod_t (α := Tp (Int × Int)) (x := ⟨[]⟩) (y := ⟨[]⟩) rfl
  · simp only [h, decide_false, Bool.not_false]; exact neD_cod_f (α := Tp (Int × Int)) (x := ⟨rs⟩) (y := ⟨[]⟩) (fun z => h (congrArg Tp.items z))
theorem eqD_nil {rs : List (Int × Int)} : eqD (rowsD rs) (.tup []) = some (.bl (decide (rs = []))) := by
  by_cases h : rs = []
  · subst h; simp only [decide_true]; exact eqD_cod_t (α := Tp (Int × Int)) (x := ⟨[]⟩) (y := ⟨[]⟩) rfl
  · simp only [h, decide_false]; exact eqD_cod_f (α := Tp (Int × Int)) (x := ⟨rs⟩) (y := ⟨[]⟩) (fun z => h (congrArg Tp.items z))
end PL
set_option Elab.async false
set_option linter.all false
set_option maxRecDepth 100000
set_option maxHeartbeats 4000000
namespace PL
open PySem PySem.Spec PyProof.Rows L2
/-! ### who has the numbers of a period -/
def lotD (rs : List (Int × Int)) (n : Int) : D := .tup ((holdI rs n).map .int)
def lotsD (rs : List (Int × Int)) : D := .lst ((List.range (per rs).toNat).map fun (n : Nat) => lotD rs n)
theorem F_lots_of_eq {rs : List (Int × Int)} (h : Rows rs) : F_lots_of [planD rs] = some (.ok (lotsD rs)) := by
  have h0 := h.per_pos
  have h1 := h.per_le
  refine fnD_wp rfl ?_
  unfold B_lots_of env0
  simp [F_period_of_eq h]
  obtain ⟨n, hn⟩ := Int.eq_ofNat_of_zero_le (Int.le_of_lt h0)
  refine ⟨by omega, ?_⟩
  rw [hn]
  refine lc_range (fun _ => true) (fun i => lotD rs i) (fun i hi => ?_) ?_
  · simp [t_yes, F_holders_of_eq h, lotD]
  · rw [List.filter_eq_self.mpr (fun _ _ => rfl)]
    simp [lotsD, hn]

theorem holdI_snoc (rs : List (Int × Int)) (p : Int × Int) (n : Int) : holdI (rs ++ [p]) n = holdI rs n ++ if hasB n p = true then [(rs.length : Int)] else [] := by
  unfold holdI
  rw [List.zipIdx_append, List.filter_append, List.map_append]
  congr 1
  by_cases h : hasB n p = true
  · simp [h]
  · simp [h]
theorem take_snoc {β : Type} {L : List β} {k : Nat} (h : k < L.length) : L.take (k + 1) = L.take k ++ [L[k]] := by
  rw [List.take_succ, List.getElem?_eq_getElem h]; rfl
theorem holdI_take {rs : List (Int × Int)} {k : Nat} (h : k < rs.length) (n : Int) : holdI (rs.take (k + 1)) n = holdI (rs.take k) n ++ if hasB n rs[k] = true then [(k : Int)] else [] := by
  rw [take_snoc h, holdI_snoc]
  have : (rs.take k).length = k := by simp; omega
  rw [this]
theorem noLst_ints : ∀ xs : List Int, noLst.noLsts (xs.map .int) = true
  | [] => by simp [noLst.noLsts]
  | x :: xs => by simp [noLst.noLsts, noLst, noLst_ints xs]
theorem noLst_lotD (rs : List (Int × Int)) (n : Int) : noLst (lotD rs n) = true := by
  unfold lotD; rw [noLst]; exact noLst_ints _
theorem holdI_len (rs : List (Int × Int)) (n : Int) : (holdI rs n).length ≤ rs.length := by
  unfold holdI
  rw [List.length_map]
  exact Nat.le_trans (List.length_filter_le _ _) (by simp)
/-! ### the law's own defs -/
theorem F__law_has_eq {p : Int × Int} (h : 0 < p.2) (n : Int) : F__law_has [cD p, .int n] = some (.ok (.bl (decide ((n - p.1) % p.2 = 0)))) := by
  refine fnD_wp rfl ?_
  unfold B__law_has env0
  simp [h]
theorem has_iff {p : Int × Int} (h : isCl p) (n : Int) : decide ((n - p.1) % p.2 = 0) = hasB n p := by
  obtain ⟨⟨h1, h2⟩, h3, h4⟩ := h
  unfold hasB
  rw [decide_eq_decide, ← Int.emod_eq_emod_iff_emod_sub_eq_zero, Int.emod_eq_of_lt h3 h4]
theorem number_ok {s : Row} (g : Good s) {Q : Res → Row → Prop} (hq : ∀ n s', -1000000000 ≤ n → n ≤ 1000000000 → Good s' → Q (.ok (.int n)) s') : wp (F__law_number [] s) Q := by
  refine fnR_wp rfl ?_
  unfold B__law_number env0R
  simp
  refine pick_ok (by decide) (by decide) g fun a s1 a0 a1 g1 => ?_
  simp
  refine pick_ok (by decide) (by decide) g1 fun b s2 b0 b1 g2 => ?_
  simp
  refine pick_ok (by decide) (by decide) g2 fun c s3 c0 c1 g3 => ?_
  have : c = 0 ∨ c = 1 ∨ c = 2 := by omega
  rcases this with rfl | rfl | rfl
  · simp; exact hq _ _ (by omega) (by omega) g3
  · simp; exact hq _ _ (by omega) (by omega) g3
  · have : atI [D.int 0, D.int (a - 30), D.int (b - 1000000000)] 2 = some (.int (b - 1000000000)) := rfl
    simp [this]; exact hq _ _ (by omega) (by omega) g3
/-- the period by adding up -/
theorem F__law_period_eqC {rs : List (Int × Int)} (h : ∀ p ∈ rs, isCl p) : F__law_period [rowsD rs] = some (.ok (.int (per rs))) := by
  refine fnD_wp rfl ?_
  unfold B__law_period env0
  simp [-List.map_map]
  obtain ⟨J, hJ⟩ : ∃ J : Nat → Env → Row → Prop, ∀ k ρ s, J k ρ s ↔ ∃ (f : Int) (a b c : Option Sl), ρ = [some (.im (rowsD rs)), some (.im (.int f)), a, b, c] ∧ 0 < f ∧ f ∣ 27720 ∧ ((stepsOf rs).drop k).foldl (fun a b => (Int.lcm a b : Int)) f = per rs := ⟨_, fun _ _ _ => Iff.rfl⟩
  refine wp_forN cD J (fun k hk ρ s hh => ?_) (fun ρ s hh => ?_) ((hJ ..).mpr ⟨1, _, _, _, rfl, by decide, by decide, rfl⟩)
  · obtain ⟨f, a, b, c, rfl, h1, h2, h3⟩ := (hJ ..).mp hh
    have hp := h _ (List.getElem_mem hk)
    obtain ⟨⟨p1, p2⟩, p3, p4⟩ := hp
    generalize hx : rs[k].2 = x at p1 p2 p4
    have L1 : f ∣ (Int.lcm f x : Int) := Int.dvd_lcm_left f x
    have L2 : x ∣ (Int.lcm f x : Int) := Int.dvd_lcm_right f x
    have L0 : 0 < (Int.lcm f x : Int) := by have := Int.lcm_pos (m := f) (n := x) (by omega) (by omega); omega
    obtain ⟨m0, hm0⟩ := L1
    have hm1 : 0 < m0 := by
      rcases Int.lt_or_le 0 m0 with q | q
      · exact q
      · have : f * m0 ≤ 0 := Int.mul_nonpos_of_nonneg_of_nonpos (by omega) q
        omega
    have hmx : m0 ≤ x := by
      have : (Int.lcm f x : Int) ∣ f * x := Int.lcm_dvd_mul f x
      have h6 : f * m0 ≤ f * x := by rw [← hm0]; exact Int.le_of_dvd (Int.mul_pos h1 (by omega)) this
      exact Int.le_of_mul_le_mul_left h6 h1
    simp [hx]
    show wp (whileGo _ _ 100000 _ _) _
    obtain ⟨W, hW⟩ : ∃ W : Nat → Env → Row → Prop, ∀ m ρ s, W m ρ s ↔ ∃ j : Int, 1 ≤ j ∧ j ≤ m0 ∧ m0 - j ≤ m ∧ ρ = [some (.im (rowsD rs)), some (.im (.int f)), some (.im (.int rs[k].1)), some (.im (.int x)), some (.im (.int (f * j)))] := ⟨_, fun _ _ _ => Iff.rfl⟩
    refine wp_while W (fun m ρ s hh => ?_) 100000 11 _ _ (by decide) ((hW ..).mpr ⟨1, by omega, by omega, by omega, by rw [Int.mul_one]⟩)
    obtain ⟨j, j1, j2, j3, rfl⟩ := (hW ..).mp hh
    have hxp : 0 < x := by omega
    simp [hxp]
    by_cases hd : f * j % x = 0
    · left
      refine ⟨hd, (hJ ..).mpr ⟨f * j, _, _, _, rfl, Int.mul_pos h1 (by omega), ?_, ?_⟩⟩
      all_goals
        have e1 : (Int.lcm f x : Int) ∣ f * j := Int.coe_lcm_dvd (Int.dvd_mul_right ..) (Int.dvd_of_emod_eq_zero hd)
        have e2 : f * m0 ≤ f * j := by rw [← hm0]; exact Int.le_of_dvd (Int.mul_pos h1 (by omega)) e1
        have e3 := Int.le_of_mul_le_mul_left e2 h1
        have e4 : j = m0 := by omega
        rw [e4, ← hm0]
      · exact Int.coe_lcm_dvd h2 (dvd_of_step ⟨p1, p2⟩)
      · have hk2 : k < (stepsOf rs).length := by simpa using hk
        rw [← h3, List.drop_eq_getElem_cons hk2, List.foldl_cons]
        simp [hx]
    · right
      refine ⟨hd, m - 1, ?_, (hW ..).mpr ⟨j + 1, by omega, ?_, ?_, ?_⟩⟩
      · have : j ≠ m0 := fun z => hd (by rw [z, ← hm0]; exact Int.emod_eq_zero_of_dvd L2)
        omega
      · have : j ≠ m0 := fun z => hd (by rw [z, ← hm0]; exact Int.emod_eq_zero_of_dvd L2)
        omega
      · omega
      · rw [Int.mul_add, Int.mul_one]
  · obtain ⟨f, a, b, c, rfl, h1, h2, h3⟩ := (hJ ..).mp hh
    simp
    rw [List.drop_eq_nil_of_le (by simp)] at h3
    exact h3

theorem F__law_period_eq {rs : List (Int × Int)} (h : Rows rs) : F__law_period [rowsD rs] = some (.ok (.int (per rs))) := F__law_period_eqC h.cl
theorem repL_eq {xs : List D} {k : Int} : repL (.lst xs) (.int k) = if -(2 ^ 63) ≤ k ∧ k < 2 ^ 63 ∧ xs.length * k.toNat ≤ sizeLine then some (.lst (List.replicate k.toNat xs).flatten) else none := rfl
theorem flat_one (n : Nat) (d : D) : (List.replicate n [d]).flatten = (List.range n).map fun _ => d := by
  induction n with
  | zero => rfl
  | succ n ih => rw [List.replicate_succ, List.flatten_cons, ih, List.range_succ_eq_map, List.map_cons, List.map_map]; rfl
theorem F__law_lots_eq {rs : List (Int × Int)} (h : Rows rs) : F__law_lots [rowsD rs] = some (.ok (lotsD rs)) := by
  have h0 := h.per_pos
  have h1 := h.per_le
  have h8 := h.le
  obtain ⟨n, hn⟩ := Int.eq_ofNat_of_zero_le (Int.le_of_lt h0)
  refine fnD_wp rfl ?_
  unfold B__law_lots env0
  simp [F__law_period_eq h]
  have e1 : repL (.lst [.tup []]) (.int (per rs)) = some (.lst ((List.range n).map fun _ => .tup [])) := by
    have c1 : -(2 ^ 63) ≤ (n : Int) ∧ (n : Int) < 2 ^ 63 ∧ [D.tup []].length * (n : Int).toNat ≤ sizeLine := by
      rw [Int.toNat_natCast, sizeLine_eq, List.length_singleton]
      omega
    rw [hn]
    rw [repL_eq, if_pos c1, Int.toNat_natCast, flat_one]
  simp [e1]
  refine ⟨by omega, ?_⟩
  obtain ⟨J, hJ⟩ : ∃ J : Nat → Env → Row → Prop, ∀ k ρ s, J k ρ s ↔ ∃ a b, ρ = [some (.im (rowsD rs)), some (.ce (.lst ((List.range n).map fun (i : Nat) => lotD (rs.take k) i))), a, b] := ⟨_, fun _ _ _ => Iff.rfl⟩
  refine wp_forR J (fun k hk ρ s hh => ?_) (fun ρ s hh => ?_) ((hJ ..).mpr ⟨none, none, by simp [lotD, holdI]⟩)
  · obtain ⟨a, b, rfl⟩ := (hJ ..).mp hh
    have hc := h.cl _ (List.getElem_mem hk)
    obtain ⟨⟨m1, m2⟩, r0, r1⟩ := id hc
    simp [atI_rows hk]
    generalize hx : rs[k].2 = m at m1 m2 r1
    generalize hr : rs[k].1 = r at r0 r1
    show wp (whileGo _ _ 100000 _ _) _
    obtain ⟨W, hW⟩ : ∃ W : Nat → Env → Row → Prop, ∀ q ρ s, W q ρ s ↔ ∃ x : Int, 0 ≤ x ∧ x % m = r ∧ x ≤ n + 12 ∧ n + 12 - x ≤ q ∧ ρ = [some (.im (rowsD rs)), some (.ce (.lst ((List.range n).map fun (i : Nat) => if (i : Int) < x then lotD (rs.take (k + 1)) i else lotD (rs.take k) i))), some (.im (.int k)), some (.im (.int x))] := ⟨_, fun _ _ _ => Iff.rfl⟩
    have same : ∀ i : Int, hasB i rs[k] = false → lotD (rs.take (k + 1)) i = lotD (rs.take k) i := fun i hi => by
      unfold lotD; rw [holdI_take hk, hi]; simp
    have start : (List.range n).map (fun (i : Nat) => lotD (rs.take k) i) = (List.range n).map fun (i : Nat) => if (i : Int) < r then lotD (rs.take (k + 1)) i else lotD (rs.take k) i := by
      refine List.map_congr_left fun i _ => ?_
      split
      · rename_i hlt
        refine (same i ?_).symm
        unfold hasB
        rw [hx, hr, decide_eq_false_iff_not, Int.emod_eq_of_lt (by omega) (by omega)]
        omega
      · rfl
    refine wp_while W (fun q ρ s hh => ?_) 100000 50000 _ _ (by decide) ((hW ..).mpr ⟨r, r0, Int.emod_eq_of_lt r0 r1, by omega, by omega, by rw [start]⟩)
    obtain ⟨x, x0, xm, xn, xq, rfl⟩ := (hW ..).mp hh
    simp
    by_cases hlt : x < n
    · right
      refine ⟨hlt, q - 1, by omega, ?_⟩
      obtain ⟨y, rfl⟩ := Int.eq_ofNat_of_zero_le x0
      have hy : y < n := by omega
      rw [wp_setitem rfl]
      have e2 : atI ((List.range n).map fun (i : Nat) => if (i : Int) < (y : Int) then lotD (rs.take (k + 1)) i else lotD (rs.take k) i) (y : Int) = some (lotD (rs.take k) y) := by
        rw [atI_nat (by simpa using hy)]
        simp [hy]
      have hlen := holdI_len (rs.take k) y
      have hlen2 : (rs.take k).length ≤ 8 := by simp; omega
      have hb : hasB (y : Int) rs[k] = true := by unfold hasB; rw [hx, hr, decide_eq_true_eq]; exact xm
      have e3 : lotD (rs.take (k + 1)) y = .tup ((holdI (rs.take k) y).map .int ++ [.int (k : Int)]) := by
        unfold lotD; rw [holdI_take hk, hb]; simp
      have e4 : addD (lotD (rs.take k) y) (.tup [.int (k : Int)]) = some (lotD (rs.take (k + 1)) y) := by
        rw [e3]; unfold lotD; rw [addD_tup, if_pos (by rw [sizeLine_eq]; simp; omega)]
      have e5 : ixN n (y : Int) = some y := by unfold ixN; simp [hy]
      simp only [ceAt_succ, frz_one, frz_ce, wp_peek, wp_bin, wp_var, wp_args, wp_acons, wp_anil, imAt_one, imAt_zero, imAt_succ, some?_some, rk_ok, ek_ok, ixD_lst, e2, tupD_eq, e4, some?_if, List.length_map, List.length_range, noLst_lotD]
      simp [e5, atI_rows hk]
      have e7 : ((List.range n).map fun (i : Nat) => if i < y then lotD (rs.take (k + 1)) (i : Int) else lotD (rs.take k) (i : Int)).set y (lotD (rs.take (k + 1)) (y : Int)) = (List.range n).map fun (i : Nat) => if (i : Int) < (y : Int) + m then lotD (rs.take (k + 1)) (i : Int) else lotD (rs.take k) (i : Int) := by
        refine List.ext_getElem (by simp) fun i h1 h2 => ?_
        rw [List.getElem_set]
        have hi : i < n := by simpa using h2
        simp only [List.getElem_map, List.getElem_range]
        by_cases c1 : y = i
        · subst c1
          rw [if_pos rfl, if_pos (by omega)]
        · rw [if_neg c1]
          by_cases c2 : i < y
          · rw [if_pos c2, if_pos (by omega)]
          · rw [if_neg c2]
            by_cases c3 : (i : Int) < (y : Int) + m
            · rw [if_pos c3]
              refine (same i ?_).symm
              unfold hasB
              rw [hx, hr, decide_eq_false_iff_not]
              intro z
              have d1 := Int.emod_emod_of_dvd (i : Int) (Int.dvd_refl m)
              have d2 : ((i : Int) - y) % m = 0 := by
                rw [← Int.emod_eq_emod_iff_emod_sub_eq_zero, z, xm]
              rw [Int.emod_eq_of_lt (by omega) (by omega)] at d2
              omega
            · rw [if_neg c3]
      rw [e7]
      refine (hW ..).mpr ⟨(y : Int) + m, by omega, ?_, by omega, by omega, by rw [hx]⟩
      rw [Int.add_emod_right]; exact xm
    · left
      refine ⟨by omega, ?_⟩
      have e6 : (List.range n).map (fun (i : Nat) => if (i : Int) < x then lotD (rs.take (k + 1)) i else lotD (rs.take k) i) = (List.range n).map fun (i : Nat) => lotD (rs.take (k + 1)) i := by
        refine List.map_congr_left fun i hi => ?_
        have := List.mem_range.mp hi
        rw [if_pos (by omega)]
      rw [e6]
      exact (hJ ..).mpr ⟨_, _, rfl⟩
  · obtain ⟨a, b, rfl⟩ := (hJ ..).mp hh
    simp [lotsD, hn]
end PL
set_option Elab.async false
set_option linter.all false
set_option maxRecDepth 100000
set_option maxHeartbeats 4000000
namespace PL
open PySem PySem.Spec PyProof.Rows L2
/-! ### each number once -/
def Once (rs : List (Int × Int)) : Prop := ∀ n : Int, rs.countP (hasB n) = 1
theorem pair_sub {β : Type} {l : List β} {i j : Nat} (hij : i < j) (hj : j < l.length) : [l[i], l[j]].Sublist l := by
  have h1 : [l[i]].Sublist (l.take j) := by
    rw [List.singleton_sublist]
    have : (l.take j)[i]? = some l[i] := by rw [List.getElem?_take_of_lt hij]; exact List.getElem?_eq_getElem _
    exact List.mem_of_getElem? this
  have h2 : [l[j]].Sublist (l.drop j) := by
    rw [List.singleton_sublist, List.drop_eq_getElem_cons hj]
    exact List.mem_cons_self
  have := h1.append h2
  rwa [List.take_append_drop] at this
theorem has_self {p : Int × Int} (h : isCl p) : hasB p.1 p = true := by
  unfold hasB
  rw [decide_eq_true_eq]
  exact Int.emod_eq_of_lt h.2.1 h.2.2
theorem Once.nodup {rs : List (Int × Int)} (h : Once rs) (hc : ∀ p ∈ rs, isCl p) : rs.Nodup := by
  refine List.pairwise_iff_getElem.mpr fun i j hi hj hij e => ?_
  have h1 := (pair_sub hij hj).countP_le (p := hasB rs[i].1)
  rw [h] at h1
  have h2 := has_self (hc _ (List.getElem_mem hi))
  rw [← e] at h1
  simp [List.countP_cons, h2] at h1
abbrev partsOf (p : Int × Int) (by_ : Nat) : List (Int × Int) := (List.range by_).map fun (j : Nat) => (p.1 + p.2 * j, p.2 * by_)
theorem count_one : ∀ {b j0 : Nat}, j0 < b → (List.range b).countP (fun j => decide (j = j0)) = 1
  | b + 1, j0, h => by
    rw [List.range_succ, List.countP_append]
    by_cases q : j0 = b
    · subst q
      have : (List.range j0).countP (fun j => decide (j = j0)) = 0 := by
        rw [List.countP_eq_zero]
        intro j hj
        have := List.mem_range.mp hj
        simp; omega
      rw [this]; simp
    · rw [count_one (show j0 < b by omega)]
      have : ¬ (b = j0) := fun z => q z.symm
      simp [this]
theorem parts_count {p : Int × Int} (h : isCl p) {b : Nat} (hb : 0 < b) (n : Int) : (partsOf p b).countP (hasB n) = if hasB n p = true then 1 else 0 := by
  obtain ⟨r, m⟩ := p
  obtain ⟨⟨m1, m2⟩, r0, r1⟩ := h
  simp only at m1 m2 r0 r1
  have hm : 0 < m := by omega
  have hb' : (0 : Int) < b := by omega
  have hmb : 0 < m * b := Int.mul_pos hm hb'
  unfold partsOf
  rw [List.countP_map]
  -- the one j that has it
  have key : ∀ j : Nat, j < b → (hasB n (r + m * j, m * b) = true ↔ hasB n (r, m) = true ∧ (n / m) % b = j) := fun j hj => by
    unfold hasB
    simp only [decide_eq_true_eq]
    have d1 : n = m * (n / m) + n % m := (Int.mul_ediv_add_emod n m).symm
    have d2 : n / m = b * (n / m / b) + (n / m) % b := (Int.mul_ediv_add_emod (n / m) b).symm
    have a0 := Int.emod_nonneg n (show m ≠ 0 by omega)
    have a1 := Int.emod_lt_of_pos n hm
    have b0 := Int.emod_nonneg (n / m) (show (b : Int) ≠ 0 by omega)
    have b1 := Int.emod_lt_of_pos (n / m) hb'
    have e : n % (m * b) = m * ((n / m) % b) + n % m := by
      have lt : m * ((n / m) % b) + n % m < m * b := by
        have : m * ((n / m) % b) ≤ m * (b - 1) := Int.mul_le_mul_of_nonneg_left (by omega) (by omega)
        rw [Int.mul_sub, Int.mul_one] at this
        omega
      have nn : 0 ≤ m * ((n / m) % b) + n % m := by
        have : 0 ≤ m * ((n / m) % b) := Int.mul_nonneg (by omega) b0
        omega
      have q : n = m * b * (n / m / b) + (m * ((n / m) % b) + n % m) := by
        calc n = m * (n / m) + n % m := d1
          _ = m * (b * (n / m / b) + (n / m) % b) + n % m := by rw [← d2]
          _ = m * b * (n / m / b) + (m * ((n / m) % b) + n % m) := by rw [Int.mul_add, ← Int.mul_assoc, Int.add_assoc]
      conv => lhs; rw [q]
      rw [Int.mul_add_emod_self_left, Int.emod_eq_of_lt nn lt]
    rw [e]
    constructor
    · intro z
      have z1 : (n % m - r) = m * (j - (n / m) % b) := by rw [Int.mul_sub]; omega
      have z2 : (j : Int) - (n / m) % b = 0 := by
        rcases Int.lt_trichotomy ((j : Int) - (n / m) % b) 0 with q | q | q
        · have : m * ((j : Int) - (n / m) % b) ≤ m * (-1) := Int.mul_le_mul_of_nonneg_left (by omega) (by omega)
          omega
        · exact q
        · have : m * 1 ≤ m * ((j : Int) - (n / m) % b) := Int.mul_le_mul_of_nonneg_left (by omega) (by omega)
          omega
      rw [z2] at z1
      omega
    · rintro ⟨z1, z2⟩
      rw [z2, z1]; omega
  by_cases hp : hasB n (r, m) = true
  · rw [if_pos hp]
    have b0 := Int.emod_nonneg (n / m) (show (b : Int) ≠ 0 by omega)
    have b1 := Int.emod_lt_of_pos (n / m) hb'
    obtain ⟨j0, hj0⟩ := Int.eq_ofNat_of_zero_le b0
    have : (List.range b).countP ((hasB n) ∘ fun (j : Nat) => (r + m * j, m * b)) = (List.range b).countP (fun j => decide (j = j0)) := by
      refine List.countP_congr fun j hj => ?_
      have := key j (List.mem_range.mp hj)
      simp only [Function.comp]
      rw [this, decide_eq_true_eq]
      constructor
      · rintro ⟨_, z⟩; omega
      · rintro rfl; exact ⟨hp, by omega⟩
    rw [this]
    exact count_one (by omega)
  · rw [if_neg hp, List.countP_eq_zero]
    intro j hj
    simp only [Function.comp]
    intro z
    exact hp ((key j (List.mem_range.mp hj)).mp z).1

theorem cutD_drop {xs : List D} {k : Nat} (h : k ≤ xs.length) : cutD xs (some (k : Int)) none = xs.drop k := by
  unfold cutD
  rw [HT.sIx_none, HT.sIx_nat, Nat.min_eq_left h]
  exact List.take_of_length_le (by simp)
theorem slD_take {xs : List D} {k : Nat} (h : k ≤ xs.length) : slD (.lst xs) none (some (k : Int)) = some (.lst (xs.take k)) := by
  show some (D.lst (cutD _ _ _)) = _; rw [cutD_take h]
theorem slD_drop {xs : List D} {k : Nat} (h : k ≤ xs.length) : slD (.lst xs) (some (k : Int)) none = some (.lst (xs.drop k)) := by
  show some (D.lst (cutD _ _ _)) = _; rw [cutD_drop h]
theorem slD_takeT {xs : List D} {k : Nat} (h : k ≤ xs.length) : slD (.tup xs) none (some (k : Int)) = some (.tup (xs.take k)) := by
  show some (D.tup (cutD _ _ _)) = _; rw [cutD_take h]
theorem slD_dropT {xs : List D} {k : Nat} (h : k ≤ xs.length) : slD (.tup xs) (some (k : Int)) none = some (.tup (xs.drop k)) := by
  show some (D.tup (cutD _ _ _)) = _; rw [cutD_drop h]
/-- a class is split -/
theorem Once.split {rs : List (Int × Int)} (h : Once rs) (hc : ∀ p ∈ rs, isCl p) {k : Nat} (hk : k < rs.length) {b : Nat} (hb : 0 < b) (hm : rs[k].2 * b ≤ 12) :
    Once (rs.take k ++ partsOf rs[k] b ++ rs.drop (k + 1)) ∧ ∀ p ∈ rs.take k ++ partsOf rs[k] b ++ rs.drop (k + 1), isCl p := by
  have hck := hc _ (List.getElem_mem hk)
  constructor
  · intro n
    have := h n
    rw [← List.take_append_drop k rs, List.drop_eq_getElem_cons hk, List.countP_append, List.countP_cons] at this
    rw [List.countP_append, List.countP_append, parts_count hck hb]
    omega
  · intro p hp
    simp only [List.mem_append] at hp
    rcases hp with (hp | hp) | hp
    · exact hc p (List.mem_of_mem_take hp)
    · obtain ⟨j, hj, rfl⟩ := List.mem_map.mp hp
      have hj' := List.mem_range.mp hj
      obtain ⟨⟨m1, m2⟩, r0, r1⟩ := hck
      have hbp : (1 : Int) ≤ b := by omega
      have u1 : rs[k].2 * 1 ≤ rs[k].2 * b := Int.mul_le_mul_of_nonneg_left hbp (by omega)
      have u2 : rs[k].2 * (j : Int) ≤ rs[k].2 * (b - 1) := Int.mul_le_mul_of_nonneg_left (by omega) (by omega)
      have u3 : 0 ≤ rs[k].2 * (j : Int) := Int.mul_nonneg (by omega) (by omega)
      rw [Int.mul_sub, Int.mul_one] at u2
      exact ⟨⟨by simp only; omega, hm⟩, by simp only; omega, by simp only; omega⟩
    · exact hc p (List.mem_of_mem_drop hp)
theorem Once.pos {rs : List (Int × Int)} (h : Once rs) : 0 < rs.length := by
  have := h 0
  rcases rs with _ | ⟨a, r⟩
  · simp at this
  · simp
/-- such a plan is drawn -/
theorem once_ok {s : Row} (g : Good s) {Q : Res → Row → Prop} (hq : ∀ rs s', Rows rs → Once rs → Good s' → Q (.ok (rowsD rs)) s') : wp (F__law_once [] s) Q := by
  refine fnR_wp rfl ?_
  unfold B__law_once env0R
  simp
  refine pick_ok (by decide) (by decide) g fun v s1 v0 v1 g1 => ?_
  obtain ⟨n, rfl⟩ : ∃ n : Nat, v = n := Int.eq_ofNat_of_zero_le v0
  simp
  refine ⟨by omega, ?_⟩
  obtain ⟨J, hJ⟩ : ∃ J : Nat → Env → Row → Prop, ∀ k ρ s, J k ρ s ↔ ∃ (rs : List (Int × Int)) (a b c d e f : Option Sl), ρ = [some .row, some (.im (.lst (rs.map cD))), a, b, c, d, e, f] ∧ (∀ p ∈ rs, isCl p) ∧ Once rs ∧ rs.length ≤ 8 ∧ Good s := ⟨_, fun _ _ _ => Iff.rfl⟩
  refine wp_forR J (fun k hk ρ s h => ?_) (fun ρ s h => ?_) ((hJ ..).mpr ⟨[(0, 1)], _, _, _, _, _, _, rfl, by decide, fun n => by simp [hasB, List.countP_cons, Int.emod_one], by decide, g1⟩)
  · obtain ⟨rs, a, b, c, d, e, f, rfl, c1, c2, c3, gs⟩ := (hJ ..).mp h
    have hp := c2.pos
    simp
    refine pick_ok (by omega) (by omega) gs fun at_ s2 a0 a1 g2 => ?_
    obtain ⟨i, rfl⟩ : ∃ n : Nat, at_ = n := Int.eq_ofNat_of_zero_le a0
    have hi : i < rs.length := by omega
    simp
    refine pick_ok (by decide) (by decide) g2 fun w s3 w0 w1 g3 => ?_
    obtain ⟨w, rfl⟩ : ∃ n : Nat, w = n := Int.eq_ofNat_of_zero_le w0
    simp [atI_rows hi]
    have hci := c1 _ (List.getElem_mem hi)
    obtain ⟨⟨m1, m2⟩, r0, r1⟩ := id hci
    refine ⟨by left; omega, ?_⟩
    by_cases q1 : rs[i].2 * (2 + (w : Int)) ≤ 12
    · right
      refine ⟨q1, ?_⟩
      by_cases q2 : (rs.length : Int) + (2 + w) ≤ 9
      · right
        refine ⟨q2, ?_⟩
        rw [slD_take (by simp; omega), some?_some]
        refine ⟨⟨by omega, by omega⟩, ?_⟩
        have eb : (2 + (w : Int)) = ((2 + w : Nat) : Int) := by omega
        have q1' : rs[i].2 * ((2 + w : Nat) : Int) ≤ 12 := by rw [← eb]; exact q1
        obtain ⟨s1', s2'⟩ := c2.split c1 hi (b := 2 + w) (by omega) q1'
        rw [eb]
        refine lc_range (fun _ => true) (fun j => cD (rs[i].1 + rs[i].2 * j, rs[i].2 * ((2 + w : Nat) : Int))) (fun j hj => ?_) ?_
        · simp [t_yes]
          first | (left; omega) | exact ⟨by left; omega, by left; omega⟩
        · rw [List.filter_eq_self.mpr (fun _ _ => rfl)]
          have e1 : (List.range (2 + w)).map (fun (j : Nat) => cD (rs[i].1 + rs[i].2 * j, rs[i].2 * ((2 + w : Nat) : Int))) = (partsOf rs[i] (2 + w)).map cD := by unfold partsOf; rw [List.map_map]; rfl
          have e2 : slD (.lst (rs.map cD)) (some ((i : Int) + 1)) none = some (.lst ((rs.map cD).drop (i + 1))) := by
            have : (i : Int) + 1 = ((i + 1 : Nat) : Int) := by omega
            rw [this, slD_drop (by simp; omega)]
          rw [e1, e2]
          have l1 : (partsOf rs[i] (2 + w)).length = 2 + w := by unfold partsOf; simp
          simp only [addD_lst, some?_if, some?_some, List.length_map, List.length_take, List.length_drop, List.length_append, l1, sizeLine_val]
          refine ⟨by omega, by omega, ?_⟩
          have e3 : (rs.map cD).take i ++ (partsOf rs[i] (2 + w)).map cD ++ (rs.map cD).drop (i + 1) = (rs.take i ++ partsOf rs[i] (2 + w) ++ rs.drop (i + 1)).map cD := by simp only [List.map_append, List.map_take, List.map_drop]
          rw [e3]
          exact (hJ ..).mpr ⟨_, _, _, _, _, _, _, rfl, s2', s1', by simp only [List.length_append, List.length_take, List.length_drop, l1]; omega, g3⟩
      · left
        exact ⟨by omega, (hJ ..).mpr ⟨_, _, _, _, _, _, _, rfl, c1, c2, c3, g3⟩⟩
    · left
      exact ⟨by omega, (hJ ..).mpr ⟨_, _, _, _, _, _, _, rfl, c1, c2, c3, g3⟩⟩
  · obtain ⟨rs, a, b, c, d, e, f, rfl, c1, c2, c3, gs⟩ := (hJ ..).mp h
    simp
    exact hq rs s ⟨c1, c2.nodup c1, c3⟩ c2 gs
end PL
set_option Elab.async false
set_option linter.all false
set_option maxRecDepth 100000
set_option maxHeartbeats 4000000
namespace PL
open PySem PySem.Spec PyProof.Rows L2
/-! ### classes of cells -/
structure Lot where
  a : Int
  b : Int
  r : Int
  m : Int
abbrev Lot.d (q : Lot) : D := .tup [.int q.a, .int q.b, .int q.r, .int q.m]
structure Lot.Ok (q : Lot) : Prop where
  m1 : 1 ≤ q.m
  m2 : q.m ≤ 6
  a0 : 0 ≤ q.a
  a1 : q.a < q.m
  b0 : 0 ≤ q.b
  b1 : q.b < q.m
  r0 : 0 ≤ q.r
  r1 : q.r < q.m
def isLot : D → Bool
  | .tup [a, b, c, e] => isFrom e 1 6 && (match e with | .int m => isFrom a 0 (m - 1) && (isFrom b 0 (m - 1) && isFrom c 0 (m - 1)) | _ => false)
  | _ => false
@[simp] theorem atI_three {a b c e : D} {xs : List D} : atI (a :: b :: c :: e :: xs) 3 = some e := by
  have : (3 : Int) < (xs.length : Int) + 1 + 1 + 1 + 1 := by omega
  simp [atI, ixN, this]
theorem allD_bls : ∀ bs : List Bool, blsOf (bs.map .bl) = some bs
  | [] => rfl
  | b :: bs => by simp [blsOf, allD_bls bs]
theorem F_is_lot_tup4 (a b c e : D) (ha : notIns a = true) (hb : notIns b = true) (hc : notIns c = true) (he : notIns e = true) : F_is_lot [.tup [a, b, c, e]] = some (.ok (.bl (isLot (.tup [a, b, c, e])))) := by
  refine fnD_wp rfl ?_
  unfold B_is_lot env0
  have sl : slD (.tup [a, b, c, e]) none (some 3) = some (.tup [a, b, c]) := by
    rw [show (3 : Int) = ((3 : Nat) : Int) from rfl, slD_takeT (by simp)]; rfl
  simp [F_is_from_eq e 1 6 he]
  cases e with
  | int m =>
    cases hm : isFrom (.int m) 1 6 with
    | false => simp [hm, isLot]
    | true =>
      simp [hm, sl]
      have e3 : [a, b, c] = [a, b, c].map id := by simp
      rw [e3]
      refine lc_all id (fun d => .bl (isFrom d 0 (m - 1))) (fun d hd => ?_) ?_
      · have hn : notIns d = true := by
          simp at hd
          rcases hd with rfl | rfl | rfl <;> assumption
        simp [F_is_from_eq d 0 (m - 1) hn]
      · rw [show [a, b, c].map (fun d => D.bl (isFrom d 0 (m - 1))) = ([isFrom a 0 (m - 1), isFrom b 0 (m - 1), isFrom c 0 (m - 1)]).map .bl from rfl]
        simp only [allD, allD_bls]
        simp [isLot, hm]
  | ins _ _ => cases he
  | _ => simp [isFrom, isLot]

theorem F_is_lot_eq (d : D) (h : notIns d = true) (h2 : ∀ xs, d = .tup xs → xs.all notIns = true) : F_is_lot [d] = some (.ok (.bl (isLot d))) := by
  cases d with
  | ins _ _ => cases h
  | dcn _ => cases h
  | dcb _ => cases h
  | tup xs =>
    have h3 := h2 xs rfl
    match xs, h3 with
    | [a, b, c, e], h3 =>
      simp only [List.all_cons, List.all_nil, Bool.and_true, Bool.and_eq_true] at h3
      exact F_is_lot_tup4 a b c e h3.1 h3.2.1 h3.2.2.1 h3.2.2.2
    | [], _ => refine fnD_wp rfl ?_; simp [B_is_lot, env0, isLot]
    | [a], _ => refine fnD_wp rfl ?_; simp [B_is_lot, env0, isLot]
    | [a, b], _ => refine fnD_wp rfl ?_; simp [B_is_lot, env0, isLot]
    | [a, b, c], _ => refine fnD_wp rfl ?_; simp [B_is_lot, env0, isLot]
    | a :: b :: c :: e :: f :: r, _ =>
      refine fnD_wp rfl ?_
      have : ¬((r.length : Int) + 1 + 1 + 1 + 1 + 1 = 4) := by omega
      simp [B_is_lot, env0, isLot, this]
  | _ => refine fnD_wp rfl ?_; simp [B_is_lot, env0, isLot]
theorem isLot_d {q : Lot} (h : q.Ok) : isLot q.d = true := by
  obtain ⟨a, b, r, m⟩ := q
  obtain ⟨h1, h2, h3, h4, h5, h6, h7, h8⟩ := h
  simp only at h1 h2 h3 h4 h5 h6 h7 h8
  simp [isLot, isFrom, h1, h2, h3, h5, h7]
  omega
theorem F_does_have_eq {q : Lot} (h : 0 < q.m) {x y : Int} (hx : 0 ≤ x ∧ x < 1000000) (hy : 0 ≤ y ∧ y < 1000000) : F_does_have [q.d, .int x, .int y] = some (.ok (.bl (decide ((q.a * x + q.b * y) % q.m = q.r)))) := by
  refine fnD_wp rfl ?_
  unfold B_does_have env0
  simp [h]
  exact ⟨by right; omega, by right; omega⟩
/-- a list or a tuple of such classes -/
inductive LT (qs : List Lot) : D → Prop
  | l : LT qs (.lst (qs.map Lot.d))
  | t : LT qs (.tup (qs.map Lot.d))
@[simp] theorem isB2_lst {xs : List D} : isB2 "list" "tuple" (.lst xs) = some (.bl true) := by simp [isB2, tyD, kit_list_lst, kit_tuple_lst]
@[simp] theorem isB2_tup {xs : List D} : isB2 "list" "tuple" (.tup xs) = some (.bl true) := by simp [isB2, tyD, kit_list_tup, kit_tuple_tup]
theorem check_lots_ok {qs : List Lot} (h : ∀ q ∈ qs, q.Ok) (hl : qs.length ≤ 6) {d : D} (hd : LT qs d) : F_check_lots [d] = some (.ok .non) := by
  have key : ∀ (Z : Out → Prop), (∀ ρ, Z (.nx ρ)) → wp (B_check_lots (env0 3 [d]) row0) fun o _ => Z o := by
    intro Z hZ
    have hl' : (qs.length : Int) ≤ 6 := by omega
    have loop : ∀ (s : Row) (ρ0 : Option Sl), wp (forGo (g_tup (gs_cons (g_name 1) (gs_cons (g_name 2) gs_nil))) (s_if (t_not (t_of (e_call F_is_lot (a_cons (e_var 2) a_nil)))) (s_raise1 "BadLots" "index" (e_var 1)) s_skip) (enumL (qs.map Lot.d)) [ρ0, none, none] s) fun o _ => Z o := by
      intro s ρ0
      rw [enumL_map]
      obtain ⟨J, hJ⟩ : ∃ J : Nat → Env → Row → Prop, ∀ k ρ s, J k ρ s ↔ ∃ a b, ρ = [ρ0, a, b] := ⟨_, fun _ _ _ => Iff.rfl⟩
      refine wp_forN (fun (q : Lot × Nat) => D.tup [.int (q.2 : Nat), q.1.d]) J (fun k hk ρ s hh => ?_) (fun ρ s hh => hZ ρ) ((hJ ..).mpr ⟨_, _, rfl⟩)
      obtain ⟨a, b, rfl⟩ := (hJ ..).mp hh
      have hk' : k < qs.length := by simpa using hk
      have ok := h _ (List.getElem_mem hk')
      have e := F_is_lot_eq qs[k].d rfl (fun xs hx => by cases hx; rfl)
      rw [isLot_d ok] at e
      simp only [List.getElem_zipIdx, Nat.zero_add]
      simp [e]
      exact (hJ ..).mpr ⟨_, _, rfl⟩
    unfold B_check_lots env0
    cases hd with
    | l => simp [hl', Int.not_lt.mpr hl']; exact loop _ _
    | t => simp [hl', Int.not_lt.mpr hl']; exact loop _ _
  obtain ⟨o, s', e, hz⟩ := key (fun o => ∃ ρ, o = .nx ρ) (fun ρ => ⟨ρ, rfl⟩)
  obtain ⟨ρ, rfl⟩ := hz
  unfold F_check_lots fnD
  rw [if_pos (by rfl), e]; rfl

def sideOf (qs : List Lot) : Int := lcmL (qs.map (·.m))
def openB (qs : List Lot) (p : Int × Int) : Bool := qs.all fun q => !decide ((q.a * p.1 + q.b * p.2) % q.m = q.r)
def allCells (n : Nat) : List (Int × Int) := (List.range n).flatMap fun (x : Nat) => (List.range n).map fun (y : Nat) => ((x : Int), (y : Int))
def openL (qs : List Lot) : List (Int × Int) := (allCells (sideOf qs).toNat).filter (openB qs)
theorem side_le {qs : List Lot} (h : ∀ q ∈ qs, q.Ok) : 0 < sideOf qs ∧ sideOf qs ≤ 60 := by
  have hs : ∀ x ∈ qs.map (·.m), 1 ≤ x ∧ x ≤ 6 := fun x hx => by
    obtain ⟨q, hq, rfl⟩ := List.mem_map.mp hx
    exact ⟨(h q hq).m1, (h q hq).m2⟩
  have hp := lcmL_pos (ss := qs.map (·.m)) fun x hx => by have := hs x hx; omega
  refine ⟨hp, Int.le_of_dvd (by decide) (lcmL_dvd fun x hx => ?_)⟩
  have := hs x hx
  have : x = 1 ∨ x = 2 ∨ x = 3 ∨ x = 4 ∨ x = 5 ∨ x = 6 := by omega
  rcases this with rfl | rfl | rfl | rfl | rfl | rfl <;> decide

theorem mem_allCells {n : Nat} {p : Int × Int} (h : p ∈ allCells n) : (0 ≤ p.1 ∧ p.1 < n) ∧ 0 ≤ p.2 ∧ p.2 < n := by
  unfold allCells at h
  obtain ⟨x, hx, h⟩ := List.mem_flatMap.mp h
  obtain ⟨y, hy, rfl⟩ := List.mem_map.mp h
  have := List.mem_range.mp hx
  have := List.mem_range.mp hy
  simp only; omega
theorem allCells_len (n : Nat) : (allCells n).length = n * n := by
  unfold allCells
  rw [List.length_flatMap]
  simp only [List.length_map, List.length_range, List.map_const', List.sum_replicate_nat]
theorem anyD_bls {bs : List Bool} : anyD [.lst (bs.map .bl)] = some (.bl (bs.any id)) := by simp [anyD, allD_bls]
theorem F_open_cells_eq {qs : List Lot} (h : ∀ q ∈ qs, q.Ok) (hl : qs.length ≤ 6) {d : D} (hd : LT qs d) : F_open_cells [d] = some (.ok (.tup [.int (sideOf qs), .lst ((openL qs).map cD)])) := by
  obtain ⟨s0, s1⟩ := side_le h
  obtain ⟨n, hn⟩ := Int.eq_ofNat_of_zero_le (Int.le_of_lt s0)
  have hm : ∀ x ∈ qs.map (·.m), 1 ≤ x ∧ x ≤ 12 := fun x hx => by
    obtain ⟨q, hq, rfl⟩ := List.mem_map.mp hx
    have := (h q hq).m1; have := (h q hq).m2; omega
  have em : F_multiple [.lst ((qs.map (·.m)).map .int)] = some (.ok (.int (sideOf qs))) := F_multiple_eq hm
  refine fnD_wp rfl ?_
  unfold B_open_cells env0
  have hseq : ∃ xs, (d = .lst xs ∨ d = .tup xs) ∧ xs = qs.map Lot.d := by
    cases hd with
    | l => exact ⟨_, .inl rfl, rfl⟩
    | t => exact ⟨_, .inr rfl, rfl⟩
  obtain ⟨xs, hxs, rfl⟩ := hseq
  simp [check_lots_ok h hl hd, -List.map_map]
  refine ⟨_, hxs, ?_⟩
  refine lc_all Lot.d (fun q => .int q.m) (fun q hq => ?_) ?_
  · simp
  · rw [show qs.map (fun q => D.int q.m) = (qs.map (·.m)).map .int by rw [List.map_map]; rfl, em]
    simp [-List.map_map]
    refine ⟨⟨by omega, by omega⟩, ?_⟩
    rw [hn, rangeL_zero]
    refine lc2_map (fun (x : Nat) => D.int (x : Int)) (fun (x : Nat) => (List.range n).map fun (y : Nat) => cD ((x : Int), (y : Int))) (fun x hx => ?_) ?_
    · have hx' := List.mem_range.mp hx
      refine ⟨_, rangeL 0 n, rfl, rfl, ?_, ?_⟩
      · exact eq_of_wp (by simp; omega)
      · refine eq_of_wp ?_
        refine lc_range (fun _ => true) (fun y => cD ((x : Int), (y : Int))) (fun y hy => ?_) ?_
        · simp [t_yes]
        · rw [List.filter_eq_self.mpr (fun _ _ => rfl)]; exact ⟨rfl, rfl⟩
    · have ec : (List.range n).flatMap (fun (x : Nat) => (List.range n).map fun (y : Nat) => cD ((x : Int), (y : Int))) = (allCells n).map cD := by
        unfold allCells; rw [List.map_flatMap]; simp only [List.map_map]; rfl
      rw [ec]
      refine ⟨by rw [List.length_map, allCells_len]; have : n ≤ 60 := by omega
                 exact Nat.le_trans (Nat.mul_le_mul this this) (by decide), ?_⟩
      refine lc_map cD (openB qs) cD (fun p hp => ?_) ?_
      · obtain ⟨⟨p0, p1⟩, p2, p3⟩ := mem_allCells hp
        simp [-List.map_map]
        refine ⟨_, hxs, ?_⟩
        refine lc_all Lot.d (fun q => .bl (decide ((q.a * p.1 + q.b * p.2) % q.m = q.r))) (fun q hq => ?_) ?_
        · have := (h q hq).m1
          simp [F_does_have_eq (q := q) (by omega) (x := p.1) (y := p.2) (by omega) (by omega)]
        · rw [show qs.map (fun q => D.bl (decide ((q.a * p.1 + q.b * p.2) % q.m = q.r))) = (qs.map fun q => decide ((q.a * p.1 + q.b * p.2) % q.m = q.r)).map .bl by rw [List.map_map]; rfl, anyD_bls]
          simp [openB]
          rcases Classical.em (∃ x, x ∈ qs ∧ (x.a * p.fst + x.b * p.snd) % x.m = x.r) with c | c
          · exact .inr c
          · exact .inl fun x hx e => c ⟨x, hx, e⟩
      · unfold openL
        rw [hn, Int.toNat_natCast]

theorem F_covers_cells_eq {qs : List Lot} (h : ∀ q ∈ qs, q.Ok) (hl : qs.length ≤ 6) {d : D} (hd : LT qs d) : F_covers_cells [d] = some (.ok (.bl (decide (openL qs = [])))) := by
  refine fnD_wp rfl ?_
  unfold B_covers_cells env0
  have e : eqD (.lst ((openL qs).map cD)) (.lst []) = some (.bl (decide (openL qs = []))) := by
    by_cases c : openL qs = []
    · rw [c]; simp only [decide_true]; exact eqD_cod_t (α := List (Int × Int)) (x := []) (y := []) rfl
    · simp only [c, decide_false]; exact eqD_cod_f (α := List (Int × Int)) (x := openL qs) (y := []) c
  simp [F_open_cells_eq h hl hd, e]

/-- the first k are such classes, the next one is none -/
theorem check_lots_bad {xs : List D} (hl : xs.length ≤ 6) {k : Nat} (hk : k < xs.length) (hi : ∀ x ∈ xs, notIns x = true ∧ ∀ ys, x = .tup ys → ys.all notIns = true) (h1 : ∀ j (hj : j < k), isLot (xs[j]'(by omega)) = true) (h2 : isLot xs[k] = false) : F_check_lots [.lst xs] = some (.er ⟨"BadLots", [("index", .int k)]⟩) := by
  refine fnD_wp rfl ?_
  unfold B_check_lots env0
  have hl' : (xs.length : Int) ≤ 6 := by omega
  simp [hl', Int.not_lt.mpr hl']
  have em : enumL xs = xs.zipIdx.map fun (q : D × Nat) => D.tup [.int (q.2 : Nat), q.1] := rfl
  rw [em]
  obtain ⟨J, hJ⟩ : ∃ J : Nat → Env → Row → Prop, ∀ j ρ s, J j ρ s ↔ ∃ a b, ρ = [some (.im (.lst xs)), a, b] ∧ j ≤ k := ⟨_, fun _ _ _ => Iff.rfl⟩
  refine wp_forN (fun (q : D × Nat) => D.tup [.int (q.2 : Nat), q.1]) J (fun j hj ρ s hh => ?_) (fun ρ s hh => ?_) ((hJ ..).mpr ⟨_, _, rfl, Nat.zero_le _⟩)
  · obtain ⟨a, b, rfl, hjk⟩ := (hJ ..).mp hh
    have hj' : j < xs.length := by simpa using hj
    obtain ⟨i1, i2⟩ := hi _ (List.getElem_mem hj')
    have e := F_is_lot_eq xs[j] i1 i2
    simp only [List.getElem_zipIdx, Nat.zero_add]
    rcases Nat.lt_or_ge j k with q | q
    · rw [h1 j q] at e
      simp [e]
      exact (hJ ..).mpr ⟨_, _, rfl, q⟩
    · have : j = k := by omega
      subst this
      rw [h2] at e
      simp [e]
  · obtain ⟨a, b, rfl, hjk⟩ := (hJ ..).mp hh
    simp at hjk
    omega
end PL
set_option Elab.async false
set_option linter.all false
set_option maxRecDepth 100000
set_option maxHeartbeats 4000000
namespace PL
open PySem PySem.Spec PyProof.Rows L2
/-! ### small words -/
theorem eqv_bl {a b : Bool} : PyData.eqv (.bool a) (.bool b) = decide (a = b) := by cases a <;> cases b <;> decide +kernel
@[simp] theorem eqD_bl {a b : Bool} : eqD (.bl a) (.bl b) = some (.bl (decide (a = b))) := by
  unfold eqD; rw [if_pos (by cases a <;> cases b <;> decide +kernel)]; simp only [py, eqv_bl]
@[simp] theorem neD_bl {a b : Bool} : neD (.bl a) (.bl b) = some (.bl (!decide (a = b))) := by
  unfold neD; rw [if_pos (by cases a <;> cases b <;> decide +kernel)]; simp only [py, eqv_bl]
end PL
namespace PL
open PySem PySem.Spec PyProof.Rows L2
instance : Shal (Int × List (Int × Int)) := ⟨by decide⟩
instance : Shal (Tp (Tp Int)) := ⟨by decide⟩
instance : Shal (List (Tp Int)) := ⟨by decide⟩
instance : Shal (List (List Int)) := ⟨by decide⟩
def Lot.t (q : Lot) : Tp Int := ⟨[q.a, q.b, q.r, q.m]⟩
theorem lot_t (q : Lot) : q.d = Cod.d q.t := rfl
theorem lots_t (qs : List Lot) : D.lst (qs.map Lot.d) = Cod.d (qs.map Lot.t) := by
  show _ = D.lst ((qs.map Lot.t).map Cod.d)
  rw [List.map_map]; rfl
theorem neD_lots (qs : List Lot) : neD (.lst (qs.map Lot.d)) (.lst (qs.map Lot.d)) = some (.bl false) := by
  rw [lots_t]; exact neD_cod_t rfl
theorem eqD_cells (L : List (Int × Int)) : eqD (.lst (L.map cD)) (.lst []) = some (.bl (decide (L = []))) := eqD_cod (α := List (Int × Int)) L []
theorem neD_open (i : Int) (L : List (Int × Int)) : neD (.tup [.int i, .lst (L.map cD)]) (.tup [.int i, .lst (L.map cD)]) = some (.bl false) := neD_cod_t (α := Int × List (Int × Int)) (x := (i, L)) rfl
theorem mulD_lst {xs : List D} {k : Int} : mulD (.lst xs) (.int k) = if -(2 ^ 63) ≤ k ∧ k < 2 ^ 63 ∧ xs.length * k.toNat ≤ sizeLine then some (.lst (List.replicate k.toNat xs).flatten) else none := rfl
end PL
namespace PL
open PySem PySem.Spec PyProof.Rows L2
theorem cutD_to {xs : List D} (k : Nat) : cutD xs none (some (k : Int)) = xs.take k := by
  unfold cutD
  rw [HT.sIx_none, HT.sIx_nat, List.drop_zero, Nat.sub_zero, List.take_eq_take_iff]; omega
theorem slD_to {xs : List D} (k : Nat) : slD (.lst xs) none (some (k : Int)) = some (.lst (xs.take k)) := by
  show some (D.lst (cutD _ _ _)) = _; rw [cutD_to]
theorem slD_toT {xs : List D} (k : Nat) : slD (.tup xs) none (some (k : Int)) = some (.tup (xs.take k)) := by
  show some (D.tup (cutD _ _ _)) = _; rw [cutD_to]
@[simp] theorem isB2_non : isB2 "list" "tuple" .non = some (.bl false) := by simp [isB2, tyD, kit_list_non, kit_tuple_non]
@[simp] theorem isB2_int {i : Int} : isB2 "list" "tuple" (.int i) = some (.bl false) := by simp [isB2, tyD, kit_list_int, kit_tuple_int]
@[simp] theorem isB2_str {x : Str} : isB2 "list" "tuple" (.str x) = some (.bl false) := by simp [isB2, tyD, kit_list_str, kit_tuple_str]
@[simp] theorem isB2_dct {kv : List (D × D)} : isB2 "list" "tuple" (.dct kv) = some (.bl false) := by simp [isB2, tyD, kit_list_dct, kit_tuple_dct]
@[simp] theorem isB2_bl {b : Bool} : isB2 "list" "tuple" (.bl b) = some (.bl false) := by simp [isB2, tyD, kit_list_bl, kit_tuple_bl]
theorem eqD_by {a b : D} (c : Bool) (h : eqOk a b = true) (h2 : PyData.eqv (py a) (py b) = c) : eqD a b = some (.bl c) := by
  unfold eqD; rw [if_pos h, h2]
theorem neD_by {a b : D} (c : Bool) (h : eqOk a b = true) (h2 : PyData.eqv (py a) (py b) = c) : neD a b = some (.bl (!c)) := by
  unfold neD; rw [if_pos h, h2]
@[simp] theorem eqD_tnil : eqD (.tup []) (.tup []) = some (.bl true) := eqD_by true (by decide +kernel) (by decide +kernel)
@[simp] theorem eqD_lnil : eqD (.lst []) (.lst []) = some (.bl true) := eqD_by true (by decide +kernel) (by decide +kernel)
@[simp] theorem neD_tnil : neD (.tup []) (.tup []) = some (.bl false) := neD_by true (by decide +kernel) (by decide +kernel)
@[simp] theorem neD_lnil : neD (.lst []) (.lst []) = some (.bl false) := neD_by true (by decide +kernel) (by decide +kernel)
end PL
set_option Elab.async false
set_option linter.all false
set_option maxRecDepth 100000
set_option maxHeartbeats 4000000
/-! Numbers in a row: by a prime that is 1 by 27720. -/
namespace MC
def PP : Int := 55441
theorem pp_div : ∀ d : Nat, d ∣ 55441 → d = 1 ∨ d = 55441 := by
  intro d ⟨e, h⟩
  have k : ∀ x : Nat, x < 236 → x ≠ 1 → 55441 % x ≠ 0 := by decide +kernel
  rcases Nat.lt_or_ge d 236 with q | q
  · by_cases h1 : d = 1
    · exact .inl h1
    · exact absurd (by rw [h]; exact Nat.mul_mod_right d e) (k d q h1)
  · have q2 : e < 236 := by
      rcases Nat.lt_or_ge e 236 with q2 | q2
      · exact q2
      · have := Nat.mul_le_mul q q2
        omega
    by_cases h1 : e = 1
    · subst h1; exact .inr (by omega)
    · exact absurd (by rw [h]; first | exact Nat.mul_mod_left e d | exact Nat.mul_mod_left d e) (k e q2 h1)
theorem pp_prime {a b : Int} (h : PP ∣ a * b) : PP ∣ a ∨ PP ∣ b := by
  have h2 : (55441 : Nat) ∣ a.natAbs * b.natAbs := by
    rw [← Int.natAbs_mul]
    exact Int.natAbs_dvd_natAbs.mpr h
  rcases pp_div _ (Nat.gcd_dvd_left 55441 a.natAbs) with g | g
  · right
    have := Nat.Coprime.dvd_of_dvd_mul_left (k := 55441) (m := a.natAbs) (n := b.natAbs) g h2
    exact Int.natAbs_dvd_natAbs.mp this
  · left
    have : (55441 : Nat) ∣ a.natAbs := by rw [← g]; exact Nat.gcd_dvd_right _ _
    exact Int.natAbs_dvd_natAbs.mp this
/-! ### sums of powers -/
def ev : List (Int × Int) → Nat → Int
  | [], _ => 0
  | t :: ts, x => t.1 * t.2 ^ x + ev ts x
theorem ev_step (c0 : Int) : ∀ (ts : List (Int × Int)) (x : Nat), ev (ts.map fun t => (t.1 * (t.2 - c0), t.2)) x = ev ts (x + 1) - c0 * ev ts x
  | [], x => by simp [ev]
  | t :: ts, x => by
    simp only [List.map_cons, ev, ev_step c0 ts x]
    rw [Int.pow_succ]
    generalize t.2 ^ x = y
    generalize ev ts (x + 1) = u
    generalize ev ts x = v
    grind
theorem lin : ∀ (n : Nat) (ts : List (Int × Int)), ts.length = n → ∀ x0 : Nat, (∀ x, x < n → PP ∣ ev ts (x0 + x)) → ∀ x, PP ∣ ev ts (x0 + x)
  | 0, ts, hn, x0, _, x => by
    rw [List.length_eq_zero_iff.mp hn]; exact Int.dvd_zero _
  | n + 1, [], hn, x0, _, x => by simp at hn
  | n + 1, t :: ts, hn, x0, h, x => by
    have key : ∀ y, PP ∣ ev (t :: ts) (x0 + y + 1) - t.2 * ev (t :: ts) (x0 + y) := by
      have ih := lin n (ts.map fun q => (q.1 * (q.2 - t.2), q.2)) (by simpa using hn) x0
      have e : ∀ y, ev (ts.map fun q => (q.1 * (q.2 - t.2), q.2)) (x0 + y) = ev (t :: ts) (x0 + y + 1) - t.2 * ev (t :: ts) (x0 + y) := by
        intro y
        rw [ev_step]
        simp only [ev]
        rw [Int.pow_succ]
        generalize t.2 ^ (x0 + y) = z
        generalize ev ts (x0 + y + 1) = u
        generalize ev ts (x0 + y) = v
        grind
      intro y
      rw [← e]
      refine ih (fun z hz => ?_) y
      rw [e]
      exact Int.dvd_sub (by have := h (z + 1) (by omega); rwa [← Nat.add_assoc] at this) (Int.dvd_mul_of_dvd_right (h z (by omega)))
    induction x with
    | zero => exact h 0 (by omega)
    | succ x ih =>
      have := Int.dvd_add (key x) (Int.dvd_mul_of_dvd_right (b := t.2) ih)
      rw [Int.sub_add_cancel] at this
      exact this
/-! ### products -/
def w : Nat → Int := fun m => [1, 1, 55440, 45943, 14440, 42169, 45944, 47221, 52764, 31418, 23328, 49484, 45527].getD m 1
theorem w_ne : ∀ m, m < 13 → ∀ j, j < m → j ≠ 0 → (1 - w m ^ j) % 55441 ≠ 0 := by decide +kernel
theorem w_one : ∀ m, m < 13 → (1 - w m ^ m) % 55441 = 0 := by decide +kernel
theorem pow_one_dvd {a : Int} (h : PP ∣ 1 - a) : ∀ k : Nat, PP ∣ 1 - a ^ k
  | 0 => by simp
  | k + 1 => by
    have := Int.dvd_add (Int.dvd_mul_of_dvd_left (c := a) (pow_one_dvd h k)) h
    rw [Int.pow_succ]
    have e : (1 - a ^ k) * a + (1 - a) = 1 - a ^ k * a := by grind
    rwa [e] at this
theorem w_iff {m : Nat} (h1 : 0 < m) (h2 : m < 13) (k : Nat) : PP ∣ 1 - w m ^ k ↔ k % m = 0 := by
  have hm : PP ∣ 1 - w m ^ (m * (k / m)) := by
    rw [Int.pow_mul]
    exact pow_one_dvd (Int.dvd_of_emod_eq_zero (w_one m h2)) _
  have e : w m ^ k = w m ^ (m * (k / m)) * w m ^ (k % m) := by rw [← Int.pow_add, Nat.div_add_mod]
  constructor
  · intro h
    by_cases c : k % m = 0
    · exact c
    · refine absurd ?_ (w_ne m h2 (k % m) (Nat.mod_lt _ h1) c)
      apply Int.emod_eq_zero_of_dvd
      show PP ∣ _
      have := Int.dvd_sub h (Int.dvd_mul_of_dvd_left (c := w m ^ (k % m)) hm)
      rw [e] at this
      have e2 : (1 - w m ^ (m * (k / m)) * w m ^ (k % m)) - (1 - w m ^ (m * (k / m))) * w m ^ (k % m) = 1 - w m ^ (k % m) := by grind
      rwa [e2] at this
  · intro h
    rw [e, h, Int.pow_zero, Int.mul_one]
    exact hm
def mulT (b c : Int) (ts : List (Int × Int)) : List (Int × Int) := ts ++ ts.map fun t => (-(t.1 * b), t.2 * c)
theorem ev_append : ∀ (ts us : List (Int × Int)) (x : Nat), ev (ts ++ us) x = ev ts x + ev us x
  | [], us, x => by simp [ev]
  | t :: ts, us, x => by simp only [List.cons_append, ev, ev_append ts us x, Int.add_assoc]
theorem ev_mulT (b c : Int) (ts : List (Int × Int)) (x : Nat) : ev (mulT b c ts) x = (1 - b * c ^ x) * ev ts x := by
  unfold mulT
  rw [ev_append]
  have : ev (ts.map fun t => (-(t.1 * b), t.2 * c)) x = -(b * c ^ x) * ev ts x := by
    induction ts with
    | nil => simp [ev]
    | cons t ts ih =>
      simp only [List.map_cons, ev, ih, Int.mul_pow]
      generalize t.2 ^ x = y
      generalize c ^ x = z
      generalize ev ts x = v
      grind
  rw [this]
  grind
/-- classes (rest, step) as natural numbers -/
def prodT : List (Nat × Nat) → List (Int × Int)
  | [] => [(1, 1)]
  | p :: rs => mulT (w p.2 ^ (p.2 - p.1)) (w p.2) (prodT rs)
theorem prodT_len : ∀ rs, (prodT rs).length = 2 ^ rs.length
  | [] => rfl
  | p :: rs => by simp [prodT, mulT, prodT_len rs, Nat.pow_succ]; omega
theorem prodT_dvd : ∀ (rs : List (Nat × Nat)), (∀ p ∈ rs, p.1 < p.2 ∧ p.2 < 13) → ∀ x, PP ∣ ev (prodT rs) x ↔ ∃ p ∈ rs, x % p.2 = p.1
  | [], _, x => by
    simp only [prodT, ev, List.not_mem_nil, false_and, exists_false, iff_false, Int.one_pow, Int.one_mul, Int.add_zero]
    decide
  | p :: rs, h, x => by
    have ih := prodT_dvd rs (fun q hq => h q (List.mem_cons_of_mem _ hq)) x
    obtain ⟨h1, h2⟩ := h p List.mem_cons_self
    have key : PP ∣ 1 - w p.2 ^ (p.2 - p.1) * w p.2 ^ x ↔ x % p.2 = p.1 := by
      rw [← Int.pow_add, w_iff (by omega) h2]
      have a1 := Nat.div_add_mod x p.2
      have a2 := Nat.mod_lt x (show 0 < p.2 by omega)
      constructor
      · intro z
        have b1 : (p.2 - p.1 + x % p.2) % p.2 = 0 := by
          rw [Nat.add_mod_mod]; exact z
        generalize x % p.2 = y at *
        rcases Nat.lt_or_ge y p.1 with c | c
        · rw [Nat.mod_eq_of_lt (by omega)] at b1; omega
        · have : p.2 - p.1 + y = p.2 + (y - p.1) := by omega
          rw [this, Nat.add_mod_left, Nat.mod_eq_of_lt (by omega)] at b1
          omega
      · intro z
        rw [← Nat.add_mod_mod, z]
        have : p.2 - p.1 + p.1 = p.2 := by omega
        rw [this, Nat.mod_self]
    simp only [prodT]
    rw [ev_mulT]
    constructor
    · intro z
      rcases pp_prime z with z | z
      · exact ⟨p, List.mem_cons_self, key.mp z⟩
      · obtain ⟨q, hq, e⟩ := ih.mp z
        exact ⟨q, List.mem_cons_of_mem _ hq, e⟩
    · rintro ⟨q, hq, e⟩
      rcases List.mem_cons.mp hq with rfl | hq
      · exact Int.dvd_mul_of_dvd_left (key.mpr e)
      · exact Int.dvd_mul_of_dvd_right (ih.mpr ⟨q, hq, e⟩)
theorem cveN {rs : List (Nat × Nat)} (h : ∀ p ∈ rs, p.1 < p.2 ∧ p.2 < 13) {x0 : Nat} (hc : ∀ x, x < 2 ^ rs.length → ∃ p ∈ rs, (x0 + x) % p.2 = p.1) (x : Nat) : ∃ p ∈ rs, (x0 + x) % p.2 = p.1 :=
  (prodT_dvd rs h _).mp (lin _ _ (prodT_len rs) x0 (fun y hy => (prodT_dvd rs h _).mpr (hc y hy)) x)
end MC
set_option Elab.async false
set_option linter.all false
set_option maxRecDepth 100000
set_option maxHeartbeats 4000000
/-! Whether all numbers are covered. -/
namespace PL
open PySem PySem.Spec PyProof.Rows L2
theorem holdI_nil {rs : List (Int × Int)} {n : Int} : holdI rs n = [] ↔ ∀ p ∈ rs, hasB n p = false := by
  unfold holdI
  rw [List.map_eq_nil_iff, List.filter_eq_nil_iff]
  constructor
  · intro h p hp
    obtain ⟨i, hi, rfl⟩ := List.getElem_of_mem hp
    have := h (rs[i], i) (by rw [List.mem_zipIdx_iff_getElem?]; exact List.getElem?_eq_getElem hi)
    simpa using this
  · intro h q hq
    have hm : q.1 ∈ rs := by have := List.fst_mem_of_mem_zipIdx hq; simpa using this
    simp [h _ hm]
theorem holdI_ne {rs : List (Int × Int)} {n : Int} : holdI rs n ≠ [] ↔ ∃ p ∈ rs, hasB n p = true := by
  rw [Ne, holdI_nil]
  constructor
  · intro h
    by_cases c : ∃ p ∈ rs, hasB n p = true
    · exact c
    · exact absurd (fun p hp => by cases q : hasB n p; rfl; exact absurd ⟨p, hp, q⟩ c) h
  · rintro ⟨p, hp, e⟩ h
    rw [h p hp] at e; cases e
/-- as natural numbers -/
def natC (p : Int × Int) : Nat × Nat := (p.1.toNat, p.2.toNat)
theorem has_nat {p : Int × Int} (h : isCl p) (x : Nat) : hasB (x : Int) p = true ↔ x % (natC p).2 = (natC p).1 := by
  obtain ⟨⟨h1, h2⟩, h3, h4⟩ := h
  obtain ⟨r, hr⟩ := Int.eq_ofNat_of_zero_le h3
  obtain ⟨m, hm⟩ := Int.eq_ofNat_of_zero_le (show 0 ≤ p.2 by omega)
  unfold hasB natC
  rw [decide_eq_true_eq, hr, hm]
  simp only [Int.toNat_natCast]
  omega
theorem has_shift {p : Int × Int} (h : isCl p) (n k : Int) (hk : (27720 : Int) ∣ k) : hasB (n + k) p = hasB n p := by
  unfold hasB
  have hd : p.2 ∣ k := Int.dvd_trans (dvd_of_step h.1) hk
  obtain ⟨c, rfl⟩ := hd
  rw [Int.add_mul_emod_self_left]
theorem cve {rs : List (Int × Int)} (h : Rows rs) {n0 : Int} (hc : ∀ x : Nat, x < 2 ^ rs.length → holdI rs (n0 + x) ≠ []) (n : Int) : holdI rs n ≠ [] := by
  have hcl : ∀ p ∈ rs.map natC, p.1 < p.2 ∧ p.2 < 13 := fun p hp => by
    obtain ⟨q, hq, rfl⟩ := List.mem_map.mp hp
    obtain ⟨⟨h1, h2⟩, h3, h4⟩ := h.cl q hq
    unfold natC
    simp only
    omega
  have nx0 : 0 ≤ n0 % 27720 := Int.emod_nonneg _ (by decide)
  obtain ⟨x0, hx0⟩ := Int.eq_ofNat_of_zero_le nx0
  have e0 : ∀ x : Nat, ∃ k, (27720 : Int) ∣ k ∧ n0 + x = ((x0 + x : Nat) : Int) + k := fun x => ⟨27720 * (n0 / 27720), Int.dvd_mul_right .., by have := Int.mul_ediv_add_emod n0 27720; omega⟩
  have main := MC.cveN (rs := rs.map natC) hcl (x0 := x0) (fun x hx => by
    rw [List.length_map] at hx
    obtain ⟨p, hp, e⟩ := holdI_ne.mp (hc x hx)
    obtain ⟨k, hk, ek⟩ := e0 x
    rw [ek, has_shift (h.cl p hp) _ _ hk] at e
    exact ⟨natC p, List.mem_map.mpr ⟨p, hp, rfl⟩, (has_nat (h.cl p hp) _).mp e⟩)
  -- any number, moved behind x0
  have ny0 : 0 ≤ (n - x0) % 27720 := Int.emod_nonneg _ (by decide)
  obtain ⟨y, hy⟩ := Int.eq_ofNat_of_zero_le ny0
  obtain ⟨q, hq, e⟩ := main y
  obtain ⟨p, hp, rfl⟩ := List.mem_map.mp hq
  have e2 := (has_nat (h.cl p hp) _).mpr e
  have e3 : n = ((x0 + y : Nat) : Int) + 27720 * ((n - x0) / 27720) := by
    have := Int.mul_ediv_add_emod (n - x0) 27720
    omega
  rw [e3]
  exact holdI_ne.mpr ⟨p, hp, by rw [has_shift (h.cl p hp) _ _ (Int.dvd_mul_right ..)]; exact e2⟩
/-- the least missed number, if there is one -/
def fm (rs : List (Int × Int)) : Option Nat := (List.range (2 ^ rs.length)).find? fun (i : Nat) => decide (holdI rs (i : Int) = [])
def fmD (rs : List (Int × Int)) : D := match fm rs with | some i => .int (i : Int) | none => .non
theorem pow8 {n : Nat} (h : n ≤ 8) : 2 ^ n ≤ 256 := by
  have : n = 0 ∨ n = 1 ∨ n = 2 ∨ n = 3 ∨ n = 4 ∨ n = 5 ∨ n = 6 ∨ n = 7 ∨ n = 8 := by omega
  rcases this with rfl | rfl | rfl | rfl | rfl | rfl | rfl | rfl | rfl <;> decide
theorem F_doubled_eq {n : Nat} (h : n ≤ 8) : F_doubled [.int (n : Int)] = some (.ok (.int ((2 ^ n : Nat) : Int))) := by
  refine fnD_wp rfl ?_
  unfold B_doubled env0
  simp
  refine ⟨by omega, ?_⟩
  obtain ⟨J, hJ⟩ : ∃ J : Nat → Env → Row → Prop, ∀ k ρ s, J k ρ s ↔ ∃ a, ρ = [some (.im (.int (n : Int))), some (.im (.int ((2 ^ k : Nat) : Int))), a] := ⟨_, fun _ _ _ => Iff.rfl⟩
  refine wp_forR J (fun k hk ρ s hh => ?_) (fun ρ s hh => ?_) ((hJ ..).mpr ⟨_, rfl⟩)
  · obtain ⟨a, rfl⟩ := (hJ ..).mp hh
    have h1 := pow8 (n := k) (by omega)
    simp
    refine (hJ ..).mpr ⟨some (.im (.int (k : Int))), ?_⟩
    rw [Nat.pow_succ]; simp [Int.mul_comm]
  · obtain ⟨a, rfl⟩ := (hJ ..).mp hh
    simp
theorem F_first_missed_eq {rs : List (Int × Int)} (h : Rows rs) : F_first_missed [planD rs] = some (.ok (fmD rs)) := by
  have hl := h.le
  have hp := pow8 hl
  obtain ⟨N, hN⟩ : ∃ N, 2 ^ rs.length = N := ⟨_, rfl⟩
  have ed := F_doubled_eq hl
  rw [hN] at ed hp
  refine fnD_wp rfl ?_
  unfold B_first_missed env0
  simp [ed]
  refine ⟨by omega, ?_⟩
  obtain ⟨J, hJ⟩ : ∃ J : Nat → Env → Row → Prop, ∀ k ρ s, J k ρ s ↔ ∃ a, ρ = [some (.im (planD rs)), a] ∧ ∀ i, i < k → holdI rs ((i : Nat) : Int) ≠ [] := ⟨_, fun _ _ _ => Iff.rfl⟩
  have e0 : ∀ n : Int, eqD (.tup ((holdI rs n).map .int)) (.tup []) = some (.bl (decide (holdI rs n = []))) := fun n => by
    have := eqD_cod (α := Tp Int) ⟨holdI rs n⟩ ⟨[]⟩
    rw [show Cod.d (Tp.mk (holdI rs n)) = .tup ((holdI rs n).map .int) from rfl] at this
    rw [show D.tup [] = Cod.d (Tp.mk ([] : List Int)) from rfl, this]
    congr 2
    exact decide_eq_decide.mpr ⟨fun z => congrArg Tp.items z, fun z => by rw [z]⟩
  refine wp_forR J (fun k hk ρ s hh => ?_) (fun ρ s hh => ?_) ((hJ ..).mpr ⟨_, rfl, fun i hi => absurd hi (Nat.not_lt_zero _)⟩)
  · obtain ⟨a, rfl, c1⟩ := (hJ ..).mp hh
    by_cases q : holdI rs (k : Int) = []
    · simp [F_holders_of_eq h, e0, q]
      have : fm rs = some k := by
        unfold fm
        rw [List.find?_range_eq_some]
        exact ⟨by simpa using q, List.mem_range.mpr (by rw [hN]; exact hk), fun i hi => by simp [c1 i hi]⟩
      simp [fmD, this]
    · simp [F_holders_of_eq h, e0, q]
      refine (hJ ..).mpr ⟨_, rfl, fun i hi => ?_⟩
      rcases Nat.lt_or_ge i k with z | z
      · exact c1 i z
      · have : i = k := by omega
        subst this; exact q
  · obtain ⟨a, rfl, c1⟩ := (hJ ..).mp hh
    have : fm rs = none := by
      unfold fm
      rw [List.find?_eq_none]
      intro i hi
      simpa using c1 i (by rw [hN] at hi; exact List.mem_range.mp hi)
    simp [fmD, this]
/-- all numbers are covered -/
def Cov (rs : List (Int × Int)) : Prop := ∀ n : Int, holdI rs n ≠ []
theorem fm_none {rs : List (Int × Int)} (h : Rows rs) : fm rs = none ↔ Cov rs := by
  unfold fm
  rw [List.find?_eq_none]
  constructor
  · intro q
    exact cve h (n0 := 0) fun x hx => by
      have := q x (List.mem_range.mpr hx)
      simpa using this
  · intro q i _
    simpa using q i
theorem fm_some {rs : List (Int × Int)} {k : Nat} : fm rs = some k → holdI rs (k : Int) = [] ∧ (∀ i, i < k → holdI rs ((i : Nat) : Int) ≠ []) := fun h => by
  unfold fm at h
  rw [List.find?_range_eq_some] at h
  exact ⟨by simpa using h.1, fun i hi => by have := h.2.2 i hi; simpa using this⟩
theorem fmD_eq {rs : List (Int × Int)} : isNone (fmD rs) = (fm rs).isNone := by
  unfold fmD
  cases fm rs <;> rfl
theorem F_covers_all_eq {rs : List (Int × Int)} (h : Rows rs) : F_covers_all [planD rs] = some (.ok (.bl (fm rs).isNone)) := by
  refine fnD_wp rfl ?_
  unfold B_covers_all env0
  simp [F_first_missed_eq h, fmD_eq]
theorem F_least_missed_eq {rs : List (Int × Int)} (h : Rows rs) : F_least_missed [planD rs] = some (.ok (fmD rs)) := by
  refine fnD_wp rfl ?_
  unfold B_least_missed env0
  simp [F_first_missed_eq h]
/-- a period's numbers tell all -/
theorem per_dvd {rs : List (Int × Int)} {p : Int × Int} (hp : p ∈ rs) : p.2 ∣ per rs := dvd_lcmL (List.mem_map.mpr ⟨p, hp, rfl⟩)
theorem holdI_mod {rs : List (Int × Int)} (n : Int) : holdI rs (n % per rs) = holdI rs n := by
  unfold holdI
  congr 1
  refine List.filter_congr fun q hq => ?_
  have hm : q.1 ∈ rs := by have := List.fst_mem_of_mem_zipIdx hq; simpa using this
  unfold hasB
  rw [Int.emod_emod_of_dvd _ (per_dvd hm)]
def openN (rs : List (Int × Int)) : List Nat := (List.range (per rs).toNat).filter fun (i : Nat) => decide (holdI rs (i : Int) = [])
theorem openN_nil {rs : List (Int × Int)} (h : Rows rs) : openN rs = [] ↔ Cov rs := by
  unfold openN
  rw [List.filter_eq_nil_iff]
  have hp := h.per_pos
  constructor
  · intro q n e
    have n0 : 0 ≤ n % per rs := Int.emod_nonneg _ (by omega)
    have n1 := Int.emod_lt_of_pos n hp
    obtain ⟨i, hi⟩ := Int.eq_ofNat_of_zero_le n0
    have := q i (List.mem_range.mpr (by omega))
    rw [← hi, holdI_mod] at this
    simp [e] at this
  · intro q i _
    simpa using q i
theorem openN_head {rs : List (Int × Int)} (h : Rows rs) {k : Nat} {r : List Nat} (e : openN rs = k :: r) : fm rs = some k := by
  cases q : fm rs with
  | none =>
    have := (openN_nil h).mpr ((fm_none h).mp q)
    rw [this] at e; cases e
  | some j =>
    obtain ⟨h1, h2⟩ := fm_some q
    have hk : k ∈ openN rs := by rw [e]; exact List.mem_cons_self
    have hk2 := List.mem_filter.mp hk
    have hk3 : holdI rs (k : Int) = [] := by simpa using hk2.2
    have hjk : j ≤ k := by
      rcases Nat.lt_or_ge k j with z | z
      · exact absurd hk3 (h2 k z)
      · exact z
    have hj : j ∈ openN rs := List.mem_filter.mpr ⟨List.mem_range.mpr (by have := List.mem_range.mp hk2.1; omega), by simpa using h1⟩
    have hs : (openN rs).Pairwise (· < ·) := List.Pairwise.filter _ List.pairwise_lt_range
    rw [e] at hs hj
    rcases List.mem_cons.mp hj with z | z
    · rw [z]
    · have := (List.pairwise_cons.mp hs).1 j z
      omega
end PL
set_option Elab.async false
set_option linter.all false
set_option maxRecDepth 100000
set_option maxHeartbeats 4000000
/-! The calculus: dicts, sorted, what is put behind, cut off. -/
namespace PL
open PySem PySem.Spec PyProof.Rows L2
section
variable {ρ : Env} {s : Row} {Q : Res → Row → Prop} {QS : Out → Row → Prop}
@[simp] theorem wp_dc {κ : Type} {nil : κ} {put : κ → D → D → Option κ} {dat : κ → D} {vs : List Nat} {fi : AF} {g : GF} {tf : TF} {fk fv : EF} : wp (e_dc nil put dat vs fi g tf fk fv ρ s) Q ↔ wp (fi ρ s) (ek (fun xs s1 => wp (dcGo put g tf fk fv (wipeE ρ vs) xs nil s1) fun acc s2 => Q (.ok (dat acc)) s2) fun e s => Q (.er e) s) := by
  unfold e_dc; rw [wp_bA]
  refine wek fun xs s1 => ?_
  cases dcGo put g tf fk fv (wipeE ρ vs) xs nil s1 with
  | none => simp
  | some p => obtain ⟨a, b⟩ := p; simp
theorem dc_fold {κ β : Type} {put : κ → D → D → Option κ} {g : GF} {tf : TF} {fk fv : EF} {ρw : Env} {s : Row} {QL : κ → Row → Prop} (h k v : β → D) (st : κ → β → κ) (P : Nat → κ → Prop) {L : List β}
    (hx : ∀ x ∈ L, ∃ ρ1, g (h x) ρw = some ρ1 ∧ tf ρ1 s = some (.ok true, s) ∧ fk ρ1 s = some (.ok (k x), s) ∧ fv ρ1 s = some (.ok (v x), s))
    (hp : ∀ i acc x, x ∈ L → i < L.length → P i acc → put acc (k x) (v x) = some (st acc x) ∧ P (i + 1) (st acc x)) {nil : κ} (h0 : P 0 nil) (hq : QL (L.foldl st nil) s) : wp (dcGo put g tf fk fv ρw (L.map h) nil s) QL := by
  have key : ∀ (M : List β) (i : Nat) (acc : κ), (∀ x ∈ M, x ∈ L) → i + M.length ≤ L.length → P i acc → dcGo put g tf fk fv ρw (M.map h) acc s = some (M.foldl st acc, s) := by
    intro M
    induction M with
    | nil => intro _ _ _ _ _; rfl
    | cons x M ih =>
      intro i acc hM hi hP
      have hm := hM x List.mem_cons_self
      obtain ⟨ρ1, e1, e2, e3, e4⟩ := hx x hm
      rw [List.length_cons] at hi
      obtain ⟨p1, p2⟩ := hp i acc x hm (by omega) hP
      rw [List.map_cons, dcGo, e1, Option.bind_some, e2]
      simp only [e3, e4, p1, Option.bind_some]
      rw [ih (i + 1) _ (fun y hy => hM y (List.mem_cons_of_mem _ hy)) (by omega) p2]
      rfl
  rw [key L 0 nil (fun _ h => h) (by omega) h0]
  exact wp_some.mpr hq
theorem wp_dset {i : Nat} {fk fe : EF} {ds : List (D × D)} (h : ceAt ρ i = some (.dcn ds)) : wp (s_dset i fk fe ρ s) QS ↔ wp (fe ρ s) (rk (fun d s1 => wp (fk ρ s1) (rk (fun z s2 => (nkOk z = true ∧ ds.length < sizeLine) ∧ i < ρ.length ∧ QS (.nx (ρ.set i (some (.ce (.dcn (storeD ds z d)))))) s2) fun e s => QS (.er e ρ) s)) fun e s => QS (.er e ρ) s) := by
  unfold s_dset
  rw [h]
  simp only [wp_bE]
  refine wrk fun d s1 => wrk fun z s2 => ?_
  split
  · rename_i h; rw [wp_setS]; exact ⟨fun z => ⟨h, z⟩, fun z => z.2⟩
  · rename_i h; simp only [wp_none, false_iff]; exact fun z => h z.1
theorem wp_pop {j i : Nat} {ds : List D} (h : ceAt ρ i = some (.lst ds)) : wp (s_pop j i ρ s) QS ↔ ∃ d, ds[ds.length - 1]? = some d ∧ (i < ρ.length ∧ j < ρ.length) ∧ QS (.nx ((ρ.set i (some (.ce (.lst ds.dropLast)))).set j (some (.im d)))) s := by
  unfold s_pop
  rw [h]
  show wp (match ds[ds.length - 1]? with | some d => _ | none => none) QS ↔ _
  cases hd : ds[ds.length - 1]? with
  | none => simp
  | some d =>
    simp only [Option.some.injEq, exists_eq_left']
    split
    · rename_i h; exact wp_some.trans ⟨fun z => ⟨h, z⟩, fun z => z.2⟩
    · rename_i h; simp only [wp_none, false_iff]; exact fun z => h z.1
@[simp] theorem wp_raise2 {nm f g : Str} {fa fb : EF} : wp (s_raise2 nm f g fa fb ρ s) QS ↔ wp (fa ρ s) (rk (fun d s1 => wp (fb ρ s1) (rk (fun z s2 => QS (.er ⟨nm, [(f, d), (g, z)]⟩ ρ) s2) fun e s => QS (.er e ρ) s)) fun e s => QS (.er e ρ) s) := by
  unfold s_raise2; simp only [wp_bE, wp_some]
theorem wp_extend {i : Nat} {fe : EF} {ds : List D} (h : ceAt ρ i = some (.lst ds)) : wp (s_extend i fe ρ s) QS ↔ wp (fe ρ s) (rk (fun d s1 => ∃ es, d = .lst es ∧ ds.length + es.length ≤ sizeLine ∧ i < ρ.length ∧ QS (.nx (ρ.set i (some (.ce (.lst (ds ++ es)))))) s1) fun e s => QS (.er e ρ) s) := by
  unfold s_extend
  rw [h]
  simp only [wp_bE]
  refine wrk fun d s1 => ?_
  cases d with
  | lst es =>
    simp only [D.lst.injEq, exists_eq_left']
    split
    · rename_i h; rw [wp_setS]; exact ⟨fun z => ⟨h, z⟩, fun z => z.2⟩
    · rename_i h; simp only [wp_none, false_iff]; exact fun z => h z.1
  | _ => simp
end
/-! ### sorted of lists of a Lean type -/
theorem sortedD_map {β : Type} (d : β → D) (le : β → β → Bool) (h : ∀ a b, dLe (d a) (d b) = le a b) {L : List β} (ok : srtOk (L.map d) = true) : sortedD [.lst (L.map d)] = some (.lst ((L.mergeSort le).map d)) := by
  show (if srtOk (L.map d) = true then some (D.lst ((L.map d).mergeSort dLe)) else none) = _
  rw [if_pos ok, List.map_mergeSort (s := dLe) fun a _ b _ => (h a b).symm]
end PL
set_option Elab.async false
set_option linter.all false
set_option maxRecDepth 100000
set_option maxHeartbeats 4000000
/-! Tuples of numbers in order; subsets. -/
namespace PL
open PySem PySem.Spec PyProof.Rows L2
abbrev tD (xs : List Int) : D := .tup (xs.map .int)
theorem py_tD (xs : List Int) : py (tD xs) = .tuple (xs.map .int) := by
  rw [py, pys_map, List.map_map]; rfl
theorem dLe_tD (a b : List Int) : dLe (tD a) (tD b) = decide (a ≤ b) := by
  have h : dLe (tD a) (tD b) = !PySem.W.dataLt (py (tD b)) (py (tD a)) := rfl
  rw [h, py_tD, py_tD, PySem.W.dataLt_tuple]
  have e := PySem.W.dataLt_ints b a
  unfold PySem.W.rowLt at e
  rw [e]
  by_cases c : a ≤ b
  · simp [c, List.not_lt.mpr c]
  · simp [c, List.not_le.mp c]
theorem srtOk_tD (L : List (List Int)) : srtOk (L.map tD) = true := by
  unfold srtOk allAlikeB
  simp only [Bool.and_eq_true, List.all_eq_true, decide_eq_true_eq, flats_eq]
  refine ⟨fun x hx => ?_, fun x hx y hy => ?_, fun x hx => ?_, fun x hx => ?_⟩
  · obtain ⟨a, _, rfl⟩ := List.mem_map.mp hx
    rw [flat, flats_eq, List.all_eq_true]
    intro z hz
    obtain ⟨i, _, rfl⟩ := List.mem_map.mp hz; rfl
  · obtain ⟨a, _, rfl⟩ := List.mem_map.mp hx
    obtain ⟨b, _, rfl⟩ := List.mem_map.mp hy
    rw [py_tD, py_tD]
    simp only [PySem.W.alike]
    exact PySem.W.alike_ints a b
  · obtain ⟨a, _, rfl⟩ := List.mem_map.mp hx; rfl
  · obtain ⟨a, _, rfl⟩ := List.mem_map.mp hx
    rw [py_tD, PyData.depth, PySem.W.depth_ints]; decide
theorem sortedD_tD (L : List (List Int)) : sortedD [.lst (L.map tD)] = some (.lst ((L.mergeSort fun a b => decide (a ≤ b)).map tD)) := sortedD_map tD _ dLe_tD (srtOk_tD L)
/-- all choices of some of a row, as they are made -/
def subs : List Int → List (List Int) := fun xs => xs.foldl (fun acc x => acc ++ acc.map fun a => a ++ [x]) [[]]
theorem subs_snoc (xs : List Int) (x : Int) : subs (xs ++ [x]) = subs xs ++ (subs xs).map fun a => a ++ [x] := by
  unfold subs; rw [List.foldl_append]; rfl
theorem subs_len : ∀ n (xs : List Int), xs.length = n → (subs xs).length = 2 ^ n := by
  intro n
  induction n with
  | zero => intro xs h; rw [List.length_eq_zero_iff.mp h]; rfl
  | succ n ih =>
    intro xs h
    have hne : xs ≠ [] := fun z => by rw [z] at h; cases h
    have e := List.dropLast_concat_getLast hne
    rw [← e, subs_snoc, List.length_append, List.length_map, ih _ (by simp; omega), Nat.pow_succ]
    omega
theorem subs_le : ∀ n (xs : List Int), xs.length = n → ∀ y ∈ subs xs, y.length ≤ n := by
  intro n
  induction n with
  | zero => intro xs h y hy; rw [List.length_eq_zero_iff.mp h] at hy; simp [subs] at hy; subst hy; simp
  | succ n ih =>
    intro xs h y hy
    have hne : xs ≠ [] := fun z => by rw [z] at h; cases h
    rw [← List.dropLast_concat_getLast hne, subs_snoc] at hy
    have ih' := ih xs.dropLast (by simp; omega)
    rcases List.mem_append.mp hy with hy | hy
    · have := ih' y hy; omega
    · obtain ⟨z, hz, rfl⟩ := List.mem_map.mp hy
      have := ih' z hz
      simp; omega
theorem F__law_subsets_eq {xs : List Int} (h : xs.length ≤ 8) : F__law_subsets [.lst (xs.map .int)] = some (.ok (.lst (((subs xs).mergeSort fun a b => decide (a ≤ b)).map tD))) := by
  refine fnD_wp rfl ?_
  unfold B__law_subsets env0
  simp
  obtain ⟨J, hJ⟩ : ∃ J : Nat → Env → Row → Prop, ∀ k ρ s, J k ρ s ↔ ∃ a b, ρ = [some (.im (.lst (xs.map .int))), some (.im (.lst ((subs (xs.take k)).map tD))), a, b] := ⟨_, fun _ _ _ => Iff.rfl⟩
  refine wp_forN D.int J (fun k hk ρ s hh => ?_) (fun ρ s hh => ?_) ((hJ ..).mpr ⟨none, none, rfl⟩)
  · obtain ⟨a, b, rfl⟩ := (hJ ..).mp hh
    have hl := subs_len k (xs.take k) (by simp; omega)
    have hp := pow8 (n := k) (by omega)
    have hlen : ∀ y ∈ subs (xs.take k), y.length ≤ k := subs_le k (xs.take k) (by simp; omega)
    simp only [g_name_succ, g_name_one, g_name_zero, Option.map_some]
    refine ⟨_, rfl, ?_⟩
    simp [-List.map_map]
    refine lc_all tD (fun y => tD (y ++ [xs[k]])) (fun y hy => ?_) ?_
    · have := hlen y hy
      simp
      omega
    · have e : (subs (xs.take k)).map (fun y => tD (y ++ [xs[k]])) = ((subs (xs.take k)).map fun y => y ++ [xs[k]]).map tD := by rw [List.map_map]; rfl
      rw [e]
      simp only [addD_lst, List.length_map, some?_if, sizeLine_val]
      refine ⟨by omega, ?_⟩
      rw [← List.map_append, ← subs_snoc, ← take_snoc hk]
      exact (hJ ..).mpr ⟨_, _, rfl⟩
  · obtain ⟨a, b, rfl⟩ := (hJ ..).mp hh
    simp only [List.take_length, nk_nx]
    simp [-List.map_map, sortedD_tD]
end PL
set_option Elab.async false
set_option linter.all false
set_option maxRecDepth 100000
set_option maxHeartbeats 4000000
/-! Papers. -/
namespace PL
open PySem PySem.Spec PyProof.Rows L2
/-- the first class that has a number -/
def h0 (rs : List (Int × Int)) (n : Int) : Int := (holdI rs n).headD 0
def paperD (rs : List (Int × Int)) (st : Int) : D := match fm rs with
  | some i => .tup [.str "missed", .int (i : Int)]
  | none => .tup [.str "all", .int st, tD ((List.range (2 ^ rs.length)).map fun (a : Nat) => h0 rs (st + a))]
theorem F_paper_eq {rs : List (Int × Int)} (h : Rows rs) {st : Int} (s0 : -1000000000 ≤ st) (s1 : st ≤ 1000000000) : F_paper [planD rs, .int st] = some (.ok (paperD rs st)) := by
  have hl := h.le
  have hp := pow8 hl
  have ed := F_doubled_eq hl
  obtain ⟨N, hN⟩ : ∃ N, 2 ^ rs.length = N := ⟨_, rfl⟩
  rw [hN] at ed hp
  have e1 : isFrom (.int st) (-1000000000) 1000000000 = true := by simp [isFrom, s0, s1]
  refine fnD_wp rfl ?_
  unfold B_paper env0
  cases hf : fm rs with
  | some i => simp [F_first_missed_eq h, F_check_number_eq (.int st) rfl, e1, fmD, paperD, hf]
  | none =>
    have hc := (fm_none h).mp hf
    simp [F_first_missed_eq h, F_check_number_eq (.int st) rfl, e1, fmD, paperD, hf, ed]
    refine ⟨by omega, ?_⟩
    refine lc_range (fun _ => true) (fun a => .int (h0 rs (st + a))) (fun a ha => ?_) ?_
    · have hne := hc (st + a)
      simp [t_yes, F_holders_of_eq h]
      cases hh : holdI rs (st + a) with
      | nil => exact absurd hh hne
      | cons x r => simp [h0, hh]
    · rw [List.filter_eq_self.mpr (fun _ _ => rfl)]
      simp [hN]
theorem F_paper_bad {rs : List (Int × Int)} {d : D} (hd : notIns d = true) (hx : isFrom d (-1000000000) 1000000000 = false) : F_paper [planD rs, d] = some (.er ⟨"BadNumber", []⟩) := by
  refine fnD_wp rfl ?_
  unfold B_paper env0
  simp [F_check_number_eq d hd, hx]
/-! ### whether a value is a paper -/
/-- all of a row are indexes -/
def ixsOf (n : Nat) (is : List D) : Bool := is.all fun d => isFrom d 0 ((n : Int) - 1)
def ival (d : D) : Int := match d with | .int i => i | _ => 0
def rowB (rs : List (Int × Int)) (st : Int) (is : List D) : Bool := decide (is.length = 2 ^ rs.length) && (ixsOf rs.length is && is.zipIdx.all fun q => hasB (st + (q.2 : Nat)) (rs.getD (ival q.1).toNat (0, 1)))
theorem isFrom_int {d : D} {lo hi : Int} (h : isFrom d lo hi = true) : ∃ i, d = .int i ∧ lo ≤ i ∧ i ≤ hi := by
  cases d <;> simp [isFrom] at h
  exact ⟨_, rfl, h.1, h.2⟩
theorem F_is_row_eq {rs : List (Int × Int)} (h : Rows rs) {st : Int} {is : List D} (hi : ∀ d ∈ is, notIns d = true) : F_is_row [planD rs, .int st, .tup is] = some (.ok (.bl (rowB rs st is))) := by
  have hl := h.le
  have ed := F_doubled_eq hl
  unfold rowB
  obtain ⟨N, hN⟩ : ∃ N, 2 ^ rs.length = N := ⟨_, rfl⟩
  rw [hN] at ed
  rw [hN]
  refine fnD_wp rfl ?_
  unfold B_is_row env0
  by_cases c : is.length = N
  · simp [ed, c, -List.map_map]
    have e0 : is = is.map id := by simp
    have l1 : ∀ (Z : List D → Row → Prop) (ρ : Env), ρ = [some (.im (planD rs)), some (.im (.int st)), some (.im (.tup is)), none, none] → Z (is.map fun d => .bl (isFrom d 0 ((rs.length : Int) - 1))) row0 → wp (lcGo (g_name 4) t_yes (e_call F_is_from (a_cons (e_var 4) (a_cons (e_c (.int 0)) (a_cons (e_bin subD (e_args lenD (a_cons (e_un (fldD "Plan" "rows") (e_var 0)) (a_nil))) (e_c (.int 1))) (a_nil))))) ρ is row0) Z := by
      rintro Z ρ rfl hZ
      rw [e0]
      refine lc_all id (fun d => .bl (isFrom d 0 ((rs.length : Int) - 1))) (fun d hd => ?_) hZ
      simp [F_is_from_eq d _ _ (hi d hd)]
    refine l1 _ _ rfl ?_
    rw [show is.map (fun d => D.bl (isFrom d 0 ((rs.length : Int) - 1))) = (is.map fun d => isFrom d 0 ((rs.length : Int) - 1)).map .bl by rw [List.map_map]; rfl]
    have ea : (is.map fun d => isFrom d 0 ((rs.length : Int) - 1)).all id = ixsOf rs.length is := by unfold ixsOf; rw [List.all_map]; rfl
    simp only [allD, allD_bls, Option.map_some, ea]
    cases hx : ixsOf rs.length is with
    | false => simp
    | true =>
      have hx' := List.all_eq_true.mp hx
      simp
      have em : enumL is = is.zipIdx.map fun (q : D × Nat) => D.tup [.int (q.2 : Nat), q.1] := rfl
      rw [em]
      refine lc_all (fun (q : D × Nat) => D.tup [.int (q.2 : Nat), q.1]) (fun q => .bl (hasB (st + (q.2 : Nat)) (rs.getD (ival q.1).toNat (0, 1)))) (fun q hq => ?_) ?_
      · have hm : q.1 ∈ is := by have := List.fst_mem_of_mem_zipIdx hq; simpa using this
        obtain ⟨i, ei, i0, i1⟩ := isFrom_int (hx' _ hm)
        obtain ⟨j, rfl⟩ := Int.eq_ofNat_of_zero_le i0
        have hj : j < rs.length := by omega
        have hp : 0 < rs[j].2 := by have := (h.cl _ (List.getElem_mem hj)).1; omega
        simp [ei, atI_rows hj, F_does_hold_eq hp, ival, hj]
      · rw [show is.zipIdx.map (fun q => D.bl (hasB (st + (q.2 : Nat)) (rs.getD (ival q.1).toNat (0, 1)))) = (is.zipIdx.map fun q => hasB (st + (q.2 : Nat)) (rs.getD (ival q.1).toNat (0, 1))).map .bl by rw [List.map_map]; rfl]
        simp only [allD, allD_bls, Option.map_some, List.all_map]
        simp
  · have c' : ¬ ((is.length : Int) = (N : Int)) := by omega
    simp [ed, c, c']
/-- values of which it may be asked -/
def paperB (rs : List (Int × Int)) (x : String) (a : D) : List D → Bool
  | [] => isFrom a (-1000000000) 1000000000 && (decide (x = "missed") && decide (holdI rs (ival a) = []))
  | [.tup is] => isFrom a (-1000000000) 1000000000 && (decide (x = "all") && rowB rs (ival a) is)
  | _ => false
theorem eq_mm : eqD (.str "missed") (.str "missed") = some (.bl true) := eqD_by true (by decide +kernel) (by decide +kernel)
theorem eq_am : eqD (.str "all") (.str "missed") = some (.bl false) := eqD_by false (by decide +kernel) (by decide +kernel)
theorem eq_ma : eqD (.str "missed") (.str "all") = some (.bl false) := eqD_by false (by decide +kernel) (by decide +kernel)
theorem eq_aa : eqD (.str "all") (.str "all") = some (.bl true) := eqD_by true (by decide +kernel) (by decide +kernel)
theorem eq_hold (rs : List (Int × Int)) (n : Int) : eqD (.tup ((holdI rs n).map .int)) (.tup []) = some (.bl (decide (holdI rs n = []))) := by
  have := eqD_cod (α := Tp Int) ⟨holdI rs n⟩ ⟨[]⟩
  rw [show Cod.d (Tp.mk (holdI rs n)) = .tup ((holdI rs n).map .int) from rfl] at this
  rw [show D.tup [] = Cod.d (Tp.mk ([] : List Int)) from rfl, this]
  congr 2
  exact decide_eq_decide.mpr ⟨fun z => congrArg Tp.items z, fun z => by rw [z]⟩
theorem notin23 (n : Nat) : notinD (.int (n : Int)) (.tup [.int 2, .int 3]) = some (.bl (!decide ((n : Int) = 2 ∨ (n : Int) = 3))) := by
  rw [show D.tup [.int 2, .int 3] = .tup (([2, 3] : List Int).map .int) from rfl]
  rw [show notinD (.int (n : Int)) (.tup (([2, 3] : List Int).map .int)) = _ from notinD_tup (α := Int) (n : Int) [2, 3]]
  simp
theorem notin23L (n : Nat) : notinD (.int (n : Int)) (.lst [.int 2, .int 3]) = some (.bl (!decide ((n : Int) = 2 ∨ (n : Int) = 3))) := by
  rw [show D.lst [.int 2, .int 3] = .lst (([2, 3] : List Int).map .int) from rfl]
  rw [show notinD (.int (n : Int)) (.lst (([2, 3] : List Int).map .int)) = _ from notinD_lst (α := Int) (n : Int) [2, 3]]
  simp
@[simp] theorem atI_two {a b c : D} {xs : List D} : atI (a :: b :: c :: xs) 2 = some c := by
  have : (2 : Int) < (xs.length : Int) + 1 + 1 + 1 := by omega
  simp [atI, ixN, this]
theorem n2 : notinD (.int 2) (.tup [.int 2, .int 3]) = some (.bl false) := notin23 2
theorem n3 : notinD (.int 3) (.tup [.int 2, .int 3]) = some (.bl false) := notin23 3
theorem shows2 {rs : List (Int × Int)} (h : Rows rs) {x : String} (hx : x = "missed" ∨ x = "all") {a : D} (ha : notIns a = true) : F_shows [planD rs, .tup [.str x, a]] = some (.ok (.bl (paperB rs x a []))) := by
  refine fnD_wp rfl ?_
  unfold B_shows env0
  have e : F_is_paper [planD rs, .tup [.str x, a]] = some (.ok (.bl (paperB rs x a []))) := by
    refine fnD_wp rfl ?_
    unfold B_is_paper env0 paperB
    cases hf : isFrom a (-1000000000) 1000000000 with
    | false => simp [n2, F_is_from_eq a _ _ ha, hf]
    | true =>
      obtain ⟨i, rfl, i0, i1⟩ := isFrom_int hf
      rcases hx with rfl | rfl
      · simp [n2, F_is_from_eq (.int i) _ _ rfl, hf, eq_mm, F_holders_of_eq h, eq_hold, ival]
        exact decide_eq_decide.mpr Iff.rfl
      · simp [n2, F_is_from_eq (.int i) _ _ rfl, hf, eq_am, F_holders_of_eq h, eq_hold, ival]
  simp [e]
theorem shows3 {rs : List (Int × Int)} (h : Rows rs) {x : String} (hx : x = "missed" ∨ x = "all") {a : D} (ha : notIns a = true) {is : List D} (hi : ∀ d ∈ is, notIns d = true) : F_shows [planD rs, .tup [.str x, a, .tup is]] = some (.ok (.bl (paperB rs x a [.tup is]))) := by
  refine fnD_wp rfl ?_
  unfold B_shows env0
  have e : F_is_paper [planD rs, .tup [.str x, a, .tup is]] = some (.ok (.bl (paperB rs x a [.tup is]))) := by
    refine fnD_wp rfl ?_
    unfold B_is_paper env0 paperB
    cases hf : isFrom a (-1000000000) 1000000000 with
    | false => simp [n3, F_is_from_eq a _ _ ha, hf]
    | true =>
      obtain ⟨i, rfl, i0, i1⟩ := isFrom_int hf
      rcases hx with rfl | rfl
      · simp [n3, F_is_from_eq (.int i) _ _ rfl, hf, eq_ma, F_is_row_eq h hi, ival]
      · simp [n3, F_is_from_eq (.int i) _ _ rfl, hf, eq_aa, F_is_row_eq h hi, ival]
  simp [e]
/-- no tuple -/
def notTup : D → Bool
  | .tup _ => false
  | .ins _ _ => false
  | .dcn _ => false
  | .dcb _ => false
  | _ => true
theorem isT_not {d : D} (h : notTup d = true) : isB "tuple" d = some (.bl false) := by
  cases d <;> simp [notTup] at h <;> simp
theorem shows3n {rs : List (Int × Int)} (h : Rows rs) {x : String} (hx : x = "missed" ∨ x = "all") {a b : D} (ha : notIns a = true) (hb : notTup b = true) : F_shows [planD rs, .tup [.str x, a, b]] = some (.ok (.bl false)) := by
  refine fnD_wp rfl ?_
  unfold B_shows env0
  have er : ∀ i : Int, F_is_row [planD rs, .int i, b] = some (.ok (.bl false)) := fun i => by
    refine fnD_wp rfl ?_
    unfold B_is_row env0
    simp [isT_not hb]
  have e : F_is_paper [planD rs, .tup [.str x, a, b]] = some (.ok (.bl false)) := by
    refine fnD_wp rfl ?_
    unfold B_is_paper env0
    cases hf : isFrom a (-1000000000) 1000000000 with
    | false => simp [n3, F_is_from_eq a _ _ ha, hf]
    | true =>
      obtain ⟨i, rfl, i0, i1⟩ := isFrom_int hf
      rcases hx with rfl | rfl
      · simp [n3, F_is_from_eq (.int i) _ _ rfl, hf, eq_ma, er]
      · simp [n3, F_is_from_eq (.int i) _ _ rfl, hf, eq_aa, er]
  simp [e]
theorem shows_no {rs : List (Int × Int)} {d : D} (hd : notTup d = true ∨ ∃ xs, d = .tup xs ∧ ((xs.length ≠ 2 ∧ xs.length ≠ 3) ∨ ∃ b r, xs = b :: r ∧ isB "str" b = some (.bl false))) : F_shows [planD rs, d] = some (.ok (.bl false)) := by
  refine fnD_wp rfl ?_
  unfold B_shows env0
  have e : F_is_paper [planD rs, d] = some (.ok (.bl false)) := by
    refine fnD_wp rfl ?_
    unfold B_is_paper env0
    rcases hd with hd | ⟨xs, rfl, hd⟩
    · simp [isT_not hd]
    · have nn := notin23 xs.length
      rcases hd with ⟨h2, h3⟩ | ⟨b, r, rfl, hb⟩
      · have : ¬ ((xs.length : Int) = 2 ∨ (xs.length : Int) = 3) := by omega
        simp [nn, this]
      · rw [List.length_cons] at nn
        have e1 : ((r.length + 1 : Nat) : Int) = (r.length : Int) + 1 := by omega
        rw [e1] at nn
        simp [nn, hb]
        rcases Classical.em ((r.length : Int) + 1 = 2 ∨ (r.length : Int) + 1 = 3) with q | q
        · exact .inl (by omega)
        · exact .inr (by omega)
  simp [e]
end PL
set_option Elab.async false
set_option linter.all false
/-! Figures, rests, and moving them. -/
namespace ME
def cnt (W m : Nat) : Nat := (List.range W).countP fun i => m.testBit i
theorem cnt_succ (W m : Nat) : cnt (W + 1) m = (if m.testBit 0 = true then 1 else 0) + cnt W (m / 2) := by
  unfold cnt
  rw [List.range_succ_eq_map, List.countP_cons, List.countP_map, Nat.add_comm]
  congr 1
  refine List.countP_congr fun i _ => ?_
  simp [Nat.testBit_succ]
theorem cnt_le (W m : Nat) : cnt W m ≤ W := by
  have := List.countP_le_length (p := fun i => m.testBit i) (l := List.range W)
  simpa [cnt] using this
theorem cnt_low : ∀ (W m : Nat), 0 < m → m < 2 ^ W → cnt W (m &&& (m - 1)) + 1 = cnt W m
  | 0, m, h0, h1 => by simp at h1; omega
  | W + 1, m, h0, h1 => by
    rw [cnt_succ, cnt_succ, Nat.and_div_two, Nat.testBit_and, Nat.testBit_zero, Nat.testBit_zero]
    rcases Nat.mod_two_eq_zero_or_one m with q | q
    · have e1 : (m - 1) / 2 = m / 2 - 1 := by omega
      have ih := cnt_low W (m / 2) (by omega) (by rw [Nat.pow_succ] at h1; omega)
      rw [e1]
      simp [q]
      omega
    · have e1 : (m - 1) / 2 = m / 2 := by omega
      have e2 : (m - 1) % 2 = 0 := by omega
      rw [e1, Nat.and_self]
      simp [q, e2]
      omega
theorem and_lt {W m : Nat} (h : m < 2 ^ W) : m &&& (m - 1) < 2 ^ W := Nat.lt_of_le_of_lt Nat.and_le_left h
theorem cnt_zero (W : Nat) : cnt W 0 = 0 := by
  unfold cnt
  simp [List.countP_eq_zero]
/-- a row's numbers, one class -/
theorem put_bit {x n : Nat} (h : x < 2 ^ n) (i : Nat) : (x + 2 ^ n).testBit i = (x.testBit i || decide (i = n)) := by
  rw [Nat.add_comm, show 2 ^ n + x = 2 ^ n * 1 + x by omega, Nat.two_pow_add_eq_or_of_lt h, Nat.testBit_or, Nat.mul_one, Nat.testBit_two_pow, Bool.or_comm]
  congr 1
  exact decide_eq_decide.mpr ⟨Eq.symm, Eq.symm⟩
/-! ### sums around -/
theorem sum_step (f : Nat → Nat) (W : Nat) (h : f W = f 0) : ((List.range W).map fun n => f (n + 1)).sum = ((List.range W).map f).sum := by
  have e1 : ((List.range (W + 1)).map f).sum = ((List.range W).map f).sum + f W := by rw [List.range_succ, List.map_append, List.sum_append]; simp
  have e2 : ((List.range (W + 1)).map f).sum = f 0 + ((List.range W).map fun n => f (n + 1)).sum := by
    rw [List.range_succ_eq_map, List.map_cons, List.sum_cons, List.map_map]; rfl
  omega
theorem sum_round (W : Nat) : ∀ (c : Nat) (f : Nat → Nat), (∀ n, f (n + W) = f n) → ((List.range W).map fun n => f (n + c)).sum = ((List.range W).map f).sum
  | 0, f, _ => rfl
  | c + 1, f, h => by
    have := sum_round W c (fun n => f (n + 1)) (fun n => by show f (n + W + 1) = f (n + 1); rw [show n + W + 1 = (n + 1) + W by omega]; exact h _)
    rw [show (fun n => f (n + (c + 1))) = fun n => f (n + c + 1) from rfl, this]
    exact sum_step f W (by have := h 0; simpa using this)
theorem countP_sum (p : Nat → Bool) : ∀ L : List Nat, L.countP p = (L.map fun n => if p n = true then 1 else 0).sum
  | [] => rfl
  | x :: r => by rw [List.countP_cons, countP_sum p r, List.map_cons, List.sum_cons]; omega
theorem count_round (W c : Nat) (p : Nat → Bool) (h : ∀ n, p (n + W) = p n) : (List.range W).countP (fun n => p (n + c)) = (List.range W).countP p := by
  rw [countP_sum, countP_sum]
  exact sum_round W c (fun n => if p n = true then 1 else 0) (fun n => by simp only [h])
/-! ### rests -/
def restsC : List Nat → List (List Nat)
  | [] => [[]]
  | s :: S => (List.range s).flatMap fun x => (restsC S).map (x :: ·)
theorem restsC_cons (s : Nat) (S : List Nat) : restsC (s :: S) = (List.range s).flatMap fun x => (restsC S).map (x :: ·) := rfl
def ext (L : List (List Nat)) (s : Nat) : List (List Nat) := L.flatMap fun p => (List.range s).map fun x => p ++ [x]
theorem fold_ext : ∀ (S : List Nat) (L : List (List Nat)), S.foldl ext L = L.flatMap fun p => (restsC S).map (p ++ ·)
  | [], L => by simp [restsC]
  | s :: S, L => by
    rw [List.foldl_cons, fold_ext S]
    unfold ext
    rw [restsC_cons, List.flatMap_assoc]
    congr 1
    funext p
    rw [List.map_flatMap, List.flatMap_map]
    congr 1
    funext x
    rw [List.map_map]
    congr 1
    funext q
    simp
theorem mem_restsC {s : Nat} {S R : List Nat} : R ∈ restsC (s :: S) ↔ ∃ x, x < s ∧ ∃ q ∈ restsC S, R = x :: q := by
  rw [restsC_cons]
  simp only [List.mem_flatMap, List.mem_map, List.mem_range]
  constructor
  · rintro ⟨x, hx, q, hq, rfl⟩; exact ⟨x, hx, q, hq, rfl⟩
  · rintro ⟨x, hx, q, hq, rfl⟩; exact ⟨x, hx, q, hq, rfl⟩
theorem len_restsC : ∀ {S R : List Nat}, R ∈ restsC S → R.length = S.length
  | [], R, h => by simp [restsC] at h; simp [h]
  | s :: S, R, h => by
    obtain ⟨x, _, q, hq, rfl⟩ := mem_restsC.mp h
    simp [len_restsC hq]
def prod (S : List Nat) : Nat := S.foldr (· * ·) 1
theorem sum_const (c : Nat) : ∀ L : List Nat, (L.map fun _ => c).sum = L.length * c
  | [] => by simp
  | x :: r => by rw [List.map_cons, List.sum_cons, sum_const c r, List.length_cons, Nat.succ_mul]; omega
theorem sum_const' {α : Type} (c : Nat) : ∀ L : List α, (L.map fun _ => c).sum = L.length * c
  | [] => by simp
  | x :: r => by rw [List.map_cons, List.sum_cons, sum_const' c r, List.length_cons, Nat.succ_mul]; omega
theorem restsC_len : ∀ S : List Nat, (restsC S).length = prod S
  | [] => rfl
  | s :: S => by
    rw [restsC_cons, List.length_flatMap]
    simp only [List.length_map, restsC_len S]
    rw [sum_const, List.length_range]; rfl
/-- a class has a number -/
def hit : List Nat → List Nat → Nat → Bool
  | s :: S, r :: R, n => decide (n % s = r) || hit S R n
  | _, _, _ => false
def tr (c : Nat) : List Nat → List Nat → List Nat
  | s :: S, r :: R => (r + c) % s :: tr c S R
  | _, _ => []
def miss (W : Nat) (S R : List Nat) : Nat := (List.range W).countP fun n => !hit S R n
theorem mod_move {n r s c : Nat} (hr : r < s) : ((n + c) % s = (r + c) % s) ↔ n % s = r := by
  constructor
  · intro h
    have h1 : (n + c) % s = (r + c) % s := h
    have h2 : ((n + c + (s - c % s)) % s) = ((r + c + (s - c % s)) % s) := by rw [Nat.add_mod, h1, ← Nat.add_mod]
    have hc := Nat.mod_lt c (show 0 < s by omega)
    have e := Nat.div_add_mod c s
    have e3 : c + (s - c % s) = s * (c / s + 1) := by rw [Nat.mul_add]; omega
    rw [Nat.add_assoc, Nat.add_assoc, e3, Nat.add_mul_mod_self_left, Nat.add_mul_mod_self_left, Nat.mod_eq_of_lt hr] at h2
    exact h2
  · intro h
    rw [Nat.add_mod, h, Nat.add_mod r c, Nat.mod_eq_of_lt hr]
theorem hit_tr (c n : Nat) : ∀ {S R : List Nat}, R ∈ restsC S → hit S (tr c S R) (n + c) = hit S R n
  | [], R, h => by simp [restsC] at h; subst h; rfl
  | s :: S, R, h => by
    obtain ⟨x, hx, q, hq, rfl⟩ := mem_restsC.mp h
    show (decide ((n + c) % s = (x + c) % s) || hit S (tr c S q) (n + c)) = (decide (n % s = x) || hit S q n)
    rw [hit_tr c n hq]
    congr 1
    exact decide_eq_decide.mpr (mod_move hx)
theorem hit_round {W : Nat} (n : Nat) : ∀ {S R : List Nat}, (∀ s ∈ S, s ∣ W) → hit S R (n + W) = hit S R n
  | [], R, h => by cases R <;> rfl
  | s :: S, [], h => rfl
  | s :: S, r :: R, h => by
    show (decide ((n + W) % s = r) || hit S R (n + W)) = (decide (n % s = r) || hit S R n)
    rw [hit_round n (fun x hx => h x (List.mem_cons_of_mem _ hx))]
    obtain ⟨k, rfl⟩ := h s List.mem_cons_self
    rw [Nat.add_mul_mod_self_left]
theorem miss_tr {W : Nat} (c : Nat) {S R : List Nat} (hW : ∀ s ∈ S, s ∣ W) (h : R ∈ restsC S) : miss W S (tr c S R) = miss W S R := by
  unfold miss
  rw [← count_round W c (fun n => !hit S (tr c S R) n) (fun n => by simp only [hit_round n hW])]
  refine List.countP_congr fun n _ => ?_
  rw [hit_tr c n h]
theorem tr_mem (c : Nat) : ∀ {S R : List Nat}, R ∈ restsC S → tr c S R ∈ restsC S
  | [], R, h => by simp [restsC] at h; subst h; simp [tr, restsC]
  | s :: S, R, h => by
    obtain ⟨x, hx, q, hq, rfl⟩ := mem_restsC.mp h
    exact mem_restsC.mpr ⟨(x + c) % s, Nat.mod_lt _ (by omega), _, tr_mem c hq, rfl⟩
theorem count_tr (c : Nat) : ∀ (S : List Nat) (f : List Nat → Bool), (∀ s ∈ S, 0 < s) → (restsC S).countP (fun q => f (tr c S q)) = (restsC S).countP f
  | [], f, _ => by simp [restsC, tr]
  | s :: S, f, h => by
    have hs := h s List.mem_cons_self
    rw [restsC_cons, List.countP_flatMap, List.countP_flatMap]
    have e1 : ∀ x : Nat, ((restsC S).map (x :: ·)).countP (fun q => f (tr c (s :: S) q)) = (restsC S).countP fun q => f ((x + c) % s :: q) := fun x => by
      rw [List.countP_map]
      exact count_tr c S (fun q => f ((x + c) % s :: q)) fun y hy => h y (List.mem_cons_of_mem _ hy)
    have e2 : ∀ x : Nat, ((restsC S).map (x :: ·)).countP f = (restsC S).countP fun q => f (x :: q) := fun x => by
      rw [List.countP_map]; rfl
    have e3 : ((List.range s).map fun x => (restsC S).countP fun q => f (x :: q)) = (List.range s).map fun x => (restsC S).countP fun q => f (x % s :: q) :=
      List.map_congr_left fun x hx => by rw [Nat.mod_eq_of_lt (List.mem_range.mp hx)]
    have e4 := sum_round s c (fun x => (restsC S).countP fun q => f (x % s :: q)) (fun n => by simp only [Nat.add_mod_right])
    show ((List.range s).map fun x => ((restsC S).map (x :: ·)).countP (fun q => f (tr c (s :: S) q))).sum = ((List.range s).map fun x => ((restsC S).map (x :: ·)).countP f).sum
    simp only [e1, e2]
    rw [e3, ← e4]
/-- all rests that a thing unmoved by moving has: as many as of those with the first one 0, times the first step -/
theorem count_all {s : Nat} {S : List Nat} (h : ∀ x ∈ s :: S, 0 < x) (P : List Nat → Bool) (hP : ∀ c R, R ∈ restsC (s :: S) → P (tr c (s :: S) R) = P R) : (restsC (s :: S)).countP P = s * (restsC S).countP fun q => P (0 :: q) := by
  have hs := h s List.mem_cons_self
  rw [restsC_cons, List.countP_flatMap]
  have e : ∀ a, a ∈ List.range s → (List.countP P ∘ fun x => (restsC S).map (x :: ·)) a = (restsC S).countP fun q => P (0 :: q) := fun a ha => by
    have ha' := List.mem_range.mp ha
    show ((restsC S).map (a :: ·)).countP P = _
    rw [List.countP_map, ← count_tr a S (P ∘ fun q => a :: q) fun y hy => h y (List.mem_cons_of_mem _ hy)]
    refine List.countP_congr fun q hq => ?_
    have := hP a (0 :: q) (mem_restsC.mpr ⟨0, hs, q, hq, rfl⟩)
    rw [← this]
    show P (a :: tr a S q) = true ↔ P ((0 + a) % s :: tr a S q) = true
    rw [Nat.zero_add, Nat.mod_eq_of_lt ha']
  rw [List.map_congr_left e, sum_const, List.length_range]
end ME
namespace ME
def maskN (st r : Nat) : Nat → Nat
  | 0 => 0
  | k + 1 => maskN st r k + 2 ^ (r + k * st)
theorem maskN_lt {st r : Nat} (h : 0 < st) : ∀ k, maskN st r k < 2 ^ (r + k * st)
  | 0 => by simp [maskN]; exact Nat.two_pow_pos _
  | k + 1 => by
    have := maskN_lt (r := r) h k
    have e : 2 ^ (r + (k + 1) * st) = 2 ^ (r + k * st) * 2 ^ st := by rw [← Nat.pow_add]; congr 1; rw [Nat.succ_mul]; omega
    have e2 : 2 ≤ 2 ^ st := Nat.le_trans (by decide : 2 ≤ 2 ^ 1) (Nat.pow_le_pow_right (by decide) h)
    have e3 := Nat.mul_le_mul_left (2 ^ (r + k * st)) e2
    show maskN st r k + 2 ^ (r + k * st) < _
    omega
theorem maskN_bit {st r : Nat} (h : 0 < st) : ∀ k i, (maskN st r k).testBit i = decide (∃ m, m < k ∧ i = r + m * st)
  | 0, i => by simp [maskN]
  | k + 1, i => by
    show (maskN st r k + 2 ^ (r + k * st)).testBit i = _
    rw [put_bit (maskN_lt h k), maskN_bit h k, Bool.eq_iff_iff]
    simp only [Bool.or_eq_true, decide_eq_true_eq]
    constructor
    · rintro (⟨m, h1, h2⟩ | h2)
      · exact ⟨m, by omega, h2⟩
      · exact ⟨k, by omega, h2⟩
    · rintro ⟨m, h1, h2⟩
      rcases Nat.lt_or_ge m k with q | q
      · exact .inl ⟨m, q, h2⟩
      · have : m = k := by omega
        subst this; exact .inr h2
/-- all of a class's numbers below a whole -/
def mkW (st r W : Nat) : Nat := maskN st r ((W - r - 1) / st + 1)
theorem mkW_last {st r W : Nat} (h : 0 < st) (hr : r < W) : r + (W - r - 1) / st * st < W := by
  have := Nat.div_mul_le_self (W - r - 1) st
  omega
theorem mkW_bit {st r W : Nat} (h : 0 < st) (hr : r < st) (hW : r < W) (i : Nat) : (mkW st r W).testBit i = (decide (i < W) && decide (i % st = r)) := by
  unfold mkW
  rw [maskN_bit h, Bool.eq_iff_iff]
  simp only [Bool.and_eq_true, decide_eq_true_eq]
  constructor
  · rintro ⟨m, h1, rfl⟩
    refine ⟨?_, ?_⟩
    · have h2 : m ≤ (W - r - 1) / st := by omega
      have h3 := Nat.mul_le_mul_right st h2
      have := mkW_last h hW
      omega
    · rw [Nat.mul_comm, Nat.add_mul_mod_self_left, Nat.mod_eq_of_lt hr]
  · rintro ⟨h1, h2⟩
    have e := Nat.div_add_mod i st
    refine ⟨i / st, ?_, ?_⟩
    · have : i / st * st ≤ W - r - 1 := by rw [Nat.mul_comm]; omega
      have := (Nat.le_div_iff_mul_le h).mpr this
      omega
    · rw [Nat.mul_comm]; omega
theorem lt_of_bits {m W : Nat} (h : ∀ i, W ≤ i → m.testBit i = false) : m < 2 ^ W := by
  apply Nat.lt_pow_two_of_testBit
  exact h
theorem mkW_lt {st r W : Nat} (h : 0 < st) (hr : r < st) (hW : r < W) : mkW st r W < 2 ^ W := lt_of_bits fun i hi => by
  rw [mkW_bit h hr hW]; simp; omega
/-- the numbers that rests have -/
def mkM (W : Nat) : Nat → List Nat → List Nat → Nat
  | a, s :: S, r :: R => mkM W (a ||| mkW s r W) S R
  | a, _, _ => a
theorem mkM_snoc (W : Nat) (s r : Nat) : ∀ (S R : List Nat) (a : Nat), R.length = S.length → mkM W a (S ++ [s]) (R ++ [r]) = mkM W a S R ||| mkW s r W
  | [], R, a, h => by have : R = [] := List.length_eq_zero_iff.mp h; subst this; rfl
  | x :: S, [], a, h => by simp at h
  | x :: S, y :: R, a, h => mkM_snoc W s r S R (a ||| mkW x y W) (by simpa using h)
theorem mkM_bit {W : Nat} (hW : 0 < W) : ∀ {S R : List Nat} (a i : Nat), (∀ s ∈ S, s ∣ W) → R ∈ restsC S → (mkM W a S R).testBit i = (a.testBit i || (decide (i < W) && hit S R i))
  | [], R, a, i, _, h => by simp [restsC] at h; subst h; simp [mkM, hit]
  | s :: S, R, a, i, hd, h => by
    obtain ⟨x, hx, q, hq, rfl⟩ := mem_restsC.mp h
    have hs := Nat.le_of_dvd hW (hd s List.mem_cons_self)
    show (mkM W (a ||| mkW s x W) S q).testBit i = (a.testBit i || (decide (i < W) && (decide (i % s = x) || hit S q i)))
    rw [mkM_bit hW _ i (fun y hy => hd y (List.mem_cons_of_mem _ hy)) hq, Nat.testBit_or, mkW_bit (by omega) hx (by omega)]
    cases a.testBit i <;> cases decide (i < W) <;> simp
theorem mkM_lt {W : Nat} (hW : 0 < W) {S R : List Nat} (hd : ∀ s ∈ S, s ∣ W) (h : R ∈ restsC S) : mkM W 0 S R < 2 ^ W := lt_of_bits fun i hi => by
  rw [mkM_bit hW 0 i hd h]; simp; omega
theorem cnt_mkM {W : Nat} (hW : 0 < W) {S R : List Nat} (hd : ∀ s ∈ S, s ∣ W) (h : R ∈ restsC S) : cnt W (mkM W 0 S R) + miss W S R = W := by
  have e : cnt W (mkM W 0 S R) = (List.range W).countP fun n => hit S R n := List.countP_congr fun i hi => by
    rw [mkM_bit hW 0 i hd h]; simp [List.mem_range.mp hi]
  rw [e]
  have := List.length_eq_countP_add_countP (fun n => hit S R n) (l := List.range W)
  rw [List.length_range] at this
  unfold miss
  have e2 : (List.range W).countP (fun n => !hit S R n) = (List.range W).countP (fun n => decide ¬hit S R n = true) := List.countP_congr fun i _ => by simp
  rw [e2]; omega
/-! ### the least of a row -/
section
variable {α : Type} (lt : α → α → Bool)
def least1 (x : α) (L : List α) : α := L.foldl (fun a y => if lt y a = true then y else a) x
theorem least1_min (ir : ∀ x, lt x x = false) (tr : ∀ x y z, lt x y = true → lt y z = true → lt x z = true) : ∀ (L : List α) (a : α) (P : α → Prop), (∀ z, P z → lt z a = false) → ∀ z, (P z ∨ z ∈ L) → lt z (least1 lt a L) = false
  | [], a, P, h, z, hz => by
    rcases hz with hz | hz
    · exact h z hz
    · cases hz
  | y :: L, a, P, h, z, hz => by
    show lt z (least1 lt (if lt y a = true then y else a) L) = false
    refine least1_min ir tr L _ (fun z => P z ∨ z = y) (fun z hz => ?_) z ?_
    · by_cases c : lt y a = true
      · rw [if_pos c]
        rcases hz with hz | rfl
        · cases q : lt z y with
          | false => rfl
          | true => have := h z hz; rw [tr _ _ _ q c] at this; cases this
        · exact ir _
      · rw [if_neg c]
        rcases hz with hz | rfl
        · exact h z hz
        · simpa using c
    · rcases hz with hz | hz
      · exact .inl (.inl hz)
      · rcases List.mem_cons.mp hz with rfl | hz
        · exact .inl (.inr rfl)
        · exact .inr hz
theorem least1_mem : ∀ (L : List α) (x : α), least1 lt x L = x ∨ least1 lt x L ∈ L
  | [], x => .inl rfl
  | y :: L, x => by
    have ih := least1_mem L (if lt y x = true then y else x)
    have e : least1 lt x (y :: L) = least1 lt (if lt y x = true then y else x) L := rfl
    rw [e]
    by_cases c : lt y x = true
    · rw [if_pos c] at ih ⊢
      rcases ih with q | q
      · exact .inr (List.mem_cons.mpr (.inl q))
      · exact .inr (List.mem_cons.mpr (.inr q))
    · rw [if_neg c] at ih ⊢
      rcases ih with q | q
      · exact .inl q
      · exact .inr (List.mem_cons.mpr (.inr q))
theorem least1_stay {m : α} : ∀ {L : List α}, (∀ y ∈ L, lt y m = false) → least1 lt m L = m
  | [], _ => rfl
  | y :: L, h => by
    show least1 lt (if lt y m = true then y else m) L = m
    rw [if_neg (by rw [h y List.mem_cons_self]; simp)]
    exact least1_stay fun z hz => h z (List.mem_cons_of_mem _ hz)
theorem least1_append (ir : ∀ x, lt x x = false) (tr : ∀ x y z, lt x y = true → lt y z = true → lt x z = true) {a : α} {L0 L1 : List α} (h : ∀ y ∈ L1, ∃ z, (z = a ∨ z ∈ L0) ∧ lt z y = true) : least1 lt a (L0 ++ L1) = least1 lt a L0 := by
  have e : least1 lt a (L0 ++ L1) = least1 lt (least1 lt a L0) L1 := by unfold least1; rw [List.foldl_append]
  rw [e]
  refine least1_stay lt fun y hy => ?_
  obtain ⟨z, hz, hzy⟩ := h y hy
  have hm := least1_min lt ir tr L0 a (fun z => z = a) (fun z hz => by rw [hz]; exact ir _) z hz
  cases q : lt y (least1 lt a L0) with
  | false => rfl
  | true => rw [tr _ _ _ hzy q] at hm; cases hm
end
end ME
set_option Elab.async false
set_option linter.all false
set_option maxRecDepth 100000
set_option maxHeartbeats 4000000
/-! Steps and their rests. -/
namespace PL
open PySem PySem.Spec PyProof.Rows L2
abbrev nD (xs : List Nat) : D := .tup (xs.map fun (n : Nat) => D.int (n : Int))
/-- steps -/
structure Steps (S : List Nat) : Prop where
  one : ∀ s ∈ S, 1 ≤ s ∧ s ≤ 12
  pos : 1 ≤ S.length
  le : S.length ≤ 5
def whole (S : List Nat) : Nat := (lcmL (S.map fun (n : Nat) => (n : Int))).toNat
theorem Steps.ints {S : List Nat} (h : Steps S) : ∀ x ∈ S.map (fun (n : Nat) => (n : Int)), 1 ≤ x ∧ x ≤ 12 := fun x hx => by
  obtain ⟨n, hn, rfl⟩ := List.mem_map.mp hx
  have := h.one n hn
  omega
theorem whole_eq {S : List Nat} (h : Steps S) : ((whole S : Nat) : Int) = lcmL (S.map fun (n : Nat) => (n : Int)) := by
  have := lcmL_pos fun x hx => (by have := h.ints x hx; omega : 0 < x)
  unfold whole
  omega
theorem whole_pos {S : List Nat} (h : Steps S) : 0 < whole S := by
  have := lcmL_pos fun x hx => (by have := h.ints x hx; omega : 0 < x)
  unfold whole
  omega
theorem whole_le {S : List Nat} (h : Steps S) : whole S ≤ 27720 := by
  have := lcmL_le h.ints
  unfold whole
  omega
theorem whole_dvd {S : List Nat} (h : Steps S) : ∀ s ∈ S, s ∣ whole S := fun s hs => by
  have := dvd_lcmL (ss := S.map fun (n : Nat) => (n : Int)) (List.mem_map.mpr ⟨s, hs, rfl⟩)
  rw [← whole_eq h] at this
  exact Int.natCast_dvd_natCast.mp this
/-- the least common multiple of a list or a tuple -/
theorem F_multiple_S {ss : List Int} (h : ∀ x ∈ ss, 1 ≤ x ∧ x ≤ 12) : F_multiple [.tup (ss.map .int)] = some (.ok (.int (lcmL ss))) := by
  refine fnD_wp rfl ?_
  unfold B_multiple env0
  simp
  refine wp_forN D.int (fun k ρ _ => ∃ (f : Int) (a : Option Sl), ρ = [some (.im (.tup (ss.map .int))), some (.im (.int f)), a] ∧ 0 < f ∧ f ∣ 27720 ∧ (ss.drop k).foldl (fun a b => (Int.lcm a b : Int)) f = lcmL ss) (fun k hk ρ s hJ => ?_) (fun ρ s hJ => ?_) ⟨1, _, rfl, by decide, by decide, rfl⟩
  · obtain ⟨f, a, rfl, h1, h2, h3⟩ := hJ
    have hx := h _ (List.getElem_mem hk)
    have hf : f ≤ 27720 := Int.le_of_dvd (by decide) h2
    simp [F_divisor_eq (show 0 ≤ f by omega) (show (0 : Int) ≤ ss[k] by omega) (show ss[k] < 64 by omega)]
    have hg : 0 < (Int.gcd f ss[k] : Int) := by
      have : 0 < Int.gcd f ss[k] := Int.gcd_pos_of_ne_zero_left ss[k] (by omega)
      omega
    have hgle : (Int.gcd f ss[k] : Int) ≤ ss[k] := Int.gcd_le_right _ (by omega)
    have hq : f * ss[k] / (Int.gcd f ss[k] : Int) = (Int.lcm f ss[k] : Int) := by
      have e := Int.gcd_mul_lcm f ss[k]
      have e2 : (Int.gcd f ss[k] : Int) * (Int.lcm f ss[k] : Int) = f * ss[k] := by
        have : ((Int.gcd f ss[k] * Int.lcm f ss[k] : Nat) : Int) = ((f.natAbs * ss[k].natAbs : Nat) : Int) := by rw [e]
        rw [Int.natCast_mul, Int.natCast_mul, Int.natAbs_of_nonneg (by omega), Int.natAbs_of_nonneg (by omega)] at this
        exact this
      rw [← e2, Int.mul_ediv_cancel_left _ (by omega)]
    refine ⟨by left; omega, ⟨by left; omega, by omega⟩, ?_⟩
    rw [hq]
    refine ⟨?_, ?_, ?_⟩
    · have := Int.lcm_pos (m := f) (n := ss[k]) (by omega) (by omega)
      omega
    · refine Int.coe_lcm_dvd h2 ?_
      have := hx
      generalize ss[k] = x at hx ⊢
      have : x = 1 ∨ x = 2 ∨ x = 3 ∨ x = 4 ∨ x = 5 ∨ x = 6 ∨ x = 7 ∨ x = 8 ∨ x = 9 ∨ x = 10 ∨ x = 11 ∨ x = 12 := by omega
      rcases this with rfl | rfl | rfl | rfl | rfl | rfl | rfl | rfl | rfl | rfl | rfl | rfl <;> decide
    · rw [← h3, List.drop_eq_getElem_cons hk, List.foldl_cons]
  · obtain ⟨f, a, rfl, h1, h2, h3⟩ := hJ
    simp
    rw [List.drop_length] at h3
    exact h3
/-- a check of steps -/
theorem rcheck_ok {S : List Nat} (h : Steps S) : F_rcheck_steps [nD S] = some (.ok .non) := by
  have h1 := h.pos
  have h2 := h.le
  refine fnD_wp rfl ?_
  unfold B_rcheck_steps env0
  simp [h1, h2, -List.map_map]
  refine ⟨by omega, by omega, ?_⟩
  rw [enumL_map]
  obtain ⟨J, hJ⟩ : ∃ J : Nat → Env → Row → Prop, ∀ k ρ s, J k ρ s ↔ ∃ a b, ρ = [some (.im (nD S)), a, b] := ⟨_, fun _ _ _ => Iff.rfl⟩
  refine wp_forN (fun (q : Nat × Nat) => D.tup [.int (q.2 : Nat), .int (q.1 : Nat)]) J (fun k hk ρ s hh => ?_) (fun ρ s hh => ?_) ((hJ ..).mpr ⟨_, _, rfl⟩)
  · obtain ⟨a, b, rfl⟩ := (hJ ..).mp hh
    have hk' : k < S.length := by simpa using hk
    have h3 := h.one _ (List.getElem_mem hk')
    have e1 : isFrom (.int (S[k] : Int)) 1 12 = true := by simp [isFrom]; omega
    simp only [List.getElem_zipIdx, Nat.zero_add]
    simp [F_is_from_eq (.int (S[k] : Int)) _ _ rfl, e1]
    exact (hJ ..).mpr ⟨_, _, rfl⟩
  · obtain ⟨a, b, rfl⟩ := (hJ ..).mp hh
    simp
theorem rcheck_none {d : D} (hd : notTup d = true ∨ ∃ xs, d = .tup xs ∧ (xs.length = 0 ∨ 5 < xs.length)) : F_rcheck_steps [d] = some (.er ⟨"BadSteps", [("index", .non)]⟩) := by
  refine fnD_wp rfl ?_
  unfold B_rcheck_steps env0
  rcases hd with hd | ⟨xs, rfl, hd⟩
  · simp [isT_not hd]
  · have : ¬ (1 ≤ (xs.length : Int) ∧ (xs.length : Int) ≤ 5) := by omega
    simp
    rcases hd with q | q
    · simp [q]
    · have q1 : 0 < xs.length := by omega
      exact .inr ⟨by omega, .inl (by omega)⟩
theorem rcheck_at {xs : List D} (h1 : 1 ≤ xs.length) (h5 : xs.length ≤ 5) {i : Nat} (hi : i < xs.length) (hg : ∀ j (hj : j < xs.length), j < i → notIns xs[j] = true ∧ isFrom xs[j] 1 12 = true) (hn : notIns xs[i] = true) (hb : isFrom xs[i] 1 12 = false) : F_rcheck_steps [.tup xs] = some (.er ⟨"BadSteps", [("index", .int (i : Int))]⟩) := by
  refine fnD_wp rfl ?_
  unfold B_rcheck_steps env0
  have ex : xs = xs.map id := by simp
  have : 1 ≤ (xs.length : Int) := by omega
  have : (xs.length : Int) ≤ 5 := by omega
  simp
  refine ⟨by omega, by omega, ?_⟩
  rw [show enumL xs = enumL (xs.map id) by rw [← ex], enumL_map]
  obtain ⟨J, hJ⟩ : ∃ J : Nat → Env → Row → Prop, ∀ k ρ s, J k ρ s ↔ k ≤ i ∧ ∃ a b, ρ = [some (.im (.tup xs)), a, b] := ⟨_, fun _ _ _ => Iff.rfl⟩
  refine wp_forN (fun (q : D × Nat) => D.tup [.int (q.2 : Nat), id q.1]) J (fun k hk ρ s hh => ?_) (fun ρ s hh => ?_) ((hJ ..).mpr ⟨Nat.zero_le _, _, _, rfl⟩)
  · obtain ⟨hki, a, b, rfl⟩ := (hJ ..).mp hh
    have hk' : k < xs.length := by simpa using hk
    simp only [List.getElem_zipIdx, Nat.zero_add]
    by_cases c : k = i
    · subst c
      simp [F_is_from_eq xs[k] _ _ hn, hb]
    · obtain ⟨g1, g2⟩ := hg k hk' (by omega)
      simp [F_is_from_eq xs[k] _ _ g1, g2]
      exact (hJ ..).mpr ⟨by omega, _, _, rfl⟩
  · obtain ⟨hki, a, b, rfl⟩ := (hJ ..).mp hh
    simp at hki
    omega
theorem bitOr_nn' (a b : Nat) : Builtin.bitOr (a : Int) (b : Int) = ((a ||| b : Nat) : Int) := by
  unfold Builtin.bitOr
  rw [bitAnd_nn (by unfold Builtin.bitNot; omega) (by unfold Builtin.bitNot; omega)]
  unfold Builtin.bitNot
  have e1 : (-(a : Int) - 1 : Int) = -((a : Int) + 1) := by omega
  have ea : (-(-(a : Int) - 1) - 1).toNat = a := by omega
  have eb : (-(-(b : Int) - 1) - 1).toNat = b := by omega
  rw [ea, eb]
  omega
theorem F_marks_of_eq {st r W : Nat} (h1 : 1 ≤ st) (h2 : st ≤ 12) (hr : r < st) (hW : r < W) (hW2 : W ≤ 27720) : F_marks_of [.int (st : Int), .int (r : Int), .int (W : Int)] = some (.ok (.int (ME.mkW st r W : Nat))) := by
  refine fnD_wp rfl ?_
  unfold B_marks_of env0
  simp
  have hd := Nat.div_le_self (W - r - 1) st
  have es : Builtin.Range.rangeSize (r : Int) (W : Int) (st : Int) = (((W - r - 1) / st + 1 : Nat) : Int) := by
    unfold Builtin.Range.rangeSize
    rw [if_pos (by omega), if_pos (by omega)]
    rw [Int.natCast_add, Int.natCast_ediv]
    congr 2
    omega
  obtain ⟨n, hn⟩ : ∃ n, (W - r - 1) / st + 1 = n := ⟨_, rfl⟩
  have ei : i_range3 (e_var 1) (e_var 2) (e_var 0) [some (Sl.im (D.int ↑st)), some (Sl.im (D.int ↑r)), some (Sl.im (D.int ↑W)), some (Sl.im (D.int 0)), none] row0 = some (.ok (rangeC (r : Int) (st : Int) n), row0) := by
    show (if _ then _ else _) = _
    rw [es, hn, if_pos]
    · rfl
    · refine ⟨⟨by omega, by omega, ?_⟩, by omega, ?_⟩
      · unfold Builtin.Range.small
        rw [es, hn, if_pos (show (st : Int) > 0 by omega)]
        unfold Builtin.Range.rangeFitsLong
        simp only [Bool.and_eq_true, Bool.or_eq_true, decide_eq_true_eq, beq_iff_eq]
        refine ⟨⟨⟨⟨by omega, by omega⟩, by omega, by omega⟩, by omega, by omega⟩, .inr ⟨by omega, by omega⟩⟩
      · rw [Int.toNat_natCast]; unfold sizeLine; omega
  rw [ei, wp_some, ek_ok]
  unfold rangeC
  obtain ⟨J, hJ⟩ : ∃ J : Nat → Env → Row → Prop, ∀ k ρ s, J k ρ s ↔ ∃ a, ρ = [some (Sl.im (D.int ↑st)), some (Sl.im (D.int ↑r)), some (Sl.im (D.int ↑W)), some (Sl.im (D.int (ME.maskN st r k : Nat))), a] := ⟨_, fun _ _ _ => Iff.rfl⟩
  refine wp_forN (fun (m : Nat) => D.int ((r : Int) + m * st)) J (fun k hk ρ s hh => ?_) (fun ρ s hh => ?_) ((hJ ..).mpr ⟨_, rfl⟩)
  · obtain ⟨a, rfl⟩ := (hJ ..).mp hh
    have hk' : k < n := by simpa using hk
    have hk2 : k ≤ (W - r - 1) / st := by omega
    have := Nat.mul_le_mul_right st hk2
    have := ME.mkW_last (show 0 < st by omega) hW
    have e1 : shlD (.int 1) (.int ((r : Int) + (k : Int) * (st : Int))) = some (.int ((2 ^ (r + k * st) : Nat) : Int)) := by
      have : (r : Int) + (k : Int) * (st : Int) = ((r + k * st : Nat) : Int) := by simp
      rw [this]
      show (if _ then _ else _) = _
      rw [if_pos ⟨by omega, by omega, by decide⟩, Int.toNat_natCast, Int.one_mul]
      simp
    simp only [List.getElem_range]
    simp only [g_name_succ, g_name_one, g_name_zero, Option.map_some]
    simp [e1, addI]
    exact (hJ ..).mpr ⟨some (.im (.int ((r : Int) + k * st))), by simp [ME.maskN]⟩
  · obtain ⟨a, rfl⟩ := (hJ ..).mp hh
    simp [ME.mkW, hn]
theorem F_figures_of_eq {W m : Nat} (hW : W ≤ 27720) (hm : m < 2 ^ W) : F_figures_of [.int (m : Int)] = some (.ok (.int (ME.cnt W m : Nat))) := by
  refine fnD_wp rfl ?_
  unfold B_figures_of env0
  simp
  have hc := ME.cnt_le W m
  refine wp_while (fun k ρ _ => ∃ a b : Nat, ρ = [some (.im (.int (a : Int))), some (.im (.int (b : Int)))] ∧ a < 2 ^ W ∧ b + ME.cnt W a = ME.cnt W m ∧ ME.cnt W a ≤ k) ?_ 100000 99999 _ _ (by decide) ⟨m, 0, rfl, hm, by omega, by omega⟩
  rintro k ρ s ⟨a, b, rfl, h1, h2, h3⟩
  simp
  by_cases hp : 0 < a
  · right
    have hl := ME.cnt_low W a hp h1
    refine ⟨by omega, k - 1, by omega, ?_⟩
    have e : Builtin.bitAnd (a : Int) ((a : Int) - 1) = ((a &&& (a - 1) : Nat) : Int) := by
      rw [show (a : Int) - 1 = ((a - 1 : Nat) : Int) by omega, bitAnd_pp (by omega) (by omega)]; simp
    simp [andD, e]
    refine ⟨_, _, ⟨rfl, (show (b : Int) + 1 = ((b + 1 : Nat) : Int) by omega)⟩, ME.and_lt h1, by omega, by omega⟩
  · left
    have : a = 0 := by omega
    subst this
    rw [ME.cnt_zero] at h2
    exact ⟨by omega, by omega⟩
theorem prod_pos : ∀ {S : List Nat}, (∀ s ∈ S, 1 ≤ s) → 1 ≤ ME.prod S
  | [], _ => Nat.le_refl _
  | s :: S, h => Nat.mul_pos (h s List.mem_cons_self) (prod_pos fun x hx => h x (List.mem_cons_of_mem _ hx))
theorem prod_app : ∀ (A B : List Nat), ME.prod (A ++ B) = ME.prod A * ME.prod B
  | [], B => by simp [ME.prod]
  | a :: A, B => by
    show a * ME.prod (A ++ B) = a * ME.prod A * ME.prod B
    rw [prod_app A B, Nat.mul_assoc]
theorem prod_take {S : List Nat} (h : ∀ s ∈ S, 1 ≤ s) (k : Nat) : ME.prod (S.take k) ≤ ME.prod S := by
  have e := prod_app (S.take k) (S.drop k)
  rw [List.take_append_drop] at e
  have := prod_pos (S := S.drop k) fun x hx => h x (List.mem_of_mem_drop hx)
  rw [e]
  exact Nat.le_mul_of_pos_right _ this
/-- the rests so far, the first one 0 -/
def rest0 (S : List Nat) : List (List Nat) := (ME.restsC S).map fun q => 0 :: q
theorem rest0_fold (S : List Nat) : S.foldl ME.ext [[0]] = rest0 S := by
  rw [ME.fold_ext]; simp [rest0]
theorem rest0_snoc (S : List Nat) (s : Nat) : rest0 (S ++ [s]) = ME.ext (rest0 S) s := by
  rw [← rest0_fold, ← rest0_fold, List.foldl_append]; rfl
theorem rest0_len (S : List Nat) : (rest0 S).length = ME.prod S := by unfold rest0; rw [List.length_map, ME.restsC_len]
theorem rest0_mem {S R : List Nat} (h : R ∈ rest0 S) {s0 : Nat} (h0 : 0 < s0) : R ∈ ME.restsC (s0 :: S) := by
  obtain ⟨q, hq, rfl⟩ := List.mem_map.mp h
  exact ME.mem_restsC.mpr ⟨0, h0, q, hq, rfl⟩
abbrev rowM (W : Nat) (S R : List Nat) : D := .tup [.int ((ME.mkM W 0 S R : Nat) : Int), nD R]
abbrev rowC (W : Nat) (S R : List Nat) : D := .tup [.int (((W - ME.miss W S R : Nat)) : Int), nD R]
theorem F_covers_of_eq {s0 : Nat} {S : List Nat} (h : Steps (s0 :: S)) (hp : ME.prod (s0 :: S) ≤ 20000) : F_covers_of [nD (s0 :: S)] = some (.ok (.lst ((rest0 S).map (rowC (whole (s0 :: S)) (s0 :: S))))) := by
  obtain ⟨W, hW⟩ : ∃ W, whole (s0 :: S) = W := ⟨_, rfl⟩
  have w0 := whole_pos h
  have w1 := whole_le h
  have wd := whole_dvd h
  have we := whole_eq h
  have em := F_multiple_S h.ints
  rw [← we] at em
  rw [hW] at w0 w1 wd em ⊢
  have h0 := h.one s0 List.mem_cons_self
  have hS : ∀ s ∈ S, 1 ≤ s ∧ s ≤ 12 := fun s hs => h.one s (List.mem_cons_of_mem _ hs)
  have hpr : ME.prod S ≤ 20000 := by
    have : ME.prod (s0 :: S) = s0 * ME.prod S := rfl
    have h2 := Nat.le_mul_of_pos_left (ME.prod S) (show 0 < s0 by omega)
    omega
  have em' : F_multiple [nD (s0 :: S)] = some (.ok (.int (W : Int))) := by rw [← em, List.map_map]; rfl
  have s0W := Nat.le_of_dvd w0 (wd s0 List.mem_cons_self)
  have em0 : F_marks_of [.int (s0 : Int), .int 0, .int (W : Int)] = _ := F_marks_of_eq (r := 0) h0.1 h0.2 (by omega) w0 w1
  have d1 : slD (nD (s0 :: S)) (some 1) none = some (nD S) := by
    rw [show (1 : Int) = ((1 : Nat) : Int) from rfl, slD_dropT (by simp)]; rfl
  refine fnD_wp rfl ?_
  unfold B_covers_of env0
  simp only [nD, List.map_cons] at em' d1 ⊢
  simp [em', em0, d1, -List.map_map]
  obtain ⟨J, hJ⟩ : ∃ J : Nat → Env → Row → Prop, ∀ k ρ s, J k ρ s ↔ ∃ a3 a4 a5 a6 a7, ρ = [some (.im (nD (s0 :: S))), some (.im (.int (W : Int))), some (.im (.lst ((rest0 (S.take k)).map (rowM W (s0 :: S.take k))))), a3, a4, a5, a6, a7] := ⟨_, fun _ _ _ => Iff.rfl⟩
  refine wp_forN (fun (n : Nat) => D.int (n : Int)) J (fun k hk ρ s hh => ?_) (fun ρ s hh => ?_) ((hJ ..).mpr ⟨none, none, none, none, none, by simp [rest0, ME.restsC, ME.mkM]⟩)
  · obtain ⟨a3, a4, a5, a6, a7, rfl⟩ := (hJ ..).mp hh
    have hsk := hS _ (List.getElem_mem hk)
    have hdk := wd S[k] (List.mem_cons_of_mem _ (List.getElem_mem hk))
    have hle := Nat.le_of_dvd w0 hdk
    obtain ⟨s, hs⟩ : ∃ s, S[k] = s := ⟨_, rfl⟩
    rw [hs] at hsk hdk hle ⊢
    have et : S.take (k + 1) = S.take k ++ [s] := by rw [← hs]; exact (List.take_append_getElem hk).symm
    simp [-List.map_map]
    refine ⟨by omega, ?_⟩
    refine lc_range (fun _ => true) (fun r => .int (ME.mkW s r W : Nat)) (fun r hr => ?_) ?_
    · simp [t_yes, F_marks_of_eq hsk.1 hsk.2 hr (by omega) w1]
    · rw [List.filter_eq_self.mpr (fun _ _ => rfl)]
      have hw1 : ∀ x, x < s → atI ((List.range s).map fun (r : Nat) => D.int (ME.mkW s r W : Nat)) (x : Int) = some (.int (ME.mkW s x W : Nat)) := fun x hx => by
        rw [atI_nat (by simpa using hx)]; simp; exact ⟨x, List.getElem?_range hx, rfl⟩
      refine lc2_map (rowM W (s0 :: S.take k)) (fun R => (List.range s).map fun (x : Nat) => rowM W (s0 :: S.take (k + 1)) (R ++ [x])) (fun R hR => ?_) ?_
      · have hl : R.length = (s0 :: S.take k).length := ME.len_restsC (rest0_mem hR (show 0 < s0 by omega))
        refine ⟨_, rangeL 0 s, rfl, rfl, ?_, ?_⟩
        · exact eq_of_wp (by simp; omega)
        · refine eq_of_wp ?_
          refine lc_range (fun _ => true) (fun x => rowM W (s0 :: S.take (k + 1)) (R ++ [x])) (fun x hx => ?_) ?_
          · have e3 := ME.mkM_snoc W s x (s0 :: S.take k) R 0 hl
            simp [t_yes, hw1 x hx, -List.map_map]
            have e4 : orD (.int ((ME.mkM W 0 (s0 :: S.take k) R : Nat) : Int)) (.int ((ME.mkW s x W : Nat) : Int)) = some (.int ((ME.mkM W 0 (s0 :: S.take (k + 1)) (R ++ [x]) : Nat) : Int)) := by
              show some (D.int (Builtin.bitOr _ _)) = _
              rw [bitOr_nn', et, ← List.cons_append, e3]
            rw [e4, some?_some]
            have := h.le
            simp at this
            rw [List.length_cons, List.length_take] at hl
            exact ⟨by omega, rfl⟩
          · rw [List.filter_eq_self.mpr (fun _ _ => rfl)]; exact ⟨rfl, rfl⟩
      · have ec : (rest0 (S.take k)).flatMap (fun R => (List.range s).map fun (x : Nat) => rowM W (s0 :: S.take (k + 1)) (R ++ [x])) = (rest0 (S.take (k + 1))).map (rowM W (s0 :: S.take (k + 1))) := by
          rw [et, rest0_snoc]; unfold ME.ext; rw [List.map_flatMap]; simp only [List.map_map]; rfl
        rw [ec]
        have := prod_take (fun x hx => (hS x hx).1) (k + 1)
        exact ⟨by rw [List.length_map, rest0_len]; omega, (hJ ..).mpr ⟨_, _, _, _, _, rfl⟩⟩
  · obtain ⟨a3, a4, a5, a6, a7, rfl⟩ := (hJ ..).mp hh
    rw [List.take_length]
    simp [-List.map_map]
    refine lc_all (rowM W (s0 :: S)) (rowC W (s0 :: S)) (fun R hR => ?_) rfl
    have hR' := rest0_mem hR (show 0 < s0 by omega)
    have hm := ME.mkM_lt w0 wd hR'
    have hc := ME.cnt_mkM w0 wd hR'
    have : ME.cnt W (ME.mkM W 0 (s0 :: S) R) = W - ME.miss W (s0 :: S) R := by omega
    simp [F_figures_of_eq w1 hm, this]
theorem prodL : ∀ (S : List Nat) (a : Int), S.foldl (fun (x : Int) (n : Nat) => x * (n : Int)) a = a * (ME.prod S : Nat)
  | [], a => by simp [ME.prod]
  | s :: S, a => by
    rw [List.foldl_cons, prodL S]
    show a * (s : Int) * _ = a * ((s * ME.prod S : Nat) : Int)
    rw [Int.natCast_mul, Int.mul_assoc]
theorem F_check_few_eq {S : List Nat} (h : Steps S) : F_check_few [nD S] = some (if ME.prod S ≤ 20000 then .ok .non else .er ⟨"TooMany", []⟩) := by
  refine fnD_wp rfl ?_
  unfold B_check_few env0
  simp [rcheck_ok h, -List.map_map]
  obtain ⟨J, hJ⟩ : ∃ J : Nat → Env → Row → Prop, ∀ k ρ s, J k ρ s ↔ ∃ a, ρ = [some (.im (nD S)), some (.im (.int (ME.prod (S.take k) : Nat))), a] := ⟨_, fun _ _ _ => Iff.rfl⟩
  refine wp_forN (fun (n : Nat) => D.int (n : Int)) J (fun k hk ρ s hh => ?_) (fun ρ s hh => ?_) ((hJ ..).mpr ⟨none, by simp [ME.prod]⟩)
  · obtain ⟨a, rfl⟩ := (hJ ..).mp hh
    simp [-List.map_map]
    have := h.one _ (List.getElem_mem hk)
    refine ⟨.inr ⟨by omega, by omega⟩, (hJ ..).mpr ⟨some (.im (.int (S[k] : Int))), ?_⟩⟩
    rw [← List.take_append_getElem hk, prod_app]
    simp [ME.prod]
  · obtain ⟨a, rfl⟩ := (hJ ..).mp hh
    rw [List.take_length]
    simp [-List.map_map]
    by_cases c : ME.prod S ≤ 20000
    · simp [c]; omega
    · simp [c]; omega
theorem few_bad {d : D} {x : D} (h : F_rcheck_steps [d] = some (.er ⟨"BadSteps", [("index", x)]⟩)) : F_check_few [d] = some (.er ⟨"BadSteps", [("index", x)]⟩) := by
  refine fnD_wp rfl ?_
  unfold B_check_few env0
  simp [h]
theorem best_er {d : D} {e : Exn} (h : F_check_few [d] = some (.er e)) : F_best_cover [d] = some (.er e) := by
  refine fnD_wp rfl ?_
  unfold B_best_cover env0
  simp [h]
theorem many_er {d : D} {e : Exn} (h : F_check_few [d] = some (.er e)) : F_many_covers [d] = some (.er e) := by
  refine fnD_wp rfl ?_
  unfold B_many_covers env0
  simp [h]
/-- how many are missed, and the rests -/
abbrev mD (W : Nat) (S R : List Nat) : D := .tup [.int (ME.miss W S R : Nat), nD R]
theorem F_best_cover_eq {s0 : Nat} {S : List Nat} (h : Steps (s0 :: S)) (hp : ME.prod (s0 :: S) ≤ 20000) {d : D} (hd : minA [.lst ((rest0 S).map (mD (whole (s0 :: S)) (s0 :: S)))] = some d) : F_best_cover [nD (s0 :: S)] = some (.ok d) := by
  obtain ⟨W, hW⟩ : ∃ W, whole (s0 :: S) = W := ⟨_, rfl⟩
  have em := F_multiple_S h.ints
  rw [← whole_eq h] at em
  have em' : F_multiple [nD (s0 :: S)] = some (.ok (.int (whole (s0 :: S) : Int))) := by rw [← em, List.map_map]; rfl
  have hc := F_covers_of_eq h hp
  rw [hW] at hd em' hc
  have ef : F_check_few [nD (s0 :: S)] = some (.ok .non) := by rw [F_check_few_eq h, if_pos hp]
  refine fnD_wp rfl ?_
  unfold B_best_cover env0
  simp only [nD, List.map_cons] at em' hc ef ⊢
  simp [ef, em', hc, -List.map_map]
  refine lc_all (rowC W (s0 :: S)) (mD W (s0 :: S)) (fun R hR => ?_) ?_
  · have hR' := rest0_mem hR (show 0 < s0 by have := h.one s0 List.mem_cons_self; omega)
    have hm := ME.cnt_mkM (hW ▸ whole_pos h) (hW ▸ whole_dvd h) hR'
    simp
    omega
  · simp [hd, -List.map_map]
theorem F_many_covers_eq {s0 : Nat} {S : List Nat} (h : Steps (s0 :: S)) (hp : ME.prod (s0 :: S) ≤ 20000) : F_many_covers [nD (s0 :: S)] = some (.ok (.int ((s0 * (rest0 S).countP fun R => decide (ME.miss (whole (s0 :: S)) (s0 :: S) R = 0) : Nat) : Int))) := by
  obtain ⟨W, hW⟩ : ∃ W, whole (s0 :: S) = W := ⟨_, rfl⟩
  have em := F_multiple_S h.ints
  rw [← whole_eq h] at em
  have em' : F_multiple [nD (s0 :: S)] = some (.ok (.int (whole (s0 :: S) : Int))) := by rw [← em, List.map_map]; rfl
  have hc := F_covers_of_eq h hp
  have w0 := whole_pos h
  rw [hW] at em' hc w0 ⊢
  have ef : F_check_few [nD (s0 :: S)] = some (.ok .non) := by rw [F_check_few_eq h, if_pos hp]
  refine fnD_wp rfl ?_
  unfold B_many_covers env0
  simp only [nD, List.map_cons] at em' hc ef ⊢
  simp [ef, em', hc, -List.map_map]
  refine lc_map (rowC W (s0 :: S)) (fun R => decide (ME.miss W (s0 :: S) R = 0)) nD (fun R hR => ?_) ?_
  · have hR' := rest0_mem hR (show 0 < s0 by have := h.one s0 List.mem_cons_self; omega)
    have hm := ME.cnt_mkM w0 (hW ▸ whole_dvd h) hR'
    simp
    omega
  · have := h.one s0 List.mem_cons_self
    rw [List.length_map, List.countP_eq_length_filter]
    exact ⟨.inl ⟨by omega, by omega⟩, rfl⟩
end PL
set_option Elab.async false
set_option linter.all false
set_option maxRecDepth 100000
set_option maxHeartbeats 4000000
/-! All rests, told by a law; the least of a row. -/
namespace PL
open PySem PySem.Spec PyProof.Rows L2
theorem dLt_self (d : D) : dLt d d = false := lex_irrefl _
theorem dLt_trans (a b c : D) : dLt a b = true → dLt b c = true → dLt a c = true := lex_trans _ _ _
theorem leastD_eq (x : D) (r : List D) : leastD (x :: r) = some (ME.least1 dLt x r) := rfl
theorem minA_app {x : D} {A B : List D} (h0 : srtOk (x :: A) = true) (h1 : srtOk (x :: (A ++ B)) = true) (h : ∀ y ∈ B, ∃ z, (z = x ∨ z ∈ A) ∧ dLt z y = true) : minA [.lst (x :: (A ++ B))] = minA [.lst (x :: A)] := by
  unfold minA
  simp only [h0, h1, if_true, leastD_eq, ME.least1_append dLt dLt_self dLt_trans h]
theorem nD_tD (xs : List Nat) : nD xs = tD (xs.map fun (n : Nat) => (n : Int)) := by rw [nD, tD, List.map_map]; rfl
theorem py_pair (m : Int) (xs : List Nat) : py (.tup [.int m, nD xs]) = .tuple [.int m, .tuple ((xs.map fun (n : Nat) => (n : Int)).map .int)] := by
  rw [nD_tD, py, pys, pys, pys, py_tD, py]
theorem srtOk_mD {W : Nat} {S : List Nat} (L : List (List Nat)) : srtOk (L.map (mD W S)) = true := by
  unfold srtOk allAlikeB
  simp only [Bool.and_eq_true, List.all_eq_true, decide_eq_true_eq, flats_eq]
  refine ⟨fun x hx => ?_, fun x hx y hy => ?_, fun x hx => ?_, fun x hx => ?_⟩
  · obtain ⟨a, _, rfl⟩ := List.mem_map.mp hx
    simp [flat, flats, flats_eq]
  · obtain ⟨a, _, rfl⟩ := List.mem_map.mp hx
    obtain ⟨b, _, rfl⟩ := List.mem_map.mp hy
    rw [py_pair, py_pair]
    simp only [PySem.W.alike, PySem.W.alikeAll, Bool.true_and, Bool.and_true]
    exact PySem.W.alike_ints _ _
  · obtain ⟨a, _, rfl⟩ := List.mem_map.mp hx; rfl
  · obtain ⟨a, _, rfl⟩ := List.mem_map.mp hx
    rw [py_pair]
    simp only [PyData.depth, PyData.depthAll, PySem.W.depth_ints]
    decide
theorem dLt_pair (m : Int) {a b : Nat} (h : a < b) (p q : List Nat) : dLt (.tup [.int m, nD (a :: p)]) (.tup [.int m, nD (b :: q)]) = true := by
  unfold dLt
  rw [py_pair, py_pair, PySem.W.dataLt_pair (by rw [PySem.W.alike]) (by simp only [PySem.W.alike]; exact PySem.W.alike_ints _ _)]
  have e1 : PyData.eqv (.int m) (.int m) = true := by simp [PyData.eqv]
  have e2 : PyData.eqv (.tuple (((a :: p).map fun (n : Nat) => (n : Int)).map .int)) (.tuple (((b :: q).map fun (n : Nat) => (n : Int)).map .int)) = false := by
    simp [PyData.eqv, PyData.eqvAll]; omega
  rw [if_pos e1, e2, PySem.W.dataLt_tuple]
  have e := PySem.W.dataLt_ints ((a :: p).map fun (n : Nat) => (n : Int)) ((b :: q).map fun (n : Nat) => (n : Int))
  unfold PySem.W.rowLt at e
  rw [e]
  simp [List.cons_lt_cons_iff]
  omega
instance : Shal (Int × Tp Int) := ⟨by decide⟩
theorem minA_mem {L : List (List Nat)} {W : Nat} {S : List Nat} (h : L ≠ []) : ∃ R ∈ L, minA [.lst (L.map (mD W S))] = some (mD W S R) := by
  cases L with
  | nil => exact absurd rfl h
  | cons x r =>
    have hs := srtOk_mD (W := W) (S := S) (x :: r)
    have e : minA [.lst ((x :: r).map (mD W S))] = some (ME.least1 dLt (mD W S x) (r.map (mD W S))) := by
      unfold minA
      simp only [hs, if_true]
      rfl
    rw [e]
    rcases ME.least1_mem dLt (r.map (mD W S)) (mD W S x) with q | q
    · exact ⟨x, List.mem_cons_self, by rw [q]⟩
    · obtain ⟨R, hR, e2⟩ := List.mem_map.mp q
      exact ⟨R, List.mem_cons_of_mem _ hR, by rw [e2]⟩
theorem neD_mD {W : Nat} {S R : List Nat} : neD (mD W S R) (mD W S R) = some (.bl false) := by
  have := neD_cod_t (α := Int × Tp Int) (x := ((ME.miss W S R : Nat), ⟨R.map fun (n : Nat) => (n : Int)⟩)) rfl
  rw [show Cod.d (α := Int × Tp Int) ((ME.miss W S R : Nat), ⟨R.map fun (n : Nat) => (n : Int)⟩) = .tup [.int (ME.miss W S R : Nat), .tup ((R.map fun (n : Nat) => (n : Int)).map .int)] from rfl, List.map_map] at this
  exact this
/-- the least of all rests is the least of those with the first one 0 -/
theorem least_all {s0 : Nat} {S : List Nat} {W : Nat} (h0 : 0 < s0) (hS : ∀ s ∈ S, 0 < s) (hW : 0 < W) (hd : ∀ s ∈ s0 :: S, s ∣ W) : minA [.lst ((ME.restsC (s0 :: S)).map (mD W (s0 :: S)))] = minA [.lst ((rest0 S).map (mD W (s0 :: S)))] := by
  obtain ⟨n, rfl⟩ : ∃ n, s0 = n + 1 := ⟨s0 - 1, by omega⟩
  have e1 : ME.restsC ((n + 1) :: S) = rest0 S ++ (List.range n).flatMap fun x => (ME.restsC S).map ((x + 1) :: ·) := by
    rw [ME.restsC_cons, List.range_succ_eq_map, List.flatMap_cons, List.flatMap_map]; rfl
  obtain ⟨A, x, hA⟩ : ∃ A x, rest0 S = x :: A := by
    cases e : rest0 S with
    | nil => have := congrArg List.length e; rw [rest0_len] at this; have := prod_pos hS; simp_all
    | cons x A => exact ⟨A, x, rfl⟩
  rw [e1, hA, List.cons_append, List.map_cons, List.map_cons, List.map_append]
  refine minA_app (by rw [← List.map_cons (f := mD W ((n + 1) :: S))]; exact srtOk_mD _) (by rw [← List.map_append, ← List.map_cons (f := mD W ((n + 1) :: S))]; exact srtOk_mD _) fun y hy => ?_
  obtain ⟨R, hR, rfl⟩ := List.mem_map.mp hy
  obtain ⟨a, ha, hR⟩ := List.mem_flatMap.mp hR
  obtain ⟨q, hq, rfl⟩ := List.mem_map.mp hR
  have ha' := List.mem_range.mp ha
  have hm : (a + 1) :: q ∈ ME.restsC ((n + 1) :: S) := ME.mem_restsC.mpr ⟨a + 1, by omega, q, hq, rfl⟩
  have hc := hd (n + 1) List.mem_cons_self
  have hle := Nat.le_of_dvd hW hc
  have ht : ME.tr (W - (a + 1)) ((n + 1) :: S) ((a + 1) :: q) = 0 :: ME.tr (W - (a + 1)) S q := by
    show ((a + 1) + (W - (a + 1))) % (n + 1) :: _ = _
    rw [show a + 1 + (W - (a + 1)) = W by omega, Nat.mod_eq_zero_of_dvd hc]
  have hms := ME.miss_tr (W - (a + 1)) hd hm
  rw [ht] at hms
  have hz : 0 :: ME.tr (W - (a + 1)) S q ∈ x :: A := by
    rw [← hA]; exact List.mem_map.mpr ⟨_, ME.tr_mem _ hq, rfl⟩
  refine ⟨mD W ((n + 1) :: S) (0 :: ME.tr (W - (a + 1)) S q), ?_, ?_⟩
  · rcases List.mem_cons.mp hz with e | e
    · exact .inl (by rw [e])
    · exact .inr (List.mem_map.mpr ⟨_, e, rfl⟩)
  · show dLt (.tup [.int _, _]) (.tup [.int _, _]) = true
    rw [hms]
    exact dLt_pair _ (by omega) _ _
theorem ext_len (L : List (List Nat)) (s : Nat) : (ME.ext L s).length = L.length * s := by
  unfold ME.ext
  rw [List.length_flatMap]
  simp only [List.length_map, List.length_range]
  exact ME.sum_const' s L
/-! ### a law's own -/
theorem F__law_rests_eq {S : List Nat} (h : ∀ s ∈ S, 1 ≤ s ∧ s ≤ 12) (hl : S.length ≤ 5) (hp : ME.prod S ≤ 20000) : F__law_rests [nD S] = some (.ok (.lst ((ME.restsC S).map nD))) := by
  refine fnD_wp rfl ?_
  unfold B__law_rests env0
  simp [-List.map_map]
  obtain ⟨J, hJ⟩ : ∃ J : Nat → Env → Row → Prop, ∀ k ρ s, J k ρ s ↔ ∃ a b c d, ρ = [some (.im (nD S)), some (.im (.lst (((S.take k).foldl ME.ext [[]]).map nD))), a, b, c, d] := ⟨_, fun _ _ _ => Iff.rfl⟩
  refine wp_forN (fun (n : Nat) => D.int (n : Int)) J (fun k hk ρ s hh => ?_) (fun ρ s hh => ?_) ((hJ ..).mpr ⟨none, none, none, none, by simp⟩)
  · obtain ⟨a, b, c, d, rfl⟩ := (hJ ..).mp hh
    obtain ⟨L, hL⟩ : ∃ L, (S.take k).foldl ME.ext [[]] = L := ⟨_, rfl⟩
    have hn : (S.take (k + 1)).foldl ME.ext [[]] = ME.ext L S[k] := by
      rw [← List.take_append_getElem hk, List.foldl_append, hL]; rfl
    have hlen : ∀ j, ((S.take j).foldl ME.ext [[]]).length ≤ 20000 := fun j => by
      rw [ME.fold_ext]; simp [ME.restsC_len]
      exact Nat.le_trans (prod_take (fun s hs => (h s hs).1) j) hp
    have hl2 := hlen (k + 1)
    rw [hn] at hl2
    have hLi : ∀ R ∈ L, R.length ≤ 5 := fun R hR => by
      rw [← hL, ME.fold_ext] at hR
      simp at hR
      have := ME.len_restsC hR
      rw [List.length_take] at this
      omega
    rw [hL]
    have hs := h _ (List.getElem_mem hk)
    simp [-List.map_map]
    obtain ⟨J2, hJ2⟩ : ∃ J2 : Nat → Env → Row → Prop, ∀ i ρ s, J2 i ρ s ↔ ∃ c d, ρ = [some (.im (nD S)), some (.im (.lst (L.map nD))), some (.im (.int (S[k] : Int))), some (.im (.lst ((ME.ext (L.take i) S[k]).map nD))), c, d] := ⟨_, fun _ _ _ => Iff.rfl⟩
    refine wp_forN nD J2 (fun i hi ρ s hh => ?_) (fun ρ s hh => ?_) ((hJ2 ..).mpr ⟨c, d, by simp [ME.ext]⟩)
    · obtain ⟨c, d, rfl⟩ := (hJ2 ..).mp hh
      simp [-List.map_map]
      refine ⟨by omega, ?_⟩
      have hln : (ME.ext (L.take (i + 1)) S[k]) = ME.ext (L.take i) S[k] ++ (List.range S[k]).map fun x => L[i] ++ [x] := by
        rw [← List.take_append_getElem hi]; unfold ME.ext; rw [List.flatMap_append]; simp
      refine lc_range (fun _ => true) (fun x => nD (L[i] ++ [x])) (fun x hx => ?_) ?_
      · simp [t_yes, -List.map_map]
        have := hLi _ (List.getElem_mem hi)
        omega
      · rw [List.filter_eq_self.mpr (fun _ _ => rfl)]
        have e3 : (ME.ext (L.take i) S[k]).length + S[k] ≤ (ME.ext L S[k]).length := by
          rw [ext_len, ext_len, List.length_take, Nat.min_eq_left (Nat.le_of_lt hi), ← Nat.succ_mul]
          exact Nat.mul_le_mul_right _ hi
        refine ⟨by simp; omega, (hJ2 ..).mpr ⟨some (.im (nD L[i])), d, ?_⟩⟩
        rw [hln, List.map_append, List.map_map]; rfl
    · obtain ⟨c, d, rfl⟩ := (hJ2 ..).mp hh
      rw [List.take_length, ← hn]
      simp [-List.map_map]
      exact (hJ ..).mpr ⟨_, _, _, _, rfl⟩
  · obtain ⟨a, b, c, d, rfl⟩ := (hJ ..).mp hh
    rw [List.take_length, ME.fold_ext]
    simp
theorem hit_iff {n : Nat} : ∀ {S R : List Nat}, R.length = S.length → (ME.hit S R n = true ↔ ∃ k, k < S.length ∧ n % S.getD k 1 = R.getD k 0)
  | [], [], _ => by simp [ME.hit]
  | [], _ :: _, h => by simp at h
  | _ :: _, [], h => by simp at h
  | s :: S, r :: R, h => by
    simp only [ME.hit, Bool.or_eq_true, decide_eq_true_eq]
    rw [hit_iff (S := S) (R := R) (by simpa using h)]
    constructor
    · rintro (e | ⟨k, h1, h2⟩)
      · exact ⟨0, by simp, by simpa using e⟩
      · exact ⟨k + 1, by simpa using h1, by simpa using h2⟩
    · rintro ⟨k, h1, h2⟩
      cases k with
      | zero => exact .inl (by simpa using h2)
      | succ k => exact .inr ⟨k, by simpa using h1, by simpa using h2⟩
theorem F__law_missed_eq {S R : List Nat} (h : ∀ s ∈ S, 1 ≤ s ∧ s ≤ 12) (hl : S.length ≤ 5) (hR : R.length = S.length) {W : Nat} (hW : W ≤ 27720) : F__law_missed [nD S, nD R, .int (W : Int)] = some (.ok (.int (ME.miss W S R : Nat))) := by
  refine fnD_wp rfl ?_
  unfold B__law_missed env0
  simp [-List.map_map]
  refine ⟨by omega, ?_⟩
  obtain ⟨J, hJ⟩ : ∃ J : Nat → Env → Row → Prop, ∀ k ρ s, J k ρ s ↔ ∃ a b, ρ = [some (.im (nD S)), some (.im (nD R)), some (.im (.int (W : Int))), some (.im (.int (ME.miss k S R : Nat))), a, b] := ⟨_, fun _ _ _ => Iff.rfl⟩
  refine wp_forR J (fun n hn ρ s hh => ?_) (fun ρ s hh => ?_) ((hJ ..).mpr ⟨none, none, by simp [ME.miss]⟩)
  · obtain ⟨a, b, rfl⟩ := (hJ ..).mp hh
    simp [-List.map_map]
    refine ⟨by omega, ?_⟩
    refine lc_range (fun k => decide (n % S.getD k 1 = R.getD k 0)) (fun k => .int (k : Int)) (fun k hk => ?_) ?_
    · have e1 : atI (S.map fun (n : Nat) => D.int (n : Int)) (k : Int) = some (.int (S[k] : Nat)) := by rw [atI_nat (by simpa using hk)]; simp [hk]
      have e2 : atI (R.map fun (n : Nat) => D.int (n : Int)) (k : Int) = some (.int (R[k]'(by omega) : Nat)) := by rw [atI_nat (by simp; omega)]; simp [show k < R.length by omega]
      have := h _ (List.getElem_mem hk)
      simp [e1, e2, -List.map_map, hk, show k < R.length by omega]
      have hc : ((n : Int) % (S[k] : Int) = (R[k]'(by omega) : Int)) ↔ n % S[k] = R[k]'(by omega) := by omega
      refine ⟨by omega, ?_⟩
      by_cases c : n % S[k] = R[k]'(by omega)
      · exact .inr ⟨hc.mpr c, c⟩
      · exact .inl ⟨fun z => c (hc.mp z), c⟩
    · have e0 : eqD (.lst (((List.range S.length).filter fun k => decide (n % S.getD k 1 = R.getD k 0)).map fun (k : Nat) => D.int (k : Int))) (.lst []) = some (.bl (!ME.hit S R n)) := by
        rw [show ((List.range S.length).filter fun k => decide (n % S.getD k 1 = R.getD k 0)).map (fun (k : Nat) => D.int (k : Int)) = (((List.range S.length).filter fun k => decide (n % S.getD k 1 = R.getD k 0)).map fun (k : Nat) => (k : Int)).map .int by rw [List.map_map]; rfl]
        rw [show eqD (.lst ((((List.range S.length).filter fun k => decide (n % S.getD k 1 = R.getD k 0)).map fun (k : Nat) => (k : Int)).map .int)) (.lst []) = _ from eqD_cod (α := List Int) _ []]
        congr 2
        rw [Bool.eq_iff_iff, decide_eq_true_eq, Bool.not_eq_true', ← Bool.not_eq_true, hit_iff hR, List.map_eq_nil_iff, List.filter_eq_nil_iff]
        simp
      rw [e0]
      have e5 : ME.miss (n + 1) S R = ME.miss n S R + if ME.hit S R n = true then 0 else 1 := by
        unfold ME.miss
        rw [List.range_succ, List.countP_append]
        cases e6 : ME.hit S R n <;> simp [e6]
      rw [some?_some]
      cases e6 : ME.hit S R n with
      | true =>
        rw [e6] at e5
        rw [show intD [.bl !true] = some (.int 0) from rfl, some?_some]
        simp
        exact (hJ ..).mpr ⟨some (.im (.int (n : Int))), b, by rw [e5]; simp⟩
      | false =>
        rw [e6] at e5
        rw [show intD [.bl !false] = some (.int 1) from rfl, some?_some]
        simp
        exact (hJ ..).mpr ⟨some (.im (.int (n : Int))), b, by rw [e5]; simp⟩
  · obtain ⟨a, b, rfl⟩ := (hJ ..).mp hh
    simp
end PL
set_option Elab.async false
set_option linter.all false
set_option maxRecDepth 100000
set_option maxHeartbeats 4000000
/-! Parts of a class, splitting, merging. -/
namespace PL
open PySem PySem.Spec PyProof.Rows L2
/-- the parts of a class -/
def parts (c : Int × Int) (by_ : Nat) : List (Int × Int) := (List.range by_).map fun (k : Nat) => (c.1 + c.2 * k, c.2 * by_)
theorem F_parts_of_eq {c : Int × Int} (h1 : 0 ≤ c.1 ∧ c.1 ≤ 1000) (h2 : 1 ≤ c.2 ∧ c.2 ≤ 1000) {b : Nat} (hb : b ≤ 1000) : F_parts_of [cD c, .int (b : Int)] = some (.ok (.lst ((parts c b).map cD))) := by
  refine fnD_wp rfl ?_
  unfold B_parts_of env0
  simp [-List.map_map]
  refine ⟨by omega, ?_⟩
  refine lc_range (fun _ => true) (fun k => cD (c.1 + c.2 * k, c.2 * b)) (fun k hk => ?_) ?_
  · simp [t_yes]
    exact ⟨.inl ⟨by omega, by omega⟩, .inl ⟨by omega, by omega⟩⟩
  · rw [List.filter_eq_self.mpr (fun _ _ => rfl)]
    simp [parts]
theorem F__law_parts_eq {c : Int × Int} (h1 : 0 ≤ c.1 ∧ c.1 ≤ 1000) (h2 : 1 ≤ c.2 ∧ c.2 ≤ 1000) {b : Nat} (hb : b ≤ 1000) : F__law_parts [cD c, .int (b : Int)] = some (.ok (rowsD (parts c b))) := by
  refine fnD_wp rfl ?_
  unfold B__law_parts env0
  simp [-List.map_map]
  refine ⟨by omega, ?_⟩
  refine lc_range (fun _ => true) (fun k => cD (c.1 + c.2 * k, c.2 * b)) (fun k hk => ?_) ?_
  · simp [t_yes]
    exact ⟨.inl ⟨by omega, by omega⟩, .inl ⟨by omega, by omega⟩⟩
  · rw [List.filter_eq_self.mpr (fun _ _ => rfl)]
    simp [parts]
    try omega
/-! ### merging -/
abbrev Ix := Nat × Nat × Nat
/-- a class and its parts, by its step, rest and how many -/
def mCl (q : Ix) : Int × Int := ((q.2.1 : Int), (q.1 : Int))
abbrev mE (q : Ix) : D := .tup [cD (mCl q), rowsD (parts (mCl q) q.2.2)]
/-- in the program's order -/
def ixP : List Ix := (List.range 11).flatMap fun s => (List.range (s + 1)).flatMap fun r => (List.range (12 / (s + 1) + 1 - 2)).map fun b => (s + 1, r, b + 2)
/-- in a law's order -/
def ixL : List Ix := (List.range 12).flatMap fun s => (List.range 11).flatMap fun b => if (s + 1) * (b + 2) ≤ 12 then (List.range (s + 1)).map fun r => (s + 1, r, b + 2) else []
theorem ix_perm : ixP.Perm ixL := by decide +kernel
theorem ixP_ok : ∀ q ∈ ixP, 1 ≤ q.1 ∧ q.1 ≤ 11 ∧ q.2.1 < q.1 ∧ 2 ≤ q.2.2 ∧ q.1 * q.2.2 ≤ 12 := by decide +kernel
/-- all parts are there -/
def hasAll (rs : List (Int × Int)) (q : Ix) : Bool := (parts (mCl q) q.2.2).all fun c => decide (c ∈ rs)
instance : Shal ((Int × Int) × Tp (Int × Int)) := ⟨by decide⟩
theorem mE_cod (q : Ix) : mE q = Cod.d (α := (Int × Int) × Tp (Int × Int)) (mCl q, ⟨parts (mCl q) q.2.2⟩) := rfl
theorem mE_inj {p q : Ix} (hp : p ∈ ixP) (hq : q ∈ ixP) (h : mCl p = mCl q) (h2 : (parts (mCl p) p.2.2).length = (parts (mCl q) q.2.2).length) : p = q := by
  obtain ⟨s, r, b⟩ := p
  obtain ⟨s', r', b'⟩ := q
  simp [mCl, parts] at h h2
  simp; omega
/-! ### sorted rows of the same things -/
theorem dLe_lt (a b : D) : dLe a b = !dLt b a := rfl
theorem dLe_trans (a b c : D) (h1 : dLe a b = true) (h2 : dLe b c = true) : dLe a c = true := by
  rw [dLe_lt, Bool.not_eq_true'] at h1 h2 ⊢
  cases q : dLt c a with
  | false => rfl
  | true =>
    rcases lex_negTrans (O := itemOrd) (PySem.W.keyToks (py c)) (PySem.W.keyToks (py b)) (PySem.W.keyToks (py a)) q with z | z
    · exact absurd (show dLt c b = true from z) (by rw [h2]; simp)
    · exact absurd (show dLt b a = true from z) (by rw [h1]; simp)
theorem dLe_total (a b : D) : (dLe a b || dLe b a) = true := by
  rw [dLe_lt, dLe_lt]
  cases q : dLt b a with
  | false => rfl
  | true =>
    cases q2 : dLt a b with
    | false => rfl
    | true => have := dLt_trans _ _ _ q q2; rw [dLt_self] at this; cases this
theorem dLe_anti {α : Type} [DecidableEq α] [Cod α] {a b : α} (ha : PySem.W.alike (py (Cod.d a)) (py (Cod.d b)) = true) (h1 : dLe (Cod.d a) (Cod.d b) = true) (h2 : dLe (Cod.d b) (Cod.d a) = true) : a = b := by
  rw [dLe_lt, Bool.not_eq_true'] at h1 h2
  have e := lex_total (O := itemOrd) _ _ h2 h1
  cases q : PyData.eqv (py (Cod.d a)) (py (Cod.d b)) with
  | true => rw [Cod.ev] at q; simpa using q
  | false =>
    have h3 := (PySem.W.toks_eqv _ _ ha).2 q [] [.inl 0]
    rw [e, PySem.W.lex_pre, lex_irrefl] at h3
    cases h3
theorem srtOk_perm {A B : List D} (h : A.Perm B) (ok : srtOk A = true) : srtOk B = true := by
  unfold srtOk allAlikeB at ok ⊢
  simp only [Bool.and_eq_true, List.all_eq_true, decide_eq_true_eq, flats_eq] at ok ⊢
  obtain ⟨h0, h1, h2, h3⟩ := ok
  exact ⟨fun x hx => h0 x (h.mem_iff.mpr hx), fun x hx y hy => h1 x (h.mem_iff.mpr hx) y (h.mem_iff.mpr hy), fun x hx => h2 x (h.mem_iff.mpr hx), fun x hx => h3 x (h.mem_iff.mpr hx)⟩
theorem sort_perm {α : Type} [DecidableEq α] [Cod α] {A B : List α} (h : A.Perm B) (ok : srtOk (A.map Cod.d) = true) : (A.map Cod.d).mergeSort dLe = (B.map Cod.d).mergeSort dLe := by
  have hp : (A.map Cod.d).Perm (B.map Cod.d) := h.map _
  refine List.Perm.eq_of_pairwise (le := fun x y => dLe x y = true) (fun x y hx hy h1 h2 => ?_) (List.pairwise_mergeSort dLe_trans dLe_total _) (List.pairwise_mergeSort dLe_trans dLe_total _) ((List.mergeSort_perm _ _).trans (hp.trans (List.mergeSort_perm _ _).symm))
  obtain ⟨a, ha, rfl⟩ := List.mem_map.mp (List.mem_mergeSort.mp hx)
  obtain ⟨b, hb, rfl⟩ := List.mem_map.mp (List.mem_mergeSort.mp hy)
  unfold srtOk allAlikeB at ok
  simp only [Bool.and_eq_true, List.all_eq_true] at ok
  have := ok.2.1 _ (List.mem_map.mpr ⟨a, ha, rfl⟩) _ (List.mem_map.mpr ⟨b, h.mem_iff.mpr hb, rfl⟩)
  rw [dLe_anti this h1 h2]
theorem sortedD_perm {α : Type} [DecidableEq α] [Cod α] {A B : List α} (h : A.Perm B) (ok : srtOk (A.map Cod.d) = true) : sortedD [.lst (A.map Cod.d)] = sortedD [.lst (B.map Cod.d)] := by
  show (if srtOk (A.map Cod.d) = true then some (D.lst ((A.map Cod.d).mergeSort dLe)) else none) = (if srtOk (B.map Cod.d) = true then some (D.lst ((B.map Cod.d).mergeSort dLe)) else none)
  rw [if_pos ok, if_pos (srtOk_perm (h.map _) ok), sort_perm h ok]
def row3 (s r : Nat) (n : Nat) : List Ix := (List.range n).map fun b => (s + 1, r, b + 2)
def row2 (s : Nat) (n : Nat) : List Ix := (List.range n).flatMap fun r => row3 s r (12 / (s + 1) + 1 - 2)
def row1 (n : Nat) : List Ix := (List.range n).flatMap fun s => row2 s (s + 1)
theorem row1_all : row1 11 = ixP := rfl
theorem row1_snoc (n : Nat) : row1 (n + 1) = row1 n ++ row2 n (n + 1) := by unfold row1; rw [List.range_succ, List.flatMap_append]; simp
theorem row2_snoc (s n : Nat) : row2 s (n + 1) = row2 s n ++ row3 s n (12 / (s + 1) + 1 - 2) := by unfold row2; rw [List.range_succ, List.flatMap_append]; simp
theorem row3_snoc (s r n : Nat) : row3 s r (n + 1) = row3 s r n ++ [(s + 1, r, n + 2)] := by unfold row3; rw [List.range_succ, List.map_append]; rfl
theorem row1_len : ∀ s, s < 11 → (row1 s).length ≤ 200 := by decide +kernel
theorem row2_len : ∀ s, s < 11 → ∀ r, r < 12 → (row2 s r).length ≤ 200 := by decide +kernel
theorem srtOk_mE (L : List Ix) : srtOk (L.map mE) = true := by
  have pyE : ∀ q : Ix, py (mE q) = .tuple [.tuple [.int q.2.1, .int q.1], .tuple ((parts (mCl q) q.2.2).map fun c => .tuple [.int c.1, .int c.2])] := fun q => by
    rw [mE, py, pys, pys, pys, py, py, pys_map ((parts (mCl q) q.2.2).map cD), List.map_map]
    rfl
  have alC : ∀ A B : List (Int × Int), PySem.W.alikeAll (A.map fun c => .tuple [.int c.1, .int c.2]) (B.map fun c => .tuple [.int c.1, .int c.2]) = true := by
    intro A
    induction A with
    | nil => intro B; cases B <;> simp [PySem.W.alikeAll]
    | cons a A ih =>
      intro B
      cases B with
      | nil => simp [PySem.W.alikeAll]
      | cons b B => simp [PySem.W.alikeAll, PySem.W.alike, ih B]
  have dpC : ∀ A : List (Int × Int), PyData.depthAll (A.map fun c => .tuple [.int c.1, .int c.2]) ≤ 1 := by
    intro A
    induction A with
    | nil => simp [PyData.depthAll]
    | cons a A ih => simp [PyData.depthAll, PyData.depth]; omega
  unfold srtOk allAlikeB
  simp only [Bool.and_eq_true, List.all_eq_true, decide_eq_true_eq, flats_eq]
  refine ⟨fun x hx => ?_, fun x hx y hy => ?_, fun x hx => ?_, fun x hx => ?_⟩
  · obtain ⟨a, _, rfl⟩ := List.mem_map.mp hx
    rw [mE_cod]; exact Cod.fl _
  · obtain ⟨a, _, rfl⟩ := List.mem_map.mp hx
    obtain ⟨b, _, rfl⟩ := List.mem_map.mp hy
    rw [pyE, pyE]
    simp [PySem.W.alike, PySem.W.alikeAll, alC]
  · obtain ⟨a, _, rfl⟩ := List.mem_map.mp hx; rfl
  · obtain ⟨a, _, rfl⟩ := List.mem_map.mp hx
    rw [pyE]
    have := dpC (parts (mCl a) a.2.2)
    simp [PyData.depth, PyData.depthAll]
    omega
theorem in_rows (c : Int × Int) (rs : List (Int × Int)) : inD (cD c) (rowsD rs) = some (.bl (decide (c ∈ rs))) :=
  Eq.trans (inD_tup (α := Int × Int) c rs) (congrArg (fun b => some (D.bl b)) (decide_eq_decide.mpr Iff.rfl))
theorem F_merges_of_eq (rs : List (Int × Int)) : F_merges_of [rowsD rs] = some (.ok (.lst (((ixP.filter (hasAll rs)).map mE).mergeSort dLe))) := by
  refine fnD_wp rfl ?_
  unfold B_merges_of env0
  simp [-List.map_map]
  have rng : ∀ (lo : Int) (n : Nat), rangeL lo (lo + n) = (List.range n).map fun (m : Nat) => D.int (lo + m) := fun lo n => by
    rw [rangeL_eq]
    have : (lo + (n : Int) - lo).toNat = n := by omega
    rw [this]
  rw [show rangeL 1 12 = (List.range 11).map fun (m : Nat) => D.int (1 + m) from rng 1 11]
  obtain ⟨J1, hJ1⟩ : ∃ J : Nat → Env → Row → Prop, ∀ k ρ s, J k ρ s ↔ ∃ a2 a3 a4 a5 a6, ρ = [some (.im (rowsD rs)), some (.ce (.lst (((row1 k).filter (hasAll rs)).map mE))), a2, a3, a4, a5, a6] := ⟨_, fun _ _ _ => Iff.rfl⟩
  refine wp_forN (fun (m : Nat) => D.int (1 + m)) J1 (fun s hs ρ t hh => ?_) (fun ρ t hh => ?_) ((hJ1 ..).mpr ⟨none, none, none, none, none, rfl⟩)
  · obtain ⟨a2, a3, a4, a5, a6, rfl⟩ := (hJ1 ..).mp hh
    have hs' : s < 11 := by simpa using hs
    simp only [List.getElem_range]
    have e1 : (1 : Int) + (s : Int) = ((s + 1 : Nat) : Int) := by omega
    rw [e1]
    simp only [g_name_succ, g_name_one, g_name_zero, Option.map_some]
    simp [-List.map_map, -Int.natCast_add]
    refine ⟨by omega, ?_⟩
    obtain ⟨J2, hJ2⟩ : ∃ J : Nat → Env → Row → Prop, ∀ k ρ t, J k ρ t ↔ ∃ a3 a4 a5 a6, ρ = [some (.im (rowsD rs)), some (.ce (.lst (((row1 s ++ row2 s k).filter (hasAll rs)).map mE))), some (.im (.int ((s + 1 : Nat) : Int))), a3, a4, a5, a6] := ⟨_, fun _ _ _ => Iff.rfl⟩
    refine wp_forR J2 (fun r hr ρ t hh => ?_) (fun ρ t hh => ?_) ((hJ2 ..).mpr ⟨a3, a4, a5, a6, by simp [row2]⟩)
    · obtain ⟨a3, a4, a5, a6, rfl⟩ := (hJ2 ..).mp hh
      simp [-List.map_map, -Int.natCast_add, -List.filter_append, -List.map_append]
      have hd : 1 ≤ 12 / (s + 1) := (Nat.le_div_iff_mul_le (by omega)).mpr (by omega)
      have hd2 : 12 / (s + 1) ≤ 12 := Nat.div_le_self _ _
      have ed : (12 : Int) / ((s + 1 : Nat) : Int) = ((12 / (s + 1) : Nat) : Int) := by rw [Int.natCast_ediv]; rfl
      obtain ⟨n, hn⟩ : ∃ n, 12 / (s + 1) + 1 - 2 = n := ⟨_, rfl⟩
      have en : (12 : Int) / ((s + 1 : Nat) : Int) + 1 = 2 + (n : Int) := by rw [ed]; omega
      rw [en]
      refine ⟨by omega, ⟨⟨by omega, by omega⟩, by omega⟩, ?_⟩
      rw [rng 2 n]
      obtain ⟨J3, hJ3⟩ : ∃ J : Nat → Env → Row → Prop, ∀ k ρ t, J k ρ t ↔ ∃ a4 a5 a6, ρ = [some (.im (rowsD rs)), some (.ce (.lst (((row1 s ++ (row2 s r ++ row3 s r k)).filter (hasAll rs)).map mE))), some (.im (.int ((s + 1 : Nat) : Int))), some (.im (.int (r : Int))), a4, a5, a6] := ⟨_, fun _ _ _ => Iff.rfl⟩
      refine wp_forN (fun (m : Nat) => D.int (2 + m)) J3 (fun b hb ρ t hh => ?_) (fun ρ t hh => ?_) ((hJ3 ..).mpr ⟨a4, a5, a6, by simp [row3]⟩)
      · obtain ⟨a4, a5, a6, rfl⟩ := (hJ3 ..).mp hh
        have hb' : b < n := by simpa using hb
        simp only [List.getElem_range]
        have e2 : (2 : Int) + (b : Int) = ((b + 2 : Nat) : Int) := by omega
        rw [e2]
        have ep := F_parts_of_eq (c := mCl (s + 1, r, b + 2)) (by simp [mCl]; omega) (by simp [mCl]; omega) (b := b + 2) (by omega)
        simp only [mCl, cD] at ep
        simp only [g_name_succ, g_name_one, g_name_zero, Option.map_some]
        simp [-List.map_map, -Int.natCast_add, -List.filter_append, -List.map_append, ep]
        refine lc_all cD (fun c => .bl (decide (c ∈ rs))) (fun c hc => by simp [in_rows c rs, -List.map_map]) ?_
        rw [show (parts ((r : Int), ((s + 1 : Nat) : Int)) (b + 2)).map (fun c => D.bl (decide (c ∈ rs))) = ((parts ((r : Int), ((s + 1 : Nat) : Int)) (b + 2)).map fun c => decide (c ∈ rs)).map .bl by rw [List.map_map]; rfl]
        simp only [allD, allD_bls, Option.map_some, some?_some, List.all_map]
        have ea : ((parts ((r : Int), ((s + 1 : Nat) : Int)) (b + 2)).all (id ∘ fun c => decide (c ∈ rs))) = hasAll rs (s + 1, r, b + 2) := rfl
        rw [ea]
        have er : ((row1 s ++ (row2 s r ++ row3 s r (b + 1))).filter (hasAll rs)).map mE = ((row1 s ++ (row2 s r ++ row3 s r b)).filter (hasAll rs)).map mE ++ if hasAll rs (s + 1, r, b + 2) = true then [mE (s + 1, r, b + 2)] else [] := by
          rw [row3_snoc, ← List.append_assoc (row2 s r), ← List.append_assoc (row1 s), List.filter_append, List.map_append]
          cases q : hasAll rs (s + 1, r, b + 2) <;> simp [q]
        cases q : hasAll rs (s + 1, r, b + 2) with
        | false =>
          rw [q] at er
          exact .inl ⟨rfl, (hJ3 ..).mpr ⟨_, _, _, by rw [er, if_neg (by simp), List.append_nil]⟩⟩
        | true =>
          refine .inr ⟨rfl, ?_⟩
          rw [wp_append rfl]
          simp [-List.map_map, -Int.natCast_add, -List.filter_append, -List.map_append]
          rw [q] at er
          have l1 := row1_len s hs'
          have l2 := row2_len s hs' r (by omega)
          have l3 : (row3 s r b).length = b := by simp [row3]
          have lf := List.length_filter_le (hasAll rs) (row1 s ++ (row2 s r ++ row3 s r b))
          rw [List.length_append, List.length_append] at lf
          exact ⟨by omega, (hJ3 ..).mpr ⟨_, _, _, by rw [er, if_pos rfl]; rfl⟩⟩
      · obtain ⟨a4, a5, a6, rfl⟩ := (hJ3 ..).mp hh
        rw [List.length_range, nk_nx]
        exact (hJ2 ..).mpr ⟨_, _, _, _, by rw [row2_snoc, hn]⟩
    · obtain ⟨a3, a4, a5, a6, rfl⟩ := (hJ2 ..).mp hh
      rw [nk_nx]
      exact (hJ1 ..).mpr ⟨_, _, _, _, _, by rw [row1_snoc]⟩
  · obtain ⟨a2, a3, a4, a5, a6, rfl⟩ := (hJ1 ..).mp hh
    have ok := srtOk_mE ((row1 11).filter (hasAll rs))
    have : sortedD [.lst (((row1 11).filter (hasAll rs)).map mE)] = some (.lst ((((row1 11).filter (hasAll rs)).map mE).mergeSort dLe)) := by
      show (if _ then _ else _) = _
      rw [if_pos ok]
    simp [-List.map_map, -List.filter_append, -List.map_append, this]
    rfl
end PL
set_option Elab.async false
set_option linter.all false
set_option maxRecDepth 100000
set_option maxHeartbeats 4000000
/-! Dicts whose keys are classes; splitting. -/
namespace PL
open PySem PySem.Spec PyProof.Rows L2
theorem nkD_cD (c : Int × Int) : nkD (cD c) = some (.tup [.num c.1, .num c.2]) := by
  simp [nkD, nkDs]
theorem nkOk_cD (c : Int × Int) : nkOk (cD c) = true := by
  unfold nkOk
  rw [nkD_cD]
  simp [isTup, NestedKey.depth, NestedKey.depthAll]
theorem nkD_inj {a b : Int × Int} : (nkD (cD a) = nkD (cD b)) ↔ a = b := by
  rw [nkD_cD, nkD_cD]
  constructor
  · intro h
    simp at h
    exact Prod.ext h.1 h.2
  · intro h; rw [h]
abbrev keyT (M : List (Int × Int)) : List (D × D) := M.map fun c => (cD c, D.bl true)
theorem any_keyT (M : List (Int × Int)) (c : Int × Int) : ((keyT M).any fun p => decide (nkD p.1 = nkD (cD c))) = decide (c ∈ M) := by
  rw [Bool.eq_iff_iff, List.any_eq_true, decide_eq_true_eq]
  constructor
  · rintro ⟨p, hp, h⟩
    obtain ⟨a, ha, rfl⟩ := List.mem_map.mp hp
    have := nkD_inj.mp (by simpa using h : nkD (cD a) = nkD (cD c))
    exact this ▸ ha
  · intro h
    exact ⟨(cD c, .bl true), List.mem_map.mpr ⟨c, h, rfl⟩, by simp⟩
theorem storeT (M : List (Int × Int)) (c : Int × Int) : storeD (keyT M) (cD c) (.bl true) = keyT (if c ∈ M then M else M ++ [c]) := by
  unfold storeD
  rw [any_keyT]
  by_cases h : c ∈ M
  · rw [if_pos (by simpa using h), if_pos h]
    conv => rhs; rw [← List.map_id (keyT M)]
    refine List.map_congr_left fun p hp => ?_
    obtain ⟨a, ha, rfl⟩ := List.mem_map.mp hp
    by_cases q : nkD (cD a) = nkD (cD c) <;> simp [q]
  · rw [if_neg (by simpa using h), if_neg h]; show _ = keyT (M ++ [c]); unfold keyT; rw [List.map_append]; rfl
/-- each once, in the order in which they came -/
def firsts (L : List (Int × Int)) : List (Int × Int) := L.foldl (fun M c => if c ∈ M then M else M ++ [c]) []
theorem firsts_go : ∀ (L M : List (Int × Int)), M.Nodup → (L.foldl (fun M c => if c ∈ M then M else M ++ [c]) M).Nodup ∧ ∀ x, x ∈ L.foldl (fun M c => if c ∈ M then M else M ++ [c]) M ↔ (x ∈ M ∨ x ∈ L)
  | [], M, h => ⟨h, fun x => by simp⟩
  | c :: L, M, h => by
    rw [List.foldl_cons]
    have hn : (if c ∈ M then M else M ++ [c]).Nodup := by
      by_cases q : c ∈ M
      · rw [if_pos q]; exact h
      · rw [if_neg q]
        refine List.nodup_append.mpr ⟨h, by simp, fun a ha b hb => ?_⟩
        rw [List.mem_singleton.mp hb]
        exact fun e => q (e ▸ ha)
    obtain ⟨h1, h2⟩ := firsts_go L _ hn
    refine ⟨h1, fun x => ?_⟩
    rw [h2 x]
    by_cases q : c ∈ M
    · rw [if_pos q, List.mem_cons]
      exact ⟨fun z => z.elim .inl fun z => .inr (.inr z), fun z => z.elim .inl fun z => z.elim (fun e => .inl (e ▸ q)) .inr⟩
    · rw [if_neg q, List.mem_append, List.mem_singleton, List.mem_cons, or_assoc]
theorem firsts_len (L : List (Int × Int)) : (firsts L).length = (ndup L).length := by
  obtain ⟨h1, h2⟩ := firsts_go L [] List.nodup_nil
  refine List.Perm.length_eq ((List.perm_ext_iff_of_nodup h1 (nodup_ndup L)).mpr fun x => ?_)
  rw [h2 x, mem_ndup]
  simp
theorem fold_storeT (L : List (Int × Int)) : L.foldl (fun acc c => storeD acc (cD c) (.bl true)) [] = keyT (firsts L) := by
  have : ∀ (L M : List (Int × Int)), L.foldl (fun acc c => storeD acc (cD c) (.bl true)) (keyT M) = keyT (L.foldl (fun M c => if c ∈ M then M else M ++ [c]) M) := by
    intro L
    induction L with
    | nil => intro M; rfl
    | cons c L ih => intro M; rw [List.foldl_cons, List.foldl_cons, storeT, ih]
  exact this L []
/-- a plan with a class split -/
def laterR (rs : List (Int × Int)) (i b : Nat) : List (Int × Int) := rs.take i ++ (parts (rs.getD i (0, 1)) b ++ rs.drop (i + 1))
def goodS (rs : List (Int × Int)) (i b : Nat) : Bool := decide (2 ≤ b) && (decide ((rs.getD i (0, 1)).2 * b ≤ 12) && (decide (rs.length + b ≤ 9) && decide (laterR rs i b).Nodup))
theorem F_split_ix {rs : List (Int × Int)} {d e : D} (hd : notIns d = true) (hx : isFrom d 0 (rs.length - 1) = false) : F_split [planD rs, d, e] = some (.er ⟨"BadIndex", []⟩) := by
  refine fnD_wp rfl ?_
  unfold B_split env0
  simp [F_check_index_eq _ _ hd, hx]
theorem F_split_odd {rs : List (Int × Int)} {i : Nat} (hi : i < rs.length) {e : D} (he : notIns e = true) (hx : isFrom e 2 12 = false) : F_split [planD rs, .int (i : Int), e] = some (.er ⟨"BadMost", []⟩) := by
  have e1 : isFrom (.int (i : Int)) 0 ((rs.length : Int) - 1) = true := by simp [isFrom]; omega
  refine fnD_wp rfl ?_
  unfold B_split env0
  simp [F_check_index_eq rs (.int (i : Int)) rfl, e1, F_is_from_eq e _ _ he, hx, atI_rows hi]
theorem rows_later {rs : List (Int × Int)} (h : Rows rs) {i : Nat} (hi : i < rs.length) {b : Nat} (c1 : 2 ≤ b) (c2 : rs[i].2 * (b : Int) ≤ 12) (c3 : rs.length + b ≤ 9) (c4 : (laterR rs i b).Nodup) : Rows (laterR rs i b) := by
  have eg : rs.getD i (0, 1) = rs[i] := by rw [List.getD_eq_getElem?_getD, List.getElem?_eq_getElem hi]; rfl
  obtain ⟨⟨m1, m2⟩, r0, r1⟩ := h.cl _ (List.getElem_mem hi)
  refine ⟨fun p hp => ?_, c4, by unfold laterR parts; simp; omega⟩
  unfold laterR at hp
  rcases List.mem_append.mp hp with q | q
  · exact h.cl p (List.mem_of_mem_take q)
  · rcases List.mem_append.mp q with q | q
    · rw [eg] at q
      obtain ⟨k, hk, rfl⟩ := List.mem_map.mp q
      have hk' := List.mem_range.mp hk
      have h1 : rs[i].2 * 1 ≤ rs[i].2 * (b : Int) := Int.mul_le_mul_of_nonneg_left (by omega) (by omega)
      have h2 : rs[i].2 * ((k : Int) + 1) ≤ rs[i].2 * (b : Int) := Int.mul_le_mul_of_nonneg_left (by omega) (by omega)
      have h3 : 0 ≤ rs[i].2 * (k : Int) := Int.mul_nonneg (by omega) (by omega)
      rw [Int.mul_add, Int.mul_one] at h2
      refine ⟨⟨?_, c2⟩, ?_, ?_⟩
      · show 1 ≤ rs[i].2 * (b : Int); omega
      · show 0 ≤ rs[i].1 + rs[i].2 * (k : Int); omega
      · show rs[i].1 + rs[i].2 * (k : Int) < rs[i].2 * (b : Int); omega
    · exact h.cl p (List.mem_of_mem_drop q)
theorem F_split_eq {rs : List (Int × Int)} (h : Rows rs) {i : Nat} (hi : i < rs.length) {b : Nat} (hb : b ≤ 12) : F_split [planD rs, .int (i : Int), .int (b : Int)] = some (if goodS rs i b = true then .ok (planD (laterR rs i b)) else .er ⟨"BadMost", []⟩) := by
  have e1 : isFrom (.int (i : Int)) 0 ((rs.length : Int) - 1) = true := by simp [isFrom]; omega
  have hl := h.le
  have hc := h.cl _ (List.getElem_mem hi)
  obtain ⟨⟨m1, m2⟩, r0, r1⟩ := id hc
  by_cases c1 : 2 ≤ b
  · have f2 : isFrom (.int (b : Int)) 2 12 = true := by simp [isFrom]; omega
    refine fnD_wp rfl ?_
    unfold B_split env0
    simp [F_check_index_eq rs (.int (i : Int)) rfl, e1, F_is_from_eq (.int (b : Int)) _ _ rfl, f2, atI_rows hi]
    refine ⟨.inl ⟨by omega, by omega⟩, ?_⟩
    have eg : rs.getD i (0, 1) = rs[i] := by rw [List.getD_eq_getElem?_getD, List.getElem?_eq_getElem hi]; rfl
    by_cases c2 : rs[i].2 * (b : Int) ≤ 12
    · by_cases c3 : rs.length + b ≤ 9
      · have c3' : (rs.length : Int) + (b : Int) - 1 ≤ 8 := by omega
        have d1 : slD (rowsD rs) none (some (i : Int)) = some (rowsD (rs.take i)) := by
          rw [slD_takeT (by simp; omega), ← List.map_take]
        have d2 : slD (rowsD rs) (some ((i : Int) + 1)) none = some (rowsD (rs.drop (i + 1))) := by
          rw [show (i : Int) + 1 = ((i + 1 : Nat) : Int) by omega, slD_dropT (by simp; omega), ← List.map_drop]
        have hp := F_parts_of_eq (c := rs[i]) ⟨r0, by omega⟩ ⟨m1, by omega⟩ (b := b) (by omega)
        have eL : (rs.take i).map cD ++ ((parts rs[i] b).map cD ++ (rs.drop (i + 1)).map cD) = (laterR rs i b).map cD := by
          unfold laterR; rw [eg, List.map_append, List.map_append]
        have eN : (laterR rs i b).length = rs.length + b - 1 := by unfold laterR parts; simp; omega
        refine .inl ⟨c2, .inl ⟨c3', ?_⟩⟩
        rw [d1, some?_some]
        refine ⟨_, .inr rfl, _, hp, ?_⟩
        rw [rk_ok]
        refine ⟨_, .inl rfl, ?_⟩
        rw [d2, some?_some]
        refine ⟨_, .inr rfl, by simp [parts]; omega, ?_⟩
        rw [eL]
        refine dc_fold cD cD (fun _ => .bl true) (fun acc c => storeD acc (cD c) (.bl true)) (fun k acc => acc.length ≤ k) (fun c hc => ⟨_, rfl, rfl, rfl, rfl⟩) (fun k acc c hc hk ha => ⟨?_, ?_⟩) (Nat.le_refl _) ?_
        · have : acc.length < sizeLine := by unfold sizeLine; omega
          unfold putN
          rw [if_pos ⟨nkOk_cD c, this⟩]
        · unfold storeD
          by_cases q : (acc.any fun p => decide (nkD p.1 = nkD (cD c))) = true
          · rw [if_pos q, List.length_map]; omega
          · rw [if_neg q, List.length_append]; simp; omega
        · rw [fold_storeT]
          have el : ((rs.take i).map cD).length + (((parts rs[i] b).map cD).length + ((rs.drop (i + 1)).map cD).length) = (laterR rs i b).length := by
            rw [← List.length_append, ← List.length_append, eL, List.length_map]
          have el' : (((rs.take i).map cD).length : Int) + ((((parts rs[i] b).map cD).length : Int) + (((rs.drop (i + 1)).map cD).length : Int)) = ((laterR rs i b).length : Int) := by omega
          rw [el', show lenN [.dcn (keyT (firsts (laterR rs i b)))] = some (.int ((ndup (laterR rs i b)).length : Nat)) by rw [← firsts_len]; simp [lenN], some?_some]
          have hle := ndup_le (laterR rs i b)
          by_cases c4 : (laterR rs i b).Nodup
          · have hn := ndup_len.mpr c4
            have hgood : goodS rs i b = true := by unfold goodS; rw [eg]; simp [c1, c2, c3, c4]
            have hR : Rows (laterR rs i b) := rows_later h hi c1 c2 c3 c4
            rw [hn, hgood, I_Plan_rows hR]
            simp
          · have hn : (ndup (laterR rs i b)).length ≠ (laterR rs i b).length := fun z => c4 (ndup_len.mp z)
            have hgood : goodS rs i b = false := by unfold goodS; simp [c4]
            rw [hgood]
            simp
            omega
      · have c3' : ¬ (rs.length : Int) + (b : Int) - 1 ≤ 8 := by omega
        have : goodS rs i b = false := by unfold goodS; simp [c3]
        simp [c2, c3', this]
        omega
    · have : goodS rs i b = false := by unfold goodS; rw [eg]; simp [c2]
      simp [c2, this]
      omega
  · have f2 : isFrom (.int (b : Int)) 2 12 = false := by simp [isFrom]; omega
    rw [F_split_odd hi rfl f2]
    unfold goodS
    simp [c1]
end PL
set_option Elab.async false
set_option linter.all false
/-! Splitting, told by sets of classes (plain). -/
namespace PL
/-- what mergings can lead to (0, 1) alone, told from the whole down to the lots -/
inductive Sp : (Nat → Nat → Prop) → Prop
  | one {S : Nat → Nat → Prop} : (∀ r m, S r m ↔ r = 0 ∧ m = 1) → Sp S
  | by_ {S : Nat → Nat → Prop} (b : Nat) : 2 ≤ b → (∃ r m, S r m) → (∀ r m, S r m → ∃ m', m = m' * b) → (∀ k, k < b → Sp fun r m => S (r * b + k) (m * b)) → Sp S
/-- a set of classes with the parts of a class merged to it -/
def mgP (S : Nat → Nat → Prop) (c d n : Nat) : Nat → Nat → Prop := fun r m => (r = c ∧ m = d) ∨ (S r m ∧ ¬ ∃ j, j < n ∧ r = c + d * j ∧ m = d * n)
theorem dm {b k : Nat} (hk : k < b) (r : Nat) : (r * b + k) % b = k := by rw [Nat.mul_comm, Nat.mul_add_mod, Nat.mod_eq_of_lt hk]
theorem dq {b k : Nat} (hk : k < b) (r : Nat) : (r * b + k) / b = r := by
  rw [Nat.mul_comm, Nat.mul_add_div (by omega), Nat.div_eq_of_lt hk, Nat.add_zero]
theorem lift_inj {b k r r' : Nat} (hb : 0 < b) : r * b + k = r' * b + k ↔ r = r' := by
  constructor
  · intro h; exact Nat.eq_of_mul_eq_mul_right hb (by omega)
  · intro h; rw [h]
theorem lift_part {b k c d j : Nat} : c * b + k + d * b * j = (c + d * j) * b + k := by
  rw [Nat.add_mul, Nat.mul_right_comm d b j]; omega
theorem part_mod {b k c d j : Nat} (hk : k < b) : (c * b + k + d * b * j) % b = k := by rw [lift_part, dm hk]
/-- merging in a lot is merging in the whole -/
theorem mg_lot {S : Nat → Nat → Prop} {b k c d n : Nat} (hb : 0 < b) (hk : k < b) : (fun r m => mgP S (c * b + k) (d * b) n (r * b + k) (m * b)) = mgP (fun r m => S (r * b + k) (m * b)) c d n := by
  funext r m
  refine propext ?_
  unfold mgP
  have e1 : (r * b + k = c * b + k ∧ m * b = d * b) ↔ (r = c ∧ m = d) := by
    rw [lift_inj hb]
    exact ⟨fun h => ⟨h.1, Nat.eq_of_mul_eq_mul_right hb h.2⟩, fun h => ⟨h.1, by rw [h.2]⟩⟩
  have e2 : (∃ j, j < n ∧ r * b + k = c * b + k + d * b * j ∧ m * b = d * b * n) ↔ (∃ j, j < n ∧ r = c + d * j ∧ m = d * n) := by
    refine exists_congr fun j => and_congr Iff.rfl ?_
    rw [lift_part, lift_inj hb, Nat.mul_right_comm d b n]
    exact and_congr Iff.rfl ⟨fun h => Nat.eq_of_mul_eq_mul_right hb h, fun h => by rw [h]⟩
  rw [e1, e2]
/-- and leaves the other lots -/
theorem mg_other {S : Nat → Nat → Prop} {b k k' c d n : Nat} (hk : k < b) (hk' : k' < b) (h : k' ≠ k) : (fun r m => mgP S (c * b + k) (d * b) n (r * b + k') (m * b)) = (fun r m => S (r * b + k') (m * b)) := by
  funext r m
  refine propext ?_
  unfold mgP
  constructor
  · rintro (⟨h1, _⟩ | ⟨h1, _⟩)
    · have := congrArg (· % b) h1
      simp only [dm hk', dm hk] at this
      exact absurd this h
    · exact h1
  · intro h1
    refine .inr ⟨h1, ?_⟩
    rintro ⟨j, _, h2, _⟩
    have := congrArg (· % b) h2
    simp only [dm hk', part_mod hk] at this
    exact h this
theorem Sp.up {S' : Nat → Nat → Prop} (h : Sp S') : ∀ {S : Nat → Nat → Prop} {c d n : Nat}, 2 ≤ n → ¬ S c d → (∀ j, j < n → S (c + d * j) (d * n)) → S' = mgP S c d n → Sp S := by
  induction h with
  | @one S' h1 =>
    intro S c d n hn hc hp e
    have hcd : S' c d := by rw [e]; exact .inl ⟨rfl, rfl⟩
    obtain ⟨rfl, rfl⟩ := (h1 c d).mp hcd
    have key : ∀ r m, S r m ↔ r < n ∧ m = n := by
      intro r m
      constructor
      · intro hS
        refine Classical.byContradiction fun hx => ?_
        have : S' r m := by
          rw [e]
          refine .inr ⟨hS, ?_⟩
          rintro ⟨j, hj, h2, h3⟩
          exact hx ⟨by omega, by omega⟩
        obtain ⟨rfl, rfl⟩ := (h1 r m).mp this
        exact hc hS
      · rintro ⟨h2, rfl⟩
        have := hp r h2
        rwa [show 0 + 1 * r = r by omega, Nat.one_mul] at this
    refine Sp.by_ n hn ⟨0, n, (key 0 n).mpr ⟨by omega, rfl⟩⟩ (fun r m hS => ⟨1, by rw [((key r m).mp hS).2]; omega⟩) fun k hk => Sp.one fun r m => ?_
    rw [key]
    constructor
    · rintro ⟨h2, h3⟩
      have hm : m = 1 := Nat.eq_of_mul_eq_mul_right (show 0 < n by omega) (by omega)
      refine ⟨?_, hm⟩
      rcases Nat.eq_zero_or_pos r with q | q
      · exact q
      · have := Nat.le_mul_of_pos_left n q; omega
    · rintro ⟨rfl, rfl⟩
      exact ⟨by omega, by omega⟩
  | @by_ S' b hb he hd hl ih =>
    intro S c d n hn hc hp e
    have hcd : S' c d := by rw [e]; exact .inl ⟨rfl, rfl⟩
    obtain ⟨d', rfl⟩ := hd c d hcd
    obtain ⟨c', k0, hk0, rfl⟩ : ∃ c' k0, k0 < b ∧ c = c' * b + k0 := ⟨c / b, c % b, Nat.mod_lt _ (by omega), by rw [Nat.mul_comm]; exact (Nat.div_add_mod c b).symm⟩
    refine Sp.by_ b hb ⟨_, _, hp 0 (by omega)⟩ (fun r m hS => ?_) fun k hk => ?_
    · by_cases q : ∃ j, j < n ∧ r = c' * b + k0 + d' * b * j ∧ m = d' * b * n
      · obtain ⟨j, _, _, rfl⟩ := q
        exact ⟨d' * n, by rw [Nat.mul_right_comm]⟩
      · exact hd r m (by rw [e]; exact .inr ⟨hS, q⟩)
    · by_cases q : k = k0
      · subst q
        refine ih k hk (S := fun r m => S (r * b + k) (m * b)) (c := c') (d := d') hn hc (fun j hj => ?_) ?_
        · have := hp j hj
          rw [lift_part, Nat.mul_right_comm d' b n] at this
          exact this
        · rw [e]; exact mg_lot (by omega) hk
      · have := hl k hk
        rw [e, mg_other hk0 hk q] at this
        exact this
theorem Sp.down {S : Nat → Nat → Prop} (h : Sp S) : (∀ r m, S r m ↔ r = 0 ∧ m = 1) ∨ ∃ c d n, 2 ≤ n ∧ ¬ S c d ∧ (∀ j, j < n → S (c + d * j) (d * n)) ∧ Sp (mgP S c d n) := by
  induction h with
  | @one S h1 => exact .inl h1
  | @by_ S b hb he hd hl ih =>
    right
    by_cases q : ∀ k, k < b → ∀ r m, S (r * b + k) (m * b) ↔ r = 0 ∧ m = 1
    · have key : ∀ r m, S r m ↔ r < b ∧ m = b := by
        intro r m
        constructor
        · intro hS
          obtain ⟨m', rfl⟩ := hd r m hS
          have hk : r % b < b := Nat.mod_lt _ (by omega)
          have e : r / b * b + r % b = r := by rw [Nat.mul_comm]; exact Nat.div_add_mod r b
          have := (q (r % b) hk (r / b) m').mp (by rw [e]; exact hS)
          rw [this.1, Nat.zero_mul, Nat.zero_add] at e
          exact ⟨by omega, by rw [this.2, Nat.one_mul]⟩
        · rintro ⟨h1, rfl⟩
          have := (q r h1 0 1).mpr ⟨rfl, rfl⟩
          rwa [Nat.zero_mul, Nat.zero_add, Nat.one_mul] at this
      refine ⟨0, 1, b, hb, fun z => by have := ((key 0 1).mp z).2; omega, fun j hj => (key _ _).mpr ⟨by omega, by omega⟩, Sp.one fun r m => ?_⟩
      unfold mgP
      constructor
      · rintro (z | ⟨h1, h2⟩)
        · exact z
        · obtain ⟨h3, rfl⟩ := (key r m).mp h1
          exact absurd ⟨r, h3, by omega, by omega⟩ h2
      · exact .inl
    · simp only [Classical.not_forall] at q
      obtain ⟨k, hk, q⟩ := q
      rcases ih k hk with z | ⟨c, d, n, hn, h1, h2, h3⟩
      · exact absurd (fun r m => z r m) (fun z => by obtain ⟨r, m, q⟩ := q; exact q (z r m))
      · refine ⟨c * b + k, d * b, n, hn, h1, fun j hj => ?_, ?_⟩
        · rw [lift_part, Nat.mul_right_comm d b n]; exact h2 j hj
        · refine Sp.by_ b hb ⟨c * b + k, d * b, .inl ⟨rfl, rfl⟩⟩ (fun r m hS => ?_) fun k' hk' => ?_
          · rcases hS with ⟨_, rfl⟩ | ⟨hS, _⟩
            · exact ⟨d, rfl⟩
            · exact hd r m hS
          · by_cases e : k' = k
            · subst e; rw [mg_lot (by omega) hk']; exact h3
            · rw [mg_other hk hk' e]; exact hl k' hk'
end PL
set_option Elab.async false
set_option linter.all false
set_option maxRecDepth 100000
set_option maxHeartbeats 4000000
/-! Merging: how many mergings there are, the program's is_split, a law's own. -/
namespace PL
open PySem PySem.Spec PyProof.Rows L2
theorem nodup_sub_len {α : Type} [DecidableEq α] : ∀ {l m : List α}, l.Nodup → (∀ x ∈ l, x ∈ m) → l.length ≤ m.length
  | [], _, _, _ => by simp
  | x :: l, m, h, hs => by
    obtain ⟨h1, h2⟩ := List.nodup_cons.mp h
    have hx := hs x List.mem_cons_self
    have := nodup_sub_len (l := l) (m := m.erase x) h2 fun y hy => by
      have hne : y ≠ x := fun e => h1 (e ▸ hy)
      exact (List.mem_erase_of_ne hne).mpr (hs y (List.mem_cons_of_mem _ hy))
    rw [List.length_erase_of_mem hx] at this
    have hp := List.length_pos_of_mem hx
    rw [List.length_cons]; omega
/-! ### how many mergings -/
theorem parts_len (c : Int × Int) (b : Nat) : (parts c b).length = b := by simp [parts]
theorem mem_parts {c : Int × Int} {b : Nat} {x : Int × Int} : x ∈ parts c b ↔ ∃ j : Nat, j < b ∧ x = (c.1 + c.2 * j, c.2 * b) := by
  unfold parts
  simp only [List.mem_map, List.mem_range]
  exact exists_congr fun j => and_congr Iff.rfl eq_comm
theorem parts_nodup {c : Int × Int} (h : 1 ≤ c.2) (b : Nat) : (parts c b).Nodup := by
  unfold parts
  refine List.pairwise_map.mpr (List.Pairwise.imp (fun {i j} hij e => ?_) List.nodup_range)
  have e1 : c.1 + c.2 * (i : Int) = c.1 + c.2 * (j : Int) := congrArg Prod.fst e
  have e2 : c.2 * (i : Int) = c.2 * (j : Int) := by omega
  have := Int.eq_of_mul_eq_mul_left (by omega) e2
  exact hij (by omega)
theorem hasAll_iff {rs : List (Int × Int)} {q : Ix} : hasAll rs q = true ↔ ∀ x ∈ parts (mCl q) q.2.2, x ∈ rs := by
  unfold hasAll
  simp only [List.all_eq_true, decide_eq_true_eq]
theorem ixP_nodup : ixP.Nodup := by decide +kernel
theorem ixP_mem {s r b : Nat} (h1 : 1 ≤ s) (h2 : s ≤ 11) (h3 : r < s) (h4 : 2 ≤ b) (h5 : s * b ≤ 12) : (s, r, b) ∈ ixP := by
  have : ∀ s, s < 12 → ∀ r, r < 12 → ∀ b, b < 13 → (!(decide (r < s) && decide (2 ≤ b) && decide (s * b ≤ 12)) || ixP.any fun q => decide (q = (s, r, b))) = true := by decide +kernel
  have hb : b ≤ 12 := Nat.le_trans (Nat.le_mul_of_pos_left b h1) h5
  have := this s (by omega) r (by omega) b (by omega)
  rw [decide_eq_true h3, decide_eq_true h4, decide_eq_true h5] at this
  simpa using this
/-- mergings of one size have no part in common -/
theorem parts_apart {p q : Ix} (hp : p ∈ ixP) (hq : q ∈ ixP) (hb : p.2.2 = q.2.2) (hne : p ≠ q) : ∀ x ∈ parts (mCl p) p.2.2, ∀ y ∈ parts (mCl q) q.2.2, x ≠ y := by
  obtain ⟨s, r, b⟩ := p
  obtain ⟨s', r', b'⟩ := q
  have o1 := ixP_ok _ hp
  have o2 := ixP_ok _ hq
  simp only at hb o1 o2
  subst hb
  rintro x hx y hy rfl
  obtain ⟨i, hi, rfl⟩ := mem_parts.mp hx
  obtain ⟨j, hj, e⟩ := mem_parts.mp hy
  simp only [mCl, Prod.mk.injEq] at e
  obtain ⟨e1, e2⟩ := e
  have es : (s : Int) = (s' : Int) := Int.eq_of_mul_eq_mul_right (by omega) e2
  have es' : s = s' := by omega
  subst es'
  refine hne ?_
  have : (r + s * i : Nat) = r' + s * j := by
    have : ((r + s * i : Nat) : Int) = ((r' + s * j : Nat) : Int) := by rw [Int.natCast_add, Int.natCast_add, Int.natCast_mul, Int.natCast_mul]; exact e1
    omega
  have m1 : (r + s * i) % s = r := by rw [Nat.add_mul_mod_self_left, Nat.mod_eq_of_lt (by omega)]
  have m2 : (r' + s * j) % s = r' := by rw [Nat.add_mul_mod_self_left, Nat.mod_eq_of_lt (by omega)]
  have : r = r' := by rw [← m1, ← m2, this]
  rw [this]
theorem sum_rep : ∀ (L : List Ix) (b : Nat), (∀ q ∈ L, q.2.2 = b) → (L.flatMap fun q => parts (mCl q) q.2.2).length = L.length * b
  | [], b, _ => by simp
  | q :: L, b, h => by
    rw [List.flatMap_cons, List.length_append, parts_len, sum_rep L b fun x hx => h x (List.mem_cons_of_mem _ hx), h q List.mem_cons_self, List.length_cons, Nat.succ_mul, Nat.add_comm]
theorem count_by {rs : List (Int × Int)} {b : Nat} (hb : 0 < b) : ((ixP.filter (hasAll rs)).filter fun q => q.2.2 == b).length ≤ rs.length / b := by
  refine (Nat.le_div_iff_mul_le hb).mpr ?_
  have hmem : ∀ q ∈ (ixP.filter (hasAll rs)).filter fun q => q.2.2 == b, q ∈ ixP ∧ hasAll rs q = true ∧ q.2.2 = b := fun q hq => by
    simp only [List.mem_filter, beq_iff_eq] at hq
    exact ⟨hq.1.1, hq.1.2, hq.2⟩
  rw [← sum_rep _ b fun q hq => (hmem q hq).2.2]
  refine nodup_sub_len ?_ fun x hx => ?_
  · refine List.pairwise_flatMap.mpr ⟨fun q hq => parts_nodup ?_ _, ?_⟩
    · have := ixP_ok q (hmem q hq).1
      simp only [mCl]; omega
    · refine List.Pairwise.imp_of_mem (fun {p q} hp hq hne => ?_) (List.Pairwise.filter _ (List.Pairwise.filter _ ixP_nodup))
      exact parts_apart (hmem p hp).1 (hmem q hq).1 ((hmem p hp).2.2.trans (hmem q hq).2.2.symm) hne
  · obtain ⟨q, hq, hx⟩ := List.mem_flatMap.mp hx
    exact hasAll_iff.mp (hmem q hq).2.1 x hx
theorem split_len : ∀ L : List Ix, (∀ q ∈ L, 2 ≤ q.2.2 ∧ q.2.2 ≤ 8) → L.length = (L.filter fun q => q.2.2 == 2).length + (L.filter fun q => q.2.2 == 3).length + (L.filter fun q => q.2.2 == 4).length + (L.filter fun q => q.2.2 == 5).length + (L.filter fun q => q.2.2 == 6).length + (L.filter fun q => q.2.2 == 7).length + (L.filter fun q => q.2.2 == 8).length
  | [], _ => rfl
  | q :: L, h => by
    have ih := split_len L fun x hx => h x (List.mem_cons_of_mem _ hx)
    have hq := h q List.mem_cons_self
    have : q.2.2 = 2 ∨ q.2.2 = 3 ∨ q.2.2 = 4 ∨ q.2.2 = 5 ∨ q.2.2 = 6 ∨ q.2.2 = 7 ∨ q.2.2 = 8 := by omega
    rcases this with e | e | e | e | e | e | e <;> (simp [List.filter_cons, e]; omega)
def bnd (n : Nat) : Nat := n / 2 + n / 3 + n / 4 + n / 5 + n / 6 + n / 7 + n / 8
def Wt : Nat → Nat
  | 0 => 1
  | n + 1 => 1 + bnd (n + 1) * Wt n
theorem many_merges {rs : List (Int × Int)} (h : rs.length ≤ 8) : (ixP.filter (hasAll rs)).length ≤ bnd rs.length := by
  rw [split_len]
  · have h2 := count_by (rs := rs) (b := 2) (by decide)
    have h3 := count_by (rs := rs) (b := 3) (by decide)
    have h4 := count_by (rs := rs) (b := 4) (by decide)
    have h5 := count_by (rs := rs) (b := 5) (by decide)
    have h6 := count_by (rs := rs) (b := 6) (by decide)
    have h7 := count_by (rs := rs) (b := 7) (by decide)
    have h8 := count_by (rs := rs) (b := 8) (by decide)
    unfold bnd; omega
  · intro q hq
    obtain ⟨h1, h2⟩ := List.mem_filter.mp hq
    have o := ixP_ok q h1
    refine ⟨o.2.2.2.1, ?_⟩
    have := nodup_sub_len (parts_nodup (c := mCl q) (by simp only [mCl]; omega) q.2.2) (hasAll_iff.mp h2)
    rw [parts_len] at this
    omega
theorem Wt_pos : ∀ n, 1 ≤ Wt n
  | 0 => Nat.le_refl _
  | n + 1 => by rw [Wt]; omega
theorem Wt_mono : ∀ n, n ≤ 8 → ∀ m, m ≤ n → Wt m ≤ Wt n := by decide +kernel
theorem Wt_8 : Wt 8 = 91705 := by decide +kernel
end PL
set_option Elab.async false
set_option linter.all false
set_option maxRecDepth 100000
set_option maxHeartbeats 4000000
/-! The program's is_split. -/
namespace PL
open PySem PySem.Spec PyProof.Rows L2
/-! ### classes in order -/
def srtC (L : List (Int × Int)) : List (Int × Int) := L.mergeSort fun a b => dLe (cD a) (cD b)
theorem srtC_perm (L : List (Int × Int)) : (srtC L).Perm L := List.mergeSort_perm _ _
theorem srtOk_cD (L : List (Int × Int)) : srtOk (L.map cD) = true := by
  have := srtOk_tD (L.map fun c => [c.1, c.2])
  rw [List.map_map] at this
  exact this
theorem sortedD_cD (L : List (Int × Int)) : sortedD [.lst (L.map cD)] = some (.lst ((srtC L).map cD)) := sortedD_map cD _ (fun _ _ => rfl) (srtOk_cD L)
theorem nkAll_cD (L : List (Int × Int)) : nkAll (L.map cD) = true := by
  unfold nkAll
  simp only [List.all_eq_true]
  intro x hx
  obtain ⟨c, _, rfl⟩ := List.mem_map.mp hx
  rw [nkD_cD]; rfl
theorem sortedT_cD (L : List (Int × Int)) : sortedT [rowsD L] = some (.lst ((srtC L).map cD)) := by
  show (if srtOk (L.map cD) = true ∧ nkAll (L.map cD) = true then some (D.lst ((L.map cD).mergeSort dLe)) else none) = _
  rw [if_pos ⟨srtOk_cD L, nkAll_cD L⟩]
  have := sortedD_cD L
  unfold sortedD at this
  simp only [srtOk_cD, if_true] at this
  exact this
/-! ### a merging -/
def mgL (rs : List (Int × Int)) (q : Ix) : List (Int × Int) := srtC ((rs.filter fun p => !decide (p ∈ parts (mCl q) q.2.2)) ++ [mCl q])
theorem F_merged_eq {rs : List (Int × Int)} (h : rs.length ≤ 100) (q : Ix) : F_merged [rowsD rs, cD (mCl q), rowsD (parts (mCl q) q.2.2)] = some (.ok (rowsD (mgL rs q))) := by
  refine fnD_wp rfl ?_
  unfold B_merged env0
  simp [-List.map_map]
  refine lc_map cD (fun p => !decide (p ∈ parts (mCl q) q.2.2)) cD (fun p hp => ?_) ?_
  · have e : notinD (cD p) (rowsD (parts (mCl q) q.2.2)) = some (.bl (!decide (p ∈ parts (mCl q) q.2.2))) := Eq.trans (notinD_tup (α := Int × Int) p (parts (mCl q) q.2.2)) (congrArg (fun b => some (D.bl (!b))) (decide_eq_decide.mpr Iff.rfl))
    simp [e, -List.map_map]
    exact Classical.em _
  · have hl := List.length_filter_le (fun p => !decide (p ∈ parts (mCl q) q.2.2)) rs
    have e : (rs.filter fun p => !decide (p ∈ parts (mCl q) q.2.2)).map cD ++ [cD (mCl q)] = ((rs.filter fun p => !decide (p ∈ parts (mCl q) q.2.2)) ++ [mCl q]).map cD := by rw [List.map_append]; rfl
    simp [-List.map_map, -List.filter_append, -List.map_append]
    rw [e, sortedD_cD]
    exact ⟨by omega, by simp [tupleD, -List.map_map]; rfl⟩
structure St (rs : List (Int × Int)) : Prop where
  cl : ∀ p ∈ rs, isCl p
  nd : rs.Nodup
theorem St.mg {rs : List (Int × Int)} (h : St rs) {q : Ix} (hq : q ∈ ixP) (hn : mCl q ∉ rs) : St (mgL rs q) := by
  have o := ixP_ok q hq
  have pm := srtC_perm ((rs.filter fun p => !decide (p ∈ parts (mCl q) q.2.2)) ++ [mCl q])
  refine ⟨fun p hp => ?_, pm.nodup_iff.mpr ?_⟩
  · rcases List.mem_append.mp (pm.mem_iff.mp hp) with z | z
    · exact h.cl p (List.mem_filter.mp z).1
    · rw [List.mem_singleton.mp z]
      simp only [isCl, mCl]; omega
  · refine List.nodup_append.mpr ⟨h.nd.sublist List.filter_sublist, by simp, fun a ha b hb => ?_⟩
    rw [List.mem_singleton.mp hb]
    exact fun e => hn (e ▸ (List.mem_filter.mp ha).1)
theorem mg_len {rs : List (Int × Int)} (h : St rs) {q : Ix} (hq : q ∈ ixP) (ha : hasAll rs q = true) : (mgL rs q).length + 1 ≤ rs.length := by
  have o := ixP_ok q hq
  have pm := srtC_perm ((rs.filter fun p => !decide (p ∈ parts (mCl q) q.2.2)) ++ [mCl q])
  have e := pm.length_eq
  rw [List.length_append, List.length_singleton] at e
  have e2 : (mgL rs q).length = (rs.filter fun p => !decide (p ∈ parts (mCl q) q.2.2)).length + 1 := e
  have n1 := nodup_sub_len (m := rs.filter fun p => decide (p ∈ parts (mCl q) q.2.2)) (parts_nodup (c := mCl q) (by simp only [mCl]; omega) q.2.2) fun x hx => List.mem_filter.mpr ⟨hasAll_iff.mp ha x hx, by simpa using hx⟩
  rw [parts_len] at n1
  have n2 : ∀ l : List (Int × Int), (l.filter fun p => decide (p ∈ parts (mCl q) q.2.2)).length + (l.filter fun p => !decide (p ∈ parts (mCl q) q.2.2)).length = l.length := by
    intro l
    induction l with
    | nil => rfl
    | cons x l ih =>
      by_cases c : x ∈ parts (mCl q) q.2.2
      · simp [c]; omega
      · simp [c]; omega
  have := n2 rs
  omega
/-- the set of classes -/
def inS (rs : List (Int × Int)) : Nat → Nat → Prop := fun r m => ((r : Int), (m : Int)) ∈ rs
theorem inS_mg {rs : List (Int × Int)} {q : Ix} : inS (mgL rs q) = mgP (inS rs) q.2.1 q.1 q.2.2 := by
  funext r m
  refine propext ?_
  have pm := srtC_perm ((rs.filter fun p => !decide (p ∈ parts (mCl q) q.2.2)) ++ [mCl q])
  have : inS (mgL rs q) r m ↔ ((r : Int), (m : Int)) ∈ (rs.filter fun p => !decide (p ∈ parts (mCl q) q.2.2)) ++ [mCl q] := pm.mem_iff
  rw [this, List.mem_append, List.mem_singleton, List.mem_filter]
  unfold mgP inS
  have e1 : (((r : Int), (m : Int)) = mCl q) ↔ (r = q.2.1 ∧ m = q.1) := by
    unfold mCl; simp only [Prod.mk.injEq]; omega
  have e2 : (((r : Int), (m : Int)) ∈ parts (mCl q) q.2.2) ↔ ∃ j, j < q.2.2 ∧ r = q.2.1 + q.1 * j ∧ m = q.1 * q.2.2 := by
    rw [mem_parts]
    refine exists_congr fun j => and_congr Iff.rfl ?_
    simp only [mCl, Prod.mk.injEq, ← Int.natCast_mul, ← Int.natCast_add, Int.ofNat_inj]
  simp only [e1, Bool.not_eq_true', decide_eq_false_iff_not, e2]
  exact Or.comm
theorem hasAll_inS {rs : List (Int × Int)} {q : Ix} : hasAll rs q = true ↔ ∀ j, j < q.2.2 → inS rs (q.2.1 + q.1 * j) (q.1 * q.2.2) := by
  rw [hasAll_iff]
  unfold inS
  constructor
  · intro h j hj
    refine h _ (mem_parts.mpr ⟨j, hj, ?_⟩)
    simp only [mCl, Int.natCast_add, Int.natCast_mul]
  · intro h x hx
    obtain ⟨j, hj, rfl⟩ := mem_parts.mp hx
    have := h j hj
    simp only [Int.natCast_add, Int.natCast_mul] at this
    exact this
theorem St.up {rs : List (Int × Int)} {q : Ix} (hq : q ∈ ixP) (ha : hasAll rs q = true) (hn : mCl q ∉ rs) (h : Sp (inS (mgL rs q))) : Sp (inS rs) :=
  Sp.up h (ixP_ok q hq).2.2.2.1 (fun z => hn z) (hasAll_inS.mp ha) inS_mg
theorem one_of {rs : List (Int × Int)} (h : St rs) (hs : ∀ r m, inS rs r m ↔ r = 0 ∧ m = 1) : rs = [(0, 1)] := by
  have key : ∀ p, p ∈ rs ↔ p = (0, 1) := fun p => by
    constructor
    · intro hp
      obtain ⟨⟨h1, h2⟩, h3, h4⟩ := h.cl p hp
      have := (hs p.1.toNat p.2.toNat).mp (by unfold inS; rw [Int.toNat_of_nonneg h3, Int.toNat_of_nonneg (by omega)]; exact hp)
      exact Prod.ext (by show p.1 = 0; omega) (by show p.2 = 1; omega)
    · rintro rfl
      exact (hs 0 1).mpr ⟨rfl, rfl⟩
  refine List.perm_singleton.mp ((List.perm_ext_iff_of_nodup h.nd (by simp)).mpr fun p => ?_)
  rw [key, List.mem_singleton]
theorem St.down {rs : List (Int × Int)} (h : St rs) (hs : Sp (inS rs)) : rs = [(0, 1)] ∨ ∃ q ∈ ixP, hasAll rs q = true ∧ mCl q ∉ rs ∧ Sp (inS (mgL rs q)) := by
  rcases Sp.down hs with z | ⟨c, d, n, hn, h1, h2, h3⟩
  · exact .inl (one_of h z)
  · right
    have p0 := h.cl _ (h2 0 (by omega))
    have p1 := h.cl _ (h2 (n - 1) (by omega))
    simp only [isCl] at p0 p1
    have hd : 1 ≤ d := by
      rcases Nat.eq_zero_or_pos d with q | q
      · rw [q] at p0; simp at p0
      · exact q
    have hdn : d * n ≤ 12 := by omega
    have hd12 : d * 2 ≤ d * n := Nat.mul_le_mul_left d hn
    have hc : c < d := by
      have e : d * n = d * (n - 1) + d := by
        rw [← Nat.mul_succ]; congr 1; omega
      omega
    refine ⟨(d, c, n), ixP_mem hd (by omega) hc hn hdn, hasAll_inS.mpr h2, h1, ?_⟩
    rw [inS_mg]; exact h3
/-! ### the walk -/
theorem nkDs_cD : ∀ L : List (Int × Int), nkDs (L.map cD) = some (L.map fun c => .tup [.num c.1, .num c.2])
  | [] => by simp [nkDs]
  | c :: L => by
    have e := nkDs_cD L
    have e1 := nkD_cD c
    simp only [List.map_cons, nkDs, e1, e]
    rfl
theorem nkD_rows (L : List (Int × Int)) : nkD (rowsD L) = some (.tup (L.map fun c => .tup [.num c.1, .num c.2])) := by
  have e := nkDs_cD L
  simp only [nkD, e]
  rfl
theorem dep_rows : ∀ L : List (Int × Int), NestedKey.depthAll (L.map fun c => NestedKey.tup [.num c.1, .num c.2]) ≤ 2
  | [] => by simp [NestedKey.depthAll]
  | c :: L => by
    have := dep_rows L
    simp [NestedKey.depthAll, NestedKey.depth]; omega
theorem nkOk_rows (L : List (Int × Int)) : nkOk (rowsD L) = true := by
  have := dep_rows L
  unfold nkOk
  rw [nkD_rows]
  simp [isTup, NestedKey.depth]
  omega
theorem nkD_rows_inj {A B : List (Int × Int)} : (nkD (rowsD A) = nkD (rowsD B)) ↔ A = B := by
  rw [nkD_rows, nkD_rows]
  constructor
  · intro h
    simp only [Option.some.injEq, NestedKey.tup.injEq] at h
    exact List.map_inj_right (fun x y e => by simp at e; exact Prod.ext e.1 e.2) |>.mp h
  · intro h; rw [h]
abbrev keyR (M : List (List (Int × Int))) : List (D × D) := M.map fun c => (rowsD c, D.bl true)
theorem any_keyR (M : List (List (Int × Int))) (c : List (Int × Int)) : ((keyR M).any fun p => decide (nkD p.1 = nkD (rowsD c))) = decide (c ∈ M) := by
  rw [Bool.eq_iff_iff, List.any_eq_true, decide_eq_true_eq]
  constructor
  · rintro ⟨p, hp, h⟩
    obtain ⟨a, ha, rfl⟩ := List.mem_map.mp hp
    have := nkD_rows_inj.mp (by simpa using h : nkD (rowsD a) = nkD (rowsD c))
    exact this ▸ ha
  · intro h
    exact ⟨(rowsD c, .bl true), List.mem_map.mpr ⟨c, h, rfl⟩, by simp⟩
theorem notinN_rows (M : List (List (Int × Int))) (c : List (Int × Int)) : notinN (rowsD c) (.dcn (keyR M)) = some (.bl (!decide (c ∈ M))) := by
  unfold notinN
  simp only [nkOk_rows, if_true, any_keyR]
theorem storeR {M : List (List (Int × Int))} {c : List (Int × Int)} (h : c ∉ M) : storeD (keyR M) (rowsD c) (.bl true) = keyR (M ++ [c]) := by
  unfold storeD
  rw [any_keyR, if_neg (by simpa using h)]
  show _ = keyR (M ++ [c]); unfold keyR; rw [List.map_append]; rfl
instance : Shal (List (Tp (Int × Int))) := ⟨by decide⟩
theorem neD_wait (ws : List (List (Int × Int))) : neD (.lst (ws.map rowsD)) (.lst []) = some (.bl (!decide (ws = []))) := by
  have := neD_cod (α := List (Tp (Int × Int))) (ws.map Tp.mk) []
  rw [show Cod.d (ws.map Tp.mk) = .lst ((ws.map Tp.mk).map Cod.d) from rfl, List.map_map] at this
  rw [show ws.map rowsD = ws.map (Cod.d ∘ Tp.mk) from rfl]
  refine this.trans (congrArg (fun b => some (D.bl (!b))) (decide_eq_decide.mpr ?_))
  simp
theorem eqD_top (x : List (Int × Int)) : eqD (rowsD x) (.tup [.tup [.int 0, .int 1]]) = some (.bl (decide (x = [(0, 1)]))) :=
  (eqD_cod (α := Tp (Int × Int)) ⟨x⟩ ⟨[(0, 1)]⟩).trans (congrArg (fun b => some (D.bl b)) (decide_eq_decide.mpr ⟨fun e => congrArg Tp.items e, fun e => by rw [e]⟩))
def sumW (ws : List (List (Int × Int))) : Nat := (ws.map fun w => Wt w.length).sum
theorem sumW_app (a b : List (List (Int × Int))) : sumW (a ++ b) = sumW a + sumW b := by unfold sumW; rw [List.map_append, List.sum_append]
theorem sumW_len : ∀ ws : List (List (Int × Int)), ws.length ≤ sumW ws
  | [] => Nat.zero_le _
  | w :: ws => by
    have := sumW_len ws
    have h1 := Wt_pos w.length
    unfold sumW at this ⊢
    rw [List.map_cons, List.sum_cons, List.length_cons]; omega
theorem sumW_le {B : Nat} : ∀ {ws : List (List (Int × Int))}, (∀ w ∈ ws, Wt w.length ≤ B) → sumW ws ≤ ws.length * B
  | [], _ => by simp [sumW]
  | w :: ws, h => by
    have := sumW_le (ws := ws) fun x hx => h x (List.mem_cons_of_mem _ hx)
    have h1 := h w List.mem_cons_self
    unfold sumW at this ⊢
    rw [List.map_cons, List.sum_cons, List.length_cons, Nat.succ_mul]; omega
/-- all mergings of a state -/
def nxt (rs : List (Int × Int)) (L : List Ix) : List (List (Int × Int)) := (L.filter fun q => !decide (mCl q ∈ rs)).map (mgL rs)
theorem nxt_W {rs : List (Int × Int)} (h : St rs) (h8 : rs.length ≤ 8) {L : List Ix} (hL : L.Perm (ixP.filter (hasAll rs))) : sumW (nxt rs L) + 1 ≤ Wt rs.length := by
  have hm : ∀ w ∈ nxt rs L, w.length + 1 ≤ rs.length := fun w hw => by
    unfold nxt at hw
    obtain ⟨q, hq, rfl⟩ := List.mem_map.mp hw
    obtain ⟨h1, h2⟩ := List.mem_filter.mp hq
    obtain ⟨h3, h4⟩ := List.mem_filter.mp (hL.mem_iff.mp h1)
    exact mg_len h h3 h4
  have hl : (nxt rs L).length ≤ bnd rs.length := by
    unfold nxt
    rw [List.length_map]
    refine Nat.le_trans (List.length_filter_le _ _) ?_
    rw [hL.length_eq]
    exact many_merges h8
  obtain ⟨n, hn⟩ : ∃ n, rs.length = n := ⟨_, rfl⟩
  rw [hn] at hm hl h8 ⊢
  cases n with
  | zero =>
    have : nxt rs L = [] := by
      cases e : nxt rs L with
      | nil => rfl
      | cons w _ => have := hm w (by rw [e]; exact List.mem_cons_self); omega
    rw [this]; simp [sumW, Wt]
  | succ n =>
    have := sumW_le (B := Wt n) fun w hw => Wt_mono n (by omega) _ (by have := hm w hw; omega)
    have h2 := Nat.mul_le_mul_right (Wt n) hl
    rw [Wt]; omega
theorem perm_split {rs A : List (Int × Int)} (h : A.Perm rs) : inS A = inS rs := by
  funext r m
  exact propext h.mem_iff
theorem F_merges_L (rs : List (Int × Int)) : ∃ L : List Ix, L.Perm (ixP.filter (hasAll rs)) ∧ F_merges_of [rowsD rs] = some (.ok (.lst (L.map mE))) := by
  refine ⟨(ixP.filter (hasAll rs)).mergeSort fun p q => dLe (mE p) (mE q), List.mergeSort_perm _ _, ?_⟩
  rw [F_merges_of_eq, List.map_mergeSort (r := fun p q => dLe (mE p) (mE q)) (s := dLe) fun _ _ _ _ => rfl]
theorem F_is_split_eq {rs : List (Int × Int)} (h : Rows rs) {b : Bool} (hb : b = true ↔ Sp (inS rs)) : F_is_split [planD rs] = some (.ok (.bl b)) := by
  have pr := srtC_perm rs
  have hS0 : St (srtC rs) := ⟨fun p hp => h.cl p (pr.mem_iff.mp hp), pr.nodup_iff.mpr h.nd⟩
  have hl0 : (srtC rs).length ≤ 8 := by rw [pr.length_eq]; exact h.le
  refine fnD_wp rfl ?_
  unfold B_is_split env0
  have e0 : sortedT [rowsD rs] = some (.lst ((srtC rs).map cD)) := sortedT_cD rs
  simp [-List.map_map, e0, tupleD]
  obtain ⟨J, hJ⟩ : ∃ J : Nat → Env → Row → Prop, ∀ m ρ s, J m ρ s ↔ ∃ (K ws : List (List (Int × Int))) (a3 a4 a5 : Option Sl), ρ = [some (.im (planD rs)), some (.ce (.dcn (keyR K))), some (.ce (.lst (ws.map rowsD))), a3, a4, a5] ∧ sumW ws ≤ m ∧ K.length + m ≤ 91705 ∧ (∀ w ∈ K, St w) ∧ (∀ w ∈ ws, St w ∧ w.length ≤ 8) ∧
      (∀ w ∈ K, ∀ q ∈ ixP, hasAll w q = true → mCl q ∉ w → mgL w q ∈ K ∨ mgL w q ∈ ws) ∧ (srtC rs ∈ K ∨ srtC rs ∈ ws) ∧ [(0, 1)] ∉ K ∧ (∀ w ∈ ws, Sp (inS w) → Sp (inS rs)) := ⟨_, fun _ _ _ => Iff.rfl⟩
  refine wp_while J (fun m ρ s hh => ?_) 100000 (sumW [srtC rs]) _ _ ?_ ((hJ ..).mpr ⟨[], [srtC rs], none, none, none, rfl, Nat.le_refl _, ?_, by simp, ?_, by simp, .inr (by simp), by simp, ?_⟩)
  · obtain ⟨K, ws, a3, a4, a5, rfl, hsm, hm, hK, hw, hc, hr, h1, hs⟩ := (hJ ..).mp hh
    simp [-List.map_map, neD_wait]
    by_cases hne : ws = []
    · refine .inl ⟨hne, ?_⟩
      subst hne
      cases b with
      | false => rfl
      | true =>
        exfalso
        have key : ∀ n, ∀ w ∈ K, w.length ≤ n → ¬ Sp (inS w) := by
          intro n
          induction n with
          | zero =>
            intro w hw0 hwl hsp
            rcases (hK w hw0).down hsp with e | ⟨q, hq, ha, hn, _⟩
            · rw [e] at hwl; simp at hwl
            · have := mg_len (hK w hw0) hq ha; omega
          | succ n ih =>
            intro w hw0 hwl hsp
            rcases (hK w hw0).down hsp with e | ⟨q, hq, ha, hn, h2⟩
            · exact h1 (e ▸ hw0)
            · have h3 := mg_len (hK w hw0) hq ha
              rcases hc w hw0 q hq ha hn with h4 | h4
              · exact ih _ h4 (by omega) h2
              · simp at h4
        rcases hr with h2 | h2
        · exact key _ _ h2 (Nat.le_refl _) (by rw [perm_split pr]; exact hb.mp rfl)
        · simp at h2
    · refine .inr ⟨hne, ?_⟩
      obtain ⟨w0, x, rfl⟩ : ∃ w0 x, ws = w0 ++ [x] := ⟨ws.dropLast, ws.getLast hne, (List.dropLast_concat_getLast hne).symm⟩
      obtain ⟨hxS, hx8⟩ := hw x (by simp)
      have hsum : sumW (w0 ++ [x]) = sumW w0 + Wt x.length := by rw [sumW_app]; simp [sumW]
      have hwp := Wt_pos x.length
      have hlast : ((w0 ++ [x]).map rowsD)[((w0 ++ [x]).map rowsD).length - 1]? = some (rowsD x) := by simp
      have hdrop : ((w0 ++ [x]).map rowsD).dropLast = w0.map rowsD := by simp
      refine ⟨m - 1, by omega, ?_⟩
      rw [wp_pop rfl]
      refine ⟨rowsD x, hlast, ⟨by simp, by simp⟩, ?_⟩
      rw [hdrop]
      simp [-List.map_map, notinN_rows]
      by_cases hk : x ∈ K
      · refine .inl ⟨hk, (hJ ..).mpr ⟨K, w0, _, _, _, rfl, by omega, by omega, hK, fun w hw' => hw w (by simp [hw']), fun w hw' q hq ha hn => ?_, ?_, h1, fun w hw' => hs w (by simp [hw'])⟩⟩
        · rcases hc w hw' q hq ha hn with z | z
          · exact .inl z
          · rcases List.mem_append.mp z with z | z
            · exact .inr z
            · rw [List.mem_singleton.mp z]; exact .inl hk
        · rcases hr with z | z
          · exact .inl z
          · rcases List.mem_append.mp z with z | z
            · exact .inr z
            · rw [List.mem_singleton.mp z]; exact .inl hk
      · refine .inr ⟨hk, ?_⟩
        rw [wp_dset rfl]
        simp only [wp_c, wp_var, imAt_succ, imAt_one, imAt_zero, some?_some, rk_ok, storeR hk]
        refine ⟨⟨nkOk_rows x, by simp; omega⟩, by simp, ?_⟩
        simp [-List.map_map, eqD_top, -List.map_append]
        by_cases ht : x = [(0, 1)]
        · refine .inr ⟨ht, hb.mpr (hs x (by simp) (Sp.one fun r m => ?_))⟩
          rw [ht]; unfold inS; simp; omega
        · refine .inl ⟨ht, ?_⟩
          obtain ⟨L, hL, eL⟩ := F_merges_L x
          have hW := nxt_W hxS hx8 hL
          have hn1 : (w0 ++ nxt x L).length ≤ 91705 := by
            have := sumW_len (w0 ++ nxt x L)
            rw [sumW_app] at this
            omega
          rw [wp_extend rfl]
          simp [-List.map_map, -List.map_append, eL]
          refine lc_map mE (fun q => !decide (mCl q ∈ x)) (fun q => rowsD (mgL x q)) (fun q hq => ?_) ?_
          · have e : notinD (cD (mCl q)) (rowsD x) = some (.bl (!decide (mCl q ∈ x))) := Eq.trans (notinD_tup (α := Int × Int) (mCl q) x) (congrArg (fun b => some (D.bl (!b))) (decide_eq_decide.mpr Iff.rfl))
            have e2 := F_merged_eq (rs := x) (by omega) q
            simp [-List.map_map, e, e2]
            exact Classical.em _
          · have e3 : (L.filter fun q => !decide (mCl q ∈ x)).map (fun q => rowsD (mgL x q)) = (nxt x L).map rowsD := by
              unfold nxt; rw [List.map_map]; rfl
            rw [e3]
            rw [List.length_append] at hn1
            refine ⟨by simp; omega, (hJ ..).mpr ⟨K ++ [x], w0 ++ nxt x L, _, _, _, by rw [List.map_append], by rw [sumW_app]; omega, by simp; omega, fun w hw' => ?_, fun w hw' => ?_, fun w hw' q hq ha hn => ?_, ?_, fun z => ?_, fun w hw' hsp => ?_⟩⟩
            · rcases List.mem_append.mp hw' with z | z
              · exact hK w z
              · rw [List.mem_singleton.mp z]; exact hxS
            · rcases List.mem_append.mp hw' with z | z
              · exact hw w (by simp [z])
              · unfold nxt at z
                obtain ⟨q, hq, rfl⟩ := List.mem_map.mp z
                obtain ⟨h2, h3⟩ := List.mem_filter.mp hq
                obtain ⟨h4, h5⟩ := List.mem_filter.mp (hL.mem_iff.mp h2)
                have := mg_len hxS h4 h5
                exact ⟨hxS.mg h4 (by simpa using h3), by omega⟩
            · rcases List.mem_append.mp hw' with z | z
              · rcases hc w z q hq ha hn with z | z
                · exact .inl (by simp [z])
                · rcases List.mem_append.mp z with z | z
                  · exact .inr (by simp [z])
                  · rw [List.mem_singleton.mp z]; exact .inl (by simp)
              · rw [List.mem_singleton.mp z] at ha hn ⊢
                refine .inr (List.mem_append_right _ (List.mem_map.mpr ⟨q, List.mem_filter.mpr ⟨hL.mem_iff.mpr (List.mem_filter.mpr ⟨hq, ha⟩), by simpa using hn⟩, rfl⟩))
            · rcases hr with z | z
              · exact .inl (by simp [z])
              · rcases List.mem_append.mp z with z | z
                · exact .inr (by simp [z])
                · rw [List.mem_singleton.mp z]; exact .inl (by simp)
            · rcases List.mem_append.mp z with z | z
              · exact h1 z
              · exact ht (List.mem_singleton.mp z).symm
            · rcases List.mem_append.mp hw' with z | z
              · exact hs w (by simp [z]) hsp
              · unfold nxt at z
                obtain ⟨q, hq, rfl⟩ := List.mem_map.mp z
                obtain ⟨h2, h3⟩ := List.mem_filter.mp hq
                obtain ⟨h4, h5⟩ := List.mem_filter.mp (hL.mem_iff.mp h2)
                exact hs x (by simp) (St.up h4 h5 (by simpa using h3) hsp)
  · have := Wt_mono 8 (Nat.le_refl _) _ hl0
    rw [Wt_8] at this
    simp [sumW]; omega
  · have := Wt_mono 8 (Nat.le_refl _) _ hl0
    rw [Wt_8] at this
    simp [sumW]; omega
  · intro w hw
    rw [List.mem_singleton.mp hw]; exact ⟨hS0, hl0⟩
  · intro w hw
    rw [List.mem_singleton.mp hw, perm_split pr]; exact id
end PL
set_option Elab.async false
set_option linter.all false
set_option maxRecDepth 100000
set_option maxHeartbeats 4000000
namespace PL
open PySem PySem.Spec PyProof.Rows L2
def okV (d : D) : Bool := notIns d && (match d with | .tup xs => xs.all notIns | _ => true)
theorem okV_tup {d : D} (h : okV d = true) : ∀ xs, d = .tup xs → xs.all notIns = true := fun xs e => by
  subst e; simpa [okV, notIns] using h
theorem okV_not {d : D} (h : okV d = true) : notIns d = true := by
  unfold okV at h; exact (Bool.and_eq_true_iff.mp h).1
theorem okV_cls {d : D} (h : okV d = true) : F_is_class [d] = some (.ok (.bl (isCls d))) := F_is_class_eq d (okV_not h) (okV_tup h)
theorem okV_cD (c : Int × Int) : okV (cD c) = true := rfl
theorem isFrom_out {d : D} {lo hi : Int} (h : isFrom d lo hi = true) : ∃ v, d = .int v ∧ lo ≤ v ∧ v ≤ hi := by
  cases d with
  | int v => exact ⟨v, rfl, by simpa [isFrom] using h⟩
  | _ => cases h
theorem isCls_out {d : D} (h : isCls d = true) : ∃ c, d = cD c ∧ isCl c := by
  unfold isCls at h
  split at h
  · rename_i a b
    obtain ⟨h1, h2⟩ := Bool.and_eq_true_iff.mp h
    obtain ⟨m, rfl, m1, m2⟩ := isFrom_out h1
    obtain ⟨r, rfl, r1, r2⟩ := isFrom_out h2
    exact ⟨(r, m), rfl, ⟨m1, m2⟩, r1, by show r < m; omega⟩
  · cases h
theorem F_whole_eq : F__law_is_whole = F_is_from := rfl
/-- the items up to the first that is refused -/
structure Dec (xs : List D) (good : List (Int × Int)) (b : D) (t : List D) : Prop where
  eq : xs = good.map cD ++ b :: t
  cl : ∀ p ∈ good, isCl p
  nd : good.Nodup
  bad : (isCls b = false ∧ okV b = true) ∨ ∃ c ∈ good, b = cD c
theorem dec : ∀ (xs : List D) (good : List (Int × Int)), (∀ x ∈ xs, okV x = true) → (∀ p ∈ good, isCl p) → good.Nodup →
    (∃ rs : List (Int × Int), good.map cD ++ xs = rs.map cD ∧ (∀ p ∈ rs, isCl p) ∧ rs.Nodup) ∨ ∃ g b t, Dec (good.map cD ++ xs) g b t
  | [], good, _, h1, h2 => .inl ⟨good, by simp, h1, h2⟩
  | x :: xs, good, h, h1, h2 => by
    by_cases c : isCls x = true
    · obtain ⟨p, rfl, hp⟩ := isCls_out c
      by_cases q : p ∈ good
      · exact .inr ⟨good, cD p, xs, rfl, h1, h2, .inr ⟨p, q, rfl⟩⟩
      · have := dec xs (good ++ [p]) (fun x hx => h x (List.mem_cons_of_mem _ hx)) (fun y hy => by
          rcases List.mem_append.mp hy with z | z
          · exact h1 y z
          · rw [List.mem_singleton.mp z]; exact hp) (List.nodup_append.mpr ⟨h2, by simp, fun a ha b hb e => q (by rw [List.mem_singleton.mp hb] at e; exact e ▸ ha)⟩)
        rwa [List.map_append, List.append_assoc] at this
    · exact .inr ⟨good, x, xs, rfl, h1, h2, .inl ⟨by simpa using c, h x List.mem_cons_self⟩⟩
section
variable {xs t : List D} {good : List (Int × Int)} {b : D}
theorem Dec.lt (d : Dec xs good b t) : good.length < xs.length := by rw [d.eq]; simp
theorem Dec.at_ (d : Dec xs good b t) {k : Nat} (h : k < good.length) : xs[k]'(by have := d.lt; omega) = cD good[k] := by
  have := d.eq; subst this
  rw [List.getElem_append_left (by simpa using h)]; simp
theorem Dec.at_b (d : Dec xs good b t) : xs[good.length]'d.lt = b := by
  have := d.eq; subst this
  rw [List.getElem_append_right (by simp)]; simp
theorem Dec.take (d : Dec xs good b t) {k : Nat} (h : k ≤ good.length) : xs.take k = (good.take k).map cD := by
  have := d.eq; subst this
  rw [List.take_append_of_le_length (by simpa using h), List.map_take]
theorem Dec.notin (d : Dec xs good b t) {k : Nat} (h : k < good.length) : good[k] ∉ good.take k := fun hm => by
  obtain ⟨j, hj, e⟩ := List.getElem_of_mem hm
  have hj' : j < k := by simp at hj; omega
  rw [List.getElem_take] at e
  exact List.pairwise_iff_getElem.mp d.nd j k (by omega) h hj' e
theorem slD_tk {xs : List D} {k : Nat} (h : k ≤ xs.length) : slD (.tup xs) none (some (k : Int)) = some (.tup (xs.take k)) := by
  unfold slD
  show some (D.tup (cutD _ _ _)) = _
  rw [cutD_take h]
theorem in_no {c : Int × Int} {l : List (Int × Int)} (h : c ∉ l) : inD (cD c) (.tup (l.map cD)) = some (.bl false) := inD_tup_f (α := Int × Int) h
theorem in_yes {c : Int × Int} {l : List (Int × Int)} (h : c ∈ l) : inD (cD c) (.tup (l.map cD)) = some (.bl true) := inD_tup_t (α := Int × Int) h
theorem plan_at (d : Dec xs good b t) (h8 : xs.length ≤ 8) : I_Plan [.tup xs] = some (.error ⟨"BadClasses", [("index", .int (good.length : Int))]⟩) := by
  have main : wp (B_Plan_init (env0I "Plan" 4 [.tup xs]) row0) fun o _ => outI "Plan" (some (o, row0)) = some (.error ⟨"BadClasses", [("index", .int (good.length : Int))]⟩) := by
    unfold B_Plan_init env0I
    have ex : xs = xs.map id := by simp
    have h8' : ¬ (8 < (xs.length : Int)) := by omega
    simp [h8', -List.map_map]
    rw [show enumL xs = enumL (xs.map id) by rw [← ex], enumL_map]
    have hlt := d.lt
    obtain ⟨J, hJ⟩ : ∃ J : Nat → Env → Row → Prop, ∀ k ρ s, J k ρ s ↔ k ≤ good.length ∧ ∃ a b, ρ = [some (.ce (.ins "Plan" [])), some (.im (.tup xs)), a, b] := ⟨_, fun _ _ _ => Iff.rfl⟩
    refine wp_forN (fun (q : D × Nat) => D.tup [.int (q.2 : Nat), id q.1]) J (fun k hk ρ s hh => ?_) (fun ρ s hh => ?_) ((hJ ..).mpr ⟨Nat.zero_le _, _, _, rfl⟩)
    · obtain ⟨hki, a, b', rfl⟩ := (hJ ..).mp hh
      have hk' : k < xs.length := by simpa using hk
      simp only [List.getElem_zipIdx, Nat.zero_add]
      have e3 := slD_tk (xs := xs) (k := k) (by omega)
      rw [d.take hki] at e3
      by_cases c : k = good.length
      · subst c
        simp only [d.at_b]
        rcases d.bad with ⟨q, hv⟩ | ⟨c, hc, rfl⟩
        · simp [okV_cls hv, q, outI]
        · have hcl := d.cl c hc
          rw [List.take_length] at e3
          simp [hcl, e3, in_yes hc, outI]
      · have hlt2 : k < good.length := by omega
        have hcl := d.cl _ (List.getElem_mem hlt2)
        simp only [d.at_ hlt2]
        have e4 := in_no (d.notin hlt2)
        rw [List.map_take] at e4
        simp [hcl, e3, e4]
        exact (hJ ..).mpr ⟨by omega, _, _, rfl⟩
    · obtain ⟨hki, a, b, rfl⟩ := (hJ ..).mp hh
      simp at hki
      omega
  obtain ⟨o, s', e, q⟩ := main
  unfold I_Plan fnI
  rw [if_pos (by rfl), e]
  cases o <;> exact q
theorem plan_none {d : D} (hd : notTup d = true ∨ ∃ xs, d = .tup xs ∧ 8 < xs.length) : I_Plan [d] = some (.error ⟨"BadClasses", [("index", .non)]⟩) := by
  have main : wp (B_Plan_init (env0I "Plan" 4 [d]) row0) fun o _ => outI "Plan" (some (o, row0)) = some (.error ⟨"BadClasses", [("index", .non)]⟩) := by
    unfold B_Plan_init env0I
    rcases hd with hd | ⟨xs, rfl, hd⟩
    · simp [isT_not hd, outI]
    · have : 8 < (xs.length : Int) := by omega
      simp [this, outI]
  obtain ⟨o, s', e, q⟩ := main
  unfold I_Plan fnI
  rw [if_pos (by rfl), e]
  cases o <;> exact q
theorem due_none {d : D} (hd : notTup d = true ∨ ∃ xs, d = .tup xs ∧ 8 < xs.length) : F__law_due [d] = some (.ok (.lst [.str "classes", .non])) := by
  refine fnD_wp rfl ?_
  unfold B__law_due env0
  rcases hd with hd | ⟨xs, rfl, hd⟩
  · simp [isT_not hd]
  · have : 8 < (xs.length : Int) := by omega
    simp [this]
/-- one turn of the law's own check -/
theorem due_at (d : Dec xs good b t) (h8 : xs.length ≤ 8) : F__law_due [.tup xs] = some (.ok (.lst [.str "classes", .int (good.length : Int)])) := by
  refine fnD_wp rfl ?_
  unfold B__law_due env0
  have h8' : ¬ (8 < (xs.length : Int)) := by omega
  have hlt := d.lt
  simp [h8']
  obtain ⟨J, hJ⟩ : ∃ J : Nat → Env → Row → Prop, ∀ k ρ s, J k ρ s ↔ k ≤ good.length ∧ ∃ a b, ρ = [some (.im (.tup xs)), a, b] := ⟨_, fun _ _ _ => Iff.rfl⟩
  refine ⟨by omega, wp_forR J (fun k hk ρ s hh => ?_) (fun ρ s hh => ?_) ((hJ ..).mpr ⟨Nat.zero_le _, _, _, rfl⟩)⟩
  · obtain ⟨hki, a, b', rfl⟩ := (hJ ..).mp hh
    have e3 := slD_tk (xs := xs) (k := k) (by omega)
    rw [d.take hki] at e3
    have e1 : atI xs (k : Int) = some xs[k] := by rw [atI_nat hk, List.getElem?_eq_getElem hk]
    by_cases c : k = good.length
    · subst c
      rw [d.at_b] at e1
      rcases d.bad with ⟨q, hv⟩ | ⟨c, hc, rfl⟩
      · have hn := okV_not hv
        cases b with
        | ins _ _ => cases hn
        | dcn _ => cases hn
        | dcb _ => cases hn
        | tup ys =>
          have h3 := okV_tup hv ys rfl
          match ys, h3, q with
          | [], _, _ => simp [e1]
          | [u], _, _ => simp [e1]
          | [u, v], h3, q =>
            simp only [List.all_cons, List.all_nil, Bool.and_true, Bool.and_eq_true] at h3
            by_cases c1 : isFrom v 1 12 = true
            · obtain ⟨m, rfl, m1, m2⟩ := isFrom_out c1
              have c2 : isFrom u 0 (m - 1) = false := by
                simp only [isCls, c1, Bool.true_and] at q; exact q
              simp [e1, F_whole_eq, m1, m2, F_is_from_eq u _ _ h3.1, c2]
            · have c1' : isFrom v 1 12 = false := by simpa using c1
              simp [e1, F_whole_eq, F_is_from_eq v _ _ h3.2, c1']
          | u :: v :: w :: r, _, _ =>
            have : ¬((r.length : Int) + 1 + 1 + 1 = 2) := by omega
            simp [e1, this]
        | _ => simp [e1]
      · obtain ⟨⟨m1, m2⟩, r0, r1⟩ := d.cl c hc
        rw [List.take_length] at e3
        have : c.1 ≤ c.2 - 1 := by omega
        simp [e1, F_whole_eq, m1, m2, r0, this, e3, in_yes hc]
    · have hlt2 : k < good.length := by omega
      obtain ⟨⟨m1, m2⟩, r0, r1⟩ := d.cl _ (List.getElem_mem hlt2)
      rw [d.at_ hlt2] at e1
      have : good[k].1 ≤ good[k].2 - 1 := by omega
      have e4 := in_no (d.notin hlt2)
      rw [List.map_take] at e4
      simp [e1, F_whole_eq, m1, m2, r0, this, e3, e4]
      exact (hJ ..).mpr ⟨by omega, _, _, rfl⟩
  · obtain ⟨hki, a, b, rfl⟩ := (hJ ..).mp hh
    omega
end
theorem due_ok {rs : List (Int × Int)} (h : Rows rs) : F__law_due [rowsD rs] = some (.ok .non) := by
  refine fnD_wp rfl ?_
  unfold B__law_due env0
  have hl := h.le
  have h8' : ¬ (8 < (rs.length : Int)) := by omega
  simp [h8', -List.map_map]
  obtain ⟨J, hJ⟩ : ∃ J : Nat → Env → Row → Prop, ∀ k ρ s, J k ρ s ↔ ∃ a b, ρ = [some (.im (rowsD rs)), a, b] := ⟨_, fun _ _ _ => Iff.rfl⟩
  refine ⟨by omega, wp_forR J (fun k hk ρ s hh => ?_) (fun ρ s hh => ?_) ((hJ ..).mpr ⟨_, _, rfl⟩)⟩
  · obtain ⟨a, b', rfl⟩ := (hJ ..).mp hh
    obtain ⟨⟨m1, m2⟩, r0, r1⟩ := h.cl _ (List.getElem_mem hk)
    have nm : rs[k] ∉ rs.take k := fun hm => by
      obtain ⟨j, hj, e⟩ := List.getElem_of_mem hm
      have hj' : j < k := by simp at hj; omega
      rw [List.getElem_take] at e
      exact List.pairwise_iff_getElem.mp h.nd j k (by omega) hk hj' e
    have e3 := slD_tk (xs := rs.map cD) (k := k) (by simp; omega)
    have e1 : atI (rs.map cD) (k : Int) = some (cD rs[k]) := by rw [atI_nat (by simpa using hk), List.getElem?_map, List.getElem?_eq_getElem hk]; rfl
    have : rs[k].1 ≤ rs[k].2 - 1 := by omega
    have e4 := in_no nm
    rw [List.map_take] at e4
    simp [e1, F_whole_eq, m1, m2, r0, this, e3, e4, -List.map_map, -List.map_take]
    exact (hJ ..).mpr ⟨_, _, rfl⟩
  · obtain ⟨a, b, rfl⟩ := (hJ ..).mp hh
    simp
theorem told_bad {d x : D} (h : I_Plan [d] = some (.error ⟨"BadClasses", [("index", x)]⟩)) : F__law_told_there [d] = some (.ok (.lst [.str "classes", x])) := by
  refine fnD_wp rfl ?_
  unfold B__law_told_there env0
  simp [h, tryGo, subT, XS, v_isif, v_str, v_lst, v_cons, v_nil, v_fld, List.lookup]
theorem told_fine {rs : List (Int × Int)} (h : Rows rs) : F__law_told_there [rowsD rs] = some (.ok (planD rs)) := by
  refine fnD_wp rfl ?_
  unfold B__law_told_there env0
  simp [I_Plan_rows h]
inductive Case (d : D) : Prop
  | ok (rs : List (Int × Int)) (h : Rows rs) (e : d = rowsD rs) : Case d
  | bad (x : D) (h1 : F__law_due [d] = some (.ok (.lst [.str "classes", x]))) (h2 : F__law_told_there [d] = some (.ok (.lst [.str "classes", x]))) (h3 : neD (.lst [.str "classes", x]) (.lst [.str "classes", x]) = some (.bl false)) : Case d
theorem ne_non : neD (.lst [.str "classes", .non]) (.lst [.str "classes", .non]) = some (.bl false) := neD_refl (by decide +kernel)
theorem ne_int (i : Int) : neD (.lst [.str "classes", .int i]) (.lst [.str "classes", .int i]) = some (.bl false) := neD_refl (by (unfold eqOk; simp [flat, flats, SeqAt.shaped, py, pys, PyData.canLay0, PyData.canLayAll0, PyData.depth, PyData.depthAll] <;> decide +kernel))
theorem case_not {d : D} (h : notTup d = true) : Case d := .bad .non (due_none (.inl h)) (told_bad (plan_none (.inl h))) ne_non
theorem case_tup {xs : List D} (h : ∀ x ∈ xs, okV x = true) : Case (.tup xs) := by
  by_cases h8 : 8 < xs.length
  · exact .bad .non (due_none (.inr ⟨xs, rfl, h8⟩)) (told_bad (plan_none (.inr ⟨xs, rfl, h8⟩))) ne_non
  · rcases dec xs [] h (by simp) (by simp) with ⟨rs, e, h1, h2⟩ | ⟨g, b, t, d⟩
    · rw [List.map_nil, List.nil_append] at e
      subst e
      exact .ok rs ⟨h1, h2, by simpa using h8⟩ rfl
    · rw [List.map_nil, List.nil_append] at d
      exact .bad _ (due_at d (by omega)) (told_bad (plan_at d (by omega))) (ne_int _)
/-! ### == of plans -/
theorem rows_eq (a b : List (Int × Int)) : eqD (rowsD a) (rowsD b) = some (.bl (decide (a = b))) :=
  (eqD_cod (α := Tp (Int × Int)) ⟨a⟩ ⟨b⟩).trans (congrArg (fun b => some (D.bl b)) (decide_eq_decide.mpr ⟨fun e => congrArg Tp.items e, fun e => by rw [e]⟩))
theorem rows_ne (a b : List (Int × Int)) : neD (rowsD a) (rowsD b) = some (.bl (!decide (a = b))) :=
  (neD_cod (α := Tp (Int × Int)) ⟨a⟩ ⟨b⟩).trans (congrArg (fun b => some (D.bl (!b))) (decide_eq_decide.mpr ⟨fun e => congrArg Tp.items e, fun e => by rw [e]⟩))
theorem F_eq_plan (a b : List (Int × Int)) : F_Plan_eq [planD a, planD b] = some (.ok (.bl (decide (a = b)))) := by
  refine fnD_wp rfl ?_
  unfold B_Plan_eq env0
  have hO : isO "Plan" (planD b) = some (.bl true) := by unfold planD isO; dsimp only; rw [if_pos rfl]
  simp [rows_eq, hO]
theorem F_eq_no (a : List (Int × Int)) {d : D} (h : isO "Plan" d = some (.bl false)) : F_Plan_eq [planD a, d] = some (.ok (.bl false)) := by
  refine fnD_wp rfl ?_
  unfold B_Plan_eq env0
  simp [h]
theorem eqP_plan (a b : List (Int × Int)) : eqP "Plan" F_Plan_eq (planD a) (planD b) = some (.bl (decide (a = b))) := by
  have h := F_eq_plan a b
  unfold eqP eqO
  rw [if_pos (by rfl)]
  unfold planD at h ⊢
  dsimp only
  rw [if_pos rfl, h]
theorem eqP_no (a : List (Int × Int)) {d : D} (h : isO "Plan" d = some (.bl false)) (h2 : oneOf "Plan" d = true) : eqP "Plan" F_Plan_eq (planD a) d = some (.bl false) := by
  have h := F_eq_no a h
  unfold eqP eqO
  rw [if_pos h2]
  unfold planD at h ⊢
  dsimp only
  rw [if_pos rfl, h]
def hB (rs : List (Int × Int)) : D := .tup [planD rs, rowsD rs]
def Jk (k : Nat) (ρ : Env) (s : Row) : Prop := ∃ (bs : List (List (Int × Int))) (a3 a4 a5 a6 a7 a8 a9 a10 a11 : Option Sl), ρ = [none, some .row, some (.ce (.lst (bs.map hB))), a3, a4, a5, a6, a7, a8, a9, a10, a11] ∧ bs.length ≤ k ∧ Good s
theorem law_mid {d : D} (hd : Case d) {k : Nat} (hk : k < 8) {bs : List (List (Int × Int))} (hb : bs.length ≤ k) {s : Row} (g : Good s) {a3 a5 a6 a7 a8 a9 a10 a11 : Option Sl} {QS : Out → Row → Prop} :
    wp (B_law_93 [none, some .row, some (.ce (.lst (bs.map hB))), a3, some (.im d), a5, a6, a7, a8, a9, a10, a11] s) (nk (fun ρ s => Jk (k + 1) ρ s) QS) := by
  unfold B_law_93
  cases hd with
  | bad x h1 h2 h3 =>
    simp [h1, h2]
    unfold B_law_94
    simp [h3]
    exact ⟨bs, _, _, _, _, _, _, _, _, _, rfl, by omega, g⟩
  | ok rs hr e =>
    subst e
    simp [due_ok hr, told_fine hr, -List.map_map]
    unfold B_law_94
    simp [-List.map_map]
    unfold B_law_98
    have hO : isO "Plan" (planD rs) = some (.bl true) := by unfold planD isO; dsimp only; rw [if_pos rfl]
    simp [hO, rows_ne, -List.map_map]
    unfold B_law_100
    simp [-List.map_map]
    have n1 : ∀ d ∈ [rowsD rs, D.non, D.str "plan", D.int 5, D.lst (rs.map cD)], eqP "Plan" F_Plan_eq (planD rs) d = some (.bl false) := fun d hd => by
      simp only [List.mem_cons, List.not_mem_nil, or_false] at hd
      rcases hd with rfl | rfl | rfl | rfl | rfl <;> exact eqP_no rs rfl rfl
    rw [show [rowsD rs, D.non, D.str "plan", D.int 5, D.lst (rs.map cD)] = [rowsD rs, D.non, D.str "plan", D.int 5, D.lst (rs.map cD)].map id by rw [List.map_id]]
    refine lc_map id (fun _ => false) id (fun d hd => ⟨_, rfl, ?_⟩) ?_
    · simp only [id]
      simp [n1 d hd, -List.map_map]
    · have ff : ∀ (α : Type) (l : List α), l.filter (fun _ => false) = [] := fun α l => by simp
      rw [ff]
      simp [-List.map_map]
      unfold B_law_102
      simp only [wp_seq, wp_if]
      simp [-List.map_map]
      refine lc_map hB (fun _ => false) (fun _ => .non) (fun b hb => ⟨_, rfl, ?_⟩) ?_
      · simp [eqP_plan, rows_eq, -List.map_map]
      · rw [ff]
        simp [-List.map_map]
        unfold B_law_104
        rw [wp_append rfl]
        simp [-List.map_map]
        exact ⟨by omega, bs ++ [rs], _, _, _, _, _, _, _, _, _, by rw [List.map_append]; rfl, by simp; omega, g⟩
theorem law_true (sa : Addr) (ns : List Int) (h : ns.length ≤ 63) (hb : ∀ q ∈ ns, Builtin.Int.intBits q ≤ 1048576) : isT (B_law (env0L 12) ⟨sa, ns, 0, 0, 7⟩) = true := by
  refine isT_of_wp ?_
  have g := Good.start sa h hb
  have hodd : F__law_odd_classes [] = some (.ok (.lst [.non, .int 5, .tup [.int 0], .lst [.int 0, .int 1], .tup [.int 0, .int 0], .tup [.int 1, .int 1], .tup [.int (-1), .int 2], .tup [.int 0, .int 13], .tup [.bl true, .int 2], .tup [.int 0, .bl true], .tup [.int 0, .int 1, .int 2], .str "01", .tup [.str "0", .int 2]])) := by
    refine fnD_wp rfl ?_
    unfold B__law_odd_classes env0
    simp
  unfold B_law env0L
  simp
  unfold B_law_85
  simp
  refine wp_forR (n := 8) Jk (fun k hk ρ s hh => ?_) (fun ρ s hh => ?_) ⟨[], _, _, _, _, _, _, _, _, _, rfl, by simp, g⟩
  · obtain ⟨bs, a3, a4, a5, a6, a7, a8, a9, a10, a11, rfl, hbs, gs⟩ := hh
    unfold B_law_86
    simp [-List.map_map]
    refine rows_ok (by decide) (by decide) gs fun rs s1 hr hl g1 => ?_
    unfold B_law_87
    simp [-List.map_map]
    refine pick_ok (by omega) (by omega) g1 fun at_ s2 t0 t1 g2 => ?_
    obtain ⟨n, rfl⟩ := Int.eq_ofNat_of_zero_le t0
    unfold B_law_88
    simp [-List.map_map]
    refine pick_ok (by decide) (by decide) g2 fun v s3 v0 v1 g3 => ?_
    by_cases c : v = 0
    · subst c
      simp [-List.map_map]
      unfold B_law_89
      simp [hodd, -List.map_map]
      unfold B_law_90
      have hn : n ≤ rs.length := by omega
      have f1 : slD (rowsD rs) none (some (n : Int)) = some (.tup ((rs.map cD).take n)) := slD_tk (by simpa using hn)
      have f2 : slD (rowsD rs) (some (n : Int)) none = some (.tup ((rs.map cD).drop n)) := slD_dropT (by simpa using hn)
      simp [f1, f2, -List.map_map, -List.map_take, -List.map_drop]
      refine pick_ok (by decide) (by decide) g3 fun u s4 u0 u1 g4 => ?_
      have hod : ∃ o, atI [D.non, D.int 5, D.tup [D.int 0], D.lst [D.int 0, D.int 1], D.tup [D.int 0, D.int 0],
                  D.tup [D.int 1, D.int 1], D.tup [D.int (-1), D.int 2], D.tup [D.int 0, D.int 13],
                  D.tup [D.bl true, D.int 2], D.tup [D.int 0, D.bl true], D.tup [D.int 0, D.int 1, D.int 2],
                  D.str "01", D.tup [D.str "0", D.int 2], D.tup [D.int 0, D.int 1],
                  D.tup [D.int 11, D.int 12], D.tup [D.int 0, D.int 12]] u = some o ∧ okV o = true := by
        have : u = 0 ∨ u = 1 ∨ u = 2 ∨ u = 3 ∨ u = 4 ∨ u = 5 ∨ u = 6 ∨ u = 7 ∨ u = 8 ∨ u = 9 ∨ u = 10 ∨ u = 11 ∨ u = 12 ∨ u = 13 ∨ u = 14 ∨ u = 15 := by omega
        rcases this with rfl | rfl | rfl | rfl | rfl | rfl | rfl | rfl | rfl | rfl | rfl | rfl | rfl | rfl | rfl | rfl <;> exact ⟨_, rfl, rfl⟩
      obtain ⟨o, o1, o2⟩ := hod
      have hl8 := hr.le
      simp [o1, -List.map_map, -List.map_take, -List.map_drop]
      refine ⟨by omega, by omega, ?_⟩
      refine law_mid (case_tup fun x hx => ?_) hk hbs g4
      have hv : ∀ x ∈ rs.map cD, okV x = true := fun x hx => by
        obtain ⟨c, _, rfl⟩ := List.mem_map.mp hx; rfl
      rcases List.mem_append.mp hx with q | q
      · exact hv x (List.mem_of_mem_take q)
      · rcases List.mem_cons.mp q with rfl | q
        · exact o2
        · exact hv x (List.mem_of_mem_drop q)
    · simp [c, -List.map_map]
      refine pick_ok (by decide) (by decide) g3 fun u s4 u0 u1 g4 => ?_
      by_cases c : u = 0
      · subst c
        have hl8 := hr.le
        simp [-List.map_map]
        refine ⟨by omega, pick_ok (by decide) (by decide) g4 fun t s5 t0 t1 g5 => ?_⟩
        have hod : ∃ o, atI [D.non, D.lst (rs.map cD), D.tup (rs.map cD ++ rs.map cD), D.str "rows", D.int 5] t = some o ∧ Case o := by
          have : t = 0 ∨ t = 1 ∨ t = 2 ∨ t = 3 ∨ t = 4 := by omega
          rcases this with rfl | rfl | rfl | rfl | rfl
          · exact ⟨_, rfl, case_not rfl⟩
          · exact ⟨_, rfl, case_not rfl⟩
          · refine ⟨_, rfl, case_tup fun x hx => ?_⟩
            rw [← List.map_append] at hx
            obtain ⟨c, _, rfl⟩ := List.mem_map.mp hx
            rfl
          · exact ⟨_, rfl, case_not rfl⟩
          · exact ⟨_, rfl, case_not rfl⟩
        obtain ⟨o, o1, o2⟩ := hod
        rw [rk_ok, ixD_lst, o1, some?_some]
        exact law_mid o2 hk hbs g5
      · simp [c, -List.map_map]
        exact law_mid (.ok rs hr rfl) hk hbs g4
  · obtain ⟨bs, a3, a4, a5, a6, a7, a8, a9, a10, a11, rfl, hbs, gs⟩ := hh
    unfold B_law_105
    simp [-List.map_map]
    refine lc_range (n := 9) (fun _ => true) (fun i => D.tup [.int (i : Int), .int 12]) (fun i hi => ⟨_, rfl, ?_⟩) ?_
    · simp [t_yes]
    · have e := told_bad (plan_none (d := .tup (List.map (fun (i : Nat) => D.tup [.int (i : Int), .int 12]) ((List.range 9).filter fun _ => true))) (.inr ⟨_, rfl, by decide⟩))
      refine ⟨_, e, ?_⟩
      have ee : eqD (.lst [.str "classes", .non]) (.lst [.str "classes", .non]) = some (.bl true) := eqD_refl (by decide +kernel)
      simp [ee]
end PL
set_option Elab.async false
set_option linter.all false
set_option maxRecDepth 100000
set_option maxHeartbeats 4000000
namespace PL
open PySem PySem.Spec PyProof.Rows L2
theorem all_mk {l : PySem.W.OpenLaw} {w : World} {K : PySem.W.Frag} {h : Heap} {mg : Str → Option Value} {fa : Addr} (X0 : K.In h) (G0 : h.Ns mainGlobals mg) (hfa : mg "law" = some (.ref fa))
    (hF : ∀ (sa : Addr) (ns : List Int), ns.length ≤ 63 → (∀ q ∈ ns, Builtin.Int.intBits q ≤ 1048576) → isT (B_law (env0L 12) ⟨sa, ns, 0, 0, 7⟩) = true)
   {c_Plan : Addr}
    {c_ClassError : Addr}
    {c_BadClasses : Addr}
    {f_is_from : Addr}
    {f_is_class : Addr}
    {f_Plan_init : Addr}
    {f_Plan_classes : Addr}
    {f_Plan_eq : Addr}
    {f__law_draws : Addr}
    {f__law_pick : Addr}
    {f__law_rows : Addr}
    {f__law_odd_classes : Addr}
    {f__law_is_whole : Addr}
    {f__law_told_there : Addr}
    {f__law_due : Addr}
    {f_law : Addr}
    {f_xBadClasses : Addr}
    {p_Plan_classes : Addr}
    {rest_Plan_classes : List Value}
    {nm_BadClasses q_BadClasses : Str} {N_BadClasses : Addr} {bs_BadClasses bm_BadClasses : List Value} {sn_BadClasses : List Str} {sub_BadClasses : List Value} {ab_BadClasses : Bool} {col_BadClasses : Option Bool} {dd_BadClasses : Option Addr} {k0_BadClasses k1_BadClasses k2_BadClasses k3_BadClasses k5_BadClasses : Option Value}
    {t_MOST_CLASSES : Tok}
    {t_MOST_STEP : Tok}
    {od_is_from an_is_from : Option Addr} {sl_is_from : Array (Option Value)} {oc_is_from kV_is_from dc_is_from pm_is_from cd_is_from ct_is_from : Value}
    {od_is_class an_is_class : Option Addr} {sl_is_class : Array (Option Value)} {oc_is_class kV_is_class dc_is_class pm_is_class cd_is_class ct_is_class : Value}
    {od_Plan_init an_Plan_init : Option Addr} {sl_Plan_init : Array (Option Value)} {oc_Plan_init kV_Plan_init dc_Plan_init pm_Plan_init cd_Plan_init ct_Plan_init : Value}
    {od_Plan_classes an_Plan_classes : Option Addr} {sl_Plan_classes : Array (Option Value)} {oc_Plan_classes kV_Plan_classes dc_Plan_classes pm_Plan_classes cd_Plan_classes ct_Plan_classes : Value}
    {od_Plan_eq an_Plan_eq : Option Addr} {sl_Plan_eq : Array (Option Value)} {oc_Plan_eq kV_Plan_eq dc_Plan_eq pm_Plan_eq cd_Plan_eq ct_Plan_eq : Value}
    {od__law_draws an__law_draws : Option Addr} {sl__law_draws : Array (Option Value)} {oc__law_draws kV__law_draws dc__law_draws pm__law_draws cd__law_draws ct__law_draws : Value}
    {od__law_pick an__law_pick : Option Addr} {sl__law_pick : Array (Option Value)} {oc__law_pick kV__law_pick dc__law_pick pm__law_pick cd__law_pick ct__law_pick : Value}
    {od__law_rows an__law_rows : Option Addr} {sl__law_rows : Array (Option Value)} {oc__law_rows kV__law_rows dc__law_rows pm__law_rows cd__law_rows ct__law_rows : Value}
    {od__law_odd_classes an__law_odd_classes : Option Addr} {sl__law_odd_classes : Array (Option Value)} {oc__law_odd_classes kV__law_odd_classes dc__law_odd_classes pm__law_odd_classes cd__law_odd_classes ct__law_odd_classes : Value}
    {od__law_is_whole an__law_is_whole : Option Addr} {sl__law_is_whole : Array (Option Value)} {oc__law_is_whole kV__law_is_whole dc__law_is_whole pm__law_is_whole cd__law_is_whole ct__law_is_whole : Value}
    {od__law_told_there an__law_told_there : Option Addr} {sl__law_told_there : Array (Option Value)} {oc__law_told_there kV__law_told_there dc__law_told_there pm__law_told_there cd__law_told_there ct__law_told_there : Value}
    {od__law_due an__law_due : Option Addr} {sl__law_due : Array (Option Value)} {oc__law_due kV__law_due dc__law_due pm__law_due cd__law_due ct__law_due : Value}
    {od_law an_law : Option Addr} {sl_law : Array (Option Value)} {oc_law kV_law dc_law pm_law cd_law ct_law : Value}
    {od_xBadClasses an_xBadClasses : Option Addr} {sl_xBadClasses : Array (Option Value)} {oc_xBadClasses kV_xBadClasses dc_xBadClasses pm_xBadClasses cd_xBadClasses ct_xBadClasses : Value}
    (m_Plan : PySem.W.nsIn K mainGlobals "Plan" = some (some (.ref c_Plan)))
    (clpg_Plan : PySem.W.plainGet K c_Plan Str.empty = true)
    (clhd_Plan : PySem.W.hasDictIn K c_Plan = true)
    (clpo_Plan : PySem.W.plainOver K c_Plan = true)
    (clsa_Plan : PySem.W.findIn K (.ref c_Plan) "__setattr__" = some (some (.builtin "object.__setattr__")))
    (na_Plan_rows : PySem.W.findIn K (.ref c_Plan) "rows" = some none)
    (mkm_Plan : PySem.W.makesIn K c_Plan = true)
    (mki_Plan : PySem.W.findIn K (.ref c_Plan) "__init__" = some (some (.ref f_Plan_init)))
    (mkf_Plan : PySem.W.isFn K (.ref f_Plan_init) = true)
    (mkk_Plan : PySem.W.keepIn K (.ref c_Plan) = true)
    (eqs_Plan : PySem.W.findIn K (.ref c_Plan) "__eq__" = some (some (.ref f_Plan_eq)))
    (eqf_Plan : PySem.W.isFn K (.ref f_Plan_eq) = true)
    (oic_Plan : PySem.W.findIn K (.ref c_Plan) "__class__" = some (some (.builtin "object.__class__")))
    (oim_Plan : PySem.W.mroIn K c_Plan (.type "object") = some true)
    (oit_Plan : PySem.W.typeIn K (.ref c_Plan) = some (.type "type"))
    (oin_Plan_NoneType : PySem.W.subIn K (.type "NoneType") (.ref c_Plan) = some false)
    (oin_Plan_bool : PySem.W.subIn K (.type "bool") (.ref c_Plan) = some false)
    (oin_Plan_int : PySem.W.subIn K (.type "int") (.ref c_Plan) = some false)
    (oin_Plan_str : PySem.W.subIn K (.type "str") (.ref c_Plan) = some false)
    (oin_Plan_tuple : PySem.W.subIn K (.type "tuple") (.ref c_Plan) = some false)
    (oin_Plan_list : PySem.W.subIn K (.type "list") (.ref c_Plan) = some false)
    (oin_Plan_dict : PySem.W.subIn K (.type "dict") (.ref c_Plan) = some false)
    (pra_Plan_classes : PySem.W.findIn K (.ref c_Plan) "classes" = some (some (.ref p_Plan_classes)))
    (prg_Plan_classes : PySem.W.specialIn K (.ref p_Plan_classes) "__get__" = some (some (.builtin "property.__get__")))
    (prt_Plan_classes : PySem.W.takesIn K (.ref p_Plan_classes) = some true)
    (prr_Plan_classes : PySem.W.recIn K p_Plan_classes "property" = some (.ref f_Plan_classes :: rest_Plan_classes))
    (m_ClassError : PySem.W.nsIn K mainGlobals "ClassError" = some (some (.ref c_ClassError)))
    (ega_ClassError : PySem.W.findIn K (.ref c_ClassError) "__getattribute__" = some (some (.builtin "BaseException.__getattribute__")))
    (egg_ClassError : PySem.W.findIn K (.ref c_ClassError) "__getattr__" = some none)
    (eex_ClassError : PySem.W.subIn K (.ref c_ClassError) (.type "BaseException") = some true)
    (ehd_ClassError : PySem.W.hasDictIn K c_ClassError = true)
    (eca_ClassError : PySem.W.findIn K (.ref c_ClassError) "__class__" = some (some (.builtin "object.__class__")))
    (emr_ClassError : PySem.W.mroIn K c_ClassError (.type "object") = some true)
    (ety_ClassError : PySem.W.typeIn K (.ref c_ClassError) = some (.type "type"))
    (ekp_ClassError : PySem.W.keepIn K (.ref c_ClassError) = true)
    (m_BadClasses : PySem.W.nsIn K mainGlobals "BadClasses" = some (some (.ref c_BadClasses)))
    (ega_BadClasses : PySem.W.findIn K (.ref c_BadClasses) "__getattribute__" = some (some (.builtin "BaseException.__getattribute__")))
    (egg_BadClasses : PySem.W.findIn K (.ref c_BadClasses) "__getattr__" = some none)
    (eex_BadClasses : PySem.W.subIn K (.ref c_BadClasses) (.type "BaseException") = some true)
    (ehd_BadClasses : PySem.W.hasDictIn K c_BadClasses = true)
    (eca_BadClasses : PySem.W.findIn K (.ref c_BadClasses) "__class__" = some (some (.builtin "object.__class__")))
    (emr_BadClasses : PySem.W.mroIn K c_BadClasses (.type "object") = some true)
    (ety_BadClasses : PySem.W.typeIn K (.ref c_BadClasses) = some (.type "type"))
    (ekp_BadClasses : PySem.W.keepIn K (.ref c_BadClasses) = true)
    (xl_BadClasses : K.lookup c_BadClasses = some (excClassObj nm_BadClasses q_BadClasses c_BadClasses N_BadClasses bs_BadClasses bm_BadClasses true sn_BadClasses sub_BadClasses ab_BadClasses col_BadClasses dd_BadClasses k0_BadClasses k1_BadClasses k2_BadClasses k3_BadClasses k5_BadClasses "ValueError.__new__"))
    (xr_BadClasses : PySem.HandSPX.refsVE bm_BadClasses = true)
    (xs_BadClasses : PySem.W.findIn K (.ref c_BadClasses) "__setattr__" = some (some (.builtin "object.__setattr__")))
    (xI_BadClasses : PySem.W.findIn K (.ref c_BadClasses) "__init__" = some (some (.ref f_xBadClasses)))
    (xT_BadClasses : PySem.W.typeIn K (.ref f_xBadClasses) = some (.type "function"))
    (xa_BadClasses_index : PySem.W.findIn K (.ref c_BadClasses) "index" = some none)
    (ecg : PySem.W.specialIn K (.builtin "object.__class__") "__get__" = some (some (.builtin "getset_descriptor.__get__")))
    (ect : PySem.W.takesIn K (.builtin "object.__class__") = some true)
    (sb_BadClasses_BadClasses : PySem.W.subIn K (.ref c_BadClasses) (.ref c_BadClasses) = some true)
    (sc_BadClasses : PySem.W.subIn K (.ref c_BadClasses) (.ref c_ClassError) = some true)
    (n_bool : PySem.W.nsIn K mainGlobals "bool" = some none)
    (n_enumerate : PySem.W.nsIn K mainGlobals "enumerate" = some none)
    (n_int : PySem.W.nsIn K mainGlobals "int" = some none)
    (n_isinstance : PySem.W.nsIn K mainGlobals "isinstance" = some none)
    (n_len : PySem.W.nsIn K mainGlobals "len" = some none)
    (n_list : PySem.W.nsIn K mainGlobals "list" = some none)
    (n_range : PySem.W.nsIn K mainGlobals "range" = some none)
    (n_tuple : PySem.W.nsIn K mainGlobals "tuple" = some none)
    (v_MOST_CLASSES : PySem.W.nsIn K mainGlobals "MOST_CLASSES" = some (some (.int 8 t_MOST_CLASSES)))
    (v_MOST_STEP : PySem.W.nsIn K mainGlobals "MOST_STEP" = some (some (.int 12 t_MOST_STEP)))
    (a_is_from : PySem.W.nsIn K mainGlobals "is_from" = some (some (.ref f_is_from)))
    (l_is_from : K.lookup f_is_from = some ⟨oc_is_from, od_is_from, .func (PySem.W.fnOf "is_from" "is_from" (defArgs st_is_from) (defBody st_is_from) (defScope st_is_from) .none kV_is_from dc_is_from pm_is_from an_is_from cd_is_from ct_is_from), sl_is_from⟩)
    (cd_is_from_ : PySem.W.codeIn K cd_is_from "is_from" = true)
    (kp_is_from : PySem.W.keepIn K (.ref f_is_from) = true)
    (a_is_class : PySem.W.nsIn K mainGlobals "is_class" = some (some (.ref f_is_class)))
    (l_is_class : K.lookup f_is_class = some ⟨oc_is_class, od_is_class, .func (PySem.W.fnOf "is_class" "is_class" (defArgs st_is_class) (defBody st_is_class) (defScope st_is_class) .none kV_is_class dc_is_class pm_is_class an_is_class cd_is_class ct_is_class), sl_is_class⟩)
    (cd_is_class_ : PySem.W.codeIn K cd_is_class "is_class" = true)
    (kp_is_class : PySem.W.keepIn K (.ref f_is_class) = true)
    (l_Plan_init : K.lookup f_Plan_init = some ⟨oc_Plan_init, od_Plan_init, .func (PySem.W.fnOf "__init__" "Plan.__init__" (defArgs st_Plan_init) (defBody st_Plan_init) (defScope st_Plan_init) .none kV_Plan_init dc_Plan_init pm_Plan_init an_Plan_init cd_Plan_init ct_Plan_init), sl_Plan_init⟩)
    (cd_Plan_init_ : PySem.W.codeIn K cd_Plan_init "Plan.__init__" = true)
    (kp_Plan_init : PySem.W.keepIn K (.ref f_Plan_init) = true)
    (l_Plan_classes : K.lookup f_Plan_classes = some ⟨oc_Plan_classes, od_Plan_classes, .func (PySem.W.fnOf "classes" "Plan.classes" (defArgs st_Plan_classes) (defBody st_Plan_classes) (defScope st_Plan_classes) .none kV_Plan_classes dc_Plan_classes pm_Plan_classes an_Plan_classes cd_Plan_classes ct_Plan_classes), sl_Plan_classes⟩)
    (cd_Plan_classes_ : PySem.W.codeIn K cd_Plan_classes "Plan.classes" = true)
    (kp_Plan_classes : PySem.W.keepIn K (.ref f_Plan_classes) = true)
    (l_Plan_eq : K.lookup f_Plan_eq = some ⟨oc_Plan_eq, od_Plan_eq, .func (PySem.W.fnOf "__eq__" "Plan.__eq__" (defArgs st_Plan_eq) (defBody st_Plan_eq) (defScope st_Plan_eq) .none kV_Plan_eq dc_Plan_eq pm_Plan_eq an_Plan_eq cd_Plan_eq ct_Plan_eq), sl_Plan_eq⟩)
    (cd_Plan_eq_ : PySem.W.codeIn K cd_Plan_eq "Plan.__eq__" = true)
    (kp_Plan_eq : PySem.W.keepIn K (.ref f_Plan_eq) = true)
    (a__law_draws : PySem.W.nsIn K mainGlobals "_law_draws" = some (some (.ref f__law_draws)))
    (l__law_draws : K.lookup f__law_draws = some ⟨oc__law_draws, od__law_draws, .func (PySem.W.fnOf "_law_draws" "_law_draws" (defArgs st__law_draws) (defBody st__law_draws) (defScope st__law_draws) .none kV__law_draws dc__law_draws pm__law_draws an__law_draws cd__law_draws ct__law_draws), sl__law_draws⟩)
    (cd__law_draws_ : PySem.W.codeIn K cd__law_draws "_law_draws" = true)
    (kp__law_draws : PySem.W.keepIn K (.ref f__law_draws) = true)
    (a__law_pick : PySem.W.nsIn K mainGlobals "_law_pick" = some (some (.ref f__law_pick)))
    (l__law_pick : K.lookup f__law_pick = some ⟨oc__law_pick, od__law_pick, .func (PySem.W.fnOf "_law_pick" "_law_pick" (defArgs st__law_pick) (defBody st__law_pick) (defScope st__law_pick) .none kV__law_pick dc__law_pick pm__law_pick an__law_pick cd__law_pick ct__law_pick), sl__law_pick⟩)
    (cd__law_pick_ : PySem.W.codeIn K cd__law_pick "_law_pick" = true)
    (kp__law_pick : PySem.W.keepIn K (.ref f__law_pick) = true)
    (a__law_rows : PySem.W.nsIn K mainGlobals "_law_rows" = some (some (.ref f__law_rows)))
    (l__law_rows : K.lookup f__law_rows = some ⟨oc__law_rows, od__law_rows, .func (PySem.W.fnOf "_law_rows" "_law_rows" (defArgs st__law_rows) (defBody st__law_rows) (defScope st__law_rows) .none kV__law_rows dc__law_rows pm__law_rows an__law_rows cd__law_rows ct__law_rows), sl__law_rows⟩)
    (cd__law_rows_ : PySem.W.codeIn K cd__law_rows "_law_rows" = true)
    (kp__law_rows : PySem.W.keepIn K (.ref f__law_rows) = true)
    (a__law_odd_classes : PySem.W.nsIn K mainGlobals "_law_odd_classes" = some (some (.ref f__law_odd_classes)))
    (l__law_odd_classes : K.lookup f__law_odd_classes = some ⟨oc__law_odd_classes, od__law_odd_classes, .func (PySem.W.fnOf "_law_odd_classes" "_law_odd_classes" (defArgs st__law_odd_classes) (defBody st__law_odd_classes) (defScope st__law_odd_classes) .none kV__law_odd_classes dc__law_odd_classes pm__law_odd_classes an__law_odd_classes cd__law_odd_classes ct__law_odd_classes), sl__law_odd_classes⟩)
    (cd__law_odd_classes_ : PySem.W.codeIn K cd__law_odd_classes "_law_odd_classes" = true)
    (kp__law_odd_classes : PySem.W.keepIn K (.ref f__law_odd_classes) = true)
    (a__law_is_whole : PySem.W.nsIn K mainGlobals "_law_is_whole" = some (some (.ref f__law_is_whole)))
    (l__law_is_whole : K.lookup f__law_is_whole = some ⟨oc__law_is_whole, od__law_is_whole, .func (PySem.W.fnOf "_law_is_whole" "_law_is_whole" (defArgs st__law_is_whole) (defBody st__law_is_whole) (defScope st__law_is_whole) .none kV__law_is_whole dc__law_is_whole pm__law_is_whole an__law_is_whole cd__law_is_whole ct__law_is_whole), sl__law_is_whole⟩)
    (cd__law_is_whole_ : PySem.W.codeIn K cd__law_is_whole "_law_is_whole" = true)
    (kp__law_is_whole : PySem.W.keepIn K (.ref f__law_is_whole) = true)
    (a__law_told_there : PySem.W.nsIn K mainGlobals "_law_told_there" = some (some (.ref f__law_told_there)))
    (l__law_told_there : K.lookup f__law_told_there = some ⟨oc__law_told_there, od__law_told_there, .func (PySem.W.fnOf "_law_told_there" "_law_told_there" (defArgs st__law_told_there) (defBody st__law_told_there) (defScope st__law_told_there) .none kV__law_told_there dc__law_told_there pm__law_told_there an__law_told_there cd__law_told_there ct__law_told_there), sl__law_told_there⟩)
    (cd__law_told_there_ : PySem.W.codeIn K cd__law_told_there "_law_told_there" = true)
    (kp__law_told_there : PySem.W.keepIn K (.ref f__law_told_there) = true)
    (a__law_due : PySem.W.nsIn K mainGlobals "_law_due" = some (some (.ref f__law_due)))
    (l__law_due : K.lookup f__law_due = some ⟨oc__law_due, od__law_due, .func (PySem.W.fnOf "_law_due" "_law_due" (defArgs st__law_due) (defBody st__law_due) (defScope st__law_due) .none kV__law_due dc__law_due pm__law_due an__law_due cd__law_due ct__law_due), sl__law_due⟩)
    (cd__law_due_ : PySem.W.codeIn K cd__law_due "_law_due" = true)
    (kp__law_due : PySem.W.keepIn K (.ref f__law_due) = true)
    (a_law : PySem.W.nsIn K mainGlobals "law" = some (some (.ref f_law)))
    (l_law : K.lookup f_law = some ⟨oc_law, od_law, .func (PySem.W.fnOf "law" "law" (defArgs st_law) (defBody st_law) (defScope st_law) .none kV_law dc_law pm_law an_law cd_law ct_law), sl_law⟩)
    (cd_law_ : PySem.W.codeIn K cd_law "law" = true)
    (kp_law : PySem.W.keepIn K (.ref f_law) = true)
    (l_xBadClasses : K.lookup f_xBadClasses = some ⟨oc_xBadClasses, od_xBadClasses, .func (PySem.W.fnOf "__init__" "BadClasses.__init__" (defArgs st_xBadClasses) (defBody st_xBadClasses) (defScope st_xBadClasses) .none kV_xBadClasses dc_xBadClasses pm_xBadClasses an_xBadClasses cd_xBadClasses ct_xBadClasses), sl_xBadClasses⟩)
    (cd_xBadClasses_ : PySem.W.codeIn K cd_xBadClasses "BadClasses.__init__" = true)
    (kp_xBadClasses : PySem.W.keepIn K (.ref f_xBadClasses) = true) :
    ∃ fd : FuncData, (∀ (s : Shared) (v : Value), BindsTo s fd ⟨[v], []⟩ [("_law_script", v)]) ∧ ∀ base : Heap, K.In base → base.Ns mainGlobals mg → FnOk l.prog w K mg base (L2.CX l.prog w) 6 fa fd ["_law_script"] (spLaw K) := by
  have e := hfa.symm.trans (PySem.W.mg_of X0 G0 a_law)
  cases e
  have u_is_from := fun_mk (st := st_is_from) l_is_from cd_is_from_ kp_is_from
  have b_is_from := u_is_from.binds (ps := ["value", "low", "high"]) fun _ _ _ _ _ _ us hl => match us, hl with | [_, _, _], _ => rfl
  have u_is_class := fun_mk (st := st_is_class) l_is_class cd_is_class_ kp_is_class
  have b_is_class := u_is_class.binds (ps := ["value"]) fun _ _ _ _ _ _ us hl => match us, hl with | [_], _ => rfl
  have u_Plan_init := fun_mk (st := st_Plan_init) l_Plan_init cd_Plan_init_ kp_Plan_init
  have b_Plan_init := u_Plan_init.binds (ps := ["self", "classes"]) fun _ _ _ _ _ _ us hl => match us, hl with | [_, _], _ => rfl
  have u_Plan_classes := fun_mk (st := st_Plan_classes) l_Plan_classes cd_Plan_classes_ kp_Plan_classes
  have b_Plan_classes := u_Plan_classes.binds (ps := ["self"]) fun _ _ _ _ _ _ us hl => match us, hl with | [_], _ => rfl
  have u_Plan_eq := fun_mk (st := st_Plan_eq) l_Plan_eq cd_Plan_eq_ kp_Plan_eq
  have b_Plan_eq := u_Plan_eq.binds (ps := ["self", "other"]) fun _ _ _ _ _ _ us hl => match us, hl with | [_, _], _ => rfl
  have u__law_draws := fun_mk (st := st__law_draws) l__law_draws cd__law_draws_ kp__law_draws
  have b__law_draws := u__law_draws.binds (ps := ["_law_script"]) fun _ _ _ _ _ _ us hl => match us, hl with | [_], _ => rfl
  have u__law_pick := fun_mk (st := st__law_pick) l__law_pick cd__law_pick_ kp__law_pick
  have b__law_pick := u__law_pick.binds (ps := ["_law_row", "_law_many"]) fun _ _ _ _ _ _ us hl => match us, hl with | [_, _], _ => rfl
  have u__law_rows := fun_mk (st := st__law_rows) l__law_rows cd__law_rows_ kp__law_rows
  have b__law_rows := u__law_rows.binds (ps := ["_law_row", "_law_most"]) fun _ _ _ _ _ _ us hl => match us, hl with | [_, _], _ => rfl
  have u__law_odd_classes := fun_mk (st := st__law_odd_classes) l__law_odd_classes cd__law_odd_classes_ kp__law_odd_classes
  have b__law_odd_classes := u__law_odd_classes.binds (ps := []) fun _ _ _ _ _ _ us hl => match us, hl with | [], _ => rfl
  have u__law_is_whole := fun_mk (st := st__law_is_whole) l__law_is_whole cd__law_is_whole_ kp__law_is_whole
  have b__law_is_whole := u__law_is_whole.binds (ps := ["_law_value", "_law_low", "_law_high"]) fun _ _ _ _ _ _ us hl => match us, hl with | [_, _, _], _ => rfl
  have u__law_told_there := fun_mk (st := st__law_told_there) l__law_told_there cd__law_told_there_ kp__law_told_there
  have b__law_told_there := u__law_told_there.binds (ps := ["_law_classes"]) fun _ _ _ _ _ _ us hl => match us, hl with | [_], _ => rfl
  have u__law_due := fun_mk (st := st__law_due) l__law_due cd__law_due_ kp__law_due
  have b__law_due := u__law_due.binds (ps := ["_law_classes"]) fun _ _ _ _ _ _ us hl => match us, hl with | [_], _ => rfl
  have u_law := fun_mk (st := st_law) l_law cd_law_ kp_law
  have b_law := u_law.binds (ps := ["_law_script"]) fun _ _ _ _ _ _ us hl => match us, hl with | [_], _ => rfl
  have u_xBadClasses := fun_mk (st := st_xBadClasses) l_xBadClasses cd_xBadClasses_ kp_xBadClasses
  have b_xBadClasses := u_xBadClasses.binds (ps := ["self", "index"]) fun _ _ _ _ _ _ us hl => match us, hl with | [_, _], _ => rfl
  let Z : Ad := ⟨c_Plan, c_ClassError, c_BadClasses, f_is_from, f_is_class, f_Plan_init, f_Plan_classes, f_Plan_eq, f__law_draws, f__law_pick, f__law_rows, f__law_odd_classes, f__law_is_whole, f__law_told_there, f__law_due, fa, f_xBadClasses, p_Plan_classes, PySem.W.fnOf "is_from" "is_from" (defArgs st_is_from) (defBody st_is_from) (defScope st_is_from) .none kV_is_from dc_is_from pm_is_from an_is_from cd_is_from ct_is_from, PySem.W.fnOf "is_class" "is_class" (defArgs st_is_class) (defBody st_is_class) (defScope st_is_class) .none kV_is_class dc_is_class pm_is_class an_is_class cd_is_class ct_is_class, PySem.W.fnOf "__init__" "Plan.__init__" (defArgs st_Plan_init) (defBody st_Plan_init) (defScope st_Plan_init) .none kV_Plan_init dc_Plan_init pm_Plan_init an_Plan_init cd_Plan_init ct_Plan_init, PySem.W.fnOf "classes" "Plan.classes" (defArgs st_Plan_classes) (defBody st_Plan_classes) (defScope st_Plan_classes) .none kV_Plan_classes dc_Plan_classes pm_Plan_classes an_Plan_classes cd_Plan_classes ct_Plan_classes, PySem.W.fnOf "__eq__" "Plan.__eq__" (defArgs st_Plan_eq) (defBody st_Plan_eq) (defScope st_Plan_eq) .none kV_Plan_eq dc_Plan_eq pm_Plan_eq an_Plan_eq cd_Plan_eq ct_Plan_eq, PySem.W.fnOf "_law_draws" "_law_draws" (defArgs st__law_draws) (defBody st__law_draws) (defScope st__law_draws) .none kV__law_draws dc__law_draws pm__law_draws an__law_draws cd__law_draws ct__law_draws, PySem.W.fnOf "_law_pick" "_law_pick" (defArgs st__law_pick) (defBody st__law_pick) (defScope st__law_pick) .none kV__law_pick dc__law_pick pm__law_pick an__law_pick cd__law_pick ct__law_pick, PySem.W.fnOf "_law_rows" "_law_rows" (defArgs st__law_rows) (defBody st__law_rows) (defScope st__law_rows) .none kV__law_rows dc__law_rows pm__law_rows an__law_rows cd__law_rows ct__law_rows, PySem.W.fnOf "_law_odd_classes" "_law_odd_classes" (defArgs st__law_odd_classes) (defBody st__law_odd_classes) (defScope st__law_odd_classes) .none kV__law_odd_classes dc__law_odd_classes pm__law_odd_classes an__law_odd_classes cd__law_odd_classes ct__law_odd_classes, PySem.W.fnOf "_law_is_whole" "_law_is_whole" (defArgs st__law_is_whole) (defBody st__law_is_whole) (defScope st__law_is_whole) .none kV__law_is_whole dc__law_is_whole pm__law_is_whole an__law_is_whole cd__law_is_whole ct__law_is_whole, PySem.W.fnOf "_law_told_there" "_law_told_there" (defArgs st__law_told_there) (defBody st__law_told_there) (defScope st__law_told_there) .none kV__law_told_there dc__law_told_there pm__law_told_there an__law_told_there cd__law_told_there ct__law_told_there, PySem.W.fnOf "_law_due" "_law_due" (defArgs st__law_due) (defBody st__law_due) (defScope st__law_due) .none kV__law_due dc__law_due pm__law_due an__law_due cd__law_due ct__law_due, PySem.W.fnOf "law" "law" (defArgs st_law) (defBody st_law) (defScope st_law) .none kV_law dc_law pm_law an_law cd_law ct_law, PySem.W.fnOf "__init__" "BadClasses.__init__" (defArgs st_xBadClasses) (defBody st_xBadClasses) (defScope st_xBadClasses) .none kV_xBadClasses dc_xBadClasses pm_xBadClasses an_xBadClasses cd_xBadClasses ct_xBadClasses⟩
  have ek_ClassError_ : ErK K c_ClassError := ⟨ega_ClassError, egg_ClassError, eex_ClassError, ehd_ClassError, eca_ClassError, ecg, ect, emr_ClassError, ety_ClassError, ekp_ClassError⟩
  have ek_BadClasses_ : ErK K c_BadClasses := ⟨ega_BadClasses, egg_BadClasses, eex_BadClasses, ehd_BadClasses, eca_BadClasses, ecg, ect, emr_BadClasses, ety_BadClasses, ekp_BadClasses⟩
  have hsub_BadClasses : ∀ nm C b, (gt l.prog w K Z).cls nm = some C → subT XS "BadClasses" nm = some b → PySem.W.exmOne K (.ref C) (.ref c_BadClasses) = some b := by
    intro nm C b h1 h2
    unfold subT at h2
    split at h2
    · rename_i hc
      simp only [XS, List.contains_eq_mem, List.mem_cons, List.not_mem_nil, or_false, decide_eq_true_eq] at hc
      cases h2
      rcases hc with rfl | rfl | rfl | rfl | rfl | rfl | rfl | rfl | rfl | rfl | rfl
      · cases h1
      · cases h1; exact ek_BadClasses_.exm sb_BadClasses_BadClasses
      · cases h1
      · cases h1
      · cases h1
      · cases h1
      · cases h1
      · cases h1
      · cases h1
      · cases h1
      · cases h1
    · cases h2
  have T : Tx l.prog w K mg Z := ⟨PySem.W.mg_of X0 G0 m_Plan,
    ⟨clpg_Plan, clhd_Plan, clpo_Plan, clsa_Plan⟩,
    na_Plan_rows,
    ⟨mkm_Plan, mki_Plan, mkf_Plan, mkk_Plan⟩,
    eqs_Plan,
    eqf_Plan,
    ⟨rfl, ⟨clpg_Plan, clhd_Plan, clpo_Plan, clsa_Plan⟩, oic_Plan, ecg, ect, oim_Plan, oit_Plan, oin_Plan_NoneType, oin_Plan_bool, oin_Plan_int, oin_Plan_str, oin_Plan_tuple, oin_Plan_list, oin_Plan_dict⟩,
    ⟨pra_Plan_classes, prg_Plan_classes, prt_Plan_classes, ⟨_, prr_Plan_classes⟩⟩,
    PySem.W.mg_of X0 G0 m_ClassError,
    ⟨ega_ClassError, egg_ClassError, eex_ClassError, ehd_ClassError, eca_ClassError, ecg, ect, emr_ClassError, ety_ClassError, ekp_ClassError⟩,
    PySem.W.mg_of X0 G0 m_BadClasses,
    ⟨ega_BadClasses, egg_BadClasses, eex_BadClasses, ehd_BadClasses, eca_BadClasses, ecg, ect, emr_BadClasses, ety_BadClasses, ekp_BadClasses⟩,
    ErK.exf (G := gt l.prog w K Z) ek_BadClasses_ rfl (PySem.W.mg_of X0 G0 m_BadClasses),
    ⟨⟨⟨_, _, _, _, _, _, _, _, _, _, _, _, _, _, _, xl_BadClasses, xr_BadClasses⟩, xs_BadClasses, eex_BadClasses, ety_BadClasses, ekp_BadClasses⟩, xI_BadClasses, xT_BadClasses⟩,
    xa_BadClasses_index,
    hsub_BadClasses,
    ErK.exn (G := gt l.prog w K Z) ek_BadClasses_ ek_ClassError_ rfl sc_BadClasses,
    ⟨_, rfl, ek_BadClasses_.exc, xa_BadClasses_index⟩,
    PySem.W.mg_none_of X0 G0 n_bool,
    PySem.W.mg_none_of X0 G0 n_enumerate,
    PySem.W.mg_none_of X0 G0 n_int,
    PySem.W.mg_none_of X0 G0 n_isinstance,
    PySem.W.mg_none_of X0 G0 n_len,
    PySem.W.mg_none_of X0 G0 n_list,
    PySem.W.mg_none_of X0 G0 n_range,
    PySem.W.mg_none_of X0 G0 n_tuple,
    ⟨_, PySem.W.mg_of X0 G0 v_MOST_CLASSES⟩,
    ⟨_, PySem.W.mg_of X0 G0 v_MOST_STEP⟩,
    PySem.W.mg_of X0 G0 a_is_from,
    u_is_from,
    b_is_from,
    PySem.W.mg_of X0 G0 a_is_class,
    u_is_class,
    b_is_class,
    u_Plan_init,
    b_Plan_init,
    u_Plan_classes,
    b_Plan_classes,
    u_Plan_eq,
    b_Plan_eq,
    PySem.W.mg_of X0 G0 a__law_draws,
    u__law_draws,
    b__law_draws,
    PySem.W.mg_of X0 G0 a__law_pick,
    u__law_pick,
    b__law_pick,
    PySem.W.mg_of X0 G0 a__law_rows,
    u__law_rows,
    b__law_rows,
    PySem.W.mg_of X0 G0 a__law_odd_classes,
    u__law_odd_classes,
    b__law_odd_classes,
    PySem.W.mg_of X0 G0 a__law_is_whole,
    u__law_is_whole,
    b__law_is_whole,
    PySem.W.mg_of X0 G0 a__law_told_there,
    u__law_told_there,
    b__law_told_there,
    PySem.W.mg_of X0 G0 a__law_due,
    u__law_due,
    b__law_due,
    PySem.W.mg_of X0 G0 a_law,
    u_law,
    b_law,
    u_xBadClasses,
    b_xBadClasses,
    b_xBadClasses⟩
  exact ⟨Z.d_law, fun s v => .of_eq rfl, fun base _ _ => ok_law T hF⟩
end PL
open PySem PySem.W PyProof.Rows
set_option maxRecDepth 100000 in
set_option maxHeartbeats 0 in
theorem PySem.Challenge.cw_coverclasses_k01_plans_refused_holds : PySem.Challenge.rw_coverclasses_k01_plans_refused.Holds := by
  w_on; o_law; k_head; (case hw => w_witness2)
  k_fill
  refine PL.walk_law (l := PySem.Challenge.rw_coverclasses_k01_plans_refused) (k := 6) rfl rfl ⟨rfl, by decide, by decide⟩ (fun w h Y => PySem.W.kIn_of Y) ?F
  case F =>
    intro w mg fa h KX G hmg
    refine' PL.all_mk KX G hmg PL.law_true ?m_Plan ?clpg_Plan ?clhd_Plan ?clpo_Plan ?clsa_Plan ?na_Plan_rows ?mkm_Plan ?mki_Plan ?mkf_Plan ?mkk_Plan ?eqs_Plan ?eqf_Plan ?oic_Plan ?oim_Plan ?oit_Plan ?oin_Plan_NoneType ?oin_Plan_bool ?oin_Plan_int ?oin_Plan_str ?oin_Plan_tuple ?oin_Plan_list ?oin_Plan_dict ?pra_Plan_classes ?prg_Plan_classes ?prt_Plan_classes ?prr_Plan_classes ?m_ClassError ?ega_ClassError ?egg_ClassError ?eex_ClassError ?ehd_ClassError ?eca_ClassError ?emr_ClassError ?ety_ClassError ?ekp_ClassError ?m_BadClasses ?ega_BadClasses ?egg_BadClasses ?eex_BadClasses ?ehd_BadClasses ?eca_BadClasses ?emr_BadClasses ?ety_BadClasses ?ekp_BadClasses ?xl_BadClasses ?xr_BadClasses ?xs_BadClasses ?xI_BadClasses ?xT_BadClasses ?xa_BadClasses_index ?ecg ?ect ?sb_BadClasses_BadClasses ?sc_BadClasses ?n_bool ?n_enumerate ?n_int ?n_isinstance ?n_len ?n_list ?n_range ?n_tuple ?v_MOST_CLASSES ?v_MOST_STEP ?a_is_from ?l_is_from ?cd_is_from_ ?kp_is_from ?a_is_class ?l_is_class ?cd_is_class_ ?kp_is_class ?l_Plan_init ?cd_Plan_init_ ?kp_Plan_init ?l_Plan_classes ?cd_Plan_classes_ ?kp_Plan_classes ?l_Plan_eq ?cd_Plan_eq_ ?kp_Plan_eq ?a__law_draws ?l__law_draws ?cd__law_draws_ ?kp__law_draws ?a__law_pick ?l__law_pick ?cd__law_pick_ ?kp__law_pick ?a__law_rows ?l__law_rows ?cd__law_rows_ ?kp__law_rows ?a__law_odd_classes ?l__law_odd_classes ?cd__law_odd_classes_ ?kp__law_odd_classes ?a__law_is_whole ?l__law_is_whole ?cd__law_is_whole_ ?kp__law_is_whole ?a__law_told_there ?l__law_told_there ?cd__law_told_there_ ?kp__law_told_there ?a__law_due ?l__law_due ?cd__law_due_ ?kp__law_due ?a_law ?l_law ?cd_law_ ?kp_law ?l_xBadClasses ?cd_xBadClasses_ ?kp_xBadClasses
    (case m_Plan => k_is)
    (case clpg_Plan => k_is)
    (case clhd_Plan => k_is)
    (case clpo_Plan => k_is)
    (case clsa_Plan => k_is)
    (case na_Plan_rows => k_is)
    (case mkm_Plan => k_is)
    (case mki_Plan => k_is)
    (case mkf_Plan => k_is)
    (case mkk_Plan => k_is)
    (case eqs_Plan => k_is)
    (case eqf_Plan => k_is)
    (case oic_Plan => k_is)
    (case oim_Plan => k_is)
    (case oit_Plan => k_is)
    (case oin_Plan_NoneType => k_is)
    (case oin_Plan_bool => k_is)
    (case oin_Plan_int => k_is)
    (case oin_Plan_str => k_is)
    (case oin_Plan_tuple => k_is)
    (case oin_Plan_list => k_is)
    (case oin_Plan_dict => k_is)
    (case pra_Plan_classes => k_is)
    (case prg_Plan_classes => k_is)
    (case prt_Plan_classes => k_is)
    (case prr_Plan_classes => k_is)
    (case m_ClassError => k_is)
    (case ega_ClassError => k_is)
    (case egg_ClassError => k_is)
    (case eex_ClassError => k_is)
    (case ehd_ClassError => k_is)
    (case eca_ClassError => k_is)
    (case emr_ClassError => k_is)
    (case ety_ClassError => k_is)
    (case ekp_ClassError => k_is)
    (case m_BadClasses => k_is)
    (case ega_BadClasses => k_is)
    (case egg_BadClasses => k_is)
    (case eex_BadClasses => k_is)
    (case ehd_BadClasses => k_is)
    (case eca_BadClasses => k_is)
    (case emr_BadClasses => k_is)
    (case ety_BadClasses => k_is)
    (case ekp_BadClasses => k_is)
    (case xl_BadClasses => k_is)
    (case xr_BadClasses => (with_unfolding_all rfl))
    (case xs_BadClasses => k_is)
    (case xI_BadClasses => k_is)
    (case xT_BadClasses => k_is)
    (case xa_BadClasses_index => k_is)
    (case ecg => k_is)
    (case ect => k_is)
    (case sb_BadClasses_BadClasses => first | rfl | k_is)
    (case sc_BadClasses => k_is)
    (case n_bool => k_is)
    (case n_enumerate => k_is)
    (case n_int => k_is)
    (case n_isinstance => k_is)
    (case n_len => k_is)
    (case n_list => k_is)
    (case n_range => k_is)
    (case n_tuple => k_is)
    (case v_MOST_CLASSES => k_is)
    (case v_MOST_STEP => k_is)
    (case a_is_from => k_is)
    (case l_is_from => k_is)
    (case cd_is_from_ => k_is)
    (case kp_is_from => k_is)
    (case a_is_class => k_is)
    (case l_is_class => k_is)
    (case cd_is_class_ => k_is)
    (case kp_is_class => k_is)
    (case l_Plan_init => k_is)
    (case cd_Plan_init_ => k_is)
    (case kp_Plan_init => k_is)
    (case l_Plan_classes => k_is)
    (case cd_Plan_classes_ => k_is)
    (case kp_Plan_classes => k_is)
    (case l_Plan_eq => k_is)
    (case cd_Plan_eq_ => k_is)
    (case kp_Plan_eq => k_is)
    (case a__law_draws => k_is)
    (case l__law_draws => k_is)
    (case cd__law_draws_ => k_is)
    (case kp__law_draws => k_is)
    (case a__law_pick => k_is)
    (case l__law_pick => k_is)
    (case cd__law_pick_ => k_is)
    (case kp__law_pick => k_is)
    (case a__law_rows => k_is)
    (case l__law_rows => k_is)
    (case cd__law_rows_ => k_is)
    (case kp__law_rows => k_is)
    (case a__law_odd_classes => k_is)
    (case l__law_odd_classes => k_is)
    (case cd__law_odd_classes_ => k_is)
    (case kp__law_odd_classes => k_is)
    (case a__law_is_whole => k_is)
    (case l__law_is_whole => k_is)
    (case cd__law_is_whole_ => k_is)
    (case kp__law_is_whole => k_is)
    (case a__law_told_there => k_is)
    (case l__law_told_there => k_is)
    (case cd__law_told_there_ => k_is)
    (case kp__law_told_there => k_is)
    (case a__law_due => k_is)
    (case l__law_due => k_is)
    (case cd__law_due_ => k_is)
    (case kp__law_due => k_is)
    (case a_law => k_is)
    (case l_law => k_is)
    (case cd_law_ => k_is)
    (case kp_law => k_is)
    (case l_xBadClasses => k_is)
    (case cd_xBadClasses_ => k_is)
    (case kp_xBadClasses => k_is)
