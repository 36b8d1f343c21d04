/- A small logic over the model: an abstract state (temporaries, own objects, frozen memory as trees) and what it says of the model's World. Core words and laws of frame. -/
import Derived.Calls
import Derived.Orders
import Derived.Laws.World
import Derived.Below
set_option linter.unusedSimpArgs false
set_option linter.unusedVariables false
namespace Go.TL
open Go

/-- A set of cells: block, offset. -/
abbrev CellSet := Nat → Nat → Prop

/-- Values that hold no address. -/
def scal : Value → Bool
  | .int _ _ | .bool _ | .string _ => true
  | _ => false

/-- Data in memory that nobody writes: a scalar, or a slice's elements, each a row of cells. -/
inductive Leaf where
  | sc (v : Value)
  | sl (rows : List (List Leaf))
  deriving Inhabited

/-- The value v reads as l, through cells of S alone. -/
inductive RepL (w : World) (S : CellSet) : Value → Leaf → Prop
  | sc {v : Value} (h : scal v = true) : RepL w S v (.sc v)
  | nil {a : Option Addr} {cap : Nat} : RepL w S (.slice a 0 cap) (.sl [])
  | sl {b off cap es : Nat} {rows : List (List Leaf)} (cs : Nat → Nat → Value) (hes : ∀ r ∈ rows, r.length = es) (hcap : rows.length ≤ cap)
      (hS : ∀ i j, i < rows.length → j < es → S b (off + (i * es + j)) ∧ w.cell? ⟨b, off + (i * es + j), none⟩ = some (cs i j))
      (hr : ∀ i j (hi : i < rows.length) (hj : j < (rows[i]).length), RepL w S (cs i j) ((rows[i])[j])) :
      RepL w S (.slice (some ⟨b, off, none⟩) rows.length cap) (.sl rows)

theorem RepL.mono {w w' : World} {S S' : CellSet} {v : Value} {l : Leaf} (h : RepL w S v l) (hs : ∀ b k, S b k → S' b k)
    (hc : ∀ b k, S b k → w'.cell? ⟨b, k, none⟩ = w.cell? ⟨b, k, none⟩) : RepL w' S' v l := by
  induction h with
  | sc h => exact .sc h
  | nil => exact .nil
  | sl cs hes hcap hS hr ih => exact .sl cs hes hcap (fun i j hi hj => ⟨hs _ _ (hS i j hi hj).1, (hc _ _ (hS i j hi hj).1).trans (hS i j hi hj).2⟩) ih

/-- What a temporary, or a cell of an own object, is known to hold. -/
inductive LV where
  | un
  | lf (t : Bool) (l : Leaf)
  | nl
  | os (id es lo len mc : Nat) (ex : Bool)
  | pb (id off : Nat)
  | pe (id es i off : Nat)
  | ra (t : Bool) (ls : List Leaf)
  | ag (ls : List LV)
  | tu (ls : List LV)
  | fn (f : FuncId) (ls : List LV)
  deriving Inhabited

/-- An own object: a boxed variable, or a row of elements. -/
inductive Ob where
  | box (ls : List LV)
  | arr (t : Bool) (es : Nat) (rows : List (List Leaf))
  deriving Inhabited

structure Loc where
  b : Nat
  base : Nat
  n : Nat

def inR (L : Loc) (b k : Nat) : Prop := b = L.b ∧ L.base ≤ k ∧ k < L.base + L.n

/-- F: memory that was handed in and is not written meanwhile; G: memory made since, written no more; loc: where the own objects lie. -/
structure Ctx where
  F : CellSet
  G : CellSet
  loc : Nat → Loc
  nx : Nat

def Ctx.fs (c : Ctx) (t : Bool) : CellSet := fun b k => c.G b k ∨ (t = true ∧ c.F b k)

inductive Cv (w : World) (c : Ctx) : LV → Value → Prop
  | un (v : Value) : Cv w c .un v
  | lf {t : Bool} {l : Leaf} {v : Value} (h : RepL w (c.fs t) v l) : Cv w c (.lf t l) v
  | nl (a : Option Addr) : Cv w c .nl (.slice a 0 0)
  | os {id es lo len mc cap : Nat} {ex : Bool} {a : Option Addr} (hid : id < c.nx) (hl : len ≤ cap) (hm : mc ≤ cap) (hx : ex = true → cap = mc)
      (ha : cap = 0 ∨ a = some ⟨(c.loc id).b, (c.loc id).base + lo * es, none⟩) (hn : lo * es + cap * es ≤ (c.loc id).n) : Cv w c (.os id es lo len mc ex) (.slice a len cap)
  | pb {id off : Nat} (hid : id < c.nx) : Cv w c (.pb id off) (.pointer (some ⟨(c.loc id).b, (c.loc id).base + off, none⟩))
  | pe {id es i off : Nat} (hid : id < c.nx) : Cv w c (.pe id es i off) (.pointer (some ⟨(c.loc id).b, (c.loc id).base + (i * es + off), none⟩))
  | ra {t : Bool} {ls : List Leaf} {b o : Nat} (cs : Nat → Value)
      (hS : ∀ j, j < ls.length → c.fs t b (o + j) ∧ w.cell? ⟨b, o + j, none⟩ = some (cs j)) (hr : ∀ j (hj : j < ls.length), RepL w (c.fs t) (cs j) (ls[j])) :
      Cv w c (.ra t ls) (.pointer (some ⟨b, o, none⟩))
  | ag {ls : List LV} {vs : Array Value} (cs : Nat → Value) (hn : vs.size = ls.length) (hv : ∀ j, j < ls.length → vs[j]? = some (cs j))
      (h : ∀ j (hj : j < ls.length), Cv w c (ls[j]) (cs j)) : Cv w c (.ag ls) (.agg vs)
  | tu {ls : List LV} {vs : Array Value} (cs : Nat → Value) (hn : vs.size = ls.length) (hv : ∀ j, j < ls.length → vs[j]? = some (cs j))
      (h : ∀ j (hj : j < ls.length), Cv w c (ls[j]) (cs j)) : Cv w c (.tu ls) (.tuple vs)
  | fn {f : FuncId} {ls : List LV} {vs : Array Value} (cs : Nat → Value) (hn : vs.size = ls.length) (hv : ∀ j, j < ls.length → vs[j]? = some (cs j))
      (h : ∀ j (hj : j < ls.length), Cv w c (ls[j]) (cs j)) : Cv w c (.fn f ls) (.func (.func f) #[] vs)

/-- More frozen memory, more own objects; the old ones lie where they lay. -/
structure Ctx.Le (c c' : Ctx) : Prop where
  F : c'.F = c.F
  G : ∀ b k, c.G b k → c'.G b k
  nx : c.nx ≤ c'.nx
  loc : ∀ id, id < c.nx → c'.loc id = c.loc id

theorem Ctx.Le.refl (c : Ctx) : c.Le c := ⟨rfl, fun _ _ h => h, Nat.le_refl _, fun _ _ => rfl⟩
theorem Ctx.Le.trans {a b c : Ctx} (h : a.Le b) (k : b.Le c) : a.Le c :=
  ⟨k.F.trans h.F, fun _ _ x => k.G _ _ (h.G _ _ x), Nat.le_trans h.nx k.nx, fun id hid => (k.loc id (Nat.lt_of_lt_of_le hid h.nx)).trans (h.loc id hid)⟩

theorem Ctx.Le.fs {c c' : Ctx} (h : c.Le c') (t : Bool) (b k : Nat) (x : c.fs t b k) : c'.fs t b k := by
  rcases x with x | ⟨ht, x⟩
  · exact .inl (h.G _ _ x)
  · exact .inr ⟨ht, h.F ▸ x⟩

/-- The frozen memory of c reads in w' as it did in w. -/
def Same (c : Ctx) (w w' : World) : Prop := ∀ b k, c.G b k ∨ c.F b k → w'.cell? ⟨b, k, none⟩ = w.cell? ⟨b, k, none⟩

theorem Same.refl (c : Ctx) (w : World) : Same c w w := fun _ _ _ => rfl
theorem Same.fs {c : Ctx} {w w' : World} (h : Same c w w') (t : Bool) (b k : Nat) (x : c.fs t b k) : w'.cell? ⟨b, k, none⟩ = w.cell? ⟨b, k, none⟩ :=
  h b k (x.imp id (·.2))

theorem Cv.mono {w w' : World} {c c' : Ctx} {lv : LV} {v : Value} (h : Cv w c lv v) (hc : c.Le c') (hs : Same c w w') : Cv w' c' lv v := by
  induction h with
  | un v => exact .un v
  | lf h => exact .lf (h.mono (hc.fs _) (hs.fs _))
  | nl a => exact .nl a
  | os hid hl hm hx ha hn => exact .os (Nat.lt_of_lt_of_le hid hc.nx) hl hm hx (by rw [hc.loc _ hid]; exact ha) (by rw [hc.loc _ hid]; exact hn)
  | pb hid => rw [← hc.loc _ hid]; exact .pb (Nat.lt_of_lt_of_le hid hc.nx)
  | pe hid => rw [← hc.loc _ hid]; exact .pe (Nat.lt_of_lt_of_le hid hc.nx)
  | ra cs hS hr => exact .ra cs (fun j hj => ⟨hc.fs _ _ _ (hS j hj).1, (hs.fs _ _ _ (hS j hj).1).trans (hS j hj).2⟩) (fun j hj => (hr j hj).mono (hc.fs _) (hs.fs _))
  | ag cs hn hv h ih => exact .ag cs hn hv ih
  | tu cs hn hv h ih => exact .tu cs hn hv ih
  | fn cs hn hv h ih => exact .fn cs hn hv ih

/-- w' is w but for cells of D and new blocks. -/
structure Keep (D : CellSet) (w w' : World) : Prop where
  os : w'.os = w.os
  tape : w'.tape = w.tape
  output : w'.output = w.output
  size : w.heap.size ≤ w'.heap.size
  cell : ∀ b k, b < w.heap.size → ¬ D b k → w'.cell? ⟨b, k, none⟩ = w.cell? ⟨b, k, none⟩
  frz : ∀ b k, b < w.heap.size → ¬ D b k → w'.frozen? ⟨b, k, none⟩ = w.frozen? ⟨b, k, none⟩
  blk : ∀ b, b < w.heap.size → (∀ k, ¬ D b k) → w'.heap[b]? = w.heap[b]?

theorem Keep.refl (D : CellSet) (w : World) : Keep D w w := ⟨rfl, rfl, rfl, Nat.le_refl _, fun _ _ _ _ => rfl, fun _ _ _ _ => rfl, fun _ _ _ => rfl⟩

theorem Keep.trans {D E : CellSet} {a b c : World} (h : Keep D a b) (k : Keep E b c) (hE : ∀ x y, x < a.heap.size → E x y → D x y) : Keep D a c where
  os := k.os.trans h.os
  tape := k.tape.trans h.tape
  output := k.output.trans h.output
  size := Nat.le_trans h.size k.size
  cell x y hx hd := (k.cell x y (Nat.lt_of_lt_of_le hx h.size) fun e => hd (hE x y hx e)).trans (h.cell x y hx hd)
  frz x y hx hd := (k.frz x y (Nat.lt_of_lt_of_le hx h.size) fun e => hd (hE x y hx e)).trans (h.frz x y hx hd)
  blk x hx hd := (k.blk x (Nat.lt_of_lt_of_le hx h.size) fun y e => hd y (hE x y hx e)).trans (h.blk x hx hd)

theorem Keep.mono {D E : CellSet} {w w' : World} (h : Keep D w w') (hE : ∀ x y, x < w.heap.size → D x y → E x y) : Keep E w w' :=
  (Keep.refl E w).trans h hE

theorem Keep.below {w w' : World} (h : Keep (fun _ _ => False) w w') : Go.RowKit.Below w.heap.size w w' :=
  ⟨h.os, h.tape, h.output, h.size, fun k hk => h.blk k hk fun _ => id⟩

/-- An own object's cells. -/
def Holds (w : World) (c : Ctx) (L : Loc) : Ob → Prop
  | .box ls => ls.length ≤ L.n ∧ (∀ j, j < L.n → ∃ v, w.cell? ⟨L.b, L.base + j, none⟩ = some v ∧ w.frozen? ⟨L.b, L.base + j, none⟩ = false) ∧
      ∀ j (hj : j < ls.length) v, w.cell? ⟨L.b, L.base + j, none⟩ = some v → Cv w c (ls[j]) v
  | .arr t es rows => rows.length * es ≤ L.n ∧ (∀ r ∈ rows, r.length = es) ∧ (∀ j, j < L.n → ∃ v, w.cell? ⟨L.b, L.base + j, none⟩ = some v ∧ w.frozen? ⟨L.b, L.base + j, none⟩ = false) ∧
      ∀ i j (hi : i < rows.length) (hj : j < (rows[i]).length) v, w.cell? ⟨L.b, L.base + (i * es + j), none⟩ = some v → RepL w (c.fs t) v ((rows[i])[j])

theorem Holds.there {w : World} {c : Ctx} {L : Loc} {o : Ob} (h : Holds w c L o) (j : Nat) (hj : j < L.n) :
    ∃ v, w.cell? ⟨L.b, L.base + j, none⟩ = some v ∧ w.frozen? ⟨L.b, L.base + j, none⟩ = false := by
  cases o with
  | box ls => exact h.2.1 j hj
  | arr t es rows => exact h.2.2.1 j hj

theorem row_lt {n es i j : Nat} (hi : i < n) (hj : j < es) : i * es + j < n * es := by
  have h1 : (i + 1) * es ≤ n * es := Nat.mul_le_mul_right es hi
  rw [Nat.add_mul] at h1
  omega

/-- An object whose cells nobody turned. -/
theorem Holds.mono {w w' : World} {c c' : Ctx} {L : Loc} {o : Ob} (h : Holds w c L o) (hc : c.Le c') (hs : Same c w w')
    (hL : ∀ b k, inR L b k → w'.cell? ⟨b, k, none⟩ = w.cell? ⟨b, k, none⟩ ∧ w'.frozen? ⟨b, k, none⟩ = w.frozen? ⟨b, k, none⟩) : Holds w' c' L o := by
  have hin : ∀ j, j < L.n → inR L L.b (L.base + j) := fun j hj => ⟨rfl, by omega, by omega⟩
  cases o with
  | box ls =>
    obtain ⟨h1, h2, h3⟩ := h
    refine ⟨h1, fun j hj => ?_, fun j hj v hv => ?_⟩
    · obtain ⟨v, a, b⟩ := h2 j hj
      exact ⟨v, (hL _ _ (hin j hj)).1.trans a, (hL _ _ (hin j hj)).2.trans b⟩
    · rw [(hL _ _ (hin j (by omega))).1] at hv
      exact (h3 j hj v hv).mono hc hs
  | arr t es rows =>
    obtain ⟨h1, h0, h2, h3⟩ := h
    refine ⟨h1, h0, fun j hj => ?_, fun i j hi hj v hv => ?_⟩
    · obtain ⟨v, a, b⟩ := h2 j hj
      exact ⟨v, (hL _ _ (hin j hj)).1.trans a, (hL _ _ (hin j hj)).2.trans b⟩
    · have hj' : j < es := by rw [← h0 (rows[i]) (List.getElem_mem hi)]; exact hj
      have := row_lt hi hj'
      rw [(hL _ _ (hin _ (by omega))).1] at hv
      exact (h3 i j hi hj v hv).mono (hc.fs _) (hs.fs _)

/-- What is owned; the Bool: it lies in blocks that were made since the call began. -/
abbrev Heap := Nat → Option (Bool × Ob)

/-- What a call may write (w), and cells that are kept aside meanwhile (e: new ones, with what they hold). -/
structure Fr where
  w : CellSet
  e : Nat → Nat → Option Value
def frm (S : CellSet) : Fr := ⟨S, fun _ _ => none⟩

/-- The abstract heap H tells the world w: w0 is the world in which the call began; W0 are the cells of what it was handed to write. -/
structure Sit (w0 : World) (W0 : Fr) (c : Ctx) (H : Heap) (w : World) : Prop where
  keep : Keep W0.w w0 w
  own : ∀ id o, H id = some o → id < c.nx ∧ Holds w c (c.loc id) o.2
  dis : ∀ i j oi oj, H i = some oi → H j = some oj → i ≠ j → ∀ b k, inR (c.loc i) b k → ¬ inR (c.loc j) b k
  sep : ∀ id o, H id = some o → ∀ b k, inR (c.loc id) b k → ¬ c.F b k ∧ ¬ c.G b k ∧ ((o.1 = false ∧ W0.w b k) ∨ w0.heap.size ≤ b)
  old : ∀ b k, c.F b k → b < w0.heap.size ∧ ¬ W0.w b k
  new : ∀ b k, c.G b k → w0.heap.size ≤ b ∧ b < w.heap.size
  res : ∀ b k v, W0.e b k = some v → w0.heap.size ≤ b ∧ ¬ c.G b k ∧ w.cell? ⟨b, k, none⟩ = some v ∧ w.frozen? ⟨b, k, none⟩ = false ∧ ∀ id o, H id = some o → ¬ inR (c.loc id) b k

/-- Cells of w that are there. -/
theorem cell_lt {w : World} {b k : Nat} {v : Value} (h : w.cell? ⟨b, k, none⟩ = some v) : b < w.heap.size := by
  unfold World.cell? at h
  rcases Nat.lt_or_ge b w.heap.size with h1 | h1
  · exact h1
  · simp [Array.getElem?_eq_none h1] at h

theorem Sit.lt {w0 w : World} {W0 : Fr} {c : Ctx} {H : Heap} (s : Sit w0 W0 c H w) {id : Nat} {o : Bool × Ob} (h : H id = some o) {b k : Nat} (hr : inR (c.loc id) b k) : b < w.heap.size := by
  obtain ⟨rfl, h1, h2⟩ := hr
  obtain ⟨v, hv, _⟩ := (s.own id o h).2.there (k - (c.loc id).base) (by omega)
  exact cell_lt hv

/-- Own cells alone were turned: the frozen memory reads as it did. -/
theorem Sit.same {w0 w w' : World} {W0 : Fr} {D : CellSet} {c : Ctx} {H : Heap} (s : Sit w0 W0 c H w) (k : Keep D w w')
    (hD : ∀ b j, b < w.heap.size → D b j → ∃ id o, H id = some o ∧ inR (c.loc id) b j) : Same c w w' := by
  intro b j hb
  have hlt : b < w.heap.size := by
    rcases hb with hb | hb
    · exact (s.new b j hb).2
    · exact Nat.lt_of_lt_of_le (s.old b j hb).1 s.keep.size
  refine k.cell b j hlt fun d => ?_
  obtain ⟨id, o, ho, hr⟩ := hD b j hlt d
  have := s.sep id o ho b j hr
  rcases hb with hb | hb
  · exact this.2.1 hb
  · exact this.1 hb

/-- What the call may write of what was there when it began. -/
theorem Sit.keeps {w0 w w' : World} {W0 : Fr} {D : CellSet} {c : Ctx} {H : Heap} (s : Sit w0 W0 c H w) (k : Keep D w w')
    (hD : ∀ b j, b < w.heap.size → D b j → ∃ id o, H id = some o ∧ inR (c.loc id) b j) : Keep W0.w w0 w' := by
  refine s.keep.trans k fun b j hb d => ?_
  obtain ⟨id, o, ho, hr⟩ := hD b j (Nat.lt_of_lt_of_le hb s.keep.size) d
  rcases (s.sep id o ho b j hr).2.2 with h | h
  · exact h.2
  · omega

theorem Sit.aside {w0 w w' : World} {W0 : Fr} {D : CellSet} {c : Ctx} {H : Heap} (s : Sit w0 W0 c H w) (k : Keep D w w')
    (hD : ∀ b j, b < w.heap.size → D b j → ∃ id o, H id = some o ∧ inR (c.loc id) b j) {b j : Nat} {v : Value} (he : W0.e b j = some v) :
    w'.cell? ⟨b, j, none⟩ = some v ∧ w'.frozen? ⟨b, j, none⟩ = false := by
  obtain ⟨r1, r2, r3, r4, r5⟩ := s.res b j v he
  have hlt := cell_lt r3
  have hnd : ¬ D b j := fun d => by
    obtain ⟨id, o, ho, hr⟩ := hD b j hlt d
    exact r5 id o ho hr
  exact ⟨(k.cell b j hlt hnd).trans r3, (k.frz b j hlt hnd).trans r4⟩

def upd (H : Heap) (id : Nat) (x : Option (Bool × Ob)) : Heap := fun i => if i = id then x else H i
theorem upd_same (H : Heap) (id : Nat) (x : Option (Bool × Ob)) : upd H id x id = x := by simp [upd]
theorem upd_ne (H : Heap) {id i : Nat} (x : Option (Bool × Ob)) (h : i ≠ id) : upd H id x i = H i := by simp [upd, h]

/-- A store into an own object. -/
theorem Sit.upd {w0 w w' : World} {W0 : Fr} {D : CellSet} {c : Ctx} {H : Heap} (s : Sit w0 W0 c H w) (k : Keep D w w') {id : Nat} {fr : Bool} {o o' : Ob} (ho : H id = some (fr, o))
    (hD : ∀ b j, b < w.heap.size → D b j → inR (c.loc id) b j) (hh : Holds w' c (c.loc id) o') : Sit w0 W0 c (upd H id (some (fr, o'))) w' ∧ Same c w w' := by
  have hD' : ∀ b j, b < w.heap.size → D b j → ∃ i o, H i = some o ∧ inR (c.loc i) b j := fun b j hb d => ⟨id, _, ho, hD b j hb d⟩
  have hs := s.same k hD'
  have hold : ∀ i oi, TL.upd H id (some (fr, o')) i = some oi → ∃ oi', H i = some oi' ∧ oi'.1 = oi.1 := by
    intro i oi hi
    by_cases e : i = id
    · subst e; rw [upd_same] at hi; cases hi; exact ⟨_, ho, rfl⟩
    · rw [upd_ne _ _ e] at hi; exact ⟨oi, hi, rfl⟩
  refine ⟨⟨s.keeps k hD', fun i oi hi => ?_, fun i j oi oj hi hj hij => ?_, fun i oi hi b j hb => ?_, s.old, fun b j hg => ⟨(s.new b j hg).1, Nat.lt_of_lt_of_le (s.new b j hg).2 k.size⟩,
    fun b j v he => ⟨(s.res b j v he).1, (s.res b j v he).2.1, (s.aside k hD' he).1, (s.aside k hD' he).2, fun i oi hi => let ⟨oi', h', _⟩ := hold i oi hi; (s.res b j v he).2.2.2.2 i oi' h'⟩⟩, hs⟩
  · by_cases e : i = id
    · subst e; rw [upd_same] at hi; cases hi; exact ⟨(s.own _ _ ho).1, hh⟩
    · rw [upd_ne _ _ e] at hi
      refine ⟨(s.own i oi hi).1, (s.own i oi hi).2.mono (.refl c) hs fun b j hb => ?_⟩
      have hlt := s.lt hi hb
      have hnd : ¬ D b j := fun d => s.dis i id oi _ hi ho e b j hb (hD b j hlt d)
      exact ⟨k.cell b j hlt hnd, k.frz b j hlt hnd⟩
  · obtain ⟨a, ha, _⟩ := hold i oi hi
    obtain ⟨a', ha', _⟩ := hold j oj hj
    exact s.dis i j _ _ ha ha' hij
  · obtain ⟨a, ha, e⟩ := hold i oi hi
    rw [← e]
    exact s.sep i a ha b j hb

/-- Nothing of what is known was turned (draws, new blocks). -/
theorem Sit.idle {w0 w w' : World} {W0 : Fr} {c : Ctx} {H : Heap} (s : Sit w0 W0 c H w) (k : Keep (fun _ _ => False) w w') : Sit w0 W0 c H w' ∧ Same c w w' := by
  have hs := s.same k fun _ _ _ h => h.elim
  refine ⟨⟨s.keeps k fun _ _ _ h => h.elim, fun i oi hi => ⟨(s.own i oi hi).1, (s.own i oi hi).2.mono (.refl c) hs fun b j hb => ?_⟩, s.dis, s.sep, s.old, fun b j hg => ⟨(s.new b j hg).1, Nat.lt_of_lt_of_le (s.new b j hg).2 k.size⟩,
    fun b j v he => ⟨(s.res b j v he).1, (s.res b j v he).2.1, (s.aside k (fun _ _ _ h => h.elim) he).1, (s.aside k (fun _ _ _ h => h.elim) he).2, (s.res b j v he).2.2.2.2⟩⟩, hs⟩
  have hlt := s.lt hi hb
  exact ⟨k.cell b j hlt id, k.frz b j hlt id⟩

/-- Less is known. -/
theorem Sit.less {w0 w : World} {W0 : Fr} {c : Ctx} {H H' : Heap} (s : Sit w0 W0 c H w) (h : ∀ i o, H' i = some o → H i = some o) : Sit w0 W0 c H' w :=
  ⟨s.keep, fun i o hi => s.own i o (h i o hi), fun i j oi oj hi hj => s.dis i j oi oj (h _ _ hi) (h _ _ hj), fun i o hi => s.sep i o (h _ _ hi), s.old, s.new,
    fun b k v he => ⟨(s.res b k v he).1, (s.res b k v he).2.1, (s.res b k v he).2.2.1, (s.res b k v he).2.2.2.1, fun i o hi => (s.res b k v he).2.2.2.2 i o (h _ _ hi)⟩⟩

/-- One more own object, at L. -/
def Ctx.push (c : Ctx) (L : Loc) : Ctx := { c with loc := fun i => if i = c.nx then L else c.loc i, nx := c.nx + 1 }
theorem Ctx.le_push (c : Ctx) (L : Loc) : c.Le (c.push L) :=
  ⟨rfl, fun _ _ h => h, Nat.le_succ _, fun id hid => by simp [Ctx.push, Nat.ne_of_lt hid]⟩
theorem Ctx.push_loc (c : Ctx) (L : Loc) : (c.push L).loc c.nx = L := by simp [Ctx.push]

/-- A new object: in a new block, or in the place of one that is given up; cells of that one alone were turned. -/
theorem Sit.push {w0 w w' : World} {W0 : Fr} {D : CellSet} {c : Ctx} {H H' : Heap} (s : Sit w0 W0 c H w) (k : Keep D w w') (L : Loc) {fr : Bool} {o : Ob}
    (hless : ∀ i o, H' i = some o → H i = some o) (gone : Nat → Prop) (hgone : ∀ i, gone i → H' i = none)
    (hD : ∀ b j, b < w.heap.size → D b j → ∃ i o, gone i ∧ H i = some o ∧ inR (c.loc i) b j)
    (hL : ∀ b j, inR L b j → w.heap.size ≤ b ∨ ∃ i o, gone i ∧ H i = some o ∧ inR (c.loc i) b j ∧ (o.1 = false → fr = false))
    (hh : Holds w' (c.push L) L o) : Sit w0 W0 (c.push L) (TL.upd H' c.nx (some (fr, o))) w' ∧ Same c w w' := by
  have hD' : ∀ b j, b < w.heap.size → D b j → ∃ i o, H i = some o ∧ inR (c.loc i) b j := fun b j hb d => let ⟨i, o, _, h⟩ := hD b j hb d; ⟨i, o, h⟩
  have hs := s.same k hD'
  have hlt : ∀ i oi, H' i = some oi → i < c.nx := fun i oi hi => (s.own i oi (hless _ _ hi)).1
  have hnew : ∀ i oi, H' i = some oi → ∀ b j, inR (c.loc i) b j → ¬ inR L b j := by
    intro i oi hi b j hb hl
    rcases hL b j hl with h | ⟨i', o', hg, ho', hr, _⟩
    · have := s.lt (hless _ _ hi) hb; omega
    · have hne : i ≠ i' := by intro e; subst e; rw [hgone i hg] at hi; cases hi
      exact s.dis i i' _ _ (hless _ _ hi) ho' hne b j hb hr
  refine ⟨⟨s.keeps k hD', fun i oi hi => ?_, fun i j oi oj hi hj hij b l hb => ?_, fun i oi hi b j hb => ?_, s.old, fun b j hg => ⟨(s.new b j hg).1, Nat.lt_of_lt_of_le (s.new b j hg).2 k.size⟩,
    fun b j v he => ⟨(s.res b j v he).1, (s.res b j v he).2.1, (s.aside k hD' he).1, (s.aside k hD' he).2, fun i oi hi => ?_⟩⟩, hs⟩
  · by_cases e : i = c.nx
    · subst e; rw [upd_same] at hi; cases hi; exact ⟨Nat.lt_succ_self _, by rw [Ctx.push_loc]; exact hh⟩
    · rw [upd_ne _ _ e] at hi
      have h1 := hlt i oi hi
      refine ⟨Nat.lt_of_lt_of_le h1 (Nat.le_succ _), ?_⟩
      rw [(c.le_push L).loc i h1]
      refine (s.own i oi (hless _ _ hi)).2.mono (c.le_push L) hs fun b j hb => ?_
      have hb' := s.lt (hless _ _ hi) hb
      have hnd : ¬ D b j := fun d => by
        obtain ⟨i', o', hg, ho', hr⟩ := hD b j hb' d
        have hne : i ≠ i' := by intro e; subst e; rw [hgone i hg] at hi; cases hi
        exact s.dis i i' _ _ (hless _ _ hi) ho' hne b j hb hr
      exact ⟨k.cell b j hb' hnd, k.frz b j hb' hnd⟩
  · by_cases ei : i = c.nx
    · subst ei
      rw [Ctx.push_loc] at hb
      rw [upd_ne _ _ (Ne.symm hij)] at hj
      rw [(c.le_push L).loc j (hlt _ _ hj)]
      exact fun hr => hnew j oj hj b l hr hb
    · rw [upd_ne _ _ ei] at hi
      rw [(c.le_push L).loc i (hlt _ _ hi)] at hb
      by_cases ej : j = c.nx
      · subst ej; rw [Ctx.push_loc]; exact hnew i oi hi b l hb
      · rw [upd_ne _ _ ej] at hj
        rw [(c.le_push L).loc j (hlt _ _ hj)]
        exact s.dis i j _ _ (hless _ _ hi) (hless _ _ hj) hij b l hb
  · by_cases e : i = c.nx
    · subst e
      rw [upd_same] at hi
      cases hi
      rw [Ctx.push_loc] at hb
      rcases hL b j hb with h | ⟨i', o', hg, ho', hr, hfr⟩
      · refine ⟨fun hf => ?_, fun hg => ?_, .inr (Nat.le_trans s.keep.size h)⟩
        · have := (s.old b j hf).1; have := s.keep.size; omega
        · have := (s.new b j hg).2; omega
      · have := s.sep i' o' ho' b j hr
        exact ⟨this.1, this.2.1, this.2.2.imp (fun h => ⟨hfr h.1, h.2⟩) id⟩
    · rw [upd_ne _ _ e] at hi
      rw [(c.le_push L).loc i (hlt _ _ hi)] at hb
      exact s.sep i oi (hless _ _ hi) b j hb
  · obtain ⟨r1, r2, r3, r4, r5⟩ := s.res b j v he
    by_cases e : i = c.nx
    · subst e
      rw [Ctx.push_loc]
      intro hb
      rcases hL b j hb with h | ⟨i', o', hg, ho', hr, _⟩
      · have := cell_lt r3; omega
      · exact r5 i' o' ho' hr
    · rw [upd_ne _ _ e] at hi
      rw [(c.le_push L).loc i (hlt _ _ hi)]
      exact r5 i oi (hless _ _ hi)

/-- An own object that is written no more. -/
def Ctx.freeze (c : Ctx) (id : Nat) : Ctx := { c with G := fun b k => c.G b k ∨ inR (c.loc id) b k }
theorem Ctx.le_freeze (c : Ctx) (id : Nat) : c.Le (c.freeze id) := ⟨rfl, fun _ _ h => .inl h, Nat.le_refl _, fun _ _ => rfl⟩

theorem Sit.freeze {w0 w : World} {W0 : Fr} {c : Ctx} {H : Heap} (s : Sit w0 W0 c H w) {id : Nat} {o : Ob} (ho : H id = some (true, o)) :
    Sit w0 W0 (c.freeze id) (TL.upd H id none) w := by
  have hne : ∀ i oi, TL.upd H id none i = some oi → i ≠ id ∧ H i = some oi := by
    intro i oi hi
    by_cases e : i = id
    · subst e; rw [upd_same] at hi; cases hi
    · rw [upd_ne _ _ e] at hi; exact ⟨e, hi⟩
  refine ⟨s.keep, fun i oi hi => ?_, fun i j oi oj hi hj => s.dis i j oi oj (hne _ _ hi).2 (hne _ _ hj).2, fun i oi hi b j hb => ?_, s.old, fun b j hg => ?_,
    fun b j v he => ⟨(s.res b j v he).1, fun hg => hg.elim (s.res b j v he).2.1 ((s.res b j v he).2.2.2.2 id _ ho), (s.res b j v he).2.2.1, (s.res b j v he).2.2.2.1, fun i oi hi => (s.res b j v he).2.2.2.2 i oi (hne _ _ hi).2⟩⟩
  · obtain ⟨_, hi⟩ := hne i oi hi
    exact ⟨(s.own i oi hi).1, (s.own i oi hi).2.mono (c.le_freeze id) (fun _ _ _ => rfl) fun _ _ _ => ⟨rfl, rfl⟩⟩
  · obtain ⟨e, hi⟩ := hne i oi hi
    obtain ⟨h1, h2, h3⟩ := s.sep i oi hi b j hb
    exact ⟨h1, fun h => h.elim h2 (s.dis i id _ _ hi ho e b j hb), h3⟩
  · rcases hg with hg | hg
    · exact s.new b j hg
    · refine ⟨?_, s.lt ho hg⟩
      rcases (s.sep id _ ho b j hg).2.2 with h | h
      · cases h.1
      · exact h

end Go.TL
