/- The abstract machine: types, states, and what each operation does to a state. -/
import Derived.Test.YtoabnifimfcbcaaTlCore
set_option linter.unusedSimpArgs false
set_option linter.unusedVariables false
namespace Go.TL
open Go

/-- What a type looks like. -/
inductive Sh where
  | flat
  | bool
  | int (k : IntKind)
  | str
  | slice (el : Nat)
  | struct (fs : List (Nat × Nat))
  | other
  deriving Inhabited

def shapeOf : TypeDesc → Sh
  | .pointer _ | .func _ _ _ => .flat
  | .bool => .bool
  | .int k => .int k
  | .string => .str
  | .slice el => .slice el
  | .struct fs => .struct (fs.toList.map fun f => (f.type, f.offset))
  | _ => .other

/-- A type: its cells, its bytes, its zero value's cells, its shape. -/
structure TE where
  size : Nat
  bytes : Nat
  zero : List Value
  sh : Sh
  deriving Inhabited

def OkT (P : Program) (t : Nat) (e : TE) : Prop :=
  (P.info? t).map (fun i => (i.size, i.bytes, i.zero.map fun v => v.cells.toList)) = some (e.size, e.bytes, some e.zero) ∧ (P.underlying t).map shapeOf = some e.sh

abbrev Tab := List (Nat × TE)

def look {α : Type} : List (Nat × α) → Nat → Option α
  | [], _ => none
  | (k, a) :: r, i => if i = k then some a else look r i

def TabOk (P : Program) (tab : Tab) : Prop := ∀ p ∈ tab, OkT P p.1 p.2

theorem look_mem {α : Type} {l : List (Nat × α)} {i : Nat} {a : α} (h : look l i = some a) : (i, a) ∈ l := by
  induction l with
  | nil => cases h
  | cons p r ih =>
    obtain ⟨k, x⟩ := p
    simp only [look] at h
    split at h
    · rename_i e; subst e; cases h; exact List.mem_cons_self
    · exact List.mem_cons_of_mem _ (ih h)

structure St where
  T : List (Nat × LV)
  H : List (Nat × Option (Bool × Ob))
  nx : Nat
  nt : Nat
  deriving Inhabited

def tv (T : List (Nat × LV)) (i : Nat) : LV := (look T i).getD .un
def hp (H : List (Nat × Option (Bool × Ob))) : Heap := fun i => (look H i).getD none

theorem hp_cons (H : List (Nat × Option (Bool × Ob))) (k : Nat) (x : Option (Bool × Ob)) : hp ((k, x) :: H) = upd (hp H) k x := by
  funext i
  simp only [hp, look, upd]
  split <;> simp

/-- A constant's cells. -/
def cellLV : Value → LV
  | .int k n => .lf false (.sc (.int k n))
  | .bool b => .lf false (.sc (.bool b))
  | .string s => .lf false (.sc (.string s))
  | .slice none 0 0 => .nl
  | _ => .un

def constLV : Value → LV
  | .agg vs => .ag (vs.toList.map cellLV)
  | v => cellLV v

def ev (T : List (Nat × LV)) : Operand → LV
  | .tmp t => tv T t
  | .const v => constLV v
  | .func f => .fn f []
  | .global _ => .un

/-- What an operation comes to: on which condition, which value, which objects turned. -/
structure Res where
  pre : Prop
  v : LV
  H : List (Nat × Option (Bool × Ob))
  nx : Nat

/-- A scalar needs no memory. -/
def mk (t : Bool) : Leaf → LV
  | .sc v => .lf false (.sc v)
  | l => .lf t l

/-- Whole-number, bool and string operations. -/
def bin : BinOp → Value → Value → Option Value
  | .add, .int k a, .int k' b => if k = k' then some (.int k (k.wrap (a + b))) else none
  | .sub, .int k a, .int k' b => if k = k' then some (.int k (k.wrap (a - b))) else none
  | .mul, .int k a, .int k' b => if k = k' then some (.int k (k.wrap (a * b))) else none
  | .quo, .int k a, .int k' b => if k = k' then some (.int k (k.wrap (a.tdiv b))) else none
  | .rem, .int k a, .int k' b => if k = k' then some (.int k (a.tmod b)) else none
  | .and, .int k a, .int k' b => if k = k' then some (.int k (k.wrap (BitVec.ofInt k.bits a &&& BitVec.ofInt k.bits b).toNat)) else none
  | .or, .int k a, .int k' b => if k = k' then some (.int k (k.wrap (BitVec.ofInt k.bits a ||| BitVec.ofInt k.bits b).toNat)) else none
  | .xor, .int k a, .int k' b => if k = k' then some (.int k (k.wrap (BitVec.ofInt k.bits a ^^^ BitVec.ofInt k.bits b).toNat)) else none
  | .shl, .int k a, .int _ b => some (.int k (k.wrap (a * 2 ^ (min b.toNat k.bits))))
  | .shr, .int k a, .int _ b => some (.int k (a.fdiv (2 ^ (min b.toNat k.bits))))
  | .add, .string a, .string b => some (.string (a ++ b))
  | .eql, .int k a, .int k' b => if k = k' then some (.bool (a == b)) else none
  | .neq, .int k a, .int k' b => if k = k' then some (.bool (a != b)) else none
  | .lss, .int k a, .int k' b => if k = k' then some (.bool (a < b)) else none
  | .leq, .int k a, .int k' b => if k = k' then some (.bool (a ≤ b)) else none
  | .gtr, .int k a, .int k' b => if k = k' then some (.bool (a > b)) else none
  | .geq, .int k a, .int k' b => if k = k' then some (.bool (a ≥ b)) else none
  | .eql, .string a, .string b => some (.bool (a.toList == b.toList))
  | .neq, .string a, .string b => some (.bool (!(a.toList == b.toList)))
  | .lss, .string a, .string b => some (.bool (Op.bytesLess a.toList b.toList))
  | .leq, .string a, .string b => some (.bool (Op.bytesLess a.toList b.toList || a.toList == b.toList))
  | .gtr, .string a, .string b => some (.bool (!(Op.bytesLess a.toList b.toList || a.toList == b.toList)))
  | .geq, .string a, .string b => some (.bool (!Op.bytesLess a.toList b.toList))
  | _, _, _ => none

/-- On which condition. -/
def binP : BinOp → Value → Value → Prop
  | .quo, .int _ _, .int _ b => b ≠ 0
  | .rem, .int _ _, .int _ b => b ≠ 0
  | .shl, .int _ _, .int _ b => 0 ≤ b
  | .shr, .int _ _, .int _ b => 0 ≤ b
  | .add, .string a, .string b => a.size + b.size ≤ 9223372036854775807
  | _, _, _ => True

theorem bin_run {P : Program} {op : BinOp} {x y v : Value} (h : bin op x y = some v) (hp : binP op x y) (t : TypeId) (w : World) : (Go.binOp op t x y).run P w = .ok v w := by
  unfold bin at h
  split at h <;> (try split at h) <;> cases h
  all_goals (try subst_vars)
  all_goals (simp only [binP] at hp)
  all_goals first
    | (simp_all [Go.binOp, Op.intArith, Op.intDiv, Op.intCmp, Op.stringOp, Op.intBits, Op.shift, Sem.run, pure]; done)
    | (rename_i b; have h0 : ¬ b < 0 := by omega
       simp only [Go.binOp, Op.shift, h0, if_false]; rfl)
    | (rename_i a b; have h0 : ¬ ((a.size + b.size : Nat) : Int) > IntKind.i64.max := by show ¬ ((a.size + b.size : Nat) : Int) > 9223372036854775807; omega
       simp only [Go.binOp, Op.stringOp, h0, if_false]; rfl)

end Go.TL
