/- Plain programs beside the walk: guards, binds, loops as plain functions. Nothing of the model stands here. -/
set_option linter.unusedSimpArgs false
set_option linter.unusedVariables false
namespace Go.TL

section
variable {α β σ ρ : Type}

/-- The text of some bytes. -/
def bstr (ns : List Int) : ByteArray := ns.foldl (fun s n => s.push (UInt8.ofNat n.toNat)) ByteArray.empty

def guardO (p : Prop) [Decidable p] (k : Option α) : Option α := if p then k else none
theorem guard_some {p : Prop} [Decidable p] {k : Option α} {x : α} (h : guardO p k = some x) : p ∧ k = some x := by
  unfold guardO at h
  split at h
  · exact ⟨‹_›, h⟩
  · cases h
theorem guard_pos {p : Prop} [Decidable p] (h : p) (k : Option α) : guardO p k = k := if_pos h

theorem bind_ok {a : Option α} {f : α → Option β} {x : β} (h : a.bind f = some x) : ∃ t, a = some t ∧ f t = some x := by
  cases a with
  | none => cases h
  | some t => exact ⟨t, rfl, h⟩

/-- A loop: .inl: once more; .inr: it is left. n: how often it goes on. -/
inductive Loops (step : σ → Option (σ ⊕ ρ)) : Nat → σ → ρ → Prop
  | out {s : σ} {r : ρ} (h : step s = some (.inr r)) : Loops step 0 s r
  | on {n : Nat} {s s' : σ} {r : ρ} (h : step s = some (.inl s')) (k : Loops step n s' r) : Loops step (n + 1) s r

open Classical in
noncomputable def loopF (step : σ → Option (σ ⊕ ρ)) (s : σ) : Option ρ := if h : ∃ r n, Loops step n s r then some h.choose else none

theorem Loops.one {step : σ → Option (σ ⊕ ρ)} {n m : Nat} {s : σ} {r r' : ρ} (h : Loops step n s r) (k : Loops step m s r') : r = r' := by
  induction h generalizing m with
  | out h => cases k with
    | out h' => rw [h] at h'; cases h'; rfl
    | on h' _ => rw [h] at h'; cases h'
  | on h _ ih => cases k with
    | out h' => rw [h] at h'; cases h'
    | on h' k' => rw [h] at h'; cases h'; exact ih k'

theorem loop_some {step : σ → Option (σ ⊕ ρ)} {s : σ} {r : ρ} (h : loopF step s = some r) : ∃ n, Loops step n s r := by
  unfold loopF at h
  split at h
  · rename_i hh
    cases h
    exact hh.choose_spec
  · cases h

theorem loop_of {step : σ → Option (σ ⊕ ρ)} {n : Nat} {s : σ} {r : ρ} (h : Loops step n s r) : loopF step s = some r := by
  have hh : ∃ r n, Loops step n s r := ⟨r, n, h⟩
  unfold loopF
  rw [dif_pos hh]
  obtain ⟨m, hm⟩ := hh.choose_spec
  rw [hm.one h]

theorem loop_out {step : σ → Option (σ ⊕ ρ)} {s : σ} {r : ρ} (h : step s = some (.inr r)) : loopF step s = some r := loop_of (.out h)
theorem loop_on {step : σ → Option (σ ⊕ ρ)} {s s' : σ} (h : step s = some (.inl s')) : loopF step s = loopF step s' := by
  cases hs : loopF step s' with
  | some r =>
    obtain ⟨n, hn⟩ := loop_some hs
    exact loop_of (.on h hn)
  | none =>
    cases hr : loopF step s with
    | none => rfl
    | some r =>
      obtain ⟨n, hn⟩ := loop_some hr
      cases hn with
      | out h' => rw [h] at h'; cases h'
      | on h' k => rw [h] at h'; cases h'; rw [loop_of k] at hs; cases hs

/-- What a loop comes to: f, while the invariant stands. -/
theorem loop_eq {step : σ → Option (σ ⊕ ρ)} (inv : σ → Prop) (meas : σ → Nat) (f : σ → ρ)
    (h : ∀ s, inv s → (∃ s', step s = some (.inl s') ∧ inv s' ∧ meas s' < meas s ∧ f s' = f s) ∨ step s = some (.inr (f s))) {s : σ} (hs : inv s) : loopF step s = some (f s) := by
  generalize hm : meas s = m
  induction m using Nat.strongRecOn generalizing s with
  | ind m ih =>
    rcases h s hs with ⟨s', h1, h2, h3, h4⟩ | h1
    · rw [loop_on h1, ih _ (hm ▸ h3) h2 rfl, h4]
    · exact loop_out h1

/-- .. where only some of what comes out is told. -/
theorem loop_ex {step : σ → Option (σ ⊕ ρ)} (inv : σ → Prop) (meas : σ → Nat) (Q : ρ → Prop)
    (h : ∀ s, inv s → (∃ s', step s = some (.inl s') ∧ inv s' ∧ meas s' < meas s) ∨ ∃ r, step s = some (.inr r) ∧ Q r) {s : σ} (hs : inv s) : ∃ r, loopF step s = some r ∧ Q r := by
  generalize hm : meas s = m
  induction m using Nat.strongRecOn generalizing s with
  | ind m ih =>
    rcases h s hs with ⟨s', h1, h2, h3⟩ | ⟨r, h1, h2⟩
    · rw [loop_on h1]; exact ih _ (hm ▸ h3) h2 rfl
    · exact ⟨r, loop_out h1, h2⟩

/-- What is left of a loop behind a round. -/
def LK (step : σ → Option (σ ⊕ ρ)) (N : Nat) (x : σ ⊕ ρ) (r : ρ) : Prop := match x with
  | .inl s' => ∃ n, n < N ∧ Loops step n s' r
  | .inr r' => r = r'

theorem Loops.round {step : σ → Option (σ ⊕ ρ)} {n : Nat} {s : σ} {r : ρ} (h : Loops step n s r) : ∃ x, step s = some x ∧ LK step n x r := by
  cases h with
  | out h => exact ⟨_, h, rfl⟩
  | on h k => exact ⟨_, h, _, Nat.lt_succ_self _, k⟩

/-- The n-th of a list. -/
def nth [Inhabited α] (l : List α) (n : Nat) : α := l.getD n default
end

/-! ### Whole numbers, strings -/

def wI (n : Int) : Int := if 9223372036854775808 ≤ n % 18446744073709551616 then n % 18446744073709551616 - 18446744073709551616 else n % 18446744073709551616
def wU (n : Int) : Int := n % 18446744073709551616
def wB (n : Int) : Int := n % 256
theorem wI_id {n : Int} (h : -9223372036854775808 ≤ n ∧ n ≤ 9223372036854775807) : wI n = n := by
  unfold wI; split <;> omega
theorem wU_id {n : Int} (h : 0 ≤ n ∧ n < 18446744073709551616) : wU n = n := by unfold wU; omega
theorem wB_id {n : Int} (h : 0 ≤ n ∧ n < 256) : wB n = n := by unfold wB; omega
def shL (bits : Nat) (a b : Int) : Int := a * 2 ^ (min b.toNat bits)
def shR (bits : Nat) (a b : Int) : Int := a.fdiv (2 ^ (min b.toNat bits))
def bvAnd (bits : Nat) (a b : Int) : Int := ((BitVec.ofInt bits a &&& BitVec.ofInt bits b).toNat : Int)
def bvOr (bits : Nat) (a b : Int) : Int := ((BitVec.ofInt bits a ||| BitVec.ofInt bits b).toNat : Int)
def bvXor (bits : Nat) (a b : Int) : Int := ((BitVec.ofInt bits a ^^^ BitVec.ofInt bits b).toNat : Int)
def bt (s : ByteArray) (i : Int) : Int := ((s[i.toNat]?.getD 0).toNat : Int)
/-- Bytes, one behind the other: is one ahead of another one? -/
def bLess : List UInt8 → List UInt8 → Bool
  | _, [] => false
  | [], _ :: _ => true
  | a :: r, b :: q => a < b || (a == b && bLess r q)
def sLt (a b : ByteArray) : Bool := bLess a.toList b.toList
theorem nt {c : Bool} (h : c = false) : ¬ c = true := by rw [h]; exact Bool.false_ne_true
end Go.TL
