import Derived.Test.YtjhcfmcdllfmpaaDoorG36PpMark
import Derived.Test.YtjhcfmcdllfmpaaDoorG19PlR1
set_option linter.unusedSimpArgs false
set_option linter.unusedVariables false
set_option linter.unusedVariables false
set_option linter.unusedSimpArgs false
set_option maxRecDepth 4000
namespace Go.TL
def ok_Domain (x : DomainT) : Prop := ok_S x.Name ∧ ok_I x.Version ∧ ok_S x.Note
def siz_Domain (x : DomainT) : Nat := siz_S x.Name + siz_I x.Version + siz_S x.Note
def lk_Domain (x : DomainT) : Prop := lk_S x.Name ∧ lk_I x.Version ∧ lk_S x.Note
theorem lk_of_Domain {x : DomainT} (h : ok_Domain x) : lk_Domain x := ⟨lk_of_S h.1, lk_of_I h.2.1, lk_of_S h.2.2⟩
theorem laws_szDomain_eq (a : DomainT) (n : Int) (ha : ok_Domain a) (h0 : 0 ≤ n) (h1 : n ≤ 4611686018427387904) : laws_szDomain a n = some (szr (siz_Domain a) n) := by
  unfold laws_szDomain
  unfold ok_Domain at ha
  unfold siz_Domain
  have z_Version : siz_I a.Version = 0 := siz0_I _
  rw [z_Version]
  have q0 : a.Name.size ≤ 9223372036854775807 := ha.1
  have z0 : siz_S a.Name = a.Name.size := rfl
  rw [z0, wI_id (by omega)]
  have e0 : szr a.Name.size (n) = if (a.Name.size : Int) ≤ n then n - (a.Name.size : Int) else -1 := rfl
  by_cases c0 : (a.Name.size : Int) ≤ n
  rotate_left
  · rw [if_pos (by simp; omega)]; unfold szr; rw [if_neg (by omega)]
  rw [if_neg (by simp; omega)]
  have q1 : a.Note.size ≤ 9223372036854775807 := ha.2.2
  have z1 : siz_S a.Note = a.Note.size := rfl
  rw [z1, wI_id (by omega)]
  have e1 : szr a.Note.size ((n - (a.Name.size : Int))) = if (a.Note.size : Int) ≤ (n - (a.Name.size : Int)) then (n - (a.Name.size : Int)) - (a.Note.size : Int) else -1 := rfl
  by_cases c1 : (a.Note.size : Int) ≤ (n - (a.Name.size : Int))
  rotate_left
  · rw [if_pos (by simp; omega)]; unfold szr; rw [if_neg (by omega)]
  rw [if_neg (by simp; omega)]
  unfold szr; rw [if_pos (by omega)]
  congr 1; omega
def ok_LDomain (x : (List DomainT)) : Prop := x.length ≤ 9223372036854775807 ∧ ∀ y ∈ x, ok_Domain y
def siz_LDomain (x : (List DomainT)) : Nat := x.length + sumN (x.map siz_Domain)
def lk_LDomain (x : (List DomainT)) : Prop := x.length ≤ 9223372036854775807 ∧ ∀ y ∈ x, lk_Domain y
theorem lk_of_LDomain {x : (List DomainT)} (h : ok_LDomain x) : lk_LDomain x := ⟨h.1, fun y hy => lk_of_Domain (h.2 y hy)⟩
theorem laws_szDomainS_eq (a : (List DomainT)) (n : Int) (ha : ok_LDomain a) (h0 : 0 ≤ n) (h1 : n ≤ 4611686018427387904) : laws_szDomainS a n = some (szr (siz_LDomain a) n) := by
  obtain ⟨ha1, ha2⟩ := ha
  unfold laws_szDomainS
  rw [wI_id (by omega)]
  by_cases hc : n - ((a.length : Nat) : Int) < 0
  · rw [if_pos (decide_eq_true hc)]
    unfold szr siz_LDomain
    rw [if_neg (by omega)]
  · rw [if_neg (by simpa using hc)]
    have key := sz_loop (step := laws_szDomainS_L1 a) (fun i s => (⟨s, i⟩ : laws_szDomainS_G1)) a siz_Domain n (fun s => (.inr ⟨s⟩ : Unit ⊕ laws_szDomainS_P1_1)) (.inl ()) (fun i s hi hs => ?_) (fun s hs => ?_) (n - ((a.length : Nat) : Int)) ⟨by omega, by omega⟩
    · rw [key]
      unfold szr siz_LDomain
      by_cases h : (sumN (a.map siz_Domain) : Int) ≤ n - ((a.length : Nat) : Int)
      · rw [if_pos h, if_pos (by omega)]; simp only [Option.bind_some]; congr 1; omega
      · rw [if_neg h, if_neg (by omega)]; rfl
    · have hm := ha2 _ (nth_mem hi)
      unfold laws_szDomainS_L1
      simp (disch := omega) only [decide_eq_true_eq, if_pos, guard_pos, Int.toNat_natCast, wI_id]
      rw [laws_szDomain_eq _ _ hm (by omega) (by omega)]
      simp only [Option.bind_some]
      unfold szr
      by_cases h : (siz_Domain (nth a i) : Int) ≤ s
      · rw [if_pos h, if_pos h, if_neg (by omega)]; rfl
      · rw [if_neg h, if_neg h, if_pos (by omega)]
    · unfold laws_szDomainS_L1
      rw [if_neg (by simp)]
theorem laws_toDomain_eq (a : DomainT) (ha : siz_Domain a ≤ 4194304) : laws_toDomain a = some a := by
  unfold siz_Domain at ha
  unfold laws_toDomain
  all_goals rfl
theorem laws_toDomainS_eq (a : (List DomainT)) (ha : siz_LDomain a ≤ 4194304) : laws_toDomainS a = some a := by
  unfold siz_LDomain at ha
  unfold laws_toDomainS
  rw [guard_pos (by omega)]
  have key := fill_loop (step := laws_toDomainS_L1 a) (fun i l => (⟨i, l⟩ : laws_toDomainS_G1)) a (fun x => x) (fun l => (⟨l⟩ : laws_toDomainS_P1_0)) (fun i l hi hl => ?_) (fun l hl => ?_) (List.replicate a.length (⟨ByteArray.empty, 0, ByteArray.empty⟩ : DomainT)) (by simp)
  · rw [key]; simp
  · unfold laws_toDomainS_L1
    have hm : siz_Domain (nth a i) ≤ 4194304 := Nat.le_trans (sumN_mem siz_Domain (nth_mem hi)) (by omega)
    simp (disch := omega) only [decide_eq_true_eq, if_pos, guard_pos, Int.toNat_natCast, wI_id]
    rw [laws_toDomain_eq _ hm]
    simp (disch := omega) only [Option.bind_some, guard_pos]
    rfl
  · unfold laws_toDomainS_L1
    rw [if_neg (by simp)]
theorem laws_eqDomain_eq (a b : DomainT) (ha : lk_Domain a) : laws_eqDomain a b = some (decide (a = b)) := by
  unfold lk_Domain at ha
  unfold laws_eqDomain
  obtain ⟨x0, x1, x2⟩ := a
  obtain ⟨y0, y1, y2⟩ := b
  simp only [sEq, Option.bind_some, DomainT.mk.injEq]
  by_cases h0 : x0 = y0
  rotate_left
  · simp [h0]
  by_cases h1 : x1 = y1
  rotate_left
  · simp [h1]
  by_cases h2 : x2 = y2
  rotate_left
  · simp [h2]
  simp [h0, h1, h2]
theorem laws_eqDomainS_eq (a b : (List DomainT)) (ha : lk_LDomain a) : laws_eqDomainS a b = some (decide (a = b)) := by
  obtain ⟨ha1, ha2⟩ := ha
  unfold laws_eqDomainS
  by_cases hl : a.length = b.length
  · rw [if_neg (by simp [hl])]
    have key := eq_loop (step := laws_eqDomainS_L1 a b) (fun i => (⟨i⟩ : laws_eqDomainS_G1)) a b hl (fun i hi => ?_) ?_
    · rw [key]; by_cases h : a = b <;> simp [h]
    · have hm := ha2 _ (nth_mem hi)
      unfold laws_eqDomainS_L1
      simp (disch := omega) only [decide_eq_true_eq, if_pos, guard_pos, Int.toNat_natCast, wI_id]
      rw [laws_eqDomain_eq _ _ hm]; simp only [Option.bind_some]
      by_cases h : nth a i = nth b i <;> simp [h]
    · unfold laws_eqDomainS_L1
      rw [if_neg (by simp)]
  · rw [if_pos (by simp; omega)]
    simp [show a ≠ b from fun h => hl (by rw [h])]
end Go.TL
