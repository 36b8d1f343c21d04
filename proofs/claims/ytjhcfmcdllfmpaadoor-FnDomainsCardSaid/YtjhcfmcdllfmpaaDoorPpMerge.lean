import Derived.Test.YtjhcfmcdllfmpaaDoorG38PpDom
import Derived.Test.YtjhcfmcdllfmpaaDoorG21PlR3M
set_option linter.unusedSimpArgs false
set_option linter.unusedVariables false
set_option linter.unusedVariables false
set_option linter.unusedSimpArgs false
namespace Go.TL

def ltD (x y : DomainT) : Bool := sLt x.Name y.Name
theorem ltD_irr (x : DomainT) : ltD x x = false := bL_irr _
theorem ltD_trans (x y z : DomainT) (h1 : ltD x y = true) (h2 : ltD y z = true) : ltD x z = true := bL_trans _ _ _ h1 h2
theorem ltD_tri (x y : DomainT) : ltD x y = true ∨ x.Name = y.Name ∨ ltD y x = true := by
  rcases bL_tri x.Name.toList y.Name.toList with h | h | h
  · exact .inl h
  · exact .inr (.inl (bytes_inj h))
  · exact .inr (.inr h)
theorem ltD_ne {x y : DomainT} (h : ltD x y = true) : x.Name ≠ y.Name := fun e => by
  unfold ltD at h; rw [e] at h; have := h.symm.trans (bL_irr _); cases this
abbrev ascD (l : List DomainT) : Prop := l.Pairwise fun x y => ltD x y = true

def getN (l : List DomainT) (s : ByteArray) : Option DomainT := l.find? fun d => decide (d.Name = s)
theorem getN_cons (x : DomainT) (r : List DomainT) (s : ByteArray) : getN (x :: r) s = if x.Name = s then some x else getN r s := by
  unfold getN
  by_cases h : x.Name = s
  · rw [List.find?_cons_of_pos (by simp [h]), if_pos h]
  · rw [List.find?_cons_of_neg (by simp [h]), if_neg h]
theorem getN_none {l : List DomainT} {s : ByteArray} (h : ∀ x ∈ l, x.Name ≠ s) : getN l s = none := by
  unfold getN
  rw [List.find?_eq_none]
  intro x hx
  simp [h x hx]
theorem getN_some {l : List DomainT} {s : ByteArray} {x : DomainT} (h : getN l s = some x) : x ∈ l ∧ x.Name = s := by
  unfold getN at h
  exact ⟨List.mem_of_find?_eq_some h, by simpa using List.find?_some h⟩
theorem asc_cons {x : DomainT} {r : List DomainT} (h : ascD (x :: r)) : (∀ y ∈ r, ltD x y = true) ∧ ascD r := by
  exact List.pairwise_cons.1 h
theorem getN_mem : ∀ {l : List DomainT}, ascD l → ∀ {x : DomainT}, x ∈ l → getN l x.Name = some x
  | y :: r, h, x, hx => by
    obtain ⟨h1, h2⟩ := asc_cons h
    rw [getN_cons]
    rcases List.mem_cons.1 hx with e | e
    · subst e; rw [if_pos rfl]
    · rw [if_neg (ltD_ne (h1 x e)), getN_mem h2 e]
/-- Rows that rise and hold the same are the same. -/
theorem asc_mem : ∀ {a b : List DomainT}, ascD a → ascD b → (∀ x, x ∈ a ↔ x ∈ b) → a = b
  | [], [], _, _, _ => rfl
  | [], y :: q, _, _, h => by have := (h y).2 (by simp); simp at this
  | x :: r, [], _, _, h => by have := (h x).1 (by simp); simp at this
  | x :: r, y :: q, ha, hb, h => by
    obtain ⟨a1, a2⟩ := asc_cons ha
    obtain ⟨b1, b2⟩ := asc_cons hb
    have e : x = y := by
      rcases List.mem_cons.1 ((h x).1 (by simp)) with h1 | h1
      · exact h1
      · rcases List.mem_cons.1 ((h y).2 (by simp)) with h2 | h2
        · exact h2.symm
        · have := ltD_trans _ _ _ (a1 y h2) (b1 x h1)
          rw [ltD_irr] at this; cases this
    subst e
    rw [asc_mem a2 b2 fun z => ?_]
    constructor
    · intro hz
      rcases List.mem_cons.1 ((h z).1 (List.mem_cons_of_mem _ hz)) with e | e
      · subst e; have := a1 z hz; rw [ltD_irr] at this; cases this
      · exact e
    · intro hz
      rcases List.mem_cons.1 ((h z).2 (List.mem_cons_of_mem _ hz)) with e | e
      · subst e; have := b1 z hz; rw [ltD_irr] at this; cases this
      · exact e

def combO : Option DomainT → Option DomainT → Option DomainT
  | none, y => y
  | x, none => x
  | some x, some y => some (if lessP x y = true then y else x)
theorem combO_none (x : Option DomainT) : combO x none = x := by cases x <;> rfl

/-- The reference's way. -/
def mergeP : List DomainT → List DomainT → List DomainT
  | [], b => b
  | x :: r, [] => x :: r
  | x :: r, y :: q => if ltD x y = true then x :: mergeP r (y :: q) else if ltD y x = true then y :: mergeP (x :: r) q else (if lessP x y = true then y else x) :: mergeP r q
  termination_by a b => a.length + b.length
theorem mergeP_nil (a : List DomainT) : mergeP a [] = a := by cases a <;> simp [mergeP]
theorem comb_name {x y : DomainT} (h : x.Name = y.Name) : (if lessP x y = true then y else x).Name = x.Name := by split <;> simp [h]
theorem mergeP_get : ∀ (a b : List DomainT), ascD a → ascD b → ∀ s, getN (mergeP a b) s = combO (getN a s) (getN b s)
  | [], b, _, _, s => by simp [mergeP, getN, combO]
  | x :: r, [], _, _, s => by rw [mergeP_nil]; show _ = combO _ none; rw [combO_none]
  | x :: r, y :: q, ha, hb, s => by
    obtain ⟨a1, a2⟩ := asc_cons ha
    obtain ⟨b1, b2⟩ := asc_cons hb
    unfold mergeP
    by_cases h1 : ltD x y = true
    · rw [if_pos h1, getN_cons, mergeP_get r (y :: q) a2 hb s, getN_cons x]
      by_cases hs : x.Name = s
      · rw [if_pos hs, if_pos hs, getN_none (l := y :: q) fun z hz => by
          rw [← hs]
          rcases List.mem_cons.1 hz with e | e
          · rw [e]; exact (ltD_ne h1).symm
          · exact (ltD_ne (ltD_trans _ _ _ h1 (b1 z e))).symm]
        rfl
      · rw [if_neg hs, if_neg hs]
    · rw [if_neg h1]
      by_cases h2 : ltD y x = true
      · rw [if_pos h2, getN_cons, mergeP_get (x :: r) q ha b2 s, getN_cons y]
        by_cases hs : y.Name = s
        · rw [if_pos hs, if_pos hs, getN_none (l := x :: r) fun z hz => by
            rw [← hs]
            rcases List.mem_cons.1 hz with e | e
            · rw [e]; exact (ltD_ne h2).symm
            · exact (ltD_ne (ltD_trans _ _ _ h2 (a1 z e))).symm]
          rfl
        · rw [if_neg hs, if_neg hs]
      · rw [if_neg h2]
        have he : x.Name = y.Name := ((ltD_tri x y).resolve_left h1).resolve_right h2
        rw [getN_cons, comb_name he, mergeP_get r q a2 b2 s, getN_cons, getN_cons, ← he]
        by_cases hs : x.Name = s
        · rw [if_pos hs, if_pos hs, if_pos hs]; rfl
        · rw [if_neg hs, if_neg hs, if_neg hs]
  termination_by a b => a.length + b.length
theorem mergeP_mem : ∀ (a b : List DomainT) (z : DomainT), z ∈ mergeP a b → z ∈ a ∨ z ∈ b
  | [], b, z, h => by simp [mergeP] at h; exact .inr h
  | x :: r, [], z, h => by rw [mergeP_nil] at h; exact .inl h
  | x :: r, y :: q, z, h => by
    unfold mergeP at h
    split at h
    · rcases List.mem_cons.1 h with e | e
      · exact .inl (by simp [e])
      · rcases mergeP_mem r (y :: q) z e with e | e
        · exact .inl (List.mem_cons_of_mem _ e)
        · exact .inr e
    · split at h
      · rcases List.mem_cons.1 h with e | e
        · exact .inr (by simp [e])
        · rcases mergeP_mem (x :: r) q z e with e | e
          · exact .inl e
          · exact .inr (List.mem_cons_of_mem _ e)
      · rcases List.mem_cons.1 h with e | e
        · rw [e]
          split
          · exact .inr (by simp)
          · exact .inl (by simp)
        · rcases mergeP_mem r q z e with e | e
          · exact .inl (List.mem_cons_of_mem _ e)
          · exact .inr (List.mem_cons_of_mem _ e)
  termination_by a b => a.length + b.length
theorem ltD_left {x y z : DomainT} (h : x.Name = y.Name) : ltD x z = ltD y z := by unfold ltD; rw [h]
theorem mergeP_asc : ∀ (a b : List DomainT), ascD a → ascD b → ascD (mergeP a b)
  | [], b, _, hb => by simpa [mergeP] using hb
  | x :: r, [], ha, _ => by rw [mergeP_nil]; exact ha
  | x :: r, y :: q, ha, hb => by
    obtain ⟨a1, a2⟩ := asc_cons ha
    obtain ⟨b1, b2⟩ := asc_cons hb
    unfold mergeP
    by_cases h1 : ltD x y = true
    · rw [if_pos h1]
      refine List.pairwise_cons.2 ⟨fun z hz => ?_, mergeP_asc r (y :: q) a2 hb⟩
      rcases mergeP_mem _ _ z hz with e | e
      · exact a1 z e
      · rcases List.mem_cons.1 e with e | e
        · rw [e]; exact h1
        · exact ltD_trans _ _ _ h1 (b1 z e)
    · rw [if_neg h1]
      by_cases h2 : ltD y x = true
      · rw [if_pos h2]
        refine List.pairwise_cons.2 ⟨fun z hz => ?_, mergeP_asc (x :: r) q ha b2⟩
        rcases mergeP_mem _ _ z hz with e | e
        · rcases List.mem_cons.1 e with e | e
          · rw [e]; exact h2
          · exact ltD_trans _ _ _ h2 (a1 z e)
        · exact b1 z e
      · rw [if_neg h2]
        have he : x.Name = y.Name := ((ltD_tri x y).resolve_left h1).resolve_right h2
        refine List.pairwise_cons.2 ⟨fun z hz => ?_, mergeP_asc r q a2 b2⟩
        rw [ltD_left (comb_name he)]
        rcases mergeP_mem _ _ z hz with e | e
        · exact a1 z e
        · rw [ltD_left he]; exact b1 z e
  termination_by a b => a.length + b.length

/-- The program's way. -/
def addR : List DomainT → DomainT → List DomainT
  | [], d => [d]
  | o :: r, d => if o.Name = d.Name then (if lessP o d = true then d else o) :: r else o :: addR r d
theorem addR_get (d : DomainT) (s : ByteArray) : ∀ l : List DomainT, getN (addR l d) s = if s = d.Name then combO (getN l s) (some d) else getN l s
  | [] => by
    unfold addR
    rw [getN_cons]
    by_cases h : d.Name = s
    · rw [if_pos h, if_pos h.symm]; rfl
    · rw [if_neg h, if_neg fun e => h e.symm]
  | o :: r => by
    unfold addR
    by_cases h : o.Name = d.Name
    · rw [if_pos h, getN_cons, comb_name h, getN_cons]
      by_cases hs : o.Name = s
      · rw [if_pos hs, if_pos hs, if_pos (show s = d.Name by rw [← hs, h])]; rfl
      · rw [if_neg hs, if_neg hs, if_neg (show ¬ s = d.Name from fun e => hs (by rw [h, e]))]
    · rw [if_neg h, getN_cons, getN_cons, addR_get d s r]
      by_cases hs : o.Name = s
      · rw [if_pos hs, if_pos hs, if_neg (show ¬ s = d.Name from fun e => h (by rw [hs, e]))]
      · rw [if_neg hs, if_neg hs]
theorem addR_names (d : DomainT) : ∀ l : List DomainT, (addR l d).map (·.Name) = l.map (·.Name) ∨ ((∀ x ∈ l, x.Name ≠ d.Name) ∧ (addR l d).map (·.Name) = l.map (·.Name) ++ [d.Name])
  | [] => .inr ⟨fun x hx => by simp at hx, rfl⟩
  | o :: r => by
    unfold addR
    by_cases h : o.Name = d.Name
    · rw [if_pos h]
      simp only [List.map_cons, comb_name h]
      exact .inl trivial
    · rw [if_neg h]
      simp only [List.map_cons]
      rcases addR_names d r with e | ⟨e1, e2⟩
      · exact .inl (by rw [e])
      · refine .inr ⟨fun x hx => ?_, by rw [e2]; rfl⟩
        rcases List.mem_cons.1 hx with e | e
        · rw [e]; exact h
        · exact e1 x e
theorem addR_nodup {l : List DomainT} (d : DomainT) (h : (l.map (·.Name)).Nodup) : ((addR l d).map (·.Name)).Nodup := by
  rcases addR_names d l with e | ⟨e1, e2⟩
  · rw [e]; exact h
  · rw [e2, List.nodup_append]
    refine ⟨h, by simp, fun a ha b hb => ?_⟩
    rw [List.mem_singleton] at hb
    obtain ⟨x, hx, rfl⟩ := List.mem_map.1 ha
    rw [hb]; exact e1 x hx
theorem addR_len (d : DomainT) : ∀ l : List DomainT, (addR l d).length ≤ l.length + 1
  | [] => by simp [addR]
  | o :: r => by
    unfold addR
    split
    · simp
    · have := addR_len d r; simp; omega
theorem addR_mem (d : DomainT) : ∀ (l : List DomainT) (z : DomainT), z ∈ addR l d → z ∈ l ∨ z = d
  | [], z, h => by simpa [addR] using h
  | o :: r, z, h => by
    unfold addR at h
    split at h
    · rcases List.mem_cons.1 h with e | e
      · rw [e]; split
        · exact .inr rfl
        · exact .inl (by simp)
      · exact .inl (List.mem_cons_of_mem _ e)
    · rcases List.mem_cons.1 h with e | e
      · exact .inl (by simp [e])
      · rcases addR_mem d r z e with e | e
        · exact .inl (List.mem_cons_of_mem _ e)
        · exact .inr e
theorem fold_get : ∀ (b a : List DomainT), (b.map (·.Name)).Nodup → ∀ s, getN (b.foldl addR a) s = combO (getN a s) (getN b s)
  | [], a, _, s => by show getN a s = combO _ none; rw [combO_none]
  | y :: q, a, h, s => by
    rw [List.map_cons, List.nodup_cons] at h
    rw [List.foldl_cons, fold_get q _ h.2 s, addR_get, getN_cons]
    by_cases hs : s = y.Name
    · have hq : getN q s = none := getN_none fun x hx e => h.1 (by rw [← hs, ← e]; exact List.mem_map.2 ⟨x, hx, rfl⟩)
      rw [if_pos hs, if_pos hs.symm, hq, combO_none]
    · rw [if_neg hs, if_neg fun e => hs e.symm]
theorem fold_nodup : ∀ (b a : List DomainT), (a.map (·.Name)).Nodup → ((b.foldl addR a).map (·.Name)).Nodup
  | [], a, h => h
  | y :: q, a, h => fold_nodup q _ (addR_nodup y h)
theorem fold_len : ∀ (b a : List DomainT), (b.foldl addR a).length ≤ a.length + b.length
  | [], a => by simp
  | y :: q, a => by
    have h1 := fold_len q (addR a y)
    have h2 := addR_len y a
    simp only [List.foldl_cons, List.length_cons]; omega

theorem atP_cons (o : DomainT) (r : List DomainT) (s : ByteArray) : atP (o :: r) s = if o.Name = s then some 0 else (atP r s).map (· + 1) := by
  unfold atP findN
  rw [List.length_cons, List.range_succ_eq_map]
  have e0 : nth (o :: r) 0 = o := rfl
  by_cases h : o.Name = s
  · rw [List.find?_cons_of_pos (by simp [e0, h]), if_pos h]
  · rw [List.find?_cons_of_neg (by simp [e0, h]), if_neg h, List.find?_map]
    rfl
theorem step_addR (d : DomainT) : ∀ l : List DomainT, (match atP l d.Name with | none => l ++ [d] | some k => if lessP (nth l k) d = true then l.set k d else l) = addR l d
  | [] => rfl
  | o :: r => by
    rw [atP_cons]
    unfold addR
    by_cases h : o.Name = d.Name
    · rw [if_pos h, if_pos h]
      have e0 : nth (o :: r) 0 = o := rfl
      simp only [e0, List.set_cons_zero]
      split <;> rfl
    · rw [if_neg h, if_neg h, ← step_addR d r]
      cases hk : atP r d.Name with
      | none => rfl
      | some k =>
        have e1 : nth (o :: r) (k + 1) = nth r k := rfl
        simp only [Option.map_some, e1, List.set_cons_succ]
        split <;> rfl
theorem gt_pos (a b : DomainT) : decide (gtP a b > 0) = lessP b a := by
  unfold gtP lessP cmpI cmpS
  by_cases h : a.Version < b.Version
  · have h2 : ¬ b.Version < a.Version := by omega
    have h3 : ¬ b.Version = a.Version := by omega
    simp [h, h2, h3]
  · by_cases h2 : b.Version < a.Version
    · simp [h, h2]
    · have h3 : a.Version = b.Version := by omega
      simp only [h3, Int.lt_irrefl, if_false, ne_eq, not_true_eq_false, decide_false, decide_true, Bool.false_or, Bool.true_and]
      rcases bL_tri a.Note.toList b.Note.toList with h | h | h
      · have e : sLt a.Note b.Note = true := h
        have e2 : sLt b.Note a.Note = false := by
          cases h4 : sLt b.Note a.Note with
          | false => rfl
          | true => have := bL_trans _ _ _ h h4; rw [bL_irr] at this; cases this
        simp [e, e2]
      · have e : a.Note = b.Note := bytes_inj h
        have e2 : sLt b.Note b.Note = false := bL_irr _
        simp [e, e2]
      · have e : sLt b.Note a.Note = true := h
        have e2 : sLt a.Note b.Note = false := by
          cases h4 : sLt a.Note b.Note with
          | false => rfl
          | true => have := bL_trans _ _ _ h h4; rw [bL_irr] at this; cases this
        have e3 : ¬ a.Note = b.Note := fun e4 => by rw [e4] at e; have := e.symm.trans (bL_irr _); cases this
        simp [e, e2, e3]
theorem goodD_pw {l : List DomainT} (h : goodD l = true) : ascD l := by
  rw [ascD, List.pairwise_iff_getElem]
  intro i j hi hj hij
  have := goodD_asc h j i hij hj
  rwa [nth_eq hi, nth_eq hj] at this
theorem asc_nodup {l : List DomainT} (h : ascD l) : (l.map (·.Name)).Nodup := by
  rw [List.nodup_iff_pairwise_ne, List.pairwise_map]
  exact h.imp fun hab => ltD_ne hab

theorem impl_loop (b : List DomainT) (hb : b.length ≤ 12) : ∀ (r : List DomainT) (i : Nat) (c : List DomainT), b.drop i = r → i ≤ b.length → c.length ≤ 12 + i → loopF (impl_MergeDomains_L1 b) ⟨(i : Int), c⟩ = some ⟨r.foldl addR c⟩ := by
  intro r
  induction r with
  | nil =>
    intro i c hd hi hc
    have hi' : i = b.length := by
      have := congrArg List.length hd
      rw [List.length_drop, List.length_nil] at this; omega
    subst hi'
    exact loop_out (by unfold impl_MergeDomains_L1; rw [if_neg (by simp)]; rfl)
  | cons d r ih =>
    intro i c hd hi hc
    have hlt : i < b.length := by
      have := congrArg List.length hd
      rw [List.length_drop, List.length_cons] at this; omega
    have h2 := List.drop_eq_getElem_cons hlt
    rw [hd] at h2
    have hy : nth b i = d := by rw [nth_eq hlt]; exact (List.cons.inj h2).1.symm
    have hr : b.drop (i + 1) = r := (List.cons.inj h2).2.symm
    have hstep : impl_MergeDomains_L1 b ⟨(i : Int), c⟩ = some (.inl ⟨((i + 1 : Nat) : Int), addR c d⟩) := by
      unfold impl_MergeDomains_L1
      have e1 : wI ((i : Int) + 1) = ((i + 1 : Nat) : Int) := by rw [wI_id (by omega)]; omega
      simp only [Int.toNat_natCast, hy, e1]
      rw [if_pos (by rw [decide_eq_true_eq]; omega), guard_pos (by omega), domainAt_eq _ _ (by omega), ← step_addR d c]
      simp only [Option.bind_some]
      unfold atI
      cases ha : atP c d.Name with
      | none =>
        simp only
        rw [if_pos (by decide), guard_pos (by omega)]
      | some k =>
        obtain ⟨hk, _⟩ := atP_lt ha
        simp only
        rw [if_neg (by rw [decide_eq_true_eq]; omega), guard_pos (by omega), greater_eq]
        simp only [Option.bind_some, Int.toNat_natCast]
        rw [gt_pos]
        cases lessP (nth c k) d
        · simp
        · simp only [if_true]
          rw [guard_pos (by omega)]
    rw [loop_on hstep, List.foldl_cons]
    exact ih (i + 1) _ hr (by omega) (by have := addR_len d c; omega)

theorem spec_loop (a b : List DomainT) (ha : a.length ≤ 12) (hb : b.length ≤ 12) : ∀ (n i k : Nat) (c : List DomainT), (a.length - i) + (b.length - k) = n → i ≤ a.length → k ≤ b.length → c.length ≤ i + k →
    loopF (spec_MergeDomains_L1 a b) ⟨(i : Int), (k : Int), c⟩ = some ⟨c ++ mergeP (a.drop i) (b.drop k)⟩ := by
  intro n
  induction n using Nat.strongRecOn with
  | _ n ih =>
    intro i k c hn hi hk hc
    have e1 : ∀ m : Nat, m ≤ 100 → wI ((m : Int) + 1) = ((m + 1 : Nat) : Int) := fun m hm => by rw [wI_id (by omega)]; omega
    by_cases hia : i < a.length
    · have hda := List.drop_eq_getElem_cons hia
      by_cases hkb : k < b.length
      · have hdb := List.drop_eq_getElem_cons hkb
        have hstep : spec_MergeDomains_L1 a b ⟨(i : Int), (k : Int), c⟩ = some (.inl (if ltD (nth a i) (nth b k) = true then ⟨((i + 1 : Nat) : Int), (k : Int), c ++ [nth a i]⟩ else if ltD (nth b k) (nth a i) = true then ⟨(i : Int), ((k + 1 : Nat) : Int), c ++ [nth b k]⟩
            else ⟨((i + 1 : Nat) : Int), ((k + 1 : Nat) : Int), c ++ [if lessP (nth a i) (nth b k) = true then nth b k else nth a i]⟩)) := by
          unfold spec_MergeDomains_L1
          have hg : (c.length + 1) * 40 ≤ 140737488355328 := by omega
          have g1 : 0 ≤ (i : Int) ∧ (i : Int) < (a.length : Int) := by omega
          have g2 : 0 ≤ (k : Int) ∧ (k : Int) < (b.length : Int) := by omega
          have n1 : ((k : Int) == (b.length : Int)) = false := by rw [beq_eq_false_iff_ne]; omega
          have n2 : ((i : Int) == (a.length : Int)) = false := by rw [beq_eq_false_iff_ne]; omega
          simp only [e1 i (by omega), e1 k (by omega), Int.toNat_natCast]
          have n3 : decide ((i : Int) < (a.length : Int)) = true := decide_eq_true g1.2
          simp only [n1, n2, n3, Bool.false_eq_true, if_false, if_true]
          simp only [Option.bind_some, guard_pos g1, guard_pos g2, guard_pos hg, spec_less_eq]
          show (if ltD (nth a i) (nth b k) = true then _ else _) = _
          cases h1 : ltD (nth a i) (nth b k)
          · simp only [Bool.false_eq_true, if_false]
            show (if ltD (nth b k) (nth a i) = true then _ else _) = _
            cases h2 : ltD (nth b k) (nth a i)
            · simp only [Bool.false_eq_true, if_false]
              cases lessP (nth a i) (nth b k) <;> rfl
            · rfl
          · rfl
        rw [loop_on hstep, hda, hdb, ← nth_eq hia, ← nth_eq hkb]
        unfold mergeP
        by_cases h1 : ltD (nth a i) (nth b k) = true
        · rw [if_pos h1, if_pos h1, ih _ (by omega) (i + 1) k _ rfl (by omega) hk (by simp; omega), hdb, ← nth_eq hkb]
          simp
        · rw [if_neg h1, if_neg h1]
          by_cases h2 : ltD (nth b k) (nth a i) = true
          · rw [if_pos h2, if_pos h2, ih _ (by omega) i (k + 1) _ rfl hi (by omega) (by simp; omega), hda, ← nth_eq hia]
            simp
          · rw [if_neg h2, if_neg h2, ih _ (by omega) (i + 1) (k + 1) _ rfl (by omega) (by omega) (by simp; omega)]
            simp
      · have hkl : k = b.length := by omega
        have hdb : b.drop k = [] := by rw [hkl]; simp
        have hstep : spec_MergeDomains_L1 a b ⟨(i : Int), (k : Int), c⟩ = some (.inl ⟨((i + 1 : Nat) : Int), (k : Int), c ++ [nth a i]⟩) := by
          unfold spec_MergeDomains_L1
          have n1 : ((k : Int) == (b.length : Int)) = true := by rw [beq_iff_eq]; omega
          simp only [e1 i (by omega), Int.toNat_natCast, n1, if_true, Option.bind_some]
          rw [if_pos (by rw [decide_eq_true_eq]; omega), guard_pos (by omega), guard_pos (by omega)]
        rw [loop_on hstep, ih _ (by omega) (i + 1) k _ rfl (by omega) hk (by simp; omega), hdb, hda, ← nth_eq hia, mergeP_nil, mergeP_nil]
        simp
    · have hil : i = a.length := by omega
      have hda : a.drop i = [] := by rw [hil]; simp
      by_cases hkb : k < b.length
      · have hdb := List.drop_eq_getElem_cons hkb
        have hstep : spec_MergeDomains_L1 a b ⟨(i : Int), (k : Int), c⟩ = some (.inl ⟨(i : Int), ((k + 1 : Nat) : Int), c ++ [nth b k]⟩) := by
          unfold spec_MergeDomains_L1
          have n1 : ((k : Int) == (b.length : Int)) = false := by rw [beq_eq_false_iff_ne]; omega
          have n2 : ((i : Int) == (a.length : Int)) = true := by rw [beq_iff_eq]; omega
          simp only [e1 k (by omega), Int.toNat_natCast, n1, n2, if_true, Option.bind_some, Bool.false_eq_true, if_false]
          have n3 : decide ((i : Int) < (a.length : Int)) = false := by rw [decide_eq_false_iff_not]; omega
          simp only [n3, Bool.false_eq_true, if_false, Option.bind_some]
          rw [if_pos (by rw [decide_eq_true_eq]; omega), guard_pos (by omega), guard_pos (by omega)]
        rw [loop_on hstep, ih _ (by omega) i (k + 1) _ rfl hi (by omega) (by simp; omega), hda, hdb, ← nth_eq hkb]
        simp [mergeP]
      · have hdb : b.drop k = [] := by rw [show k = b.length by omega]; simp
        rw [hda, hdb]
        refine loop_out ?_
        unfold spec_MergeDomains_L1
        dsimp only
        rw [if_neg (by rw [decide_eq_true_eq]; omega), if_neg (by rw [decide_eq_true_eq]; omega)]
        simp [mergeP]

/-- The program's row, sorted, is the reference's. -/
theorem fold_sorted {a b : List DomainT} (ha : ascD a) (hb : ascD b) : aptO ltD (b.foldl addR a) = true ∧ sortO ltD (b.foldl addR a) = mergeP a b := by
  have hn := fold_nodup b a (asc_nodup ha)
  have hap : aptO ltD (b.foldl addR a) = true := by
    rw [aptO_iff]
    rw [List.nodup_iff_pairwise_ne, List.pairwise_map] at hn
    exact hn.imp fun {x y} hne => by
      rcases ltD_tri x y with h | h | h
      · exact .inl h
      · exact absurd h hne
      · exact .inr h
  have hs := sortO_asc (lt := ltD) ltD_trans hap
  refine ⟨hap, asc_mem hs (mergeP_asc a b ha hb) fun x => ?_⟩
  rw [(sortO_perm ltD _).mem_iff]
  have hm := mergeP_asc a b ha hb
  constructor
  · intro hx
    have h1 : getN (b.foldl addR a) x.Name = some x := by
      have hx' : x ∈ sortO ltD (b.foldl addR a) := (sortO_perm ltD _).mem_iff.2 hx
      cases hg : getN (b.foldl addR a) x.Name with
      | none =>
        unfold getN at hg
        rw [List.find?_eq_none] at hg
        have := hg x hx; simp at this
      | some y =>
        obtain ⟨hy, hyn⟩ := getN_some hg
        have hy' : y ∈ sortO ltD (b.foldl addR a) := (sortO_perm ltD _).mem_iff.2 hy
        have e1 := getN_mem hs hx'
        have e2 := getN_mem hs hy'
        rw [hyn, e1] at e2
        exact e2.symm
    rw [fold_get b a (asc_nodup hb), ← mergeP_get a b ha hb] at h1
    exact (getN_some h1).1
  · intro hx
    have h1 := getN_mem hm hx
    rw [mergeP_get a b ha hb, ← fold_get b a (asc_nodup hb)] at h1
    exact (getN_some h1).1

theorem goodD_iff (l : List DomainT) : goodD l = true ↔ l.length ≤ 12 ∧ (∀ x ∈ l, (nameP x.Name && !decide (x.Name = ByteArray.empty) && verP x.Version && decide (x.Note.size ≤ 20)) = true) ∧ ascD l := by
  constructor
  · intro h
    refine ⟨goodD_len h, fun x hx => ?_, goodD_pw h⟩
    unfold goodD at h
    simp only [Bool.and_eq_true, allN_iff] at h
    obtain ⟨i, hi, rfl⟩ := List.getElem_of_mem hx
    have := h.2 i hi
    unfold domP at this
    rw [nth_eq hi] at this
    simp only [Bool.and_eq_true] at this ⊢
    exact this.1
  · rintro ⟨h1, h2, h3⟩
    unfold goodD
    simp only [Bool.and_eq_true, allN_iff, decide_eq_true_eq]
    refine ⟨h1, fun i hi => ?_⟩
    unfold domP
    have := h2 _ (nth_mem hi)
    simp only [Bool.and_eq_true, Bool.or_eq_true, decide_eq_true_eq] at this ⊢
    refine ⟨this, ?_⟩
    by_cases h0 : i = 0
    · exact .inl h0
    · rw [ascD, List.pairwise_iff_getElem] at h3
      have := h3 (i - 1) i (by omega) hi (by omega)
      rw [← nth_eq (by omega), ← nth_eq hi] at this
      exact .inr this
def mergeD (a b : List DomainT) : List DomainT × Bool := if (goodD a && goodD b && decide ((mergeP a b).length ≤ 12)) = true then (mergeP a b, true) else ([], false)
theorem goodD_merge {a b : List DomainT} (ha : goodD a = true) (hb : goodD b = true) : goodD (mergeP a b) = decide ((mergeP a b).length ≤ 12) := by
  rw [Bool.eq_iff_iff, goodD_iff, decide_eq_true_eq]
  rw [goodD_iff] at ha hb
  exact ⟨fun h => h.1, fun h => ⟨h, fun x hx => (mergeP_mem a b x hx).elim (ha.2.1 x) (hb.2.1 x), mergeP_asc a b ha.2.2 hb.2.2⟩⟩
theorem spec_MergeDomains_eq (a b : List DomainT) (ha : ok_LDomain a) (hb : ok_LDomain b) : spec_MergeDomains a b = some (mergeD a b) := by
  unfold spec_MergeDomains mergeD
  simp only [spec_GoodDomains_eq _ ha, spec_GoodDomains_eq _ hb, Option.bind_some]
  cases h1 : goodD a
  · simp
  cases h2 : goodD b
  · simp
  have l1 := goodD_len h1
  have l2 := goodD_len h2
  have := spec_loop a b l1 l2 (a.length + b.length) 0 0 [] (by omega) (by omega) (by omega) (by simp)
  simp only [List.drop_zero, List.nil_append] at this
  simp only [Bool.not_true, Bool.false_eq_true, if_false, Option.bind_some]
  rw [show (0 : Int) = ((0 : Nat) : Int) from rfl, this]
  simp only [Option.bind_some, Bool.and_self, Bool.true_and]
  by_cases h : (mergeP a b).length ≤ 12
  · rw [if_neg (by rw [decide_eq_true_eq]; omega), if_pos (by simpa using h)]
  · rw [if_pos (by rw [decide_eq_true_eq]; omega), if_neg (by simpa using h)]
theorem mergeP_ok {a b : List DomainT} (ha : ok_LDomain a) (hb : ok_LDomain b) (hl : (mergeP a b).length ≤ 9223372036854775807) : ok_LDomain (mergeP a b) :=
  ⟨hl, fun x hx => (mergeP_mem a b x hx).elim (ha.2 x) (hb.2 x)⟩
theorem impl_MergeDomains_eq (a b : List DomainT) (ha : ok_LDomain a) (hb : ok_LDomain b) : impl_MergeDomains a b = some (mergeD a b) := by
  unfold impl_MergeDomains mergeD
  simp only [impl_GoodDomains_eq _ ha, impl_GoodDomains_eq _ hb, Option.bind_some]
  cases h1 : goodD a
  · simp
  cases h2 : goodD b
  · simp
  have l1 := goodD_len h1
  have l2 := goodD_len h2
  simp only [Bool.not_true, Bool.false_eq_true, if_false, Option.bind_some]
  unfold slices_Clone_impl_Domain
  rw [guard_pos (by omega)]
  simp only [Option.bind_some]
  have := impl_loop b l2 b 0 a rfl (by omega) (by omega)
  rw [show (0 : Int) = ((0 : Nat) : Int) from rfl, this]
  simp only [Option.bind_some]
  obtain ⟨hap, hso⟩ := fold_sorted (goodD_pw h1) (goodD_pw h2)
  have hfl := fold_len b a
  unfold slices_SortFunc_impl_Domain_by_name
  have hso' : sortO (fun x y : DomainT => sLt x.Name y.Name) (b.foldl addR a) = mergeP a b := hso
  have hml : (mergeP a b).length = (b.foldl addR a).length := by rw [← hso]; exact (sortO_perm _ _).length_eq
  rw [guard_pos ⟨by omega, hap⟩]
  simp only [Option.bind_some]
  rw [hso', guard_pos hml, impl_GoodDomains_eq _ (mergeP_ok ha hb (by omega)), goodD_merge h1 h2]
  simp only [Option.bind_some, Bool.and_self, Bool.true_and]
  cases decide ((mergeP a b).length ≤ 12) <;> rfl
theorem mergeD_len (a b : List DomainT) : (mergeD a b).1.length ≤ 12 := by
  unfold mergeD
  split
  · rename_i h
    simp only [Bool.and_eq_true, decide_eq_true_eq] at h
    exact h.2
  · simp
theorem merge_holds (a b : List DomainT) (ha : ok_LDomain a) (hb : ok_LDomain b) : laws_FnExactMergeDomains a b = some true := by
  unfold laws_FnExactMergeDomains
  rw [laws_szDomainS_eq _ _ ha (by omega) (by omega)]
  simp only [Option.bind_some]
  by_cases h : (siz_LDomain a : Int) ≤ 1048576
  rotate_left
  · rw [if_pos (decide_eq_true (szr_no h))]
  rw [if_neg (by simpa using szr_ok h), szr_ok' h, laws_szDomainS_eq _ _ hb (by omega) (by omega)]
  simp only [Option.bind_some]
  by_cases h' : (siz_LDomain b : Int) ≤ 1048576 - (siz_LDomain a : Int)
  rotate_left
  · rw [if_pos (decide_eq_true (szr_no h'))]
  rw [if_neg (by simpa using szr_ok h'), laws_toDomainS_eq _ (by omega), laws_toDomainS_eq _ (by omega)]
  have hz : a.length ≤ 1048576 := by unfold siz_LDomain at h; omega
  have hz' : b.length ≤ 1048576 := by unfold siz_LDomain at h'; omega
  have hr := mergeD_len a b
  simp only [Option.bind_some]
  rw [spec_MergeDomains_eq _ _ ha hb, impl_MergeDomains_eq _ _ ha hb]
  simp only [Option.bind_some]
  have hk : lk_LDomain (mergeD a b).1 := ⟨by omega, fun y _ => ⟨trivial, trivial, trivial⟩⟩
  rw [laws_eqDomainS_eq _ _ hk, laws_eqDomainS_eq _ _ (lk_of_LDomain ha), laws_eqDomainS_eq _ _ (lk_of_LDomain hb)]
  simp only [Option.bind_some, decide_true, Bool.not_true, beq_self_eq_true, Bool.false_eq_true, if_false]
  rw [mark_DomainS_eq a 1 (by omega) (by omega) (by omega)]
  simp only [Option.bind_some]
  rw [guard_pos (marks_length ..), mark_DomainS_eq b _ (by omega) (by omega) (by omega), mark_DomainS_eq (mergeD a b).1 1 (by omega) (by omega) (by omega)]
  simp only [Option.bind_some]
  rw [guard_pos (marks_length ..), if_neg (by simp; omega)]
  simp only [Option.bind_some, Bool.false_eq_true, if_false]
  rw [guard_pos (marks_length ..), held_DomainS_eq _ 1 (by omega) (by omega) (by omega)]
  simp only [Option.bind_some]
  rw [if_neg (by simp; omega), if_neg (by simp), if_neg (by simp; omega), if_neg (by simp)]
end Go.TL
