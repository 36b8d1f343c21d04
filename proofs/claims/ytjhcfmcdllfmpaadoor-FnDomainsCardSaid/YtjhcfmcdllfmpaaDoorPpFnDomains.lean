import Derived.Test.YtjhcfmcdllfmpaaDoorPpMerge
import Derived.Test.YtjhcfmcdllfmpaaDoorG36PpMark
import Derived.Test.YtjhcfmcdllfmpaaDoorG21PlR3M
set_option linter.unusedSimpArgs false
set_option linter.unusedVariables false
set_option linter.unusedVariables false
set_option linter.unusedSimpArgs false
namespace Go.TL

theorem sLt_asymD {a b : ByteArray} (h : sLt a b = true) : sLt b a = false := by
  cases h4 : sLt b a with
  | false => rfl
  | true => have := bL_trans _ _ _ h h4; rw [bL_irr] at this; cases this
theorem lessP_irr (x : DomainT) : lessP x x = false := by
  unfold lessP
  have : sLt x.Note x.Note = false := bL_irr _
  simp [this]
theorem lessP_asym {x y : DomainT} (h : lessP x y = true) : lessP y x = false := by
  unfold lessP at *
  simp only [Bool.or_eq_true, Bool.and_eq_true, decide_eq_true_eq] at h
  rcases h with h | ⟨h1, h2⟩
  · have h3 : ¬ y.Version < x.Version := by omega
    have h4 : ¬ y.Version = x.Version := by omega
    simp [h3, h4]
  · have h3 : ¬ y.Version < x.Version := by omega
    simp [h3, sLt_asymD h2]
theorem lessP_tri {x y : DomainT} (hn : x.Name = y.Name) (h1 : lessP x y = false) (h2 : lessP y x = false) : x = y := by
  unfold lessP at h1 h2
  simp only [Bool.or_eq_false_iff, Bool.and_eq_false_iff, decide_eq_false_iff_not] at h1 h2
  have hv : x.Version = y.Version := by omega
  have e1 : sLt x.Note y.Note = false := h1.2.resolve_left (fun h => h hv)
  have e2 : sLt y.Note x.Note = false := h2.2.resolve_left (fun h => h hv.symm)
  have hno : x.Note = y.Note := by
    rcases bL_tri x.Note.toList y.Note.toList with h | h | h
    · have : sLt x.Note y.Note = true := h; rw [e1] at this; cases this
    · exact bytes_inj h
    · have : sLt y.Note x.Note = true := h; rw [e2] at this; cases this
  cases x; cases y
  simp only at hn hv hno
  subst hn; subst hv; subst hno; rfl
theorem comb_comm {x y : DomainT} (hn : x.Name = y.Name) : combO (some x) (some y) = combO (some y) (some x) := by
  show some (if lessP x y = true then y else x) = some (if lessP y x = true then x else y)
  cases h1 : lessP x y
  · cases h2 : lessP y x
    · rw [lessP_tri hn h1 h2]
    · rfl
  · rw [lessP_asym h1]; rfl
theorem combO_comm {a b : List DomainT} (s : ByteArray) : combO (getN a s) (getN b s) = combO (getN b s) (getN a s) := by
  cases h1 : getN a s with
  | none => cases h2 : getN b s <;> rfl
  | some x =>
    cases h2 : getN b s with
    | none => rfl
    | some y => exact comb_comm (by rw [(getN_some h1).2, (getN_some h2).2])
theorem asc_get {a b : List DomainT} (ha : ascD a) (hb : ascD b) (h : ∀ s, getN a s = getN b s) : a = b :=
  asc_mem ha hb fun x => ⟨fun hx => (getN_some ((h x.Name).symm.trans (getN_mem ha hx))).1, fun hx => (getN_some ((h x.Name).trans (getN_mem hb hx))).1⟩
theorem mergeP_comm {a b : List DomainT} (ha : ascD a) (hb : ascD b) : mergeP a b = mergeP b a :=
  asc_get (mergeP_asc a b ha hb) (mergeP_asc b a hb ha) fun s => by rw [mergeP_get a b ha hb, mergeP_get b a hb ha, combO_comm]
theorem mergeP_self {a : List DomainT} (ha : ascD a) : mergeP a a = a :=
  asc_get (mergeP_asc a a ha ha) ha fun s => by
    rw [mergeP_get a a ha ha]
    cases getN a s with
    | none => rfl
    | some x => unfold combO; simp
theorem mergeP_again {a b : List DomainT} (ha : ascD a) (hb : ascD b) : mergeP (mergeP a b) a = mergeP a b :=
  asc_get (mergeP_asc _ _ (mergeP_asc a b ha hb) ha) (mergeP_asc a b ha hb) fun s => by
    rw [mergeP_get _ a (mergeP_asc a b ha hb) ha, mergeP_get a b ha hb]
    cases h1 : getN a s with
    | none => rw [combO_none]
    | some x =>
      cases h2 : getN b s with
      | none => unfold combO; simp
      | some y =>
        cases h3 : lessP x y
        · unfold combO; simp [h3]
        · unfold combO; simp [h3, lessP_asym h3]
theorem mergeD_comm (a b : List DomainT) : mergeD b a = mergeD a b := by
  unfold mergeD
  cases h1 : goodD a
  · simp
  cases h2 : goodD b
  · simp
  rw [mergeP_comm (goodD_pw h2) (goodD_pw h1)]
theorem getN_at : ∀ (l : List DomainT) (s : ByteArray), getN l s = (atP l s).map (nth l)
  | [], s => rfl
  | o :: r, s => by
    rw [getN_cons, atP_cons]
    by_cases h : o.Name = s
    · rw [if_pos h, if_pos h]; rfl
    · rw [if_neg h, if_neg h, getN_at r s, Option.map_map]
      rfl
theorem knowsP_get (l : List DomainT) (d : DomainT) : knowsP l d = match getN l d.Name with | some y => !lessP y d | none => false := by
  unfold knowsP
  rw [getN_at]
  cases atP l d.Name <;> rfl
theorem knows_left {a b : List DomainT} (ha : ascD a) (hb : ascD b) : a.all (knowsP (mergeP a b)) = true := by
  rw [List.all_eq_true]
  intro x hx
  rw [knowsP_get, mergeP_get a b ha hb, getN_mem ha hx]
  cases h2 : getN b x.Name with
  | none => unfold combO; simp [lessP_irr]
  | some y =>
    cases h3 : lessP x y
    · unfold combO; simp [h3, lessP_irr]
    · unfold combO; simp [h3, lessP_asym h3]

theorem sameDomains_eq (a b : List DomainT) (ha : a.length ≤ 9223372036854775807) : laws_sameDomains a b = some (decide (a = b)) := by
  unfold laws_sameDomains
  by_cases hl : a.length = b.length
  rotate_left
  · rw [if_pos (by rw [bne_iff_ne]; omega), decide_eq_false fun e => hl (by rw [e])]
  rw [if_neg (by rw [hl]; simp)]
  have key := all_loop (step := laws_sameDomains_L1 a b) (fun i => (⟨i⟩ : laws_sameDomains_G1)) a.length (fun i => decide (nth a i = nth b i)) (.inr () : Unit ⊕ Unit) (.inl ()) (fun i hi hv => ?_) (fun _ => ?_)
  · rw [key]
    have e : allN (fun i => decide (nth a i = nth b i)) a.length = decide (a = b) := by
      rw [Bool.eq_iff_iff, allN_iff, decide_eq_true_eq]
      simp only [decide_eq_true_eq]
      exact ⟨fun h => list_ext hl h, fun h => by subst h; exact fun _ _ => rfl⟩
    rw [e]
    cases decide (a = b) <;> rfl
  · unfold laws_sameDomains_L1
    dsimp only
    have e1 : wI ((i : Int) + 1) = ((i + 1 : Nat) : Int) := by rw [wI_id (by omega)]; omega
    rw [if_pos (by rw [decide_eq_true_eq]; omega), guard_pos (by omega), guard_pos (by omega), Int.toNat_natCast, e1]
    have e2 : (((nth a i).Name.toList == (nth b i).Name.toList) && (((nth a i).Version == (nth b i).Version) && ((nth a i).Note.toList == (nth b i).Note.toList))) = decide (nth a i = nth b i) := by
      rw [sEq, sEq, Bool.eq_iff_iff]
      simp only [Bool.and_eq_true, beq_iff_eq, decide_eq_true_eq]
      cases nth a i; cases nth b i
      simp
    rw [e2]
    cases decide (nth a i = nth b i) <;> rfl
  · unfold laws_sameDomains_L1
    dsimp only
    rw [if_neg (by rw [decide_eq_true_eq]; omega)]

theorem of_m {β : Type} {f : ByteArray × l1CurT → Option β} {Q : β → Prop} {c : l1CurT} {K : Int} {l : List ByteArray} (h : cur c K) (hK : K ≤ 4611686018427387000) (hn : 1 ≤ l.length ∧ l.length ≤ 1000)
    (hf : ∀ x c', x ∈ l → cur c' (K + 2) → okO Q (f (x, c'))) : okO Q ((spec_l1Cur_of_ow c l).bind f) := by
  unfold spec_l1Cur_of_ow
  refine okO.bind_bind (pick_b h hK (by omega) fun x c' h1 h2 h3 h4 => ?_)
  have := h3 (by omega)
  exact okO.bind_guard ⟨h1, by simpa using this⟩ (okO.bind_some (hf _ _ (nth_mem (by omega)) h4))
theorem mem_small {l : List ByteArray} (h : l.all (fun x => decide (x.size ≤ 100)) = true) {x : ByteArray} (hx : x ∈ l) : x.size ≤ 100 := by
  rw [List.all_eq_true] at h
  simpa using h x hx
abbrev okDs (n : Nat) (l : List DomainT) : Prop := l.length ≤ n ∧ ∀ y ∈ l, ok_Domain y
theorem okDs_add {n : Nat} {l : List DomainT} {d : DomainT} (h : okDs n l) (hd : ok_Domain d) : okDs (n + 1) (l ++ [d]) :=
  ⟨by simp only [List.length_append, List.length_singleton]; omega, fun y hy => by
    rw [List.mem_append, List.mem_singleton] at hy
    rcases hy with hy | hy
    · exact h.2 y hy
    · rw [hy]; exact hd⟩
theorem okDs_up {n m : Nat} {l : List DomainT} (h : okDs n l) (hm : n ≤ m) : okDs m l := ⟨Nat.le_trans h.1 hm, h.2⟩
theorem small_ok {x : ByteArray} (h : x.size ≤ 100) : ok_S x := by unfold ok_S; omega
theorem domains_ok {c : l1CurT} {K : Int} (h : cur c K) (h0 : 0 ≤ K) (hK : K ≤ 4611686018427380000) : okO (fun r => okDs 13 r.1 ∧ cur r.2 (K + 100)) (spec_l1Cur_domains_o c) := by
  unfold spec_l1Cur_domains_o
  refine okO.bind (P := fun y => okDs 5 y.c1 ∧ cur ⟨y.b0_0, y.b0_1, y.b0_2⟩ (K + 50)) ?_ fun y ⟨y1, y2⟩ => ?_
  · refine okO.loop (fun g => 0 ≤ g.t9 ∧ g.t9 ≤ 5 ∧ okDs g.t9.toNat g.c1 ∧ cur ⟨g.b0_0, g.b0_1, g.b0_2⟩ (K + 6 * g.t9)) (fun g => (5 - g.t9).toNat)
      ⟨by simp, by simp, ⟨by simp, fun y hy => by simp at hy⟩, h.up (by simp)⟩ fun g ⟨g1, g2, g3, g4⟩ => ?_
    unfold spec_l1Cur_domains_o_L1
    refine okO.ite (fun hc => ?_) (fun hc => okO.some ⟨okDs_up g3 (by omega), g4.up (by omega)⟩)
    have hc' : g.t9 < 5 := by simpa using hc
    have hw : wI (g.t9 + 1) = g.t9 + 1 := wI_id (by omega)
    refine okO.guard ⟨g1, hc'⟩ ?_
    refine one_b g4 (by omega) (by omega) fun b c2 h2 => okO.ite (fun _ => ?_) (fun _ => okO.some ?_)
    · refine pick_b h2 (by omega) (by omega) fun x3 c3 p3 _ q3 h3 => ?_
      have q3 := q3 (by omega)
      refine of_m h3 (by omega) (by simp) fun t c4 ht h4 => okO.guard (by have := g3.1; omega) (okO.some ?_)
      have hsz : t.size ≤ 100 := mem_small (by decide) ht
      have hnm : (nth ([(⟨#[97]⟩ : ByteArray), (⟨#[98]⟩ : ByteArray), (⟨#[99]⟩ : ByteArray), (⟨#[100, 49]⟩ : ByteArray), (⟨#[112, 97, 121]⟩ : ByteArray)]) g.t9.toNat).size ≤ 100 := mem_small (by decide) (nth_mem (by simp; omega))
      simp only [hw]
      refine ⟨⟨by omega, by omega, okDs_up (okDs_add g3 ⟨small_ok hnm, (⟨by omega, by omega⟩ : ok_I x3), small_ok hsz⟩) (by omega), h4.up (by omega)⟩, by omega⟩
    · simp only [hw]
      exact ⟨⟨by omega, by omega, okDs_up g3 (by omega), h2.up (by omega)⟩, by omega⟩
  refine okO.bind (P := fun p => okDs 13 p.c1 ∧ cur ⟨p.b0_0, p.b0_1, p.b0_2⟩ (K + 60)) ?_ fun p ⟨p1, p2⟩ => ?_
  · refine one_b y2 (by omega) (by omega) fun b c2 h2 => okO.ite (fun _ => ?_) (fun _ => okO.some ⟨okDs_up y1 (by omega), h2.up (by omega)⟩)
    refine okO.bind (P := fun z => okDs 13 z.c1) ?_ fun z hz => okO.some ⟨hz, h2.up (by omega)⟩
    refine okO.loop (fun g => 0 ≤ g.t6 ∧ g.t6 ≤ 8 ∧ okDs (5 + g.t6.toNat) g.c1) (fun g => (8 - g.t6).toNat) ⟨by simp, by simp, y1⟩ fun g ⟨g1, g2, g3⟩ => ?_
    unfold spec_l1Cur_domains_o_L2
    refine okO.ite (fun hc => ?_) (fun hc => okO.some (okDs_up g3 (by omega)))
    have hc' : g.t6 < 8 := by simpa using hc
    have hw : wI (g.t6 + 1) = g.t6 + 1 := wI_id (by omega)
    have hn : spec_l1Num g.t6 = some (bstr ([48 + g.t6])) := by
      unfold spec_l1Num
      rw [guard_pos (by omega)]
    rw [hn]
    refine okO.bind_some ?_
    have e1 : (bstr ([48 + g.t6])).size = 1 := bstr_one _
    have e2 : ((⟨#[122]⟩ : ByteArray)).size = 1 := rfl
    have e3 : ((⟨#[122]⟩ : ByteArray) ++ bstr ([48 + g.t6])).size ≤ 100 := by rw [ByteArray.size_append, e1, e2]; omega
    refine okO.guard (by rw [e1, e2]; omega) (okO.guard (by have := g3.1; omega) (okO.some ?_))
    simp only [hw]
    exact ⟨⟨by omega, by omega, okDs_up (okDs_add g3 ⟨small_ok e3, (⟨by omega, by omega⟩ : ok_I g.t6), small_ok (x := ByteArray.empty) (by decide)⟩) (by omega)⟩, by omega⟩
  refine okO.bind (P := fun q => cur ⟨q.b0_0, q.b0_1, q.b0_2⟩ (K + 70) ∧ (q.t46 = true → 0 < p.c1.length)) ?_ fun q ⟨q1, q2⟩ => ?_
  · refine okO.ite (fun hc => ?_) (fun _ => okO.some ⟨p2.up (by omega), fun h => by cases h⟩)
    have hc' : 0 < p.c1.length := by simp at hc; cases hq : p.c1 with
      | nil => rw [hq] at hc; simp at hc
      | cons a r => simp
    exact one_b p2 (by omega) (by omega) fun b c2 h2 => okO.some ⟨h2.up (by omega), fun _ => hc'⟩
  refine okO.ite (fun hc => ?_) (fun _ => okO.some ⟨p1, q1.up (by omega)⟩)
  have hpos := q2 hc
  refine of_m q1 (by omega) (by simp) fun t c4 ht h4 => okO.guard (by omega) (okO.some ⟨⟨by simpa using p1.1, fun y hy => ?_⟩, h4.up (by omega)⟩)
  have hsz : t.size ≤ 100 := mem_small (by decide) ht
  rcases List.mem_or_eq_of_mem_set hy with hy | hy
  · exact p1.2 y hy
  · rw [hy]
    have := p1.2 _ (nth_mem hpos)
    exact ⟨small_ok hsz, this.2.1, this.2.2⟩
theorem okDs_ok {n : Nat} {l : List DomainT} (h : okDs n l) (hn : n ≤ 100) : ok_LDomain l := ⟨by have := h.1; omega, h.2⟩
theorem drawMerge_ok {code : List Int} (h : ∀ y ∈ code, 0 ≤ y ∧ y ≤ 255) : ∃ a b, spec_DrawMergeDomains code = some (a, b) ∧ ok_LDomain a ∧ ok_LDomain b := by
  have key : okO (fun r => ok_LDomain r.1 ∧ ok_LDomain r.2) (spec_DrawMergeDomains code) := by
    unfold spec_DrawMergeDomains
    refine okO.bind (domains_ok (cur0 h) (by omega) (by omega)) fun r ⟨r1, r2⟩ => ?_
    refine okO.bind (domains_ok r2 (by omega) (by omega)) fun q ⟨q1, q2⟩ => okO.some ⟨okDs_ok r1 (by omega), okDs_ok q1 (by omega)⟩
  obtain ⟨⟨a, b⟩, e, h1, h2⟩ := key
  exact ⟨a, b, e, h1, h2⟩
theorem drawFail_ok {code : List Int} (h : ∀ y ∈ code, 0 ≤ y ∧ y ≤ 255) : ∃ l s r, spec_DrawFailOver code = some (l, s, r) ∧ ok_LDomain l := by
  have key : okO (fun r => ok_LDomain r.1) (spec_DrawFailOver code) := by
    unfold spec_DrawFailOver
    refine okO.bind (domains_ok (cur0 h) (by omega) (by omega)) fun r ⟨r1, r2⟩ => ?_
    refine of_m r2 (by omega) (by simp) fun t c4 ht h4 => ?_
    exact pick_b h4 (by omega) (by omega) fun x c _ _ _ _ => okO.some (okDs_ok r1 (by omega))
  obtain ⟨⟨l, s, r⟩, e, h1⟩ := key
  exact ⟨l, s, r, e, h1⟩

/-- Who leads is who failed over last. -/
theorem next_facts {v r : Int} (h : (nextP v r).2 = true) : (nextP v r).1.tmod 10 = r ∧ v < (nextP v r).1 ∧ 0 ≤ (nextP v r).1 ∧ (nextP v r).1 ≤ 1000000 := by
  unfold nextP at h ⊢
  split at h
  · rename_i h1
    rw [if_pos h1]
    split at h
    · rename_i h2
      rw [if_pos h2]
      refine ⟨?_, ?_, h2.1, h2.2⟩
      · simp only
        rw [Int.tmod_eq_emod_of_nonneg h2.1]
        unfold nextN
        rw [Int.tmod_eq_emod_of_nonneg h1.1.1]
        split <;> omega
      · simp only
        unfold nextN
        rw [Int.tmod_eq_emod_of_nonneg h1.1.1]
        split <;> omega
    · cases h
  · cases h
theorem nth_out {α : Type} [Inhabited α] {l : List α} {k : Nat} (h : l.length ≤ k) : nth l k = default := by
  unfold nth
  rw [List.getD_eq_getElem?_getD, List.getElem?_eq_none h]
  rfl
theorem good_set {l : List DomainT} (h : goodD l = true) {i : Nat} (hi : i < l.length) {v : Int} (hv : 0 ≤ v ∧ v ≤ 1000000) : goodD (l.set i ⟨(nth l i).Name, v, (nth l i).Note⟩) = true := by
  unfold goodD at h ⊢
  simp only [Bool.and_eq_true, allN_iff, decide_eq_true_eq, List.length_set] at h ⊢
  refine ⟨h.1, fun j hj => ?_⟩
  have hN : ∀ k, (nth (l.set i ⟨(nth l i).Name, v, (nth l i).Note⟩) k).Name = (nth l k).Name := fun k => by
    by_cases hk : k < l.length
    · rw [nth_eq (by simpa using hk), nth_eq hk, List.getElem_set]
      split
      · rename_i e; subst e; rw [nth_eq hi]
      · rfl
    · rw [nth_out (by simpa using hk), nth_out (by omega)]
  have hd := h.2 j hj
  unfold domP at hd ⊢
  simp only [hN]
  simp only [Bool.and_eq_true, decide_eq_true_eq] at hd ⊢
  refine ⟨⟨⟨hd.1.1.1, ?_⟩, ?_⟩, hd.2⟩
  · rw [nth_eq (by simpa using hj), List.getElem_set]
    split
    · unfold verP; simp only [decide_eq_true_eq]; exact hv
    · rw [← nth_eq hj]; exact hd.1.1.2
  · rw [nth_eq (by simpa using hj), List.getElem_set]
    split
    · rename_i e; subst e; exact hd.1.2
    · rw [← nth_eq hj]; exact hd.1.2
theorem atP_set {l : List DomainT} {i : Nat} (hi : i < l.length) {d : DomainT} (hn : d.Name = (nth l i).Name) (s : ByteArray) : atP (l.set i d) s = atP l s := by
  unfold atP
  rw [List.length_set]
  congr 1
  funext k
  have : (nth (l.set i d) k).Name = (nth l k).Name := by
    by_cases hk : k < l.length
    · rw [nth_eq (by simpa using hk), nth_eq hk, List.getElem_set]
      split
      · rename_i e; subst e; rw [hn, nth_eq hi]
      · rfl
    · rw [nth_out (by simpa using hk), nth_out (by omega)]
  rw [this]
theorem atP_self {l : List DomainT} (h : goodD l = true) {i : Nat} (hi : i < l.length) : atP l (nth l i).Name = some i := by
  unfold atP
  refine findN_some hi (by simp) fun j hj => ?_
  rw [decide_eq_false_iff_not]
  intro e
  have := goodD_one h (i := j) (j := i) (by omega) hi e
  omega
theorem fail_facts {l : List DomainT} {s : ByteArray} {r : Int} (h : (failP l s r).2 = true) : goodD l = true ∧ ∃ i, i < l.length ∧ atP l s = some i ∧ (nextP (nth l i).Version r).2 = true ∧ (failP l s r).1 = l.set i ⟨(nth l i).Name, (nextP (nth l i).Version r).1, (nth l i).Note⟩ := by
  unfold failP at h ⊢
  split at h
  · rename_i hg
    refine ⟨hg, ?_⟩
    rw [if_pos hg]
    cases ha : atP l s with
    | none => rw [ha] at h; cases h
    | some i =>
      rw [ha] at h
      simp only at h ⊢
      split at h
      · rename_i hn
        rw [if_pos hn]
        exact ⟨i, (atP_lt ha).1, rfl, hn, rfl⟩
      · cases h
  · cases h
theorem fail_not {l : List DomainT} {s : ByteArray} {r : Int} (h : (failP l s r).2 = false) : (failP l s r).1 = [] := by
  unfold failP at h ⊢
  split
  · rename_i hg
    rw [if_pos hg] at h
    cases ha : atP l s with
    | none => rfl
    | some i =>
      rw [ha] at h
      simp only at h ⊢
      split
      · rename_i hn; rw [if_pos hn] at h; cases h
      · rfl
  · rfl
theorem failP_ok {l : List DomainT} {s : ByteArray} {r : Int} (hl : ok_LDomain l) : ok_LDomain (failP l s r).1 := by
  refine ⟨by have := failP_len l s r; omega, fun y hy => ?_⟩
  cases h : (failP l s r).2
  · rw [fail_not h] at hy; simp at hy
  · obtain ⟨hg, i, hi, ha, hn, he⟩ := fail_facts h
    rw [he] at hy
    have hf := next_facts hn
    rcases List.mem_or_eq_of_mem_set hy with hy | hy
    · exact hl.2 y hy
    · rw [hy]
      have := hl.2 _ (nth_mem hi)
      exact ⟨this.1, (⟨by omega, by omega⟩ : ok_I (nextP (nth l i).Version r).1), this.2.2⟩
theorem mergeD_ok {a b : List DomainT} (ha : ok_LDomain a) (hb : ok_LDomain b) : ok_LDomain (mergeD a b).1 := by
  unfold mergeD
  split
  · rename_i h
    simp only [Bool.and_eq_true, decide_eq_true_eq] at h
    exact mergeP_ok ha hb (by omega)
  · exact ⟨by simp, fun y hy => by simp at hy⟩
theorem mergeD_facts {a b : List DomainT} (h : (mergeD a b).2 = true) : goodD a = true ∧ goodD b = true ∧ (mergeP a b).length ≤ 12 ∧ mergeD a b = (mergeP a b, true) := by
  unfold mergeD at h ⊢
  split at h
  · rename_i hc
    have hc' := hc
    simp only [Bool.and_eq_true, decide_eq_true_eq] at hc
    exact ⟨hc.1.1, hc.1.2, hc.2, by rw [if_pos hc']⟩
  · cases h
theorem domains_holds (a b : List Int) (ha : ∀ y ∈ a, 0 ≤ y ∧ y ≤ 255) (hb : ∀ y ∈ b, 0 ≤ y ∧ y ≤ 255) : laws_FnDomains a b = some true := by
  unfold laws_FnDomains
  by_cases h0 : wI (((a.length : Nat) : Int) + ((b.length : Nat) : Int)) > 1048576
  · rw [if_pos (decide_eq_true h0)]
  rw [if_neg (by simpa using h0)]
  obtain ⟨x, y, hd, hx, hy⟩ := drawMerge_ok ha
  rw [hd]
  simp only [Option.bind_some]
  rw [impl_MergeDomains_eq x y hx hy, spec_MergeDomains_eq x y hx hy, impl_MergeDomains_eq y x hy hx, mergeD_comm x y]
  have hm := mergeD_ok hx hy
  simp only [Option.bind_some, beq_self_eq_true, Bool.not_true, Bool.false_eq_true, if_false, sameDomains_eq _ _ hm.1, decide_true, impl_GoodDomains_eq _ hx, spec_GoodDomains_eq _ hx]
  have hJ : (if (mergeD x y).2 = true then
      ((impl_MergeDomains (mergeD x y).1 (mergeD x y).1).bind fun c131 =>
          ((impl_KnowsAll x (mergeD x y).1).bind fun c145 =>
          ((impl_KnowsAll y (mergeD x y).1).bind fun c146 =>
          ((impl_MergeDomains (mergeD x y).1 x).bind fun c147 =>
          (((if (!c131.2) = true then
              some (⟨true⟩ : laws_FnDomains_J4014)
            else
              (if (!c145.2) = true then
                some (⟨true⟩ : laws_FnDomains_J4014)
              else
                (if (!c146.2) = true then
                  some (⟨true⟩ : laws_FnDomains_J4014)
                else
                  (if (!c147.2) = true then
                    some (⟨true⟩ : laws_FnDomains_J4014)
                  else
                    (if (!c145.1) = true then
                      some (⟨true⟩ : laws_FnDomains_J4014)
                    else
                      (if (!c146.1) = true then
                        some (⟨true⟩ : laws_FnDomains_J4014)
                      else
                        ((laws_sameDomains c131.1 (mergeD x y).1).bind fun c148 =>
                        (if (!c148) = true then
                          some (⟨true⟩ : laws_FnDomains_J4014)
                        else
                          ((laws_sameDomains c147.1 (mergeD x y).1).bind fun c149 =>
                          some (⟨(!c149)⟩ : laws_FnDomains_J4014)))))))))) : Option laws_FnDomains_J4014).bind fun p150 =>
          (if p150.t148 = true then
            some (.inr false)
          else
            some (.inl (() : Unit))))))))
        else
          some (.inl (() : Unit)) : Option (Unit ⊕ Bool)) = some (.inl ()) := by
    cases hok : (mergeD x y).2
    · simp
    obtain ⟨g1, g2, g3, g4⟩ := mergeD_facts hok
    have hP : ok_LDomain (mergeP x y) := by rw [g4] at hm; exact hm
    have gm : goodD (mergeP x y) = true := by rw [goodD_merge g1 g2]; simpa using g3
    have pm := goodD_pw gm
    rw [g4]
    simp only [if_true]
    rw [impl_MergeDomains_eq _ _ hP hP, impl_KnowsAll_eq _ _ hx hP, impl_KnowsAll_eq _ _ hy hP, impl_MergeDomains_eq _ _ hP hx]
    have e1 : mergeD (mergeP x y) (mergeP x y) = (mergeP x y, true) := by unfold mergeD; rw [mergeP_self pm, gm]; simp [g3]
    have e2 : mergeD (mergeP x y) x = (mergeP x y, true) := by unfold mergeD; rw [mergeP_again (goodD_pw g1) (goodD_pw g2), gm, g1]; simp [g3]
    have e3 : knowsAllP x (mergeP x y) = (true, true) := by unfold knowsAllP; rw [if_pos ⟨g1, gm⟩, knows_left (goodD_pw g1) (goodD_pw g2)]
    have e4 : knowsAllP y (mergeP x y) = (true, true) := by unfold knowsAllP; rw [if_pos ⟨g2, gm⟩, mergeP_comm (goodD_pw g1) (goodD_pw g2), knows_left (goodD_pw g2) (goodD_pw g1)]
    rw [e1, e2, e3, e4]
    simp only [Option.bind_some, Bool.not_true, Bool.false_eq_true, if_false, sameDomains_eq _ _ hP.1, decide_true]
  rw [hJ]
  simp only [Option.bind_some]
  obtain ⟨l, s, r, hdf, hl⟩ := drawFail_ok hb
  rw [hdf]
  simp only [Option.bind_some]
  rw [impl_FailOver_eq l s r hl, spec_FailOver_eq l s r hl]
  have hf := failP_ok (s := s) (r := r) hl
  simp only [Option.bind_some, beq_self_eq_true, Bool.not_true, Bool.false_eq_true, if_false, sameDomains_eq _ _ hf.1, decide_true]
  cases hok : (failP l s r).2
  · simp [fail_not hok]
  obtain ⟨hg, i, hi, ha', hn, he⟩ := fail_facts hok
  have hnx := next_facts hn
  have hgf : goodD (failP l s r).1 = true := by rw [he]; exact good_set hg hi ⟨hnx.2.2.1, hnx.2.2.2⟩
  have hname : (⟨(nth l i).Name, (nextP (nth l i).Version r).1, (nth l i).Note⟩ : DomainT).Name = (nth l i).Name := rfl
  have hat : atP (failP l s r).1 s = some i := by rw [he, atP_set hi hname]; exact ha'
  have hni : nth (failP l s r).1 i = ⟨(nth l i).Name, (nextP (nth l i).Version r).1, (nth l i).Note⟩ := by rw [he]; exact nth_set_same hi
  rw [if_neg (by simp), impl_LeaderOf_eq _ _ hf, impl_KnowsAll_eq _ _ hl hf, impl_KnowsAll_eq _ _ hf hl]
  have e1 : leaderP (failP l s r).1 s = (r, true) := by
    unfold leaderP
    rw [if_pos hgf, hat]
    simp only
    rw [hni, hnx.1]
  have e2 : knowsAllP l (failP l s r).1 = (true, true) := by
    unfold knowsAllP
    rw [if_pos ⟨hg, hgf⟩]
    congr 1
    rw [List.all_eq_true]
    intro d hd
    obtain ⟨j, hj, rfl⟩ := List.getElem_of_mem hd
    unfold knowsP
    rw [← nth_eq hj]
    have : atP (failP l s r).1 (nth l j).Name = some j := by rw [he, atP_set hi hname]; exact atP_self hg hj
    rw [this]
    simp only [Bool.not_eq_true']
    by_cases hij : j = i
    · subst hij
      rw [hni]
      unfold lessP
      have h3 : ¬ (nextP (nth l j).Version r).1 < (nth l j).Version := by omega
      have h4 : ¬ (nextP (nth l j).Version r).1 = (nth l j).Version := by omega
      simp [h3, h4]
    · have : nth (failP l s r).1 j = nth l j := by
        rw [he, nth_eq (by simpa using hj), nth_eq hj, List.getElem_set, if_neg (fun e => hij e.symm)]
      rw [this]; exact lessP_irr _
  have e3 : (knowsAllP (failP l s r).1 l).2 = true ∧ (knowsAllP (failP l s r).1 l).1 = false := by
    unfold knowsAllP
    rw [if_pos ⟨hgf, hg⟩]
    refine ⟨rfl, ?_⟩
    simp only
    rw [List.all_eq_false]
    refine ⟨nth (failP l s r).1 i, nth_mem (by rw [he]; simpa using hi), ?_⟩
    unfold knowsP
    rw [hni]
    simp only
    rw [atP_self hg hi]
    simp only [Bool.not_eq_true, Bool.not_eq_false']
    unfold lessP
    have h3 : (nth l i).Version < (nextP (nth l i).Version r).1 := hnx.2.1
    simp [h3]
  rw [e1, e2]
  simp only [Option.bind_some, beq_self_eq_true, if_true, e3.1, e3.2, Bool.not_false]
end Go.TL
