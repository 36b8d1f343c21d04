/- The law of a call. -/
import Derived.Test.YtoabnifimfcbcaaTlCall
set_option linter.unusedSimpArgs false
set_option linter.unusedVariables false
namespace Go.TL
open Go

theorem look_map {α β : Type} {φ : Nat → Nat} {g : Nat → α → β} {k0 : Nat} (hinj : ∀ k, φ k = φ k0 → k = k0) (l : List (Nat × α)) (old : List (Nat × β)) :
    look (l.map (fun p => (φ p.1, g p.1 p.2)) ++ old) (φ k0) = match look l k0 with | some x => some (g k0 x) | none => look old (φ k0) := by
  induction l with
  | nil => rfl
  | cons p r ih =>
    obtain ⟨k, x⟩ := p
    simp only [List.map_cons, List.cons_append, look]
    by_cases e : k0 = k
    · subst e; simp
    · have : ¬ φ k0 = φ k := fun h => e (hinj k h.symm).symm
      rw [if_neg this, if_neg e]
      exact ih

theorem look_map_none {α β : Type} {φ : Nat → Nat} {g : Nat → α → β} {id : Nat} (hno : ∀ k, φ k ≠ id) (l : List (Nat × α)) (old : List (Nat × β)) :
    look (l.map (fun p => (φ p.1, g p.1 p.2)) ++ old) id = look old id := by
  induction l with
  | nil => rfl
  | cons p r ih =>
    obtain ⟨k, x⟩ := p
    simp only [List.map_cons, List.cons_append, look]
    rw [if_neg (fun h => hno k h.symm)]
    exact ih

/-- The numbers of the callee's objects are apart. -/
theorem num_inj {ids : List Nat} {nx : Nat} (hnd : ids.Nodup) (hlt : ∀ i ∈ ids, i < nx) {j k : Nat} (h : num ids nx j = num ids nx k) : j = k := by
  unfold num at h
  rcases Nat.lt_or_ge j ids.length with hj | hj <;> rcases Nat.lt_or_ge k ids.length with hk | hk
  · rw [List.getElem?_eq_getElem hj, List.getElem?_eq_getElem hk] at h
    exact nodup_inj hnd hj hk h
  · rw [List.getElem?_eq_getElem hj, List.getElem?_eq_none hk] at h
    have := hlt _ (List.getElem_mem hj)
    simp only at h; omega
  · rw [List.getElem?_eq_none hj, List.getElem?_eq_getElem hk] at h
    have := hlt _ (List.getElem_mem hk)
    simp only at h; omega
  · rw [List.getElem?_eq_none hj, List.getElem?_eq_none hk] at h
    simp only at h; omega

theorem conv1_there {ids : List Nat} {H : Heap} {lv lv' : LV} (h : conv1 ids H lv = some lv') : ∀ i ∈ shown1 ids lv, i ∉ ids → H i ≠ none := by
  intro i hi _
  cases lv with
  | os id es lo len mc ex =>
    simp only [shown1] at hi
    simp only [conv1] at h
    split at hi
    · cases hi
    · rename_i hk
      rw [hk] at h
      simp only [List.mem_singleton] at hi
      subst hi
      intro hn
      rw [hn] at h
      cases h
  | pb id off =>
    simp only [shown1] at hi
    simp only [conv1] at h
    split at hi
    · cases hi
    · rename_i hk
      rw [hk] at h
      simp only [List.mem_singleton] at hi
      subst hi
      intro hn
      rw [hn] at h
      cases h
  | un => cases hi
  | lf t l => cases hi
  | nl => cases hi
  | pe a b c d => cases hi
  | ra a b => cases hi
  | ag a => cases hi
  | tu a => cases hi
  | fn a b => cases hi

theorem convs_there {ids : List Nat} {H : Heap} : ∀ {ls ls' : List LV}, convs ids H ls = some ls' → ∀ i ∈ ls.flatMap (shown1 ids), i ∉ ids → H i ≠ none
  | [], _, _ => fun i hi => by simp at hi
  | lv :: r, ls', h => by
    unfold convs at h
    split at h
    · rename_i x y h1 h2
      intro i hi hn
      rw [List.flatMap_cons, List.mem_append] at hi
      rcases hi with hi | hi
      · exact conv1_there h1 i hi hn
      · exact convs_there h2 i hi hn
    · cases h

theorem conv_there {ids : List Nat} {H : Heap} {lv lv' : LV} (h : conv ids H lv = some lv') : ∀ i ∈ shown ids lv, i ∉ ids → H i ≠ none := by
  cases lv with
  | ag ls =>
    simp only [conv] at h
    cases hq : convs ids H ls with
    | none => rw [hq] at h; cases h
    | some k => exact convs_there hq
  | fn f ls =>
    simp only [conv] at h
    cases hq : convs ids H ls with
    | none => rw [hq] at h; cases h
    | some k => exact convs_there hq
  | os a b c d e f => exact conv1_there (lv := .os a b c d e f) h
  | pb a b => exact conv1_there (lv := .pb a b) h
  | un => intro i hi; cases hi
  | lf t l => intro i hi; cases hi
  | nl => intro i hi; cases hi
  | pe a b c d => intro i hi; cases hi
  | ra a b => intro i hi; cases hi
  | tu a => intro i hi; cases hi

theorem convAll_there {ids : List Nat} {H : Heap} : ∀ {ls ls' : List LV}, convAll ids H ls = some ls' → ∀ i ∈ ls.flatMap (shown ids), i ∉ ids → H i ≠ none
  | [], _, _ => fun i hi => by simp at hi
  | lv :: r, ls', h => by
    unfold convAll at h
    split at h
    · rename_i x y h1 h2
      intro i hi hn
      rw [List.flatMap_cons, List.mem_append] at hi
      rcases hi with hi | hi
      · exact conv_there h1 i hi hn
      · exact convAll_there h2 i hi hn
    · cases h

theorem handed_there {ids : List Nat} {H : Heap} {H0 : HL} (h0 : handed ids H 0 ids = some H0) : ∀ id ∈ ids, ∃ o, H id = some o ∧ ∀ i ∈ shownOb ids o.2, i ∉ ids → H i ≠ none := by
  intro id hid
  obtain ⟨g1, _⟩ := handed_get h0
  obtain ⟨k, hk, rfl⟩ := List.getElem_of_mem hid
  obtain ⟨fr, o, o', h1, h2, _⟩ := g1 k hk
  refine ⟨_, h1, ?_⟩
  cases o with
  | box ls =>
    simp only [convOb] at h2
    cases hq : convs ids H ls with
    | none => rw [hq] at h2; cases h2
    | some x => exact convs_there hq
  | arr t es rows => intro i hi; cases hi

theorem holds_back {w' : World} {c c1 c' : Ctx} {ids snaps : List Nat} (hF : c'.F = c.F) (hG : ∀ b k, c.G b k ∨ c1.G b k → c'.G b k) (hle : (calleeCtx c ids snaps).Le c1)
    (hl1 : ∀ k (hk : k < ids.length), c'.loc (ids[k]) = c1.loc k ∧ ids[k] < c'.nx) (hl2 : ∀ k, ids.length ≤ k → k < c1.nx → c'.loc (c.nx + (k - ids.length)) = c1.loc k ∧ c.nx + (k - ids.length) < c'.nx)
    {o : Ob} {L : Loc} (hfr : snaps = [] ∨ freeOb o = true) (h : Holds w' c1 L o) : Holds w' c' L (backOb ids c.nx o) := by
  cases o with
  | box ls =>
    obtain ⟨g1, g2, g3⟩ := h
    refine ⟨by simpa using g1, g2, fun j hj v hv => ?_⟩
    have hj' : j < ls.length := by simpa using hj
    simp only [List.getElem_map]
    refine back1_ok hF hG hle hl1 hl2 (hfr.imp id fun h => ?_) (g3 j hj' v hv)
    rw [freeOb, List.all_eq_true] at h
    exact h _ (List.getElem_mem hj')
  | arr t es rows =>
    obtain ⟨g1, g0, g2, g3⟩ := h
    exact ⟨g1, g0, g2, fun i j hi hj v hv => back_rep hF hG hle (hfr.imp id fun h => by simpa [freeOb] using h) (g3 i j hi hj v hv)⟩

theorem back2_ok {w' : World} {c c1 c' : Ctx} {ids snaps : List Nat} (hF : c'.F = c.F) (hG : ∀ b k, c.G b k ∨ c1.G b k → c'.G b k) (hle : (calleeCtx c ids snaps).Le c1)
    (hl1 : ∀ k (hk : k < ids.length), c'.loc (ids[k]) = c1.loc k ∧ ids[k] < c'.nx) (hl2 : ∀ k, ids.length ≤ k → k < c1.nx → c'.loc (c.nx + (k - ids.length)) = c1.loc k ∧ c.nx + (k - ids.length) < c'.nx)
    {lv : LV} {v : Value} (hfr : snaps = [] ∨ free2 lv = true) (h : Cv w' c1 lv v) : Cv w' c' (back2 ids c.nx lv) v := by
  cases lv with
  | ag ls =>
    cases h with
    | ag cs hn hv h3 =>
      refine .ag cs (by simpa using hn) (fun j hj => hv j (by simpa using hj)) fun j hj => ?_
      have hj' : j < ls.length := by simpa using hj
      simp only [List.getElem_map]
      refine back1_ok hF hG hle hl1 hl2 (hfr.imp id fun h => ?_) (h3 j hj')
      rw [free2, List.all_eq_true] at h
      exact h _ (List.getElem_mem hj')
  | un => exact back1_ok (lv := .un) hF hG hle hl1 hl2 hfr h
  | lf t l => exact back1_ok (lv := .lf t l) hF hG hle hl1 hl2 hfr h
  | nl => exact back1_ok (lv := .nl) hF hG hle hl1 hl2 hfr h
  | os x1 x2 x3 x4 x5 x6 => exact back1_ok (lv := .os x1 x2 x3 x4 x5 x6) hF hG hle hl1 hl2 hfr h
  | pb x1 x2 => exact back1_ok (lv := .pb x1 x2) hF hG hle hl1 hl2 hfr h
  | pe x1 x2 x3 x4 => exact .un _
  | ra x1 x2 => exact back1_ok (lv := .ra x1 x2) hF hG hle hl1 hl2 hfr h
  | tu x1 => exact .un _
  | fn x1 x2 => exact back1_ok (lv := .fn x1 x2) hF hG hle hl1 hl2 hfr h

theorem back_ok {w' : World} {c c1 c' : Ctx} {ids snaps : List Nat} (hF : c'.F = c.F) (hG : ∀ b k, c.G b k ∨ c1.G b k → c'.G b k) (hle : (calleeCtx c ids snaps).Le c1)
    (hl1 : ∀ k (hk : k < ids.length), c'.loc (ids[k]) = c1.loc k ∧ ids[k] < c'.nx) (hl2 : ∀ k, ids.length ≤ k → k < c1.nx → c'.loc (c.nx + (k - ids.length)) = c1.loc k ∧ c.nx + (k - ids.length) < c'.nx)
    {lv : LV} {v : Value} (hfr : snaps = [] ∨ free lv = true) (h : Cv w' c1 lv v) : Cv w' c' (back ids c.nx lv) v := by
  cases lv with
  | tu ls =>
    cases h with
    | tu cs hn hv h3 =>
      refine .tu cs (by simpa using hn) (fun j hj => hv j (by simpa using hj)) fun j hj => ?_
      have hj' : j < ls.length := by simpa using hj
      simp only [List.getElem_map]
      refine back2_ok hF hG hle hl1 hl2 (hfr.imp id fun h => ?_) (h3 j hj')
      rw [free, List.all_eq_true] at h
      exact h _ (List.getElem_mem hj')
  | un => exact back2_ok (lv := .un) hF hG hle hl1 hl2 hfr h
  | lf t l => exact back2_ok (lv := .lf t l) hF hG hle hl1 hl2 hfr h
  | nl => exact back2_ok (lv := .nl) hF hG hle hl1 hl2 hfr h
  | os x1 x2 x3 x4 x5 x6 => exact back2_ok (lv := .os x1 x2 x3 x4 x5 x6) hF hG hle hl1 hl2 hfr h
  | pb x1 x2 => exact back2_ok (lv := .pb x1 x2) hF hG hle hl1 hl2 hfr h
  | pe x1 x2 x3 x4 => exact .un _
  | ra x1 x2 => exact back2_ok (lv := .ra x1 x2) hF hG hle hl1 hl2 hfr h
  | ag x1 => exact back2_ok (lv := .ag x1) hF hG hle hl1 hl2 hfr h
  | fn x1 x2 => exact back2_ok (lv := .fn x1 x2) hF hG hle hl1 hl2 hfr h

/-- What a call asks: ids: the own objects that are handed over. -/
def CallW (P : Program) (s : St) (f : FuncId) (args : List LV) (K : LV → HL → Nat → Prop) : Prop :=
  ∃ (ids : List Nat) (args' args2 : List LV) (H0 : HL) (res : LV) (H1 : HL) (nxr : Nat),
    convAll ids (hp s.H) args = some args2 ∧ FitAll args2 args' ∧ handed ids (hp s.H) 0 ids = some H0 ∧ ids.Nodup ∧ (∀ i ∈ shownAll ids (hp s.H) args, i ∉ ids) ∧
    FnOk P f args' H0 ids.length res H1 nxr ∧ (shownAll ids (hp s.H) args = [] ∨ (free res = true ∧ ∀ p ∈ H1, ∀ o, p.2 = some o → freeOb o.2 = true)) ∧ (∀ k, k < ids.length → (look H1 k).isSome = true) ∧
    K (back ids s.nx res) (merged ids (hp s.H) s.nx H1 s.H) (s.nx + (nxr - ids.length))

theorem call_ok {P : Program} {s : St} {f : FuncId} {args : List LV} {K : LV → HL → Nat → Prop} (h : CallW P s f args K) {w0 : World} {W0 : Fr} {c : Ctx} {w : World} (hs : Sit w0 W0 c (hp s.H) w) (hnx : c.nx = s.nx)
    {vs : Array Value} (hn : vs.size = args.length) (hv : ∀ j (hj : j < args.length), ∃ v, vs[j]? = some v ∧ Cv w c (args[j]) v) :
    Calls P f vs w fun e w' => ∃ v c' lv H' nx', e = .returned v ∧ K lv H' nx' ∧ c.Le c' ∧ c'.nx = nx' ∧ Sit w0 W0 c' (hp H') w' ∧ Same c w w' ∧ Cv w' c' lv v := by
  obtain ⟨ids, args', args2, H0, res, H1, nxr, ha, hfit, h0, hnd, hap, hok, hfr, hall, hK⟩ := h
  have hsn : ∀ i ∈ shownAll ids (hp s.H) args, i ∉ ids ∧ hp s.H i ≠ none := by
    intro i hi
    have hni := hap i hi
    refine ⟨hni, ?_⟩
    unfold shownAll at hi
    rw [List.mem_append] at hi
    rcases hi with hi | hi
    · exact convAll_there ha i hi hni
    · rw [List.mem_flatMap] at hi
      obtain ⟨id, hid, hi⟩ := hi
      obtain ⟨o, ho, hth⟩ := handed_there h0 id hid
      rw [ho] at hi
      exact hth i hi hni
  obtain ⟨hsit, hr⟩ := callee_sit hs (snaps := shownAll ids (hp s.H) args) h0 hnd hsn (by
    intro id hid o ho i hi
    unfold shownAll
    rw [List.mem_append]
    refine .inr (List.mem_flatMap.2 ⟨id, hid, ?_⟩)
    rw [ho]
    exact hi)
  have hidlt : ∀ i ∈ ids, i < c.nx := fun i hi => by
    obtain ⟨o, ho, _⟩ := handed_there h0 i hi
    exact (hs.own _ _ ho).1
  obtain ⟨hl2, hcv⟩ := convAll_ok (snaps := shownAll ids (hp s.H) args) hs ha (fun i hi => by unfold shownAll; exact List.mem_append_left _ hi)
  obtain ⟨hl3, hft⟩ := fitAll_get (w := w) (c := calleeCtx c ids (shownAll ids (hp s.H) args)) hfit
  refine (hok w _ _ vs hsit (by omega) (fun j hj => ?_)).mono fun e w' => ?_
  · obtain ⟨v, h1, h2⟩ := hv j (by omega)
    exact ⟨v, h1, hft j (by omega) hj v (hcv j (by omega) (by omega) v h2)⟩
  rintro ⟨v, c1, rfl, hle, hnxr, hs1, hcr⟩
  have hm : ids.length ≤ nxr := by have := hle.nx; rw [hnxr] at this; exact this
  -- the caller's context behind the call
  let c' : Ctx := ⟨c.F, fun b k => c.G b k ∨ c1.G b k, fun i => if i < c.nx then c.loc i else c1.loc (i - c.nx + ids.length), c.nx + (nxr - ids.length)⟩
  have hcle : c.Le c' := ⟨rfl, fun _ _ h => .inl h, Nat.le_add_right _ _, fun i hi => if_pos hi⟩
  have hG : ∀ b k, c.G b k ∨ c1.G b k → c'.G b k := fun _ _ h => h
  have hlo1 : ∀ k (hk : k < ids.length), c'.loc (ids[k]) = c1.loc k ∧ ids[k] < c'.nx := by
    intro k hk
    have hlt := hidlt _ (List.getElem_mem hk)
    refine ⟨?_, Nat.lt_of_lt_of_le hlt (Nat.le_add_right _ _)⟩
    show (if ids[k] < c.nx then c.loc ids[k] else _) = _
    rw [if_pos hlt, hle.loc k hk]
    show _ = c.loc (ids.getD k 0)
    simp [hk]
  have hlo2 : ∀ k, ids.length ≤ k → k < c1.nx → c'.loc (c.nx + (k - ids.length)) = c1.loc k ∧ c.nx + (k - ids.length) < c'.nx := by
    intro k h1 h2
    refine ⟨?_, ?_⟩
    · show (if c.nx + (k - ids.length) < c.nx then _ else c1.loc (c.nx + (k - ids.length) - c.nx + ids.length)) = _
      rw [if_neg (by omega)]
      congr 1
      omega
    · show _ < c.nx + (nxr - ids.length)
      omega
  have hlow : ∀ i, i < c.nx → c'.loc i = c.loc i := fun i hi => if_pos hi
  -- what was turned
  have hD : ∀ b j, b < w.heap.size → rng (calleeCtx c ids (shownAll ids (hp s.H) args)).loc (hp H0) b j → ∃ i o, hp s.H i = some o ∧ inR (c.loc i) b j := fun b j _ d => by
    obtain ⟨id, o, _, h1, h2⟩ := hr b j d
    exact ⟨id, o, h1, h2⟩
  have hsame := hs.same hs1.keep hD
  have hfrOb : ∀ k o, hp H1 k = some o → shownAll ids (hp s.H) args = [] ∨ freeOb o.2 = true := by
    intro k o ho
    refine hfr.imp id fun h => ?_
    unfold hp at ho
    cases hq : look H1 k with
    | none => rw [hq] at ho; cases ho
    | some x =>
      rw [hq] at ho
      exact h.2 _ (look_mem hq) o ho
  -- the objects behind the call
  have hcase : ∀ i o, hp (merged ids (hp s.H) s.nx H1 s.H) i = some o →
      (∃ k, i = num ids c.nx k ∧ k < c1.nx ∧ ∃ o1, hp H1 k = some o1 ∧ o.2 = backOb ids c.nx o1.2 ∧ c'.loc i = c1.loc k ∧ i < c'.nx ∧
        ((∃ (hk : k < ids.length) (q : Bool × Ob), hp s.H (ids[k]) = some q ∧ o.1 = q.1 ∧ i = ids[k]) ∨ (ids.length ≤ k ∧ o.1 = o1.1 ∧ c.nx ≤ i))) ∨
      (hp s.H i = some o ∧ i ∉ ids ∧ i < c.nx) := by
    intro i o ho
    rw [← hnx] at ho
    change (look (merged ids (hp s.H) c.nx H1 s.H) i).getD none = some o at ho
    unfold merged at ho
    have key : ∀ k0, i = num ids c.nx k0 → (∀ k, num ids c.nx k = num ids c.nx k0 → k = k0) → (look H1 k0).isSome = true → ∃ o1, hp H1 k0 = some o1 ∧ mergedOb ids (hp s.H) c.nx k0 (some o1) = some o := by
      intro k0 hi hinj hsm
      rw [hi, look_map hinj] at ho
      cases hq : look H1 k0 with
      | none => rw [hq] at hsm; cases hsm
      | some x =>
        rw [hq] at ho
        simp only [Option.getD_some] at ho
        cases x with
        | none =>
          unfold mergedOb at ho
          split at ho <;> cases ho
        | some o1 => exact ⟨o1, by unfold hp; rw [hq]; rfl, ho⟩
    by_cases hmem : i ∈ ids
    · obtain ⟨k, hk, rfl⟩ := List.getElem_of_mem hmem
      have hnum : num ids c.nx k = ids[k] := by unfold num; rw [List.getElem?_eq_getElem hk]
      obtain ⟨o1, h1, h2⟩ := key k hnum.symm (fun j hj => num_inj hnd hidlt hj) (hall k hk)
      left
      obtain ⟨q, hq, _⟩ := handed_there h0 _ (List.getElem_mem hk)
      unfold mergedOb at h2
      rw [List.getElem?_eq_getElem hk] at h2
      simp only [Option.bind_some, hq, Option.map_some, Option.some.injEq] at h2
      refine ⟨k, hnum.symm, by omega, o1, h1, by rw [← h2], (hlo1 k hk).1, (hlo1 k hk).2, .inl ⟨hk, q, hq, by rw [← h2], rfl⟩⟩
    · by_cases hge : c.nx ≤ i
      · left
        have hnum : num ids c.nx (i - c.nx + ids.length) = i := by
          unfold num
          rw [List.getElem?_eq_none (by omega)]
          simp only; omega
        have hsm : (look H1 (i - c.nx + ids.length)).isSome = true := by
          cases hq : look H1 (i - c.nx + ids.length) with
          | some x => rfl
          | none =>
            exfalso
            have := look_map (φ := num ids c.nx) (g := mergedOb ids (hp s.H) c.nx) (k0 := i - c.nx + ids.length) (fun j hj => num_inj hnd hidlt hj) H1 s.H
            rw [hnum, hq] at this
            rw [this] at ho
            have : hp s.H i = some o := ho
            have := (hs.own _ _ this).1
            omega
        obtain ⟨o1, h1, h2⟩ := key _ hnum.symm (fun j hj => num_inj hnd hidlt hj) hsm
        unfold mergedOb at h2
        rw [List.getElem?_eq_none (by omega)] at h2
        simp only [Option.map_some, Option.some.injEq] at h2
        have hk1 := (hs1.own _ _ h1).1
        have := hlo2 (i - c.nx + ids.length) (by omega) hk1
        rw [show c.nx + (i - c.nx + ids.length - ids.length) = i by omega] at this
        exact ⟨_, hnum.symm, hk1, o1, h1, by rw [← h2], this.1, this.2, .inr ⟨by omega, by rw [← h2], hge⟩⟩
      · right
        rw [look_map_none (fun k hk => ?_)] at ho
        · exact ⟨ho, hmem, by omega⟩
        · unfold num at hk
          rcases Nat.lt_or_ge k ids.length with h1 | h1
          · rw [List.getElem?_eq_getElem h1] at hk; exact hmem (hk ▸ List.getElem_mem h1)
          · rw [List.getElem?_eq_none h1] at hk; simp only at hk; omega
  -- cells of the old objects stay
  have hold : ∀ i o, hp s.H i = some o → i ∉ ids → ∀ b j, inR (c.loc i) b j → ¬ rng (calleeCtx c ids (shownAll ids (hp s.H) args)).loc (hp H0) b j := by
    intro i o ho hi b j hb hx
    obtain ⟨id, o', hid, h1, h2⟩ := hr b j hx
    exact hs.dis i id _ _ ho h1 (fun e => hi (e ▸ hid)) b j hb h2
  have hsep1 : ∀ k o1, hp H1 k = some o1 → ∀ b j, inR (c1.loc k) b j → ¬ c.F b j ∧ ¬ c.G b j ∧ ¬ c1.G b j ∧ ((o1.1 = false ∧ rng (calleeCtx c ids (shownAll ids (hp s.H) args)).loc (hp H0) b j) ∨ w.heap.size ≤ b) := by
    intro k o1 h1 b j hb
    obtain ⟨q1, q2, q3⟩ := hs1.sep k o1 h1 b j hb
    rw [hle.F] at q1
    exact ⟨fun h => q1 (.inl h), fun h => q1 (.inr (.inl h)), q2, q3⟩
  have hrw : ∀ b j, rng (calleeCtx c ids (shownAll ids (hp s.H) args)).loc (hp H0) b j → ∃ id o, id ∈ ids ∧ hp s.H id = some o ∧ inR (c.loc id) b j := hr
  refine ⟨v, c', back ids s.nx res, merged ids (hp s.H) s.nx H1 s.H, s.nx + (nxr - ids.length), rfl, hK, hcle, by show c.nx + _ = _; rw [hnx], ?_, hsame, ?_⟩
  · refine ⟨hs.keeps hs1.keep hD, fun i o ho => ?_, fun i j oi oj hi hj hij b l hb => ?_, fun i o ho b k hb => ?_, hs.old, fun b k hg => ?_, fun b k u he => ⟨(hs.res b k u he).1, fun hg => ?_, (hs.aside hs1.keep hD he).1, (hs.aside hs1.keep hD he).2, fun i o ho hb => ?_⟩⟩
    · rcases hcase i o ho with ⟨k, hi, hk1, o1, h1, h2, h3, h4, _⟩ | ⟨h1, h2, h3⟩
      · refine ⟨h4, ?_⟩
        rw [h2, h3]
        exact holds_back (c := c) (c1 := c1) (c' := c') rfl hG hle hlo1 hlo2 (hfrOb k o1 h1) (hs1.own k o1 h1).2
      · refine ⟨Nat.lt_of_lt_of_le h3 (Nat.le_add_right _ _), ?_⟩
        rw [hlow i h3]
        refine (hs.own i o h1).2.mono hcle hsame fun b j hb => ?_
        have hlt := hs.lt h1 hb
        have hn := hold i o h1 h2 b j hb
        exact ⟨hs1.keep.cell b j hlt hn, hs1.keep.frz b j hlt hn⟩
    · rcases hcase i oi hi with ⟨k, ei, hk1, o1, h1, h2, h3, h4, _⟩ | ⟨h1, h2, h3⟩ <;> rcases hcase j oj hj with ⟨k', ej, hk1', o1', h1', h2', h3', h4', _⟩ | ⟨h1', h2', h3'⟩
      · rw [h3] at hb
        rw [h3']
        exact hs1.dis k k' _ _ h1 h1' (fun e => hij (by rw [ei, ej, e])) b l hb
      · rw [h3] at hb
        rw [hlow j h3']
        intro hb'
        rcases (hsep1 k o1 h1 b l hb).2.2.2 with h | h
        · exact hold j oj h1' h2' b _ hb' h.2
        · have := hs.lt h1' hb'; omega
      · rw [hlow i h3] at hb
        rw [h3']
        intro hb'
        rcases (hsep1 k' o1' h1' b l hb').2.2.2 with h | h
        · exact hold i oi h1 h2 b _ hb h.2
        · have := hs.lt h1 hb; omega
      · rw [hlow i h3] at hb
        rw [hlow j h3']
        exact hs.dis i j _ _ h1 h1' hij b _ hb
    · rcases hcase i o ho with ⟨k', ei, hk1, o1, h1, h2, h3, h4, h5⟩ | ⟨h1, h2, h3⟩
      · rw [h3] at hb
        obtain ⟨q1, q2, q3, q4⟩ := hsep1 k' o1 h1 b k hb
        refine ⟨q1, fun h => h.elim q2 q3, ?_⟩
        rcases h5 with ⟨hk, q, hq, e1, e2⟩ | ⟨hk, e1, e2⟩
        · rw [e1]
          have hin : inR (c.loc (ids[k'])) b k := by
            rw [hle.loc k' hk] at hb
            have : inR (c.loc (ids.getD k' 0)) b k := hb
            simpa [hk] using this
          exact (hs.sep _ _ hq b k hin).2.2
        · rcases q4 with ⟨f1, f2⟩ | h
          · obtain ⟨id, q, hid, hq, hin⟩ := hrw b k f2
            rw [e1, f1]
            rcases (hs.sep _ _ hq b k hin).2.2 with z | z
            · exact .inl ⟨rfl, z.2⟩
            · exact .inr z
          · exact .inr (Nat.le_trans hs.keep.size h)
      · rw [hlow i h3] at hb
        obtain ⟨q1, q2, q3⟩ := hs.sep i o h1 b k hb
        refine ⟨q1, fun h => h.elim q2 fun hg => ?_, q3⟩
        have := (hs1.new b k hg).1
        have := hs.lt h1 hb
        omega
    · rcases hg with hg | hg
      · exact ⟨(hs.new b k hg).1, Nat.lt_of_lt_of_le (hs.new b k hg).2 hs1.keep.size⟩
      · exact ⟨Nat.le_trans hs.keep.size (hs1.new b k hg).1, (hs1.new b k hg).2⟩
    · have hlt := cell_lt (hs.res b k u he).2.2.1
      rcases hg with hg | hg
      · exact (hs.res b k u he).2.1 hg
      · have := (hs1.new b k hg).1; omega
    · have hlt := cell_lt (hs.res b k u he).2.2.1
      rcases hcase i o ho with ⟨k', ei, hk1, o1, h1, h2, h3, h4, h5⟩ | ⟨h1, h2, h3⟩
      · rw [h3] at hb
        rcases (hsep1 k' o1 h1 b k hb).2.2.2 with ⟨_, f2⟩ | h
        · obtain ⟨id, q, hid, hq, hin⟩ := hrw b k f2
          exact (hs.res b k u he).2.2.2.2 id q hq hin
        · omega
      · rw [hlow i h3] at hb
        exact (hs.res b k u he).2.2.2.2 i o h1 hb
  · rw [← hnx]
    exact back_ok (c := c) (c1 := c1) (c' := c') rfl hG hle hlo1 hlo2 (hfr.imp id (·.1)) hcr
end Go.TL
