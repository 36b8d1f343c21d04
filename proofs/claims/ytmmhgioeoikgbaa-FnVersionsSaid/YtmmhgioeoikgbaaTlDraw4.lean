/- Regions whose order is drawn: the law. -/
import Derived.Test.YtmmhgioeoikgbaaTlDraw3
set_option linter.unusedSimpArgs false
set_option linter.unusedVariables false
namespace Go.TL
open Go

section
variable {P : Program} {tab : Tab} {all : Array Oper} {cf : List (Nat × Nat)} {L : Log} {st : Nat → St}

theorem looks_of {o : Oper} {t : Nat} (h : Operand.tmp t ∈ o.op.operands) : t ∈ o.looksAt all :=
  List.mem_append_left _ (List.mem_filterMap.2 ⟨.tmp t, by simpa using h, rfl⟩)

theorem looks_guard {o : Oper} {j d : Nat} {want : Bool} (hg : o.guard = some (j, want)) (hd : (all[j]?).bind (·.dst) = some d) : d ∈ o.looksAt all := by
  refine List.mem_append_right _ ?_
  rw [hg]
  simp only [hd]
  simp

theorem ev_restr {T : List (Nat × LV)} {ts : List Nat} {x : Operand} (h : ∀ t, x = .tmp t → t ∈ ts) : ev (restr T ts) x = ev T x := by
  cases x with
  | tmp t => simp only [ev, tv_restr]; rw [if_pos (h t rfl)]
  | _ => rfl

/-- One operation that is ready, whichever it is. -/
theorem Inv.turn (htab : TabOk P tab) (r : Run P tab all cf L st) {w0 : World} {W0 : Fr} {c0 : Ctx} {listed : Array Bool} {a : Act} {w : World} {c : Ctx} {k : Nat} (v : Inv all st w0 W0 c0 listed a w c k) {i : Nat} {o : Oper} (hi : all[i]? = some o) (hu : ¬ li listed i) (hr : Ready listed o)
    {Q : Exit → Act → World → Prop} {K : Act → World → Prop} (hK : ∀ a' w' c' k', Inv all st w0 W0 c0 (listed.setIfInBounds i true) a' w' c' k' → K a' w') : wpOp P all Q i K a w := by
  have hiN := bound hi
  have hop : ∀ t, t ∈ o.looksAt all → Cv w c (tv (st i).T t) (a.tmps.getD t undef) := fun t ht => v.operand r hi hu hr ht
  have hk3 := (r.chk.one i o hi).1
  have hstp := r.stp i o hi
  unfold wpOp
  simp only [hi]
  rcases hstp.2 with ⟨sk, lv, H, nx, hg, hw, he, hlog⟩ | ⟨j, want, d, hgd, hd, hb, he⟩
  · have hwant : Region.wanted o (yielded all a.tmps) = true := by
      rcases hg with ⟨hn, _⟩ | ⟨j, want, d, hgd, hd, hb, _⟩
      · unfold Region.wanted; rw [hn]
      · have hv := (sc_of hb (hop d (looks_guard hgd hd))).1
        unfold Region.wanted
        rw [hgd]
        simp [yielded_of hd hv]
    rw [if_pos hwant]
    left
    have hsk := hg.same
    let s1 : St := ⟨restr sk.T (o.looksAt all), (st k).H, (st k).nx, (st 0).nt⟩
    have hrel : Rel w0 W0 c s1 a w := by
      refine ⟨v.sit, v.nx, fun t => ?_, v.tsz, v.df⟩
      show Cv w c (tv (restr sk.T (o.looksAt all)) t) _
      rw [tv_restr]
      split
      · rename_i ht; exact hg.cv (hop t ht)
      · exact .un _
    have hev : ∀ x ∈ o.op.operands, ev s1.T x = ev sk.T x := fun x hx => ev_restr fun t ht => looks_of (by rw [← ht]; exact hx)
    by_cases hk2 : kind o.op = 2
    · obtain ⟨hki, hq⟩ := v.loudAt r hi hu hr hk2
      have hidle := r.idle' hki (by omega) hq
      have hw1 : opW P tab s1 o.op (Eqs lv H nx) := opW_same hk3 hw hev (by show (st k).H = sk.H; rw [hsk.1, hidle.1]) (by show (st k).nx = sk.nx; rw [hsk.2.1, hidle.2])
      refine opW_run htab hw1 hrel fun lv' H' nx' x w' c' hE hle hnx hsit hsame hcv => hK _ _ c' (i + 1) ?_
      obtain ⟨rfl, rfl, rfl⟩ := hE
      refine v.step r hi hu hr hle hsame (.inl ⟨hk2, rfl⟩) ?_ ?_ fun d hd => ?_
      · rw [he, hnx]; rfl
      · rw [he]; exact hsit
      · rw [he, hd, tv_put_eq]; exact hcv
    · have hk1 : kind o.op ≤ 1 := by have := kind_le o.op; omega
      have hwid : ∀ id, wid sk.T o.op = some id → hp s1.H id = hp sk.H id := fun id hid => by
        show hp (st k).H id = hp sk.H id
        rw [hsk.1]
        by_cases h1 : kind o.op = 1
        · exact v.readAt r hi hu hr h1 hlog hid
        · exfalso
          have h0 : kind o.op = 0 := by omega
          cases hop' : o.op <;> rw [hop'] at h0 hid <;> simp [kind, wid] at h0 hid
      have hw1 := (opW_read hk1 hw hev hwid).2
      refine opW_run htab hw1 hrel fun lv' H' nx' x w' c' hE hle hnx hsit hsame hcv => hK _ _ c' k ?_
      obtain ⟨rfl, rfl, rfl⟩ := hE
      refine v.step r hi hu hr hle hsame (.inr ⟨hk2, rfl⟩) hnx hsit fun d hd => ?_
      rw [he, hd, tv_put_eq]
      exact hcv
  · have hv := (sc_of hb (hop d (looks_guard hgd hd))).1
    have hwant : ¬ Region.wanted o (yielded all a.tmps) = true := by
      unfold Region.wanted
      rw [hgd]
      cases want <;> simp [yielded_of hd hv]
    rw [if_neg hwant]
    by_cases hk2 : kind o.op = 2
    · obtain ⟨hki, hq⟩ := v.loudAt r hi hu hr hk2
      have hidle := r.idle' hki (by omega) hq
      refine hK _ _ c (i + 1) (v.step r hi hu hr (.refl c) (.refl c w) (.inl ⟨hk2, rfl⟩) ?_ ?_ fun d' hd' => ?_)
      · rw [he]; show c.nx = (st i).nx; rw [hidle.2]; exact v.nx
      · rw [he]; show Sit w0 W0 c (hp (st i).H) w; rw [hidle.1]; exact v.sit
      · rw [he, hd', tv_put_eq]; exact .un _
    · refine hK _ _ c k (v.step r hi hu hr (.refl c) (.refl c w) (.inr ⟨hk2, rfl⟩) v.nx v.sit fun d' hd' => ?_)
      rw [he, hd', tv_put_eq]; exact .un _

theorem mem_ready {listed : Array Bool} (hsz : listed.size = all.size) {i : Nat} : i ∈ Region.ready .any all listed ↔ ∃ o, all[i]? = some o ∧ ¬ li listed i ∧ Ready listed o := by
  unfold Region.ready
  rw [List.mem_filter, List.mem_range]
  constructor
  · rintro ⟨hlt, h⟩
    obtain ⟨o, ho⟩ := there hlt
    rw [Bool.and_eq_true, ho] at h
    refine ⟨o, ho, fun hl => ?_, fun e he hb => ?_⟩
    · unfold li at hl
      have h1 := h.1
      have hlt' : i < listed.size := by omega
      simp [hlt'] at hl h1
      rw [hl] at h1; cases h1
    · have := h.2
      simp only [Option.map_some, Option.getD_some, Array.all_eq_true] at this
      obtain ⟨n, hn, rfl⟩ := List.getElem_of_mem he
      have := this n (by simpa using hn)
      simp only [Array.getElem_toList] at hb
      simpa [hb, li] using this
  · rintro ⟨o, ho, hu, hr⟩
    have hlt := bound ho
    refine ⟨hlt, ?_⟩
    rw [Bool.and_eq_true, ho]
    refine ⟨?_, ?_⟩
    · unfold li at hu
      have hlt' : i < listed.size := by omega
      simp [hlt'] at hu ⊢
      exact hu
    · simp only [Option.map_some, Option.getD_some, Array.all_eq_true]
      intro n hn
      by_cases hb : Region.binds .any o.after[n] = true
      · have := hr o.after[n] (by simp) hb
        unfold li at this
        simp [hb, this]
      · simp [hb]

def undone (all : Array Oper) (listed : Array Bool) : Nat := (List.range all.size).countP fun i => !listed.getD i false

theorem countP_set {listed : Array Bool} {i : Nat} (hi : i < listed.size) (hu : ¬ li listed i) : ∀ (l : List Nat), l.Nodup → i ∈ l → l.countP (fun j => !(listed.setIfInBounds i true).getD j false) + 1 = l.countP fun j => !listed.getD j false
  | [], _, hm => by simp at hm
  | x :: q, hn, hm => by
    have hne : ∀ j, j ≠ i → (listed.setIfInBounds i true).getD j false = listed.getD j false := fun j hj => by
      simp only [Array.getD_eq_getD_getElem?, Array.getElem?_setIfInBounds]
      rw [if_neg (Ne.symm hj)]
    by_cases e : x = i
    · subst e
      have hni : x ∉ q := (List.nodup_cons.1 hn).1
      have h1 : (listed.setIfInBounds x true).getD x false = true := li_set hi |>.2 (.inl rfl)
      have h2 : listed.getD x false = false := by unfold li at hu; simpa using hu
      have h3 : q.countP (fun j => !(listed.setIfInBounds x true).getD j false) = q.countP fun j => !listed.getD j false := by
        refine List.countP_congr fun j hj => ?_
        rw [hne j (fun e => hni (e ▸ hj))]
      simp only [List.countP_cons, h1, h2, h3]
      simp
    · have ih := countP_set hi hu q (List.nodup_cons.1 hn).2 (by
        rcases List.mem_cons.1 hm with h | h
        · exact absurd h.symm e
        · exact h)
      simp only [List.countP_cons, hne x e]
      omega

/-- All are done. -/
theorem Inv.done (r : Run P tab all cf L st) {w0 : World} {W0 : Fr} {c0 : Ctx} {listed : Array Bool} {a : Act} {w : World} {c : Ctx} {k : Nat} (v : Inv all st w0 W0 c0 listed a w c k) (h : ∀ i, i < all.size → li listed i) : Rel w0 W0 c (st all.size) a w := by
  have hidle := r.idle' v.kN (Nat.le_refl _) fun j o hkj hj ho h2 => by
    have := (v.loud j o ho h2).1 (h j hj)
    omega
  refine ⟨?_, ?_, fun t => ?_, ?_, v.df⟩
  · rw [hidle.1]; exact v.sit
  · rw [hidle.2]; exact v.nx
  · by_cases hw : ∃ (j : Nat) (o : Oper), all[j]? = some o ∧ o.dst = some t
    · obtain ⟨j, o, ho, hd⟩ := hw
      exact v.v1 j o ho (h j (bound ho)) t hd _ (bound ho) (Nat.le_refl _)
    · exact v.v2 t (fun j o ho _ hd => hw ⟨j, o, ho, hd⟩) _ (Nat.le_refl _) fun j o ho _ hd => hw ⟨j, o, ho, hd⟩
  · rw [v.tsz, r.nt _ (Nat.le_refl _)]

theorem Inv.any (htab : TabOk P tab) (r : Run P tab all cf L st) {w0 : World} {W0 : Fr} {c0 : Ctx} {Q : Exit → Act → World → Prop} (hQ : ∀ a w c, c0.Le c → Rel w0 W0 c (st all.size) a w → Q .normal a w) :
    ∀ (fuel : Nat) (listed : Array Bool) (a : Act) (w : World) (c : Ctx) (k : Nat), Inv all st w0 W0 c0 listed a w c k → undone all listed ≤ fuel → wpAny P .any all Q fuel listed a w := by
  have hend : ∀ (listed : Array Bool) (a : Act) (w : World) (c : Ctx) (k : Nat), Inv all st w0 W0 c0 listed a w c k → Region.ready .any all listed = [] → Q .normal a w := by
    intro listed a w c k v hempty
    refine hQ a w c v.le (v.done r fun i => ?_)
    induction i using Nat.strongRecOn with
    | ind i ih =>
      intro hi
      obtain ⟨o, ho⟩ := there hi
      by_cases hl : li listed i
      · exact hl
      · exfalso
        have : i ∈ Region.ready .any all listed := (mem_ready v.sz).2 ⟨o, ho, hl, fun e he hb => by
          have := (r.chk.one i o ho).2 e he hb
          exact ih e.on this (by omega)⟩
        rw [hempty] at this
        simp at this
  intro fuel
  induction fuel with
  | zero =>
    intro listed a w c k v hf
    have hr : Region.ready .any all listed = [] := by
      rw [List.eq_nil_iff_forall_not_mem]
      intro i hi
      obtain ⟨o, ho, hu, _⟩ := (mem_ready v.sz).1 hi
      have h0 : undone all listed = 0 := by omega
      unfold undone at h0
      rw [List.countP_eq_zero] at h0
      have := h0 i (List.mem_range.2 (bound ho))
      unfold li at hu
      simp at this hu
      rw [this] at hu; cases hu
    exact ⟨hr, hend listed a w c k v hr⟩
  | succ fuel ih =>
    intro listed a w c k v hf
    refine ⟨hend listed a w c k v, fun i hi => ?_⟩
    obtain ⟨o, ho, hu, hr⟩ := (mem_ready v.sz).1 hi
    refine v.turn htab r ho hu hr fun a' w' c' k' v' => ih _ a' w' c' k' v' ?_
    have := countP_set (i := i) (by rw [v.sz]; exact bound ho) hu (List.range all.size) List.nodup_range (List.mem_range.2 (bound ho))
    unfold undone at hf ⊢
    omega

/-- A world in which one draw more is gone. -/
theorem rel_drew {w0 : World} {W0 : Fr} {c : Ctx} {s : St} {a : Act} {w : World} (hr : Rel w0 W0 c s a w) : Rel w0 W0 c s a { w with drawn := w.drawn + 1 } := by
  obtain ⟨h1, h2⟩ := hr.sit.idle (keep_drew w)
  exact ⟨h1, hr.nx, fun i => (hr.tmp i).mono (.refl c) h2, hr.sz, hr.df⟩

/-- **THE LAW OF A DRAWN REGION.** -/
theorem draw_sound (htab : TabOk P tab) (hm : P.follows .mixedOrders = true) (hchk : chk cf all = true) {s : St} {K : St → Prop} (h : opsD P tab all cf all.toList 0 s [] K) {w0 : World} {W0 : Fr} {c : Ctx} {a : Act} {w : World} (hr : Rel w0 W0 c s a w) {Q : Exit → Act → World → Prop}
    (hn : ∀ s' a' w' c', c.Le c' → Rel w0 W0 c' s' a' w' → K s' → Q .normal a' w') {id : Nat} : (Code.region id all true).wp P Q a w := by
  have hc := chk_ok hchk
  obtain ⟨st, L', h0, hK, hlog, _, hst⟩ := opsD_trace all.toList 0 s [] h (fun o ho => by
    obtain ⟨i, hi, rfl⟩ := List.getElem_of_mem ho
    exact (hc.one i all.toList[i] (by simp)).1)
  have hrun : Run P tab all cf L' st := ⟨hc, hlog, fun i o hi => by
    have hlt := bound hi
    have := hst i (by simpa using hlt)
    have he : all.toList[i]'(by simpa using hlt) = o := by
      rw [Array.getElem?_eq_getElem hlt] at hi
      simpa using hi
    rw [he] at this
    simpa using this⟩
  simp only [Nat.zero_add, Array.length_toList] at hK
  refine wp_region_any hm (Inv.any htab hrun (c0 := c) (w0 := w0) (W0 := W0) (fun a' w' c' hle hrel => hn _ a' w' c' hle hrel hK) all.size (Array.replicate all.size false) a _ c 0 ?_ ?_)
  · have hr' := rel_drew hr
    have hno : ∀ j, ¬ li (Array.replicate all.size false) j := fun j hj => by
      unfold li at hj
      by_cases hlt : j < all.size
      · simp [hlt] at hj
      · simp [hlt] at hj
    refine ⟨by simp, fun j o _ hj => absurd hj (hno j), .refl c, Nat.zero_le _, by rw [h0]; exact hr'.nx, by rw [h0]; exact hr'.sit, fun j o _ _ => ⟨fun h => absurd h (hno j), fun h => by omega⟩, fun j o _ hj => absurd hj (hno j), fun t _ m hm hw => ?_, ?_, hr'.df⟩
    · have := hrun.lasts (a := 0) (t := t) (by rw [h0]; exact hr'.tmp t) m (by omega) fun j o _ h2 ho => hw j o ho (by omega)
      simpa using this
    · rw [h0]; exact hr'.sz
  · unfold undone
    exact Nat.le_trans List.countP_le_length (by simp)
end
end Go.TL
