import Derived.Test.YtjkeoippmlmfbaaGreatDoorG26PpR2D
import Derived.Test.YtjkeoippmlmfbaaGreatDoorG21PlR3M
import Derived.Test.YtjkeoippmlmfbaaGreatDoorG25PpMark
import Derived.Test.YtjkeoippmlmfbaaGreatDoorG27PpR3D
set_option linter.unusedSimpArgs false
set_option linter.unusedVariables false
set_option linter.unusedVariables false
set_option linter.unusedSimpArgs false
namespace Go.TL

end Go.TL
set_option linter.unusedVariables false
set_option linter.unusedSimpArgs false
namespace Go.TL

theorem of_m {β : Type} {f : ByteArray × l1CurT → Option β} {Q : β → Prop} {c : l1CurT} {K : Int} {l : List ByteArray} (h : cur c K) (hK : K ≤ 4611686018427387000) (hn : 1 ≤ l.length ∧ l.length ≤ 1000)
    (hf : ∀ x c',x ∈ l → cur c' (K + 2) → okO Q (f (x,c'))) : okO Q ((spec_l1Cur_of_ow c l).bind f) := by
  unfold spec_l1Cur_of_ow
  refine okO.bind_bind (pick_b h hK (by omega) fun x c' h1 h2 h3 h4 => ?_)
  have := h3 (by omega)
  exact okO.bind_guard ⟨h1,by simpa using this⟩ (okO.bind_some (hf _ _ (nth_mem (by omega)) h4))
theorem mem_small {l : List ByteArray} (h : l.all (fun x => decide (x.size ≤ 100)) = true) {x : ByteArray} (hx : x ∈ l) : x.size ≤ 100 := by
  rw [List.all_eq_true] at h
  simpa using h x hx
theorem small_ok {x : ByteArray} (h : x.size ≤ 100) : ok_S x := by unfold ok_S; omega
end Go.TL
set_option linter.unusedVariables false
set_option linter.unusedSimpArgs false
namespace Go.TL

/-- Timers,whatever the list. -/
theorem tfold_len2 (x : ByteArray) : ∀ (r c : List ByteArray) (p : Bool),(tfold x r p c).2.length + (if (tfold x r p c).1 = true then 0 else 1) ≤ c.length + r.length + 1
  | [],c,p => by unfold tfold; cases p <;> simp
  | y :: r,c,p => by
    unfold tfold
    split
    · have := tfold_len2 x r c p; simp only [List.length_cons]; omega
    · split
      · rename_i h
        have := tfold_true x r (c ++ [x] ++ [y])
        rw [this]
        have hf := List.length_filter_le (fun y => !decide (y = x)) r
        simp only [List.length_append,List.length_cons,List.length_nil,if_true]
        omega
      · have := tfold_len2 x r (c ++ [y]) p
        simp only [List.length_cons,List.length_append,List.length_nil] at this ⊢
        omega
theorem tfold_mem (x : ByteArray) : ∀ (r c : List ByteArray) (p : Bool) (z : ByteArray),z ∈ (tfold x r p c).2 → z ∈ c ∨ z ∈ r ∨ z = x
  | [],c,p,z,h => by unfold tfold at h; exact .inl h
  | y :: r,c,p,z,h => by
    unfold tfold at h
    split at h
    · rcases tfold_mem x r c p z h with e | e | e
      · exact .inl e
      · exact .inr (.inl (List.mem_cons_of_mem _ e))
      · exact .inr (.inr e)
    · split at h
      · rcases tfold_mem x r _ _ z h with e | e | e
        · simp only [List.mem_append,List.mem_singleton] at e
          rcases e with (e | e) | e
          · exact .inl e
          · exact .inr (.inr e)
          · exact .inr (.inl (by simp [e]))
        · exact .inr (.inl (List.mem_cons_of_mem _ e))
        · exact .inr (.inr e)
      · rcases tfold_mem x r _ _ z h with e | e | e
        · simp only [List.mem_append,List.mem_singleton] at e
          rcases e with e | e
          · exact .inl e
          · exact .inr (.inl (by simp [e]))
        · exact .inr (.inl (List.mem_cons_of_mem _ e))
        · exact .inr (.inr e)
set_option maxHeartbeats 1000000 in
theorem timer_loop2 (l : List ByteArray) (x : ByteArray) (hl : l.length ≤ 100) : ∀ (r : List ByteArray) (i : Nat) (p : Bool) (c : List ByteArray),l.drop i = r → i ≤ l.length → c.length ≤ 2 * i →
    loopF (spec_l12Timer_L1 l x) ⟨p,(i : Int),c⟩ = some ⟨(tfold x r p c).1,(tfold x r p c).2⟩ := by
  intro r
  induction r with
  | nil =>
    intro i p c hd hi hc
    have hi' := drop_nil hd hi
    subst hi'
    exact loop_out (by unfold spec_l12Timer_L1; rw [if_neg (by simp)]; rfl)
  | cons y r ih =>
    intro i p c hd hi hc
    obtain ⟨hlt,hy,hr⟩ := drop_cons hd
    have hstep : spec_l12Timer_L1 l x ⟨p,(i : Int),c⟩ = some (.inl (if y = x then ⟨p,((i + 1 : Nat) : Int),c⟩ else if (!p && sLt x y) = true then ⟨true,((i + 1 : Nat) : Int),c ++ [x] ++ [y]⟩ else ⟨p,((i + 1 : Nat) : Int),c ++ [y]⟩)) := by
      unfold spec_l12Timer_L1
      have e1 : wI ((i : Int) + 1) = ((i + 1 : Nat) : Int) := by rw [wI_id (by omega)]; omega
      simp only [Int.toNat_natCast,hy,e1,sGt]
      rw [if_pos (by simp; omega),guard_pos (by omega),sEq]
      by_cases he : y = x
      · rw [if_pos (by simp [he]),if_pos he]
      · rw [if_neg (by simp [he]),if_neg he]
        have hg1 : (c.length + 1) * 16 ≤ 140737488355328 := by omega
        have hg2 : (c.length + 1 + 1) * 16 ≤ 140737488355328 := by omega
        cases p
        · cases h : sLt x y
          · simp [guard_pos hg1]
          · simp [guard_pos hg1,guard_pos hg2]
        · simp [guard_pos hg1]
    rw [loop_on hstep]
    unfold tfold
    by_cases he : y = x
    · rw [if_pos he,if_pos he]; exact ih (i + 1) p c hr (by omega) (by omega)
    · rw [if_neg he,if_neg he]
      split
      · exact ih (i + 1) true _ hr (by omega) (by simp only [List.length_append,List.length_singleton]; omega)
      · exact ih (i + 1) p _ hr (by omega) (by simp only [List.length_append,List.length_singleton]; omega)
abbrev okN (n : Nat) (l : List ByteArray) : Prop := l.length ≤ n ∧ ∀ x ∈ l,x.size ≤ 100
theorem okN_ok {n : Nat} {l : List ByteArray} (h : okN n l) (hn : n ≤ 1000) : ok_LS l := ⟨by have := h.1; omega,fun y hy => small_ok (h.2 y hy)⟩
theorem okN_add {n : Nat} {l : List ByteArray} {x : ByteArray} (h : okN n l) (hx : x.size ≤ 100) : okN (n + 1) (l ++ [x]) :=
  ⟨by have := h.1; simp only [List.length_append,List.length_singleton]; omega,fun y hy => by
    rw [List.mem_append,List.mem_singleton] at hy
    rcases hy with hy | hy
    · exact h.2 y hy
    · rw [hy]; exact hx⟩
theorem okN_up {n m : Nat} {l : List ByteArray} (h : okN n l) (hm : n ≤ m) : okN m l := ⟨Nat.le_trans h.1 hm,h.2⟩
theorem timer_total {l : List ByteArray} {x : ByteArray} {n : Nat} (h : okN n l) (hn : n ≤ 60) (hx : x.size ≤ 100) : okO (okN (n + 1)) (spec_l12Timer l x) := by
  unfold spec_l12Timer
  obtain ⟨k,hk,hp⟩ := spec_l12At_ge l x (by have := h.1; omega)
  rw [hk]
  refine okO.bind_some ?_
  have h1 := h.1
  have := timer_loop2 l x (by omega) l 0 (decide (k ≥ 0)) [] rfl (by omega) (by simp)
  rw [show ((0 : Nat) : Int) = 0 from rfl] at this
  rw [this]
  have hlen := tfold_len2 x l [] (decide (k ≥ 0))
  have hmem := tfold_mem x l [] (decide (k ≥ 0))
  simp only [List.length_nil,Nat.zero_add] at hlen
  have hsm : ∀ z ∈ (tfold x l (decide (k ≥ 0)) []).2,z.size ≤ 100 := fun z hz => by
    rcases hmem z hz with e | e | e
    · simp at e
    · exact h.2 z e
    · rw [e]; exact hx
  refine okO.bind_some (okO.ite (fun hc => ?_) (fun hc => ?_))
  · have hf : (tfold x l (decide (k ≥ 0)) []).1 = false := by simpa using hc
    rw [hf] at hlen
    simp only [Bool.false_eq_true,if_false] at hlen
    exact okO.guard (by simp only; omega) (okO.some ⟨by simp only [List.length_append,List.length_singleton]; omega,fun z hz => by
      rw [List.mem_append,List.mem_singleton] at hz
      rcases hz with hz | hz
      · exact hsm z hz
      · rw [hz]; exact hx⟩)
  · exact okO.some ⟨by split at hlen <;> (simp only; omega),hsm⟩

/-- States that draws give. -/
abbrev okSt (n : Nat) (s : StateT) : Prop := okN n s.Signals ∧ okN n s.Timers ∧ ok_I s.Next
theorem wI_range (n : Int) : ok_I (wI n) := by
  unfold ok_I wI
  split <;> omega
theorem apply_total {s : StateT} {e : EventT} {n : Nat} (hs : okSt n s) (hn : n ≤ 50) (he : e.Name.size ≤ 100) : okO (fun r => okSt (n + 1) r.1) (spec_l12Apply s e) := by
  obtain ⟨o1,o2,o3⟩ := hs
  have l1 := o1.1
  have l2 := o2.1
  have up : okSt (n + 1) s := ⟨okN_up o1 (by omega),okN_up o2 (by omega),o3⟩
  unfold spec_l12Apply
  rw [spec_GoodEvent_eq e (small_ok he)]
  refine okO.bind (P := fun _ => True) ?_ fun p _ => ?_
  · refine okO.bind_some (okO.ite (fun _ => okO.some trivial) (fun _ => okO.ite (fun _ => okO.some trivial) (fun _ => okO.ite (fun _ => okO.some trivial) (fun _ => okO.some trivial))))
  refine okO.ite (fun _ => okO.some up) (fun _ => ?_)
  have hown : spec_l12Own s = some s := by
    unfold spec_l12Own
    rw [guard_pos (by omega),guard_pos (by omega)]
    simp only [List.nil_append]
  rw [hown]
  refine okO.bind_some ?_
  refine okO.bind (P := fun q => match q with | .inl p => okN (n + 1) p.c2 ∧ okN (n + 1) p.c3 | .inr r => okSt (n + 1) r.1) ?_ fun q hq => ?_
  · refine okO.ite (fun _ => okO.some ⟨up.1,up.2.1⟩) (fun _ => okO.ite (fun _ => ?_) (fun _ => okO.ite (fun _ => okO.some ⟨up.1,up.2.1⟩) (fun _ => okO.ite (fun _ => ?_) (fun _ => okO.ite (fun _ => okO.ite (fun _ => okO.some up) (fun _ => okO.some ⟨up.1,up.2.1⟩)) (fun _ => okO.some ⟨up.1,⟨by simp,fun x hx => by simp at hx⟩⟩)))))
    · obtain ⟨k,hk,_⟩ := spec_l12At_ge s.Signals e.Name (by omega)
      rw [hk]
      refine okO.bind (P := fun _ => True) (okO.bind_some (okO.ite (fun _ => okO.some trivial) (fun _ => okO.some trivial))) fun p _ => ?_
      exact okO.ite (fun _ => okO.some up) (fun _ => okO.guard (by omega) (okO.some ⟨okN_add o1 he,up.2.1⟩))
    · exact okO.bind (timer_total o2 (by omega) he) fun t ht => okO.some ⟨up.1,ht⟩
  · cases q with
    | inl p =>
      obtain ⟨q1,q2⟩ := hq
      dsimp only
      rw [spec_GoodState_eq _ (okN_ok q1 (by omega)) (okN_ok q2 (by omega))]
      exact okO.bind_some (okO.some ⟨q1,q2,wI_range _⟩)
    | inr r => exact okO.some hq

theorem among_m {β : Type} {f : Int × l1CurT → Option β} {Q : β → Prop} {c : l1CurT} {K : Int} {l : List Int} (h : cur c K) (hK : K ≤ 4611686018427387000) (hn : 1 ≤ l.length ∧ l.length ≤ 1000)
    (hf : ∀ x c',x ∈ l → cur c' (K + 2) → okO Q (f (x,c'))) : okO Q ((spec_l1Cur_among_ow c l).bind f) := by
  unfold spec_l1Cur_among_ow
  refine okO.bind_bind (pick_b h hK (by omega) fun x c' h1 h2 h3 h4 => ?_)
  have := h3 (by omega)
  exact okO.bind_guard ⟨h1,by simpa using this⟩ (okO.bind_some (hf _ _ (nth_mem (by omega)) h4))
theorem mem_int {l : List Int} (h : l.all (fun x => decide (-9223372036854775808 ≤ x ∧ x ≤ 9223372036854775807)) = true) {x : Int} (hx : x ∈ l) : ok_I x := by
  rw [List.all_eq_true] at h
  have h1 := of_decide_eq_true (h x hx)
  exact ⟨h1.1,h1.2⟩
theorem name_b {β : Type} {f : ByteArray × l1CurT → Option β} {Q : β → Prop} {c : l1CurT} {K : Int} (h : cur c K) (hK : K ≤ 4611686018427387000) (hf : ∀ x c',x.size ≤ 100 → cur c' (K + 2) → okO Q (f (x,c'))) : okO Q ((spec_l1Cur_eventName_o c).bind f) := by
  unfold spec_l1Cur_eventName_o
  refine okO.bind_bind (of_m h hK (by simp) fun x c' hx hc => okO.bind_some (hf _ _ (mem_small (by decide) hx) hc))
abbrev okE (e : EventT) : Prop := ok_I e.Id ∧ ok_I e.Version ∧ ok_I e.Kind ∧ e.Name.size ≤ 100
theorem okE_ok {e : EventT} (h : okE e) : ok_Event e := ⟨h.1,h.2.1,h.2.2.1,small_ok h.2.2.2⟩
theorem event_ok {c : l1CurT} {K : Int} (h : cur c K) (hK : K ≤ 4611686018427385000) : okO (fun r => okE r.1 ∧ cur r.2 (K + 20)) (spec_l1Cur_event_o c) := by
  unfold spec_l1Cur_event_o
  refine pick_b h (by omega) (by omega) fun x1 c1 p1 _ q1 h1 => ?_
  refine pick_b h1 (by omega) (by omega) fun x2 c2 p2 _ q2 h2 => ?_
  refine pick_b h2 (by omega) (by omega) fun x3 c3 p3 _ q3 h3 => ?_
  refine of_m h3 (by omega) (by simp) fun t c4 ht h4 => ?_
  refine pick_b h4 (by omega) (by omega) fun x5 c5 p5 _ q5 h5 => ?_
  have hsz : t.size ≤ 100 := mem_small (by decide) ht
  have q2 := q2 (by omega)
  have i2 : ok_I x2 := ⟨by omega,by omega⟩
  refine okO.ite (fun _ => ?_) (fun _ => okO.ite (fun _ => ?_) (fun _ => okO.ite (fun _ => ?_) (fun _ => okO.ite (fun _ => ?_) (fun _ => okO.some ⟨⟨wI_range _,i2,wI_range _,hsz⟩,h5.up (by omega)⟩))))
  · exact among_m h5 (by omega) (by simp) fun y c6 hy h6 => okO.some ⟨⟨mem_int (by decide) hy,i2,wI_range _,hsz⟩,h6.up (by omega)⟩
  · exact among_m h5 (by omega) (by simp) fun y c6 hy h6 => okO.some ⟨⟨wI_range _,i2,mem_int (by decide) hy,hsz⟩,h6.up (by omega)⟩
  · exact of_m h5 (by omega) (by simp) fun y c6 hy h6 => okO.some ⟨⟨wI_range _,i2,wI_range _,mem_small (by decide) hy⟩,h6.up (by omega)⟩
  · exact among_m h5 (by omega) (by simp) fun y c6 hy h6 => okO.some ⟨⟨wI_range _,mem_int (by decide) hy,wI_range _,hsz⟩,h6.up (by omega)⟩
abbrev okH (n : Nat) (l : List EventT) : Prop := l.length ≤ n ∧ ∀ e ∈ l,okE e
theorem okH_add {n : Nat} {l : List EventT} {e : EventT} (h : okH n l) (he : okE e) : okH (n + 1) (l ++ [e]) :=
  ⟨by have := h.1; simp only [List.length_append,List.length_singleton]; omega,fun y hy => by
    rw [List.mem_append,List.mem_singleton] at hy
    rcases hy with hy | hy
    · exact h.2 y hy
    · rw [hy]; exact he⟩
theorem okH_up {n m : Nat} {l : List EventT} (h : okH n l) (hm : n ≤ m) : okH m l := ⟨Nat.le_trans h.1 hm,h.2⟩
theorem okH_ok {n : Nat} {l : List EventT} (h : okH n l) (hn : n ≤ 1000) : ok_LEvent l := ⟨by have := h.1; omega,fun y hy => okE_ok (h.2 y hy)⟩
set_option maxHeartbeats 1000000 in
theorem history_ok {c : l1CurT} {K : Int} (h : cur c K) (h0 : 0 ≤ K) (hK : K ≤ 4611686018427380000) : okO (fun r => okH 13 r.1 ∧ cur r.2 (K + 200)) (spec_l1Cur_history_o c) := by
  unfold spec_l1Cur_history_o spec_NewState
  refine okO.bind_some ?_
  refine pick_b h (by omega) (by omega) fun x1 c1 p1 _ q1 h1 => ?_
  refine okO.bind (P := fun p => okH 12 p.c1 ∧ cur ⟨p.b0_0,p.b0_1,p.b0_2⟩ (K + 170)) ?_ fun p ⟨m1,m2⟩ => ?_
  · refine pick_b h1 (by omega) (by omega) fun x2 c2 p2 _ q2 h2 => ?_
    have q2 := q2 (by omega)
    refine okO.bind (P := fun y => okH 12 y.c1 ∧ cur ⟨y.b0_0,y.b0_1,y.b0_2⟩ (K + 170)) ?_ fun y hy => okO.some hy
    refine okO.loop (fun g => 0 ≤ g.t6 ∧ g.t6 ≤ 11 ∧ okH (12 - g.t6).toNat g.c1 ∧ okSt (12 - g.t6).toNat ⟨g.b2_0,g.b2_1,g.b2_2,g.b2_3,g.b2_4,g.b2_5⟩ ∧ cur ⟨g.b0_0,g.b0_1,g.b0_2⟩ (K + 4 + 12 * (12 - g.t6))) (fun g => g.t6.toNat)
      ⟨p2,by simp only; omega,⟨by simp,fun e he => by simp at he⟩,⟨⟨by simp,fun e he => by simp at he⟩,⟨by simp,fun e he => by simp at he⟩,⟨by simp,by simp⟩⟩,h2.up (by simp only; omega)⟩ fun g ⟨g1,g2,g3,g4,g5⟩ => ?_
    unfold spec_l1Cur_history_o_L1
    refine okO.ite (fun hc => ?_) (fun hc => okO.some ⟨okH_up g3 (by omega),g5.up (by omega)⟩)
    have hc' : g.t6 > 0 := by simpa using hc
    have hw : wI (g.t6 - 1) = g.t6 - 1 := wI_id (by omega)
    refine pick_b g5 (by omega) (by omega) fun x3 c3 p3 _ q3 h3 => ?_
    refine pick_b h3 (by omega) (by omega) fun x4 c4 p4 _ q4 h4 => ?_
    refine among_m h4 (by omega) (by simp) fun y5 c5 hy5 h5 => ?_
    refine name_b h5 (by omega) fun t6 c6 ht6 h6 => ?_
    refine okO.bind (P := fun p => ok_I p.b3_2) ?_ fun p hp => ?_
    · exact okO.ite (fun _ => okO.some ⟨by simp,by simp⟩) (fun _ => okO.some (mem_int (by decide) hy5))
    have hev : okE ⟨g.b2_1,(wI (g.t5 + (wI (x3 * x4)))),p.b3_2,t6⟩ := ⟨g4.2.2,wI_range _,hp,ht6⟩
    refine okO.bind (apply_total g4 (by omega) ht6) fun r hr => ?_
    refine okO.bind (P := fun q => cur ⟨q.b0_0,q.b0_1,q.b0_2⟩ (K + 4 + 12 * (12 - g.t6) + 10)) ?_ fun q hq => ?_
    · exact okO.ite (fun _ => okO.some (h6.up (by omega))) (fun _ => one_b h6 (by omega) (by omega) fun b c7 h7 => okO.some (h7.up (by omega)))
    have e12 : (12 - (g.t6 - 1)).toNat = (12 - g.t6).toNat + 1 := by omega
    have hcur : cur ⟨q.b0_0,q.b0_1,q.b0_2⟩ (K + 4 + 12 * (12 - (g.t6 - 1))) := hq.up (by omega)
    have hgl := g3.1
    refine okO.ite (fun _ => ?_) (fun _ => ?_)
    · refine okO.guard (by omega) ?_
      have hadd := okH_add g3 hev
      refine okO.ite (fun _ => okO.ite (fun _ => okO.some ⟨okH_up hadd (by omega),hq.up (by omega)⟩) (fun _ => okO.some ?_)) (fun _ => okO.some ?_)
      · simp only [hw]
        exact ⟨⟨by omega,by omega,by rw [e12]; exact hadd,by rw [e12]; exact hr,hcur⟩,by omega⟩
      · simp only [hw]
        exact ⟨⟨by omega,by omega,by rw [e12]; exact hadd,by rw [e12]; exact hr,hcur⟩,by omega⟩
    · have hkeep : okSt (12 - (g.t6 - 1)).toNat ⟨g.b2_0,g.b2_1,g.b2_2,g.b2_3,g.b2_4,g.b2_5⟩ := ⟨okN_up g4.1 (by omega),okN_up g4.2.1 (by omega),g4.2.2⟩
      refine okO.ite (fun _ => okO.ite (fun _ => okO.some ⟨okH_up g3 (by omega),hq.up (by omega)⟩) (fun _ => okO.some ?_)) (fun _ => okO.some ?_)
      · simp only [hw]
        exact ⟨⟨by omega,by omega,okH_up g3 (by omega),hkeep,hcur⟩,by omega⟩
      · simp only [hw]
        exact ⟨⟨by omega,by omega,okH_up g3 (by omega),hkeep,hcur⟩,by omega⟩
  refine okO.bind (P := fun q => cur ⟨q.b0_0,q.b0_1,q.b0_2⟩ (K + 175) ∧ (q.t68 = true → 0 < p.c1.length)) ?_ fun q ⟨n1,n2⟩ => ?_
  · refine okO.ite (fun hc => ?_) (fun _ => okO.some ⟨m2.up (by omega),fun h => by cases h⟩)
    have hc' : 0 < p.c1.length := by
      have := of_decide_eq_true hc
      omega
    exact one_b m2 (by omega) (by omega) fun b c2 h2 => okO.some ⟨h2.up (by omega),fun _ => hc'⟩
  have hl := m1.1
  refine okO.ite (fun hc => ?_) (fun _ => okO.some ⟨okH_up m1 (by omega),n1.up (by omega)⟩)
  have hpos := n2 hc
  refine pick_b n1 (by omega) (by omega) fun x5 c5 p5 _ q5 h5 => ?_
  have q5 := q5 (by omega)
  refine okO.bind (event_ok h5 (by omega)) fun e ⟨he,hce⟩ => okO.guard ⟨p5,q5⟩ (okO.some ⟨⟨by rw [List.length_set]; omega,fun y hy => ?_⟩,hce.up (by omega)⟩)
  rcases List.mem_or_eq_of_mem_set hy with hy | hy
  · exact m1.2 y hy
  · rw [hy]; exact he
theorem goodSt_small {s : StateT} (h : goodS s = true) : okSt 30 s := by
  obtain ⟨hN,hD,hS,hl1,hl2⟩ := goodS_num h
  exact ⟨⟨okL_len hl1,fun x hx => by have := okL_mem hl1 hx; omega⟩,⟨okL_len hl2,fun x hx => by have := okL_mem hl2 hx; omega⟩,⟨by omega,by omega⟩⟩
end Go.TL
