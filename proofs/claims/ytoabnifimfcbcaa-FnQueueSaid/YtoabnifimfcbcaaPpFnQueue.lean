/- The law FnQueue. -/
import Derived.Test.YtoabnifimfcbcaaPpPlayQ2
import Derived.Test.YtoabnifimfcbcaaPpBreaker
set_option linter.unusedVariables false
set_option linter.unusedSimpArgs false
namespace Go.TL

theorem sameTexts_eq (a b : List ByteArray) (ha1 : a.length ≤ 9223372036854775807) : laws_sameTexts a b = some (decide (a = b)) := by
  unfold laws_sameTexts
  by_cases hl : a.length = b.length
  · rw [if_neg (by simp [hl])]
    have key := eq_loop (step := laws_sameTexts_L1 a b) (fun i => (⟨i⟩ : laws_sameTexts_G1)) a b hl (fun i hi => ?_) ?_
    · rw [key]; by_cases h : a = b <;> simp [h]
    · unfold laws_sameTexts_L1
      simp (disch := omega) only [decide_eq_true_eq, if_pos, guard_pos, Int.toNat_natCast, wI_id]
      rw [sEq]
      by_cases h : nth a i = nth b i <;> simp [h]
    · unfold laws_sameTexts_L1
      rw [if_neg (by simp)]
  · rw [if_pos (by simp; omega)]
    simp [show a ≠ b from fun h => hl (by rw [h])]
theorem samePackets_eq (a : List PacketT) (ha1 : a.length ≤ 9223372036854775807) : laws_samePackets a a = some true := by
  unfold laws_samePackets
  rw [if_neg (by simp)]
  have key := eq_loop (step := laws_samePackets_L1 a a) (fun i => (⟨i⟩ : laws_samePackets_G1)) a a rfl (fun i hi => ?_) ?_
  · rw [key]; simp
  · unfold laws_samePackets_L1
    simp (disch := omega) only [decide_eq_true_eq, if_pos, guard_pos, Int.toNat_natCast, wI_id]
    simp
  · unfold laws_samePackets_L1
    rw [if_neg (by simp)]

/-! ### what is sent -/
def endQ : List LineStepT → QueueT → QueueT
  | [], q => q
  | s :: r, q => endQ r (stepP q s).1
def didL : List LineStepT → QueueT → List Bool
  | [], _ => []
  | s :: r, q => (stepP q s).2 :: didL r (stepP q s).1
theorem play_eq : ∀ (l : List LineStepT) (q : QueueT) (d : List Bool), playP l q d = (endQ l q, d ++ didL l q)
  | [], q, d => by simp [playP, endQ, didL]
  | s :: r, q, d => by
    show playP r (stepP q s).1 (d ++ [(stepP q s).2]) = _
    rw [play_eq r]
    simp [endQ, didL]
theorem did_len : ∀ (l : List LineStepT) (q : QueueT), (didL l q).length = l.length
  | [], q => rfl
  | s :: r, q => by simp [didL, did_len r]
theorem end_good : ∀ (l : List LineStepT) {q : QueueT}, GQ q → GQ (endQ l q)
  | [], q, h => h
  | s :: r, q, h => end_good r (step_good h s)
theorem put_sent (q : QueueT) (p : PacketT) : (putP q p).1.Sent = q.Sent ∧ (putP q p).1.Got = q.Got ∧ (putP q p).1.Base = q.Base := by
  unfold putP; split <;> exact ⟨rfl, rfl, rfl⟩
theorem took_keeps (q : QueueT) (p : PacketT) (l : List PacketT) : (tookP q p l).Sent = q.Sent ∧ q.Got.length ≤ (tookP q p l).Got.length ∧ q.Base ≤ (tookP q p l).Base := by
  unfold tookP
  split
  · exact ⟨rfl, Nat.le_refl _, by simp only; omega⟩
  split
  · obtain ⟨h1, h2, h3⟩ := put_sent ⟨q.Window, q.Sent, q.Base, q.Got ++ [p.Text], l⟩ ⟨true, ((q.Got.length + 1 : Nat) : Int), ByteArray.empty⟩
    exact ⟨h1, by rw [h2]; simp, by rw [h3]; exact Int.le_refl _⟩
  · obtain ⟨h1, h2, h3⟩ := put_sent ⟨q.Window, q.Sent, q.Base, q.Got, l⟩ ⟨true, ((q.Got.length : Nat) : Int), ByteArray.empty⟩
    exact ⟨h1, by rw [h2]; exact Nat.le_refl _, by rw [h3]; exact Int.le_refl _⟩
theorem step_mono (q : QueueT) (s : LineStepT) : q.Got.length ≤ (stepP q s).1.Got.length ∧ q.Base ≤ (stepP q s).1.Base ∧ (¬ s.Kind = 1 → (stepP q s).1.Sent = q.Sent) ∧
    (s.Kind = 1 → (stepP q s).1.Sent = if (stepP q s).2 = true then q.Sent ++ [s.Text] else q.Sent) := by
  unfold stepP
  split
  · rename_i c1
    refine ⟨?_, ?_, fun h => absurd c1 h, fun _ => ?_⟩ <;> split <;> simp
  rename_i c1
  have z : s.Kind = 1 → False := fun h => c1 h
  split
  · split
    · obtain ⟨h1, h2, h3⟩ := put_sent q ⟨false, s.K, nth q.Sent s.K.toNat⟩
      exact ⟨by rw [h2]; exact Nat.le_refl _, by rw [h3]; exact Int.le_refl _, fun _ => h1, fun h => (z h).elim⟩
    · exact ⟨Nat.le_refl _, Int.le_refl _, fun _ => rfl, fun h => (z h).elim⟩
  split
  · split
    · obtain ⟨h1, h2, h3⟩ := put_sent q (nth q.Line s.K.toNat)
      exact ⟨by rw [h2]; exact Nat.le_refl _, by rw [h3]; exact Int.le_refl _, fun _ => h1, fun h => (z h).elim⟩
    split
    · obtain ⟨h1, h2, h3⟩ := took_keeps q (nth q.Line s.K.toNat) (without q.Line s.K.toNat)
      exact ⟨h2, h3, fun _ => h1, fun h => (z h).elim⟩
    split
    · exact ⟨Nat.le_refl _, Int.le_refl _, fun _ => rfl, fun h => (z h).elim⟩
    · exact ⟨Nat.le_refl _, Int.le_refl _, fun _ => rfl, fun h => (z h).elim⟩
  · exact ⟨Nat.le_refl _, Int.le_refl _, fun _ => rfl, fun h => (z h).elim⟩

theorem sent_loop (w : Int) (l : List LineStepT) (p : QueueT × List Bool × Bool) (hl : l.length ≤ 200) (q0 : QueueT) (h0 : GQ q0) (hs0 : q0.Sent = []) (hp : p.2.1 = didL l q0) :
    loopF (laws_FnQueue_L1 (w, l) p) ⟨0, []⟩ = some ⟨(endQ l q0).Sent⟩ := by
  have key : ∀ (m i : Nat) (q : QueueT), i + m = l.length → GQ q → (didL l q0).drop i = didL (l.drop i) q → loopF (laws_FnQueue_L1 (w, l) p) ⟨i, q.Sent⟩ = some ⟨(endQ (l.drop i) q).Sent⟩ := by
    intro m
    induction m with
    | zero =>
      intro i q h hq _
      have e : i = l.length := by omega
      subst e
      refine loop_out ?_
      unfold laws_FnQueue_L1
      rw [if_neg (by simp), List.drop_length]
      rfl
    | succ m ih =>
      intro i q h hq hd
      have hi : i < l.length := by omega
      have hdl : i < (didL l q0).length := by rw [did_len]; exact hi
      have hcons := List.drop_eq_getElem_cons hi
      have hcons2 := List.drop_eq_getElem_cons hdl
      rw [hcons, hcons2] at hd
      obtain ⟨d1, d2⟩ := List.cons.inj (show (didL l q0)[i] :: (didL l q0).drop (i + 1) = (stepP q l[i]).2 :: didL (l.drop (i + 1)) (stepP q l[i]).1 from hd)
      have hnd : nth p.2.1 i = (stepP q l[i]).2 := by rw [hp, nth_eq hdl, d1]
      have hnl : nth l i = l[i] := nth_eq hi
      have hpl : i < p.2.1.length := by rw [hp]; exact hdl
      obtain ⟨_, _, hsl, _, _⟩ := hq.small
      have hnext := ih (i + 1) _ (by omega) (step_good hq l[i]) d2
      obtain ⟨_, _, m3, m4⟩ := step_mono q l[i]
      have hend : endQ (l.drop i) q = endQ (l.drop (i + 1)) (stepP q l[i]).1 := by rw [hcons]; rfl
      rw [hend, ← hnext]
      refine loop_on ?_
      unfold laws_FnQueue_L1
      simp only
      have e4 : wI ((i : Int) + 1) = ((i + 1 : Nat) : Int) := by rw [wI_id (by omega)]; omega
      rw [if_pos (by simp; omega), guard_pos (by omega), guard_pos (by omega)]
      simp only [Int.toNat_natCast, hnd, hnl, e4]
      by_cases hc : (stepP q l[i]).2 = true
      · rw [if_pos hc]
        simp only [Option.bind_some]
        by_cases hk : l[i].Kind = 1
        · rw [if_pos (by simpa using hk), guard_pos (by omega), m4 hk, if_pos hc]
        · rw [if_neg (by simpa using hk), m3 hk]
      · rw [if_neg hc]
        simp only [Option.bind_some]
        rw [if_neg (by simp), step_no hc]
  have := key l.length 0 q0 (by omega) h0 rfl
  rw [hs0] at this
  simpa using this

/-! ### draws -/
theorem among_b {β : Type} {f : Int × l1CurT → Option β} {Q : β → Prop} {c : l1CurT} {K : Int} {l : List Int} (h : cur c K) (hK : K ≤ 4611686018427387000) (hn : 1 ≤ l.length ∧ l.length ≤ 1000)
    (hf : ∀ x c', cur c' (K + 2) → okO Q (f (x, c'))) : okO Q ((spec_l1Cur_among_ow c l).bind f) := by
  unfold spec_l1Cur_among_ow
  refine okO.bind_bind (pick_b h hK (by omega) fun x c' h1 h2 h3 h4 => ?_)
  have := h3 (by omega)
  exact okO.bind_guard ⟨h1, by simpa using this⟩ (okO.bind_some (hf _ _ h4))
theorem of_b {β : Type} {f : ByteArray × l1CurT → Option β} {Q : β → Prop} {c : l1CurT} {K : Int} {l : List ByteArray} (h : cur c K) (hK : K ≤ 4611686018427387000) (hn : 1 ≤ l.length ∧ l.length ≤ 1000)
    (hf : ∀ x c', cur c' (K + 2) → okO Q (f (x, c'))) : okO Q ((spec_l1Cur_of_ow c l).bind f) := by
  unfold spec_l1Cur_of_ow
  refine okO.bind_bind (pick_b h hK (by omega) fun x c' h1 h2 h3 h4 => ?_)
  have := h3 (by omega)
  exact okO.bind_guard ⟨h1, by simpa using this⟩ (okO.bind_some (hf _ _ h4))

theorem lineSteps_ok {c : l1CurT} {K : Int} (h : cur c K) (hK : K ≤ 4611686018427380000) : okO (fun r => r.1.length ≤ 201 ∧ cur r.2 (K + 4000)) (spec_l1Cur_lineSteps_o c) := by
  unfold spec_l1Cur_lineSteps_o
  refine pick_b h (by omega) (by omega) fun x1 c1 p1 _ q1 h1 => ?_
  have q1 := q1 (by omega)
  refine okO.bind (P := fun p => 0 ≤ p.t4 ∧ p.t4 ≤ 201 ∧ cur ⟨p.b0_0, p.b0_1, p.b0_2⟩ (K + 10)) ?_ fun p ⟨p0, p2, hc⟩ => ?_
  · refine one_b h1 (by omega) (by omega) fun b c2 h2 => okO.ite (fun _ => ?_) (fun _ => okO.some ⟨p1, by simp only; omega, h2.up (by omega)⟩)
    refine pick_b h2 (by omega) (by omega) fun x3 c3 p3 _ q3 h3 => okO.some ?_
    have q3 := q3 (by omega)
    have hw : wI (180 + x3) = 180 + x3 := wI_id (by omega)
    exact ⟨by simp only [hw]; omega, by simp only [hw]; omega, h3.up (by omega)⟩
  refine okO.bind (P := fun y => y.c1.length ≤ 201 ∧ cur ⟨y.b0_0, y.b0_1, y.b0_2⟩ (K + 4000)) ?_ fun y hy => okO.some hy
  refine okO.loop (fun g => 0 ≤ g.t4 ∧ g.t4 ≤ 201 ∧ (g.c1.length : Int) + g.t4 ≤ 201 ∧ 0 ≤ g.t5 ∧ g.t5 + g.t4 ≤ 201 ∧ cur ⟨g.b0_0, g.b0_1, g.b0_2⟩ (K + 10 + 15 * (201 - g.t4))) (fun g => g.t4.toNat)
    ⟨p0, p2, by simpa using p2, by simp, by simpa using p2, hc.up (by simp only; omega)⟩ fun g ⟨g1, g2, g3, g4, g5, g6⟩ => ?_
  unfold spec_l1Cur_lineSteps_o_L1
  refine okO.ite (fun hc => ?_) (fun hc => okO.some ⟨by simp only; omega, g6.up (by omega)⟩)
  have hc' : g.t4 > 0 := by simpa using hc
  refine among_b g6 (by omega) (by decide) fun k c2 h2 => ?_
  refine pick_b h2 (by omega) (by omega) fun x3 c3 p3 _ q3 h3 => ?_
  refine okO.bind (P := fun p => 0 ≤ p.t5 ∧ p.t5 ≤ g.t5 + 1 ∧ cur ⟨p.b0_0, p.b0_1, p.b0_2⟩ (K + 10 + 15 * (201 - g.t4) + 6)) ?_ fun p ⟨m1, m2, m3⟩ => ?_
  · refine okO.ite (fun _ => ?_) (fun _ => okO.some ⟨g4, by simp only; omega, h3.up (by omega)⟩)
    refine of_b h3 (by omega) (by simp) fun t c4 h4 => okO.some ?_
    have hw : wI (g.t5 + 1) = g.t5 + 1 := wI_id (by omega)
    exact ⟨by simp only [hw]; omega, by simp only [hw]; omega, h4.up (by omega)⟩
  refine okO.bind (P := fun p' => cur ⟨p'.b0_0, p'.b0_1, p'.b0_2⟩ (K + 10 + 15 * (201 - g.t4) + 8)) ?_ fun p' n1 => ?_
  · refine okO.ite (fun _ => ?_) (fun _ => okO.some (m3.up (by omega)))
    have hw : wI (p.t5 + 2) = p.t5 + 2 := wI_id (by omega)
    rw [hw]
    exact pick_b m3 (by omega) (by omega) fun x5 c5 _ _ _ h5 => okO.some (h5.up (by omega))
  have hw : wI (g.t4 - 1) = g.t4 - 1 := wI_id (by omega)
  have core : ∀ (s : LineStepT) (c' : l1CurT), cur c' (K + 10 + 15 * (201 - g.t4) + 12) →
      (0 ≤ wI (g.t4 - 1) ∧ wI (g.t4 - 1) ≤ 201 ∧ ((g.c1 ++ [s]).length : Int) + wI (g.t4 - 1) ≤ 201 ∧ 0 ≤ p.t5 ∧ p.t5 + wI (g.t4 - 1) ≤ 201 ∧ cur ⟨c'.code, c'.at_, c'.seed⟩ (K + 10 + 15 * (201 - wI (g.t4 - 1)))) ∧ (wI (g.t4 - 1)).toNat < g.t4.toNat := fun s c' h' => by
    simp only [hw, List.length_append, List.length_cons, List.length_nil]
    exact ⟨⟨by omega, by omega, by omega, m1, by omega, h'.up (by omega)⟩, by omega⟩
  refine one_b n1 (by omega) (by omega) fun b c6 h6 => okO.ite (fun _ => ?_) (fun _ => okO.guard (by omega) (okO.some (core _ c6 (h6.up (by omega)))))
  exact pick_b h6 (by omega) (by omega) fun x7 c7 _ _ _ h7 => okO.guard (by omega) (okO.some (core _ c7 (h7.up (by omega))))

theorem drawPlayQ_ok {code : List Int} (h : ∀ y ∈ code, 0 ≤ y ∧ y ≤ 255) : ∃ w l, spec_DrawPlayQueue code = some (w, l) := by
  have key : okO (fun _ => True) (spec_DrawPlayQueue code) := by
    unfold spec_DrawPlayQueue
    refine pick_b (cur0 h) (by omega) (by omega) fun x c _ _ _ h1 => ?_
    exact okO.bind (lineSteps_ok h1 (by omega)) fun r _ => okO.some trivial
  obtain ⟨⟨w, l⟩, e, _⟩ := key
  exact ⟨w, l, e⟩

def smallLens (q : QueueT) : Prop := q.Sent.length ≤ 2000 ∧ q.Got.length ≤ 2000 ∧ q.Line.length ≤ 2000
theorem queue_ok {c : l1CurT} {K : Int} (h : cur c K) (hK : K ≤ 4611686018427370000) : okO (fun r => smallLens r.1 ∧ cur r.2 (K + 5000)) (spec_l1Cur_queue_o c) := by
  unfold spec_l1Cur_queue_o
  refine okO.bind (lineSteps_ok h (by omega)) fun r ⟨hr, hc⟩ => ?_
  have sw : ∀ (q : QueueT × List Bool × Bool) (c1 : l1CurT), q.1.Sent.length ≤ 1001 → q.1.Got.length ≤ 1001 → q.1.Line.length ≤ 1002 → cur c1 (K + 4002) → okO (fun r => smallLens r.1 ∧ cur r.2 (K + 5000))
      ((spec_l1Cur_pick_o c1 40).bind fun c378 =>
    (if (c378.1 == 0) = true then
      ((spec_l1Cur_pick_o c378.2 3).bind fun c379 =>
      some ((⟨q.1.Window, q.1.Sent, (wI (q.1.Base + (wI (c379.1 - 1)))), q.1.Got, q.1.Line⟩ : QueueT), c379.2))
    else
      (if (c378.1 == 1) = true then
        (guardO ((q.1.Got.length + 1) * 16 ≤ 140737488355328) <|
        some ((⟨q.1.Window, q.1.Sent, q.1.Base, (q.1.Got ++ ([(⟨#[122]⟩ : ByteArray)])), q.1.Line⟩ : QueueT), c378.2))
      else
        (if (c378.1 == 2) = true then
          ((spec_l1Cur_pick_o c378.2 9).bind fun c380 =>
          ((spec_l1Cur_one_o c380.2 2).bind fun c381 =>
          (guardO ((q.1.Line.length + 1) * 32 ≤ 140737488355328) <|
          some ((⟨q.1.Window, q.1.Sent, q.1.Base, q.1.Got, (q.1.Line ++ ([(⟨c381.1, c380.1, ByteArray.empty⟩ : PacketT)]))⟩ : QueueT), c381.2))))
        else
          some (q.1, c378.2))))) := fun q c1 a1 a2 a3 h1 => by
    refine pick_b h1 (by omega) (by omega) fun x c2 _ _ _ h2 => okO.ite (fun _ => ?_) (fun _ => okO.ite (fun _ => ?_) (fun _ => okO.ite (fun _ => ?_) (fun _ => ?_)))
    · exact pick_b h2 (by omega) (by omega) fun y c3 _ _ _ h3 => okO.some ⟨⟨by simp only; omega, by simp only; omega, by simp only; omega⟩, h3.up (by omega)⟩
    · exact okO.guard (by omega) (okO.some ⟨⟨by simp only; omega, by simp only [List.length_append, List.length_cons, List.length_nil]; omega, by simp only; omega⟩, h2.up (by omega)⟩)
    · refine pick_b h2 (by omega) (by omega) fun y c3 _ _ _ h3 => one_b h3 (by omega) (by omega) fun z c4 h4 => ?_
      exact okO.guard (by omega) (okO.some ⟨⟨by simp only; omega, by simp only; omega, by simp only [List.length_append, List.length_cons, List.length_nil]; omega⟩, h4.up (by omega)⟩)
    · exact okO.some ⟨⟨by simp only; omega, by simp only; omega, by simp only; omega⟩, h2.up (by omega)⟩
  refine okO.ite (fun hl => ?_) (fun _ => ?_)
  · have hl' : ((r.1.length : Nat) : Int) > 200 := by simpa using hl
    refine okO.guard (by omega) ?_
    refine pick_b hc (by omega) (by omega) fun x c1 _ _ _ h1 => ?_
    rw [spec_PlayQueue_eq]
    obtain ⟨r1, r2, r3, _⟩ := playQ_len (wI (1 + x)) (r.1.take 60)
    exact okO.bind_some (sw _ c1 r1 r2 r3 (h1.up (by omega)))
  · refine pick_b hc (by omega) (by omega) fun x c1 _ _ _ h1 => ?_
    rw [spec_PlayQueue_eq]
    obtain ⟨r1, r2, r3, _⟩ := playQ_len (wI (1 + x)) r.1
    exact okO.bind_some (sw _ c1 r1 r2 r3 (h1.up (by omega)))
theorem drawStepQ_ok {code : List Int} (h : ∀ y ∈ code, 0 ≤ y ∧ y ≤ 255) : ∃ q s, spec_DrawStepQueue code = some (q, s) ∧ smallLens q := by
  have key : okO (fun r => smallLens r.1) (spec_DrawStepQueue code) := by
    unfold spec_DrawStepQueue
    refine okO.bind (queue_ok (cur0 h) (by omega)) fun r ⟨hr, hc⟩ => ?_
    refine pick_b hc (by omega) (by omega) fun x c1 _ _ _ h1 => ?_
    have hw : wI (((r.1.Line.length : Nat) : Int) + 1) = ((r.1.Line.length : Nat) : Int) + 1 := wI_id (by have := hr.2.2; omega)
    rw [hw]
    refine pick_b h1 (by omega) (by have := hr.2.2; omega) fun x c2 _ _ _ h2 => okO.ite (fun _ => ?_) (fun _ => okO.some hr)
    exact pick_b h2 (by omega) (by omega) fun y c3 _ _ _ h3 => okO.some hr
  obtain ⟨⟨q, s⟩, e, hq⟩ := key
  exact ⟨q, s, e, hq⟩

theorem queue_holds (a b : List Int) (ha : ∀ y ∈ a, 0 ≤ y ∧ y ≤ 255) (hb : ∀ y ∈ b, 0 ≤ y ∧ y ≤ 255) : laws_FnQueue a b = some true := by
  unfold laws_FnQueue
  by_cases hl : wI (((a.length : Nat) : Int) + ((b.length : Nat) : Int)) > 1048576
  · rw [if_pos (decide_eq_true hl)]
  rw [if_neg (by simpa using hl)]
  obtain ⟨w, l, e1⟩ := drawPlayQ_ok ha
  obtain ⟨q, s, e2, q1, q2, q3⟩ := drawStepQ_ok hb
  obtain ⟨r1, r2, r3, r4⟩ := playQ_len w l
  rw [e1]; simp only [Option.bind_some]
  rw [impl_PlayQueue_eq, spec_PlayQueue_eq]; simp only [Option.bind_some]
  rw [sameBools_eq _ _ (by omega), sameTexts_eq _ _ (by omega), samePackets_eq _ (by omega)]
  simp only [Option.bind_some, decide_true, Bool.not_true, beq_self_eq_true, Bool.false_eq_true, if_false]
  rw [if_neg (by simp)]
  have hmid : ∀ (k : Unit ⊕ Bool → Option Bool), ((if (playQ w l).2.2 = true then
          ((loopF (laws_FnQueue_L1 (w, l) (playQ w l)) ⟨0, []⟩).bind fun y354 =>
          ((impl_WaitingIn (playQ w l).1).bind fun c356 =>
          ((((laws_sameTexts (playQ w l).1.Sent y354.c1).bind fun c357 =>
            (if (!c357) = true then
              some (⟨true⟩ : laws_FnQueue_J4017)
            else
              (if (decide ((((playQ w l).1.Got.length : Nat) : Int) > ((y354.c1.length : Nat) : Int))) = true then
                some (⟨true⟩ : laws_FnQueue_J4017)
              else
                (guardO (0 ≤ 0 ∧ 0 ≤ (((playQ w l).1.Got.length : Nat) : Int) ∧ (((playQ w l).1.Got.length : Nat) : Int) ≤ ((y354.c1.length : Nat) : Int)) <|
                ((laws_sameTexts (playQ w l).1.Got (y354.c1.take (playQ w l).1.Got.length)).bind fun c358 =>
                (if (!c358) = true then
                  some (⟨true⟩ : laws_FnQueue_J4017)
                else
                  (if (decide ((playQ w l).1.Base > (((playQ w l).1.Got.length : Nat) : Int))) = true then
                    some (⟨true⟩ : laws_FnQueue_J4017)
                  else
                    (if (!c356.2) = true then
                      some (⟨true⟩ : laws_FnQueue_J4017)
                    else
                      (if (c356.1 != (wI (((y354.c1.length : Nat) : Int) - (((playQ w l).1.Got.length : Nat) : Int)))) = true then
                        some (⟨true⟩ : laws_FnQueue_J4017)
                      else
                        ((impl_GoodQueue (playQ w l).1).bind fun c359 =>
                        some (⟨(!c359)⟩ : laws_FnQueue_J4017))))))))))) : Option laws_FnQueue_J4017).bind fun p360 =>
          (if p360.t159 = true then
            some (.inr false)
          else
            some (.inl (() : Unit))))))
        else
          some (.inl (() : Unit))) : Option (Unit ⊕ Bool)).bind k = k (.inl ()) := fun k => by
    by_cases hok : (1 ≤ w ∧ w ≤ 10) ∧ l.length ≤ 200
    rotate_left
    · have : playQ w l = (zeroQ, [], false) := by unfold playQ; rw [if_neg hok]
      rw [this]; rfl
    have hpq : playQ w l = (endQ l ⟨w, [], 0, [], []⟩, didL l ⟨w, [], 0, [], []⟩, true) := by
      unfold playQ; rw [if_pos hok, play_eq]; rfl
    have hg := end_good l (goodNew hok.1)
    rw [if_pos (by rw [hpq]), sent_loop w l _ hok.2 _ (goodNew hok.1) rfl (by rw [hpq])]
    have hw : impl_WaitingIn (playQ w l).1 = some (wI ((((playQ w l).1.Sent.length : Nat) : Int) - (((playQ w l).1.Got.length : Nat) : Int)), true) := by
      unfold impl_WaitingIn
      rw [impl_GoodQueue_eq _ (by omega) (by omega) (by omega)]
      simp only [Option.bind_some]
      rw [if_neg (by rw [hpq]; simp [(goodQ_iff _).2 hg])]
    rw [hw]
    simp only [Option.bind_some]
    rw [impl_GoodQueue_eq _ (by omega) (by omega) (by omega), sameTexts_eq _ _ (by omega), sameTexts_eq _ _ (by omega)]
    rw [hpq]
    simp only [Option.bind_some, decide_true, Bool.not_true, Bool.false_eq_true, if_false]
    have h1 := hg.got
    have h2 := hg.base
    have h3 := hg.same
    rw [if_neg (by simp; omega), guard_pos (by omega)]
    rw [decide_eq_true h3, if_neg (by simp), if_neg (by simp; omega), if_neg (by simp), (goodQ_iff _).2 hg]
    rfl
  refine (hmid _).trans ?_
  simp only
  rw [e2]; simp only [Option.bind_some]
  obtain ⟨s1, s2, s3⟩ := stepQ_len q s
  rw [impl_StepQueue_eq _ _ (by omega) (by omega) (by omega), spec_StepQueue_eq _ _ (by omega) (by omega) (by omega)]
  simp only [Option.bind_some]
  rw [sameTexts_eq _ _ (by omega), samePackets_eq _ (by omega), impl_GoodQueue_eq _ (by omega) (by omega) (by omega)]
  simp only [Option.bind_some, decide_true, Bool.not_true, beq_self_eq_true, Bool.false_eq_true, if_false]
  unfold stepQ
  by_cases hc : goodQ q = true ∧ (stepP q s).2 = true
  · rw [if_pos hc]
    have hg := step_good ((goodQ_iff q).1 hc.1) s
    obtain ⟨m1, m2, _, _⟩ := step_mono q s
    rw [if_neg (by simp), if_pos ((goodQ_iff _).2 hg), if_pos (by simp; omega), decide_eq_true (by simp only; omega)]
  · rw [if_neg hc]
    rfl
end Go.TL
