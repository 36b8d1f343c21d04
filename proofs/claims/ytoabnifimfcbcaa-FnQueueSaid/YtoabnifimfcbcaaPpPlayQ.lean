/- Steps of a queue, one behind the other. -/
import Derived.Test.YtoabnifimfcbcaaPpStepQ
set_option linter.unusedVariables false
set_option linter.unusedSimpArgs false
namespace Go.TL

/-! ### good queues stay good -/
structure GQ (q : QueueT) : Prop where
  win : 1 ≤ q.Window ∧ q.Window ≤ 10
  sent : q.Sent.length ≤ 40
  size : ∀ s ∈ q.Sent, s.size ≤ 12
  got : q.Got.length ≤ q.Sent.length
  same : q.Got = q.Sent.take q.Got.length
  base : 0 ≤ q.Base ∧ q.Base ≤ q.Got.length
  line : q.Line.length ≤ 40
  pkt : ∀ p ∈ q.Line, pktOk q p = true
theorem goodQ_iff (q : QueueT) : goodQ q = true ↔ GQ q := by
  unfold goodQ
  simp only [Bool.and_eq_true, decide_eq_true_eq, List.all_eq_true]
  exact ⟨fun ⟨⟨⟨⟨⟨⟨⟨h1, h2⟩, h3⟩, h4⟩, h5⟩, h6⟩, h7⟩, h8⟩ => ⟨h1, h2, h3, h4, h5, h6, h7, h8⟩, fun ⟨h1, h2, h3, h4, h5, h6, h7, h8⟩ => ⟨⟨⟨⟨⟨⟨⟨h1, h2⟩, h3⟩, h4⟩, h5⟩, h6⟩, h7⟩, h8⟩⟩
theorem pkt_ack {q : QueueT} {p : PacketT} (h : p.Ack = true) : pktOk q p = true ↔ (0 ≤ p.No ∧ p.No ≤ q.Got.length) ∧ p.Text = ByteArray.empty := by
  unfold pktOk; rw [if_pos h]; simp only [Bool.and_eq_true, decide_eq_true_eq]
theorem pkt_data {q : QueueT} {p : PacketT} (h : ¬ p.Ack = true) : pktOk q p = true ↔ ((0 ≤ p.No ∧ p.No < q.Sent.length) ∧ p.No < q.Base + q.Window) ∧ p.Text = nth q.Sent p.No.toNat := by
  unfold pktOk; rw [if_neg h]; simp only [Bool.and_eq_true, decide_eq_true_eq]

theorem nth_app_lt {α : Type} [Inhabited α] {l r : List α} {i : Nat} (h : i < l.length) : nth (l ++ r) i = nth l i := by
  rw [nth_eq h, nth_eq (by rw [List.length_append]; omega), List.getElem_append_left h]
theorem pkt_mono {q q' : QueueT} {p : PacketT} (h : pktOk q p = true) (hg : q.Got.length ≤ q'.Got.length) (hs : q.Sent.length ≤ q'.Sent.length) (hn : ∀ i, i < q.Sent.length → nth q'.Sent i = nth q.Sent i) (hb : q.Base + q.Window ≤ q'.Base + q'.Window) : pktOk q' p = true := by
  by_cases ha : p.Ack = true
  · rw [pkt_ack ha] at h ⊢; exact ⟨by omega, h.2⟩
  · rw [pkt_data ha] at h ⊢; exact ⟨by omega, by rw [hn _ (by omega)]; exact h.2⟩
theorem put_good {q : QueueT} {p : PacketT} (h : GQ q) (hp : pktOk q p = true) : GQ (putP q p).1 := by
  unfold putP
  split
  · exact h
  · have hl := h.line
    refine ⟨h.win, h.sent, h.size, h.got, h.same, h.base, by simp only [List.length_append, List.length_cons, List.length_nil]; omega, fun x hx => ?_⟩
    rcases List.mem_append.1 hx with hx | hx
    · exact h.pkt x hx
    · rw [List.mem_singleton.1 hx]; exact hp
theorem without_mem {l : List PacketT} {k : Nat} {p : PacketT} (h : p ∈ without l k) : p ∈ l := by
  unfold without at h
  rcases List.mem_append.1 h with h | h
  · exact List.mem_of_mem_take h
  · exact List.mem_of_mem_drop h
theorem lose_good {q : QueueT} (h : GQ q) (k : Nat) (hk : k < q.Line.length) : GQ ⟨q.Window, q.Sent, q.Base, q.Got, without q.Line k⟩ := by
  have hl := h.line
  have := without_len q.Line k hk
  exact ⟨h.win, h.sent, h.size, h.got, h.same, h.base, by simp only; omega, fun x hx => h.pkt x (without_mem hx)⟩
theorem took_good {q : QueueT} (h : GQ q) (k : Nat) (hk : k < q.Line.length) : GQ (tookP q (nth q.Line k) (without q.Line k)) := by
  have hp := h.pkt _ (nth_mem hk)
  have h1 := lose_good h k hk
  have hg := h.got
  have hs := h.sent
  have hb := h.base
  unfold tookP
  split
  · rename_i ha
    rw [pkt_ack ha] at hp
    refine ⟨h.win, h.sent, h.size, h.got, h.same, ⟨by simp only; omega, by simp only; omega⟩, h1.line, fun x hx => pkt_mono (h1.pkt x hx) (Nat.le_refl _) (Nat.le_refl _) (fun _ _ => rfl) ?_⟩
    simp only; omega
  · rename_i ha
    rw [pkt_data ha] at hp
    split
    · rename_i hn
      refine put_good ⟨h.win, h.sent, h.size, ?_, ?_, ⟨hb.1, ?_⟩, h1.line, fun x hx => pkt_mono (h1.pkt x hx) ?_ (Nat.le_refl _) (fun _ _ => rfl) (Int.le_refl _)⟩ ?_
      · simp only [List.length_append, List.length_cons, List.length_nil]; omega
      · simp only [List.length_append, List.length_cons, List.length_nil]
        have hlt : q.Got.length < q.Sent.length := by omega
        rw [List.take_succ_eq_append_getElem hlt, ← h.same, hp.2, hn, Int.toNat_natCast, nth_eq hlt]
      · simp only [List.length_append, List.length_cons, List.length_nil]; omega
      · simp only [List.length_append, List.length_cons, List.length_nil]; omega
      · rw [pkt_ack rfl]
        refine ⟨?_, rfl⟩
        simp only [List.length_append, List.length_cons, List.length_nil]; omega
    · refine put_good h1 ?_
      rw [pkt_ack rfl]
      exact ⟨by simp only; omega, rfl⟩
theorem step_good {q : QueueT} (h : GQ q) (s : LineStepT) : GQ (stepP q s).1 := by
  have hg := h.got
  have hs := h.sent
  unfold stepP
  split
  · split
    · exact h
    · rename_i hc
      refine ⟨h.win, ?_, ?_, ?_, ?_, h.base, h.line, fun x hx => pkt_mono (h.pkt x hx) (Nat.le_refl _) ?_ (fun i hi => nth_app_lt hi) (Int.le_refl _)⟩
      · simp only [List.length_append, List.length_cons, List.length_nil]; omega
      · intro x hx
        rcases List.mem_append.1 hx with hx | hx
        · exact h.size x hx
        · rw [List.mem_singleton.1 hx]; omega
      · simp only [List.length_append, List.length_cons, List.length_nil]; omega
      · simp only
        rw [List.take_append_of_le_length hg]; exact h.same
      · simp only [List.length_append, List.length_cons, List.length_nil]; omega
  split
  · split
    · rename_i hc
      have hb := h.base
      refine put_good h ?_
      rw [pkt_data (by simp)]
      exact ⟨⟨⟨by simp only; omega, by simp only; omega⟩, by simp only; omega⟩, rfl⟩
    · exact h
  split
  · rename_i hc
    split
    · exact put_good h (h.pkt _ (nth_mem (by omega)))
    split
    · exact took_good h _ (by omega)
    split
    · exact lose_good h _ (by omega)
    · exact h
  · exact h
theorem GQ.small {q : QueueT} (h : GQ q) : smallQ q := good_small ((goodQ_iff q).2 h)

/-! ### playing -/
def playP : List LineStepT → QueueT → List Bool → QueueT × List Bool
  | [], q, l => (q, l)
  | s :: r, q, l => playP r (stepP q s).1 (l ++ [(stepP q s).2])
theorem play_good : ∀ (l : List LineStepT) {q : QueueT} (d : List Bool), GQ q → GQ (playP l q d).1
  | [], q, d, h => h
  | s :: r, q, d, h => play_good r _ (step_good h s)
theorem play_len : ∀ (l : List LineStepT) (q : QueueT) (d : List Bool), (playP l q d).2.length = d.length + l.length
  | [], q, d => by simp [playP]
  | s :: r, q, d => by
    show (playP r (stepP q s).1 (d ++ [(stepP q s).2])).2.length = _
    rw [play_len r]; simp; omega
/-- Nothing changes where a step says no. -/
theorem step_no {q : QueueT} {s : LineStepT} (h : ¬ (stepP q s).2 = true) : (stepP q s).1 = q := by
  have hput : ∀ (q : QueueT) (p : PacketT), ¬ (putP q p).2 = true → (putP q p).1 = q := fun q p h => by
    unfold putP at h ⊢; split <;> simp_all
  unfold stepP at h ⊢
  split at h
  · rename_i c; rw [if_pos c]
    split at h
    · rename_i c; rw [if_pos c]
    · exact absurd rfl h
  rename_i c1; rw [if_neg c1]
  split at h
  · rename_i c; rw [if_pos c]
    split at h
    · rename_i c; rw [if_pos c]; exact hput _ _ h
    · rename_i c; rw [if_neg c]
  rename_i c2; rw [if_neg c2]
  split at h
  · rename_i c; rw [if_pos c]
    split at h
    · rename_i c; rw [if_pos c]; exact hput _ _ h
    rename_i c; rw [if_neg c]
    split at h
    · exact absurd rfl h
    rename_i c; rw [if_neg c]
    split at h
    · exact absurd rfl h
    rename_i c; rw [if_neg c]
  · rename_i c; rw [if_neg c]

theorem goodNew {w : Int} (h : 1 ≤ w ∧ w ≤ 10) : GQ ⟨w, [], 0, [], []⟩ :=
  ⟨h, by simp, by simp, by simp, by simp, by simp, by simp, by simp⟩
def playQ (w : Int) (l : List LineStepT) : QueueT × List Bool × Bool :=
  if (1 ≤ w ∧ w ≤ 10) ∧ l.length ≤ 200 then ((playP l ⟨w, [], 0, [], []⟩ []).1, (playP l ⟨w, [], 0, [], []⟩ []).2, true) else (zeroQ, [], false)

theorem forL_play (f : LineStepT → QueueT × List Bool → Option ((QueueT × List Bool) ⊕ Empty)) (l : List LineStepT) (hf : ∀ s x, s ∈ l → GQ x.1 → x.2.length ≤ 1000 → f s x = some (.inl ((stepP x.1 s).1, x.2 ++ [(stepP x.1 s).2]))) :
    ∀ (q : QueueT) (d : List Bool), GQ q → d.length + l.length ≤ 1000 → forL f l (q, d) = some (.inl (playP l q d)) := by
  induction l with
  | nil => intro q d _ _; rfl
  | cons s r ih =>
    intro q d hq hd
    simp only [List.length_cons] at hd
    simp only [forL]
    rw [hf s (q, d) (by simp) hq (by simp only; omega)]
    simp only [Option.bind_some]
    exact ih (fun s' x hs => hf s' x (by simp [hs])) _ _ (step_good hq s) (by simp only [List.length_append, List.length_cons, List.length_nil]; omega)
end Go.TL
