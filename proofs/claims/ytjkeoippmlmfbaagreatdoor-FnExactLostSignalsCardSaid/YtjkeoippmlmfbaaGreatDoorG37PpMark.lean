import Derived.Test.YtjkeoippmlmfbaaGreatDoorPlMark
import Derived.Test.YtjkeoippmlmfbaaGreatDoorG20PlR1
import Derived.Test.YtjkeoippmlmfbaaGreatDoorG36PpR1
set_option linter.unusedSimpArgs false
set_option linter.unusedVariables false
set_option linter.unusedVariables false
set_option linter.unusedSimpArgs false
namespace Go.TL

theorem bstr_one (x : Int) : (bstr [x]).size = 1 := rfl

theorem markText_some (k : Int) (hk : 0 ≤ k) (hb : k ≤ 4611686018427387904) : ∃ s, laws_markText k = some s := by
  have key : okO (fun _ => True) (laws_markText k) := by
    unfold laws_markText
    refine okO.ite (fun _ => okO.some trivial) (fun _ => ?_)
    refine okO.bind (P := fun y => y.t3.size ≤ 4611686018427387904) ?_ fun y hy => ?_
    · refine okO.loop (fun g => 0 ≤ g.t0 ∧ (g.t3.size : Int) + g.t0 ≤ 4611686018427387904) (fun g => g.t0.toNat) ⟨hk, by have : ByteArray.empty.size = 0 := rfl; simp only [this]; omega⟩ fun g ⟨h1, h2⟩ => ?_
      unfold laws_markText_L1
      refine okO.ite (fun hc => ?_) (fun _ => okO.some (by simp only; omega))
      have hc' : g.t0 > 0 := by simpa using hc
      refine okO.guard (by rw [bstr_one]; omega) (okO.some ?_)
      have hd : g.t0.tdiv 10 = g.t0 / 10 := Int.tdiv_eq_ediv_of_nonneg (by omega)
      have hw : wI (g.t0.tdiv 10) = g.t0 / 10 := by rw [hd, wI_id (by omega)]
      simp only [hw, ByteArray.size_append, bstr_one]
      omega
    · refine okO.guard ?_ (okO.some trivial)
      have : (⟨#[109]⟩ : ByteArray).size = 1 := rfl
      omega
  obtain ⟨s, hs, _⟩ := key
  exact ⟨s, hs⟩
noncomputable def mtext (k : Int) : ByteArray := (laws_markText k).getD ByteArray.empty
theorem markText_eq (k : Int) (hk : 0 ≤ k) (hb : k ≤ 4611686018427387904) : laws_markText k = some (mtext k) := by
  obtain ⟨s, hs⟩ := markText_some k hk hb
  unfold mtext; rw [hs]; rfl

theorem mark_StringS_eq (l : List ByteArray) (k : Int) (hk : 0 ≤ k) (hl : l.length ≤ 1099511627776) (hb : k + ((1 * l.length : Nat) : Int) ≤ 1152921504606846976) :
    laws_markStringS_w l k = some (k + ((1 * l.length : Nat) : Int), marks mtext 1 k l.length) := by
  unfold laws_markStringS_w
  have key := mark_loop (step := laws_markStringS_w_L1) (fun i k l => (⟨k, i, l⟩ : laws_markStringS_w_G1)) 1 mtext l.length 1152921504606846976 (fun k l => (⟨k, l⟩ : laws_markStringS_w_P1_0)) (fun i k l' hi hl' h0 h1 => ?_) (fun k l' hl' => ?_) k l rfl hk hb
  · rw [key]; rfl
  · unfold laws_markStringS_w_L1
    rw [if_pos (by simp; omega), markText_eq k h0 (by omega)]
    simp (disch := omega) only [Option.bind_some, guard_pos, Int.toNat_natCast, wI_id]
    rfl
  · unfold laws_markStringS_w_L1
    rw [if_neg (by simp; omega)]

theorem held_StringS_eq (n : Nat) (k : Int) (hk : 0 ≤ k) (hl : n ≤ 1099511627776) (hb : k + ((1 * n : Nat) : Int) ≤ 1152921504606846976) :
    laws_heldStringS (marks mtext 1 k n) k = some (k + ((1 * n : Nat) : Int)) := by
  unfold laws_heldStringS
  have key := held_loop (step := laws_heldStringS_L1 (marks mtext 1 k n)) (fun i k => (⟨k, i⟩ : laws_heldStringS_G1)) 1 mtext n 1152921504606846976 (fun k => (⟨k⟩ : laws_heldStringS_P1_1)) k (fun i k' hi hn h0 h1 => ?_) (fun k' => ?_) hk hb
  · rw [key]; rfl
  · unfold laws_heldStringS_L1
    rw [if_pos (by simp [marks_length]; omega), markText_eq k' h0 (by omega)]
    simp (disch := simp only [marks_length]; omega) only [Option.bind_some, guard_pos, Int.toNat_natCast]
    rw [hn, if_neg (by simp), wI_id (by omega), wI_id (by omega)]
    rfl
  · unfold laws_heldStringS_L1
    rw [if_neg (by simp [marks_length])]

end Go.TL
set_option linter.unusedVariables false
set_option linter.unusedSimpArgs false
namespace Go.TL

def without (l : List PacketT) (k : Nat) : List PacketT := l.take k ++ l.drop (k + 1)
end Go.TL
set_option linter.unusedVariables false
set_option linter.unusedSimpArgs false
set_option maxRecDepth 4000
namespace Go.TL
end Go.TL
set_option linter.unusedVariables false
set_option linter.unusedSimpArgs false
namespace Go.TL
end Go.TL
