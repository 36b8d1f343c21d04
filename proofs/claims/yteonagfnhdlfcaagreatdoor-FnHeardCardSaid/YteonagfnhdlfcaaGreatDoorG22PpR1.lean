import Derived.Test.YteonagfnhdlfcaaGreatDoorG19PlR1
import Derived.Test.YteonagfnhdlfcaaGreatDoorG21PlLib
set_option linter.unusedSimpArgs false
set_option linter.unusedVariables false
set_option maxRecDepth 4000
namespace Go.TL
def ok_S (x : ByteArray) : Prop := x.size ≤ 9223372036854775807
def ok_LS (x : (List ByteArray)) : Prop := x.length ≤ 9223372036854775807 ∧ ∀ y ∈ x,ok_S y
def ok_I (x : Int) : Prop := -9223372036854775808 ≤ x ∧ x ≤ 9223372036854775807
end Go.TL
namespace Go.TL
theorem zcK (n a b : Int) : zar n a b = some (decide (a ≤ n ∧ n ≤ b)) := by
 unfold zar
 by_cases h : a ≤ n <;> simp [h]
theorem zdl (n a b : Int) : zee n a b = some (decide (a ≤ n ∧ n ≤ b)) := zcK n a b
def pktOk (q : QueueT) (p : PacketT) : Bool :=
 if p.Ack = true then decide (0 ≤ p.No ∧ p.No ≤ q.Got.length) && decide (p.Text = ByteArray.empty)
 else decide (0 ≤ p.No ∧ p.No < q.Sent.length) && decide (p.No < q.Base + q.Window) && decide (p.Text = nth q.Sent p.No.toNat)
def goodQ (q : QueueT) : Bool :=
 decide (1 ≤ q.Window ∧ q.Window ≤ 10) && decide (q.Sent.length ≤ 40) && q.Sent.all (fun s => decide (s.size ≤ 12)) && decide (q.Got.length ≤ q.Sent.length) &&
  decide (q.Got = q.Sent.take q.Got.length) && decide (0 ≤ q.Base ∧ q.Base ≤ q.Got.length) && decide (q.Line.length ≤ 40) && q.Line.all (pktOk q)
end Go.TL
namespace Go.TL
def cur (c : l1CurT) (K : Int) : Prop := 0 ≤ c.at_ ∧ c.at_ ≤ K ∧ ∀ y ∈ c.code,0 ≤ y ∧ y ≤ 255
theorem cur.up {c : l1CurT} {K L : Int} (h : cur c K) (hl : K ≤ L) : cur c L := ⟨h.1,Int.le_trans h.2.1 hl,h.2.2⟩
theorem bvAnd_255 (a : Int) : 0 ≤ bvAnd 64 a 255 ∧ bvAnd 64 a 255 ≤ 255 := by
 unfold bvAnd
 rw [BitVec.toNat_and]
 have : (BitVec.ofInt 64 255).toNat = 255 := by decide
 rw [this]
 have := Nat.and_le_right (n := (BitVec.ofInt 64 a).toNat) (m := 255)
 omega
theorem next_ok {c : l1CurT} {K : Int} (h : cur c K) (hK : K ≤ 4611686018427387904) : ∃ x c',zbr c = some (x,c') ∧ 0 ≤ x ∧ x ≤ 255 ∧ cur c' (K + 1) := by
 obtain ⟨h1,h2,h3⟩ := h
 unfold zbr
 have hw : wI (c.at_ + 1) = c.at_ + 1 := wI_id (by omega)
 have hb : ∀ s : Int,wI (wU (bvAnd 64 s 255)) = bvAnd 64 s 255 := fun s => by
  have := bvAnd_255 s
  rw [wU_id (by omega),wI_id (by omega)]
 have hcur : ∀ s : Int,cur ⟨c.code,wI (c.at_ + 1),s⟩ (K + 1) := fun s => by
  rw [hw]; exact ⟨by simp only; omega,by simp only; omega,h3⟩
 by_cases ha : c.at_ < ((c.code.length : Nat) : Int)
 ·rw [if_pos (decide_eq_true ha),guard_pos ⟨h1,ha⟩]
  simp only [Option.bind_some]
  have hm : nth c.code c.at_.toNat ∈ c.code := nth_mem (by omega)
  have hy := h3 _ hm
  by_cases hc : wI (c.at_ + 1) ≤ ((c.code.length : Nat) : Int)
  ·rw [if_pos (decide_eq_true hc)]
   exact ⟨_,_,rfl,by rw [wI_id (by omega)]; omega,by rw [wI_id (by omega)]; omega,hcur _⟩
  ·rw [if_neg (by simpa using hc)]
   exact ⟨_,_,rfl,by rw [hb]; exact (bvAnd_255 _).1,by rw [hb]; exact (bvAnd_255 _).2,hcur _⟩
 ·rw [if_neg (by simpa using ha)]
  simp only [Option.bind_some]
  by_cases hc : wI (c.at_ + 1) ≤ ((c.code.length : Nat) : Int)
  ·rw [if_pos (decide_eq_true hc)]
   exact ⟨_,_,rfl,by omega,by omega,hcur _⟩
  ·rw [if_neg (by simpa using hc)]
   exact ⟨_,_,rfl,by rw [hb]; exact (bvAnd_255 _).1,by rw [hb]; exact (bvAnd_255 _).2,hcur _⟩
theorem pick_ok {c : l1CurT} {K : Int} (n : Int) (h : cur c K) (hK : K ≤ 4611686018427387000) (hn : n ≤ 100000) :
  ∃ x c',zw c n = some (x,c') ∧ 0 ≤ x ∧ (n ≤ 1 → x = 0) ∧ (1 ≤ n → x < n) ∧ cur c' (K + 2) := by
 unfold zw
 by_cases h1 : n ≤ 1
 ·rw [if_pos (decide_eq_true h1)]
  exact ⟨0,c,rfl,by omega,fun _ => rfl,fun _ => by omega,h.up (by omega)⟩
 ·rw [if_neg (by simpa using h1)]
  obtain ⟨x,c',e,x0,x1,hc⟩ := next_ok h (by omega)
  rw [e]
  simp only [Option.bind_some]
  by_cases h2 : n > 200
  ·rw [if_pos (decide_eq_true h2)]
   obtain ⟨y,c2,e2,y0,y1,hc2⟩ := next_ok hc (by omega)
   rw [e2]
   simp only [Option.bind_some]
   rw [guard_pos (by omega),wI_id (n := x * 256) (by omega),wI_id (by omega)]
   refine ⟨_,_,rfl,Int.tmod_nonneg _ (by omega),fun _ => by omega,fun _ => Int.tmod_lt_of_pos _ (by omega),hc2.up (by omega)⟩
  ·rw [if_neg (by simpa using h2),guard_pos (by omega)]
   exact ⟨_,_,rfl,Int.tmod_nonneg _ (by omega),fun _ => by omega,fun _ => Int.tmod_lt_of_pos _ (by omega),hc.up (by omega)⟩
theorem one_ok {c : l1CurT} {K : Int} (n : Int) (h : cur c K) (hK : K ≤ 4611686018427387000) (hn : n ≤ 100000) :
  ∃ x c',zas c n = some (x,c') ∧ cur c' (K + 2) := by
 unfold zas
 obtain ⟨x,c',e,_,_,_,hc⟩ := pick_ok n h hK hn
 rw [e]
 exact ⟨_,_,rfl,hc⟩
theorem cur0 {code : List Int} (h : ∀ y ∈ code,0 ≤ y ∧ y ≤ 255) : cur ⟨code,0,0⟩ 0 := ⟨by simp,by simp,h⟩
end Go.TL
namespace Go.TL
theorem pick_b {β : Type} {f : Int × l1CurT → Option β} {Q : β → Prop} {c : l1CurT} {K n : Int} (h : cur c K) (hK : K ≤ 4611686018427387000) (hn : n ≤ 100000)
  (hf : ∀ x c',0 ≤ x → (n ≤ 1 → x = 0) → (1 ≤ n → x < n) → cur c' (K + 2) → okO Q (f (x,c'))) : okO Q ((zw c n).bind f) := by
 obtain ⟨x,c',e,h1,h2,h3,h4⟩ := pick_ok n h hK hn
 rw [e]; exact hf x c' h1 h2 h3 h4
theorem one_b {β : Type} {f : Bool × l1CurT → Option β} {Q : β → Prop} {c : l1CurT} {K n : Int} (h : cur c K) (hK : K ≤ 4611686018427387000) (hn : n ≤ 100000)
  (hf : ∀ x c',cur c' (K + 2) → okO Q (f (x,c'))) : okO Q ((zas c n).bind f) := by
 obtain ⟨x,c',e,h4⟩ := one_ok n h hK hn
 rw [e]; exact hf x c' h4
end Go.TL
namespace Go.TL
end Go.TL
