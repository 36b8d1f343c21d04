import Derived.Test.YteonagfnhdlfcaaGreatDoorG24PpR2D
import Derived.Test.YteonagfnhdlfcaaGreatDoorG20PlR3M
import Derived.Test.YteonagfnhdlfcaaGreatDoorG23PpMark
import Derived.Test.YteonagfnhdlfcaaGreatDoorG25PpR3D
set_option linter.unusedSimpArgs false
set_option linter.unusedVariables false
namespace Go.TL
end Go.TL
namespace Go.TL
theorem of_m {β : Type} {f : ByteArray × l1CurT → Option β} {Q : β → Prop} {c : l1CurT} {K : Int} {l : List ByteArray} (h : cur c K) (hK : K ≤ 4611686018427387000) (hn : 1 ≤ l.length ∧ l.length ≤ 1000)
  (hf : ∀ x c',x ∈ l → cur c' (K + 2) → okO Q (f (x,c'))) : okO Q ((zcG c l).bind f) := by
 unfold zcG
 refine okO.bind_bind (pick_b h hK (by omega) fun x c' h1 h2 h3 h4 => ?_)
 have := h3 (by omega)
 exact okO.bind_guard ⟨h1,by simpa using this⟩ (okO.bind_some (hf _ _ (nth_mem (by omega)) h4))
theorem mem_small {l : List ByteArray} (h : l.all (fun x => decide (x.size ≤ 100)) = true) {x : ByteArray} (hx : x ∈ l) : x.size ≤ 100 := by
 rw [List.all_eq_true] at h
 simpa using h x hx
theorem small_ok {x : ByteArray} (h : x.size ≤ 100) : ok_S x := by unfold ok_S; omega
theorem next_facts {v r : Int} (h : (nextP v r).2 = true) : (nextP v r).1.tmod 10 = r ∧ v < (nextP v r).1 ∧ 0 ≤ (nextP v r).1 ∧ (nextP v r).1 ≤ 1000000 := by
 unfold nextP at h ⊢
 split at h
 ·rename_i h1
  rw [if_pos h1]
  split at h
  ·rename_i h2
   rw [if_pos h2]
   refine ⟨?_,?_,h2.1,h2.2⟩
   ·simp only
    rw [Int.tmod_eq_emod_of_nonneg h2.1]
    unfold nextN
    rw [Int.tmod_eq_emod_of_nonneg h1.1.1]
    split <;> omega
   ·simp only
    unfold nextN
    rw [Int.tmod_eq_emod_of_nonneg h1.1.1]
    split <;> omega
  ·cases h
 ·cases h
end Go.TL
namespace Go.TL
theorem among_m {β : Type} {f : Int × l1CurT → Option β} {Q : β → Prop} {c : l1CurT} {K : Int} {l : List Int} (h : cur c K) (hK : K ≤ 4611686018427387000) (hn : 1 ≤ l.length ∧ l.length ≤ 1000)
  (hf : ∀ x c',x ∈ l → cur c' (K + 2) → okO Q (f (x,c'))) : okO Q ((zak c l).bind f) := by
 unfold zak
 refine okO.bind_bind (pick_b h hK (by omega) fun x c' h1 h2 h3 h4 => ?_)
 have := h3 (by omega)
 exact okO.bind_guard ⟨h1,by simpa using this⟩ (okO.bind_some (hf _ _ (nth_mem (by omega)) h4))
theorem mem_int {l : List Int} (h : l.all (fun x => decide (-9223372036854775808 ≤ x ∧ x ≤ 9223372036854775807)) = true) {x : Int} (hx : x ∈ l) : ok_I x := by
 rw [List.all_eq_true] at h
 have h1 := of_decide_eq_true (h x hx)
 exact ⟨h1.1,h1.2⟩
theorem name_b {β : Type} {f : ByteArray × l1CurT → Option β} {Q : β → Prop} {c : l1CurT} {K : Int} (h : cur c K) (hK : K ≤ 4611686018427387000) (hf : ∀ x c',x.size ≤ 100 → cur c' (K + 2) → okO Q (f (x,c'))) : okO Q ((zag c).bind f) := by
 unfold zag
 refine okO.bind_bind (of_m h hK (by simp) fun x c' hx hc => okO.bind_some (hf _ _ (mem_small (by decide) hx) hc))
abbrev okE (e : EventT) : Prop := ok_I e.Id ∧ ok_I e.Version ∧ ok_I e.Kind ∧ e.Name.size ≤ 100
theorem okE_ok {e : EventT} (h : okE e) : ok_Event e := ⟨h.1,h.2.1,h.2.2.1,small_ok h.2.2.2⟩
abbrev okH (n : Nat) (l : List EventT) : Prop := l.length ≤ n ∧ ∀ e ∈ l,okE e
theorem okH_add {n : Nat} {l : List EventT} {e : EventT} (h : okH n l) (he : okE e) : okH (n + 1) (l ++ [e]) :=
 ⟨by have := h.1; simp only [List.length_append,List.length_singleton]; omega,fun y hy => by
  rw [List.mem_append,List.mem_singleton] at hy
  rcases hy with hy | hy
  ·exact h.2 y hy
  ·rw [hy]; exact he⟩
theorem okH_up {n m : Nat} {l : List EventT} (h : okH n l) (hm : n ≤ m) : okH m l := ⟨Nat.le_trans h.1 hm,h.2⟩
theorem okH_ok {n : Nat} {l : List EventT} (h : okH n l) (hn : n ≤ 1000) : ok_LEvent l := ⟨by have := h.1; omega,fun y hy => okE_ok (h.2 y hy)⟩
theorem mayCome_eq (s : StateT) (e : EventT) (hg : goodS s = true) (hev : evP e = true) (hid : e.Id = s.Next) : zbk s e.Kind e.Name = some ((applyP s e).isSome,true) := by
 have n := goodS_num hg
 have n1 := okL_len n.2.2.2.1
 have n2 := okL_len n.2.2.2.2
 have hk : decide (1 ≤ e.Kind ∧ e.Kind ≤ 6) = true ∧ nameP e.Name = true := by
  unfold evP at hev
  simp only [Bool.and_eq_true] at hev
  exact ⟨hev.1.2,hev.2⟩
 unfold zbk zad
 rw [zcg s (by omega) (by omega),hg]
 simp only [Option.bind_some,zdl,zbL,hk.1,hk.2,Bool.not_true,Bool.false_eq_true,if_false]
 have hcl : zaM s = some s := by
  unfold zaM zaO
  rw [guard_pos (by omega),guard_pos (by omega)]
  rfl
 rw [hcl]
 simp only [Option.bind_some]
 obtain ⟨r,hr,ht,hf⟩ := zgL s e hg hev hid
 rw [hr]
 simp only [Option.bind_some]
 cases hb : r.1
 ·rw [hf hb]; simp
 ·obtain ⟨g1,g2⟩ := ht hb
  have hlen := outP_len hg g2
  rw [if_pos rfl,zcg r.2 (by omega) (by omega)]
  have ha : applyP s e = if goodS r.2 = true then some r.2 else none := by unfold applyP; rw [if_pos g1,g2]; rfl
  rw [ha]
  simp only [Option.bind_some]
  cases goodS r.2 <;> simp
end Go.TL
