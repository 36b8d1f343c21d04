import Derived.Test.YtjkeoippmlmfbaaGreatDoorTlStep
import Derived.Below
set_option linter.unusedSimpArgs false
set_option linter.unusedVariables false
namespace Go.TL
open Go Go.RowKit

theorem keep_below {w w' : World} (h : Below w.heap.size w w') : Keep (fun _ _ => False) w w' where
  os := h.os
  tape := h.tape
  output := h.output
  size := h.size
  cell b k hb _ := by unfold World.cell?; rw [h.block b hb]
  frz b k hb := by unfold World.frozen?; rw [h.block b hb]
  blk b hb _ := h.block b hb

theorem sit_keep {w0 w w' : World} {W0 : Fr} {c : Ctx} {H : Heap} (s : Sit w0 W0 c H w) (k : Keep (fun _ _ => False) w w') : Sit w0 W0 c H w' ∧ Same c w w' := by
  have hf : ∀ b j, b < w.heap.size → (fun _ _ => False : CellSet) b j → ∃ id o, H id = some o ∧ inR (c.loc id) b j := fun _ _ _ h => h.elim
  have hs := s.same k hf
  refine ⟨⟨s.keeps k hf, fun id o h => ⟨(s.own id o h).1, (s.own id o h).2.mono (.refl c) hs fun b j hr => ⟨k.cell b j (s.lt h hr) (fun z => z.elim), k.frz b j (s.lt h hr)⟩⟩, s.dis, s.sep, s.old, fun b j h => ⟨(s.new b j h).1, Nat.lt_of_lt_of_le (s.new b j h).2 k.size⟩, fun b j v he => ?_, fun id o h b j hr k' => (k.frz b k' (s.lt h hr)).trans (s.pl id o h b j hr k'), fun id o h x hx => ⟨Nat.lt_of_lt_of_le (s.mo id o h x hx).1 k.size, (s.mo id o h x hx).2⟩⟩, hs⟩
  have ha := s.aside k hf he
  exact ⟨(s.res b j v he).1, (s.res b j v he).2.1, ha.1, ha.2, (s.res b j v he).2.2.2.2⟩

theorem cv_sc {w : World} {c : Ctx} {t : Bool} {v u : Value} (h : Cv w c (.lf t (.sc v)) u) : u = v := by
  cases h with | lf h => cases h; rfl

/-- A function of two texts that gives a text. -/
theorem fn_str2 {P : Program} {f : FuncId} (hent : Ent P f) {a b r : ByteArray} (h : ∀ w, Calls P f #[.string a, .string b] w fun e w' => e = .returned (.string r) ∧ Below w.heap.size w w') :
    Fn P f [.lf false (.sc (.string a)), .lf false (.sc (.string b))] [] 0 (.lf false (.sc (.string r))) [] 0 := by
  refine ⟨hent, fun w F loc vs hsit hvs hv => ?_⟩
  obtain ⟨u0, e0, c0⟩ := hv 0 (by simp)
  obtain ⟨u1, e1, c1⟩ := hv 1 (by simp)
  have hvs' : vs = #[.string a, .string b] := by
    simp only [List.length_cons, List.length_nil] at hvs
    refine Array.ext (by simpa using hvs) fun i h1 h2 => ?_
    have hi : i = 0 ∨ i = 1 := by omega
    rcases hi with rfl | rfl
    · rw [Array.getElem?_eq_getElem h1] at e0; cases e0; exact cv_sc c0
    · rw [Array.getElem?_eq_getElem h1] at e1; cases e1; exact cv_sc c1
  rw [hvs']
  refine (h w).mono fun e w' ⟨he, hb⟩ => ?_
  exact ⟨_, _, he, .refl _, rfl, (sit_keep hsit (keep_below hb)).1, .lf (.sc rfl)⟩
end Go.TL
