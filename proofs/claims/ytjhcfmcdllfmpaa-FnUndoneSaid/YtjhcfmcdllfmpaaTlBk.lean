import Derived.Test.YtjhcfmcdllfmpaaProg
import Derived.RangeFuncBox
import Derived.RangeFuncLeaves
import Derived.RangeFuncFrom
import Derived.Shelf.Abstract
import Derived.WalkKit
import Derived.OwnWalkIn
import Derived.TacticsInMore
import Derived.LoopNIn
import Derived.LoopIn
set_option linter.unusedSimpArgs false
set_option linter.unusedVariables false
namespace Go.Proofs
open Go.RowKit Go.Shelf
attribute [local go_sem] Oper.semAt_some

abbrev Mv3 (x : Int × Int × Int) : Value := .agg #[.int .i64 x.1, .int .i64 x.2.1, .int .i64 x.2.2]

set_option maxRecDepth 100000 in
set_option maxHeartbeats 2000000 in
theorem Try.back1_in (l Bs b off len cap : Nat) (zs : Nat → Int × Int × Int) (hreach : len * 24 ≤ 140737488351232) (J : Nat → World → Prop) (Jx : World → Prop)
    (hJ : ∀ k W, J k W → W.cell? ⟨Bs, 0, none⟩ = some (.slice (some ⟨b, off, none⟩) len cap) ∧
      ∀ j, j < len → W.cell? ⟨b, off + j * 3, none⟩ = some (.int .i64 (zs j).1) ∧ W.cell? ⟨b, off + j * 3 + 1, none⟩ = some (.int .i64 (zs j).2.1) ∧ W.cell? ⟨b, off + j * 3 + 2, none⟩ = some (.int .i64 (zs j).2.2))
    (hY : ∀ k W, k < len → J (k + 1) W → YieldAt Fence.wide 0 Try.prog l #[.int .i64 (k : Int), Mv3 (zs k)] W fun e W' =>
      (e = .returned (.bool true) ∧ J k W') ∨ (e = .returned (.bool false) ∧ Jx W'))
    (W : World) (h0 : J len W) :
    CallsIn Fence.wide 1 Try.prog 68 #[.func (.yield l) #[] #[], .pointer (some ⟨Bs, 0, none⟩)] W fun e W' => (∃ v, e = .returned v) ∧ (J 0 W' ∨ Jx W') := by
  refine callsIn_of_wp Try.func68 rfl trivial ?_ rfl
  simp only [Try.ntmps68, List.size_toArray, List.length_cons, List.length_nil, Nat.reduceAdd, Nat.reduceSub, Array.replicate_succ, Array.replicate_zero, List.push_toArray, List.append_toArray, List.nil_append, List.cons_append]
  obtain ⟨hBs, hc⟩ := hJ _ _ h0
  gi_wp2
  gi_loopw [3] (fun i wr => ∃ k : Nat, k ≤ len ∧ i = .int .i64 ((k : Int) - 1) ∧ J k wr)
    (fun i _ => (intOf i + 1).toNat)
  case atStart => exact ⟨len, Nat.le_refl _, rfl, h0⟩
  case round =>
    obtain ⟨k, hk, rfl, hJs⟩ := hrel
    obtain ⟨hB', hc'⟩ := hJ _ _ hJs
    by_cases hlt : 0 < k
    · obtain ⟨k, rfl⟩ : ∃ j, k = j + 1 := ⟨k - 1, by omega⟩
      obtain ⟨fn, tmps, assign, body, hy, hR⟩ := hY k wr (by omega) hJs
      have hcx := hc' k (by omega)
      gi_wp2
      refine hR.mono ?_
      rintro e W3 (⟨rfl, hJ3⟩ | ⟨rfl, hJx3⟩)
      · gi_wp2
        go_roundw
        case rel => exact ⟨k, by omega, rfl, hJ3⟩
        case measure => simp [intOf]
      · gi_wp2
        refine bodyPost_ret (results_none rfl _ _ _) rfl ?_
        exact ⟨⟨_, rfl⟩, .inr hJx3⟩
    · obtain rfl : k = 0 := by omega
      gi_wp2
      go_end0
      exact ⟨⟨_, rfl⟩, .inl hJs⟩

set_option maxRecDepth 100000 in
set_option maxHeartbeats 1000000 in
theorem Try.back1_nil_in (l Bs : Nat) (a : Option Addr) (cap : Nat) (J : World → Prop) (W : World) (hBs : W.cell? ⟨Bs, 0, none⟩ = some (.slice a 0 cap)) (h0 : J W) :
    CallsIn Fence.wide 1 Try.prog 68 #[.func (.yield l) #[] #[], .pointer (some ⟨Bs, 0, none⟩)] W fun e W' => (∃ v, e = .returned v) ∧ J W' := by
  refine callsIn_of_wp Try.func68 rfl trivial ?_ rfl
  simp only [Try.ntmps68, List.size_toArray, List.length_cons, List.length_nil, Nat.reduceAdd, Nat.reduceSub, Array.replicate_succ, Array.replicate_zero, List.push_toArray, List.append_toArray, List.nil_append, List.cons_append]
  gi_wp2
  gi_loopw [3] (fun i wr => i = .int .i64 (-1) ∧ J wr) (fun _ _ => 0)
  case atStart => exact ⟨rfl, h0⟩
  case round =>
    obtain ⟨rfl, hJs⟩ := hrel
    gi_wp2
    go_end0
    exact ⟨⟨_, rfl⟩, hJs⟩

set_option maxHeartbeats 1000000 in
theorem Try.back_in (a : Option Addr) (len cap : Nat) (w : World) (n : Nat) :
    CallsIn Fence.wide n Try.prog 41 #[.slice a len cap] w fun e w' => e = .returned (.func (.func 68) #[] #[.pointer (some ⟨w.heap.size, 0, none⟩)]) ∧ w' = w.alloc (.cells #[.slice a len cap] 24) := by
  refine callsIn_of_wp Try.func41 rfl trivial ?_ rfl
  simp only [Try.ntmps41, List.size_toArray, List.length_cons, List.length_nil, Nat.reduceAdd, Nat.reduceSub, Array.replicate_succ, Array.replicate_zero, List.push_toArray, List.append_toArray, List.nil_append, List.cons_append]
  gi_wp2
  go_ret
  exact ⟨rfl, rfl⟩
end Go.Proofs
namespace Go.Proofs
open Go.RowKit Go.Shelf

/-- The range's own book-keeping: no cell is turned, and nothing below n. -/
structure Book (n : Nat) (W W' : World) : Prop where
  cell : ∀ a, W'.cell? a = W.cell? a
  frz : ∀ a, W'.frozen? a = W.frozen? a
  below : Below n W W'

theorem book_put {n : Nat} {W : World} {l : Nat} {o o' : Obj} (hn : n ≤ l) (hl : W.heap[l]? = some o) (h1 : o.isCells = false) (h2 : o'.isCells = false) : Book n W (W.putObj l o') := by
  have hlt : l < W.heap.size := (Array.getElem?_eq_some_iff.1 hl).1
  have h : ∀ b, (W.putObj l o').heap[b]? = if b = l then some o' else W.heap[b]? := fun b => by
    by_cases e : b = l
    · subst e; rw [if_pos rfl]; exact World.putObj_heap_same hlt
    · rw [if_neg e]; exact World.putObj_heap_other e
  refine ⟨fun a => ?_, fun a => ?_, ?_⟩
  · unfold World.cell?
    rw [h]
    by_cases e : a.block = l
    · rw [if_pos e, e, hl]
      cases o <;> cases o' <;> first | rfl | (simp [Obj.isCells] at h1 h2)
    · rw [if_neg e]
  · unfold World.frozen?
    rw [h]
    by_cases e : a.block = l
    · rw [if_pos e, e, hl]
      cases o <;> cases o' <;> first | rfl | (simp [Obj.isCells] at h1 h2)
    · rw [if_neg e]
  · exact ⟨rfl, rfl, rfl, by simp [World.putObj], fun k hk => by rw [h, if_neg (by omega)]⟩
theorem book_alloc {n : Nat} {W : World} {o : Obj} (hn : n ≤ W.heap.size) (h1 : o.isCells = false) : Book n W (W.alloc o) := by
  have h : ∀ b, (W.alloc o).heap[b]? = if b = W.heap.size then some o else W.heap[b]? := fun b => by
    by_cases e : b = W.heap.size
    · subst e; rw [if_pos rfl]; exact World.alloc_heap_new W o
    · rw [if_neg e]
      rcases Nat.lt_or_ge b W.heap.size with hb | hb
      · exact Below.heap_alloc _ _ _ hb
      · rw [Array.getElem?_eq_none (by simp; omega), Array.getElem?_eq_none (by omega)]
  refine ⟨fun a => ?_, fun a => ?_, (Below.refl _ W).alloc hn o⟩
  · unfold World.cell?
    rw [h]
    by_cases e : a.block = W.heap.size
    · rw [if_pos e, e, Array.getElem?_eq_none (Nat.le_refl _)]
      cases o <;> first | rfl | (simp [Obj.isCells] at h1)
    · rw [if_neg e]
  · unfold World.frozen?
    rw [h]
    by_cases e : a.block = W.heap.size
    · rw [if_pos e, e, Array.getElem?_eq_none (Nat.le_refl _)]
      cases o <;> first | rfl | (simp [Obj.isCells] at h1)
    · rw [if_neg e]
theorem Book.trans {n : Nat} {A B C : World} (h : Book n A B) (k : Book n B C) : Book n A C :=
  ⟨fun a => (k.cell a).trans (h.cell a), fun a => (k.frz a).trans (h.frz a), h.below.trans k.below⟩

/-- A RANGE OVER Backward(moves), the invariant told by how many are left. -/
theorem Try.range_w {Q : Exit → Act → World → Prop} {a : Act} {w : World} {assign body : Code} {Bs len cap : Nat} {ad : Option Addr} {zs : Nat → Int × Int × Int} (hreach : len * 24 ≤ 140737488351232)
    (hg : a.eval (.tmp 42) = .func (.func 68) #[] #[.pointer (some ⟨Bs, 0, none⟩)]) (had : 0 < len → ∃ b off, ad = some ⟨b, off, none⟩)
    (I : Nat → World → Prop) (Ix : World → Prop) (A : Nat → World → Act → Prop)
    (hIb : ∀ k W W', I k W → Book w.heap.size W W' → I k W') (hXb : ∀ W W', Ix W → Book w.heap.size W W' → Ix W') (hAb : ∀ k W W' a1, A k W a1 → Book w.heap.size W W' → A k W' a1)
    (hread : ∀ k W, I k W → W.cell? ⟨Bs, 0, none⟩ = some (.slice ad len cap) ∧
      ∀ b off, ad = some ⟨b, off, none⟩ → ∀ j, j < len → W.cell? ⟨b, off + j * 3, none⟩ = some (.int .i64 (zs j).1) ∧ W.cell? ⟨b, off + j * 3 + 1, none⟩ = some (.int .i64 (zs j).2.1) ∧ W.cell? ⟨b, off + j * 3 + 2, none⟩ = some (.int .i64 (zs j).2.2))
    (h0 : I len w)
    (hassign : ∀ (l k : Nat) (W : World) (K : Act → World → Prop), k < len → I (k + 1) W → w.heap.size + 2 ≤ W.heap.size →
      (∀ a1 W1, A k W1 a1 → w.heap.size + 2 ≤ W1.heap.size → (∀ i, i < w.heap.size + 2 → w.heap.size ≤ i → W1.heap[i]? = W.heap[i]?) → K a1 W1) →
      assign.wpIn (Fence.wide.inRound l) 0 Try.prog (Exit.then K (fun _ _ _ => False)) { tmps := (#[43, 44].zip #[.int .i64 (k : Int), Mv3 (zs k)]).foldl (fun t (p, v) => t.setIfInBounds p v) a.tmps, defers := [] } W)
    (hbody : ∀ (l k : Nat) (W : World) (a1 : Act), k < len → A k W a1 → w.heap.size + 2 ≤ W.heap.size → body.wpIn (Fence.wide.inRound l) 0 Try.prog
      (fun e _ W3 => w.heap.size + 2 ≤ W3.heap.size ∧ (∀ i, i < w.heap.size + 2 → w.heap.size ≤ i → W3.heap[i]? = W.heap[i]?) ∧ match e with | .normal => I k W3 | .ret => Ix W3 | _ => False) a1 W)
    (hdone : ∀ W, I 0 W → W.heap[w.heap.size]? = some (.deferred (some [])) → Q .normal { a with defers := { target := .collected w.heap.size, args := #[] } :: a.defers } W)
    (hstop : ∀ W, Ix W → W.heap[w.heap.size]? = some (.deferred (some [])) → Q .ret { a with defers := { target := .collected w.heap.size, args := #[] } :: a.defers } W) :
    (Code.rangeFunc (.tmp 42) #[43, 44] assign body).wpIn Fence.wide 3 Try.prog Q a w := by
  refine wpIn_rangeFunc ?_
  intro fn hfn
  obtain ⟨rec, hrec⟩ : ∃ rec : LoopState → Option Code → Loop, rec = fun st pe => { state := st, pending := pe, fn, tmps := a.tmps, params := #[43, 44], assign, body, defers := w.heap.size } := ⟨_, rfl⟩
  obtain ⟨W1, hW1⟩ : ∃ W1, (w.alloc (.deferred (some []))).alloc (.loop (rec .ready none)) = W1 := ⟨_, rfl⟩
  have hL1 : W1.heap[w.heap.size + 1]? = some (.loop (rec .ready none)) := by
    rw [← hW1]; have := World.alloc_heap_new (w.alloc (.deferred (some []))) (.loop (rec .ready none)); rwa [World.size_alloc] at this
  have hK1 : W1.heap[w.heap.size]? = some (.deferred (some [])) := by
    rw [← hW1]; exact (Below.heap_alloc _ _ _ (by simp)).trans (World.alloc_heap_new w _)
  have hB1 : Book w.heap.size w W1 := by
    rw [← hW1]; exact (book_alloc (Nat.le_refl _) rfl).trans (book_alloc (by simp) rfl)
  have hz1 : w.heap.size + 2 ≤ W1.heap.size := by rw [← hW1]; simp
  have eg := enters_of (P := Try.prog) Try.func68 (by kernel_rfl) rfl
  refine ⟨w.heap.size + 1, [{ target := .collected w.heap.size, args := #[] }], W1, { target := .fn (.func 68) #[.pointer (some ⟨Bs, 0, none⟩)], args := #[.func (.yield (w.heap.size + 1)) #[] #[]] }, W1, 68,
    #[.func (.yield (w.heap.size + 1)) #[] #[]] ++ #[.pointer (some ⟨Bs, 0, none⟩)], W1, ?_, ?_, fun _ _ => trivial, ?_, fun _ => by omega, ?_⟩
  · rw [← hW1, hrec]; exact run_enterLoop_outer _ _ _ _ _
  · simp only [resolve, hg]
    simp [go_sem]
  · simp [invoke, go_sem, eg]
  let J : Nat → World → Prop := fun k W => I k W ∧ w.heap.size + 2 ≤ W.heap.size ∧ W.heap[w.heap.size + 1]? = some (.loop (rec .ready none)) ∧ W.heap[w.heap.size]? = some (.deferred (some []))
  let Jx : World → Prop := fun W => Ix W ∧ w.heap.size + 2 ≤ W.heap.size ∧ W.heap[w.heap.size + 1]? = some (.loop (rec .done (some .ret))) ∧ W.heap[w.heap.size]? = some (.deferred (some []))
  have hround : ∀ k W, k < len → J (k + 1) W → YieldAt Fence.wide 0 Try.prog (w.heap.size + 1) #[.int .i64 (k : Int), Mv3 (zs k)] W fun e W' =>
      (e = .returned (.bool true) ∧ J k W') ∨ (e = .returned (.bool false) ∧ Jx W') := by
    rintro k W hk ⟨hi, hz, hl, hd⟩
    have hy := run_yield (P := Try.prog) (args := #[.int .i64 (k : Int), Mv3 (zs k)]) hl (by rw [hrec]; rfl)
    rw [hrec] at hy
    refine ⟨fn, _, assign, body, hy, roundIn_of_wpIn trivial (hassign _ k W _ hk hi hz fun a1 Wa hA hza hsame => ?_)⟩
    have hla : Wa.heap[w.heap.size + 1]? = some (.loop (rec .ready none)) := (hsame _ (by omega) (by omega)).trans hl
    have hda : Wa.heap[w.heap.size]? = some (.deferred (some [])) := (hsame _ (by omega) (by omega)).trans hd
    refine ⟨_, run_beginRound hla (by rw [hrec]), ?_⟩
    have hbk : Book w.heap.size Wa (Wa.putObj (w.heap.size + 1) (.loop { rec .ready none with state := .busy })) := book_put (by omega) hla rfl rfl
    have hl2 : (Wa.putObj (w.heap.size + 1) (.loop { rec .ready none with state := .busy })).heap[w.heap.size + 1]? = some (.loop { rec .ready none with state := .busy }) := World.putObj_heap_same (by omega)
    have hd2 : (Wa.putObj (w.heap.size + 1) (.loop { rec .ready none with state := .busy })).heap[w.heap.size]? = some (.deferred (some [])) := (World.putObj_heap_other (by omega)).trans hda
    refine wpIn_mono (hbody _ k _ a1 hk (hAb _ _ _ _ hA hbk) (Nat.le_trans hza hbk.below.size)) ?_
    rintro e a3 W3 ⟨hz3, hs3, hp⟩
    have hl3 := (hs3 _ (by omega) (by omega)).trans hl2
    have hd3 := (hs3 _ (by omega) (by omega)).trans hd2
    have fin : ∀ (jump : Option Code), (Instr.endRound (w.heap.size + 1) jump).run Try.prog W3 = .ok (.bool jump.isNone) (W3.putObj (w.heap.size + 1) (.loop (rec (if jump.isNone then .ready else .done) jump))) := fun jump => by
      have := run_endRound (P := Try.prog) jump hl3
      rw [hrec] at this ⊢
      exact this
    have hz4 : ∀ o, w.heap.size + 2 ≤ (W3.putObj (w.heap.size + 1) o).heap.size := fun o => by simpa [World.putObj] using hz3
    have hl4 : ∀ o, (W3.putObj (w.heap.size + 1) o).heap[w.heap.size + 1]? = some o := fun o => World.putObj_heap_same (by omega)
    have hd4 : ∀ o, (W3.putObj (w.heap.size + 1) o).heap[w.heap.size]? = some (.deferred (some [])) := fun o => (World.putObj_heap_other (by omega)).trans hd3
    cases e with
    | normal => exact ⟨_, _, fin none, .inl ⟨rfl, hIb _ _ _ hp (book_put (by omega) hl3 rfl rfl), hz4 _, hl4 _, hd4 _⟩⟩
    | ret => exact ⟨_, _, fin (some .ret), .inr ⟨rfl, hXb _ _ hp (book_put (by omega) hl3 rfl rfl), hz4 _, hl4 _, hd4 _⟩⟩
    | exit id => exact hp.elim
    | goto t => exact hp.elim
    | panic ch => exact hp.elim
    | outgrown => exact hp.elim
  have hJ0 : J len W1 := ⟨hIb _ _ _ h0 hB1, hz1, hL1, hK1⟩
  have key : CallsIn Fence.wide 2 Try.prog 68 #[.func (.yield (w.heap.size + 1)) #[] #[], .pointer (some ⟨Bs, 0, none⟩)] W1 fun e W' => (∃ v, e = .returned v) ∧ (J 0 W' ∨ Jx W') := by
    refine callsIn_wide.2 ((callsIn_wide (n := 1)).1 ?_)
    rcases Nat.eq_zero_or_pos len with e | hpos
    · subst e
      exact (Try.back1_nil_in _ _ ad cap (J 0) W1 (hread _ _ hJ0.1).1 hJ0).mono fun e W' ⟨h1, h2⟩ => ⟨h1, .inl h2⟩
    · obtain ⟨b, off, rfl⟩ := had hpos
      exact Try.back1_in _ _ b off len cap zs hreach J Jx (fun k W hk => ⟨(hread _ _ hk.1).1, (hread _ _ hk.1).2 b off rfl⟩) hround W1 hJ0
  refine key.mono ?_
  rintro e W2 ⟨⟨v, rfl⟩, (⟨hi, hz, hl, hd⟩ | ⟨hx, hz, hl, hd⟩)⟩
  · exact ⟨none, _, by have := run_endLoop (P := Try.prog) hl (by rw [hrec]; simp); rw [hrec] at this; exact this, hdone _ (hIb _ _ _ hi (book_put (by omega) hl rfl rfl)) ((World.putObj_heap_other (by omega)).trans hd)⟩
  · exact ⟨some .ret, _, by have := run_endLoop (P := Try.prog) hl (by rw [hrec]; simp); rw [hrec] at this; exact this, wpIn_ret (hstop _ (hXb _ _ hx (book_put (by omega) hl rfl rfl)) ((World.putObj_heap_other (by omega)).trans hd))⟩
end Go.Proofs
