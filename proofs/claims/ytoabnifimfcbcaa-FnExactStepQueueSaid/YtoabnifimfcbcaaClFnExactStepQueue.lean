/- FnExactStepQueue answers true for all arguments, and leaves them as they were; no condition. -/
import Derived.Test.YtoabnifimfcbcaaRows
import Derived.Test.YtoabnifimfcbcaaWlFnExactStepQueueC
import Derived.Test.YtoabnifimfcbcaaPpStepQ
import Derived.Test.YtoabnifimfcbcaaTlOpen
import Derived.WalkKit
import Derived.ProofKit
import Derived.OpenShut
import Derived.ShutString
import Derived.ChangeOld
import Derived.Below
import Derived.SizedLaws
set_option linter.unusedVariables false
set_option linter.unusedSimpArgs false
namespace Go.TL
open Go
def eQueue (x : QueueT) : List Leaf := [.sc (.int .i64 x.Window), .sl (x.Sent.map eS), .sc (.int .i64 x.Base), .sl (x.Got.map eS), .sl (x.Line.map ePacket)]
@[go_sem] theorem eQueue_ (x : QueueT) : eQueue x = [.sc (.int .i64 x.Window), .sl (x.Sent.map eS), .sc (.int .i64 x.Base), .sl (x.Got.map eS), .sl (x.Line.map ePacket)] := rfl
@[go_sem] theorem fold_eQueue_set (l : List QueueT) (i : Nat) (v0 : Int) (v1 : (List ByteArray)) (v2 : Int) (v3 : (List ByteArray)) (v4 : (List PacketT)) : (l.map eQueue).set i [.sc (.int .i64 v0), .sl (v1.map eS), .sc (.int .i64 v2), .sl (v3.map eS), .sl (v4.map ePacket)] = (l.set i (⟨v0, v1, v2, v3, v4⟩ : QueueT)).map eQueue := by rw [List.map_set]; rfl
@[go_sem] theorem fold_eQueue_app (l : List QueueT) (v0 : Int) (v1 : (List ByteArray)) (v2 : Int) (v3 : (List ByteArray)) (v4 : (List PacketT)) : l.map eQueue ++ [[.sc (.int .i64 v0), .sl (v1.map eS), .sc (.int .i64 v2), .sl (v3.map eS), .sl (v4.map ePacket)]] = (l ++ [(⟨v0, v1, v2, v3, v4⟩ : QueueT)]).map eQueue := by rw [List.map_append]; rfl
theorem fold_eQueue_rep (n : Nat) : List.replicate n [.sc (.int .i64 0), .sl [], .sc (.int .i64 0), .sl [], .sl []] = (List.replicate n (⟨0, [], 0, [], []⟩ : QueueT)).map eQueue := by rw [List.map_replicate]; rfl
end Go.TL
namespace Go.Proofs.Ytoabnifimfcbcaa.fnExactStepQueue
open Go.ChangeShapes Go.WideShapes Go.ChangeAt Go.RowKit Go.TL Go.TL.Ytoabnifimfcbcaa
set_option maxRecDepth 100000
theorem own : ownKnob Try.prog.godebug = none := by kernel_rfl
theorem op3 {n : Nat} {ls : List Leaf} (h : Shp Try.prog (n + 1) 3 ls) : ∃ x : Int, ls = eI x ∧ ok_I x := by
  obtain ⟨x, h1, h2⟩ := shp_int Try.underlying3 h
  exact ⟨x, h1, bounds_i64 h2⟩
theorem op9 {n : Nat} {ls : List Leaf} (h : Shp Try.prog (n + 1) 9 ls) : ∃ x : ByteArray, ls = eS x ∧ ok_S x := by
  obtain ⟨x, h1, h2⟩ := shp_str Try.underlying9 h
  exact ⟨x, h1, by unfold maxLen at h2; exact h2⟩
set_option maxRecDepth 100000 in
theorem op54 {n : Nat} {ls : List Leaf} (h : Shp Try.prog (n + 2) 54 ls) : ∃ x : (List ByteArray), ls = [.sl (x.map eS)] ∧ ok_LS x := by
  obtain ⟨xs, h1, h2, h3⟩ := shp_slice (f := eS) (p := ok_S) Try.underlying54 (fun r hr => op9 (n := n) hr) h
  exact ⟨xs, h1, by unfold maxLen at h2; exact ⟨h2, h3⟩⟩
theorem op4 {n : Nat} {ls : List Leaf} (h : Shp Try.prog (n + 1) 4 ls) : ∃ x : Bool, ls = eB x ∧ ok_B x := by
  obtain ⟨x, h1⟩ := shp_bool Try.underlying4 h
  exact ⟨x, h1, trivial⟩
set_option maxRecDepth 100000 in
theorem op160 {n : Nat} {ls : List Leaf} (h : Shp Try.prog (n + 2) 160 ls) : ∃ x : PacketT, ls = ePacket x ∧ ok_Packet x := by
  obtain ⟨a0, _, rfl, h0, a1, _, rfl, h1, a2, _, rfl, h2, rfl⟩ := shp_struct Try.underlying160 h
  obtain ⟨x0, rfl, g0⟩ := op4 (n := n + 0) h0
  obtain ⟨x1, rfl, g1⟩ := op3 (n := n + 0) h1
  obtain ⟨x2, rfl, g2⟩ := op9 (n := n + 0) h2
  exact ⟨⟨x0, x1, x2⟩, rfl, ⟨g0, g1, g2⟩⟩
set_option maxRecDepth 100000 in
theorem op82 {n : Nat} {ls : List Leaf} (h : Shp Try.prog (n + 3) 82 ls) : ∃ x : (List PacketT), ls = [.sl (x.map ePacket)] ∧ ok_LPacket x := by
  obtain ⟨xs, h1, h2, h3⟩ := shp_slice (f := ePacket) (p := ok_Packet) Try.underlying82 (fun r hr => op160 (n := n) hr) h
  exact ⟨xs, h1, by unfold maxLen at h2; exact ⟨h2, h3⟩⟩
set_option maxRecDepth 100000 in
theorem op84 {n : Nat} {ls : List Leaf} (h : Shp Try.prog (n + 4) 84 ls) : ∃ x : QueueT, ls = eQueue x ∧ ok_Queue x := by
  obtain ⟨a0, _, rfl, h0, a1, _, rfl, h1, a2, _, rfl, h2, a3, _, rfl, h3, a4, _, rfl, h4, rfl⟩ := shp_struct Try.underlying84 h
  obtain ⟨x0, rfl, g0⟩ := op3 (n := n + 2) h0
  obtain ⟨x1, rfl, g1⟩ := op54 (n := n + 1) h1
  obtain ⟨x2, rfl, g2⟩ := op3 (n := n + 2) h2
  obtain ⟨x3, rfl, g3⟩ := op54 (n := n + 1) h3
  obtain ⟨x4, rfl, g4⟩ := op82 (n := n + 0) h4
  exact ⟨⟨x0, x1, x2, x3, x4⟩, rfl, ⟨g0, g1, g2, g3, g4⟩⟩
set_option maxRecDepth 100000 in
theorem op85 {n : Nat} {ls : List Leaf} (h : Shp Try.prog (n + 2) 85 ls) : ∃ x : LineStepT, ls = eLineStep x ∧ ok_LineStep x := by
  obtain ⟨a0, _, rfl, h0, a1, _, rfl, h1, a2, _, rfl, h2, rfl⟩ := shp_struct Try.underlying85 h
  obtain ⟨x0, rfl, g0⟩ := op3 (n := n + 0) h0
  obtain ⟨x1, rfl, g1⟩ := op3 (n := n + 0) h1
  obtain ⟨x2, rfl, g2⟩ := op9 (n := n + 0) h2
  exact ⟨⟨x0, x1, x2⟩, rfl, ⟨g0, g1, g2⟩⟩
set_option maxRecDepth 100000 in
theorem law (ls : List (List Leaf)) (h : ShpAll Try.prog 4 [84, 85] ls) : ∃ nx, Go.TL.Fn Try.prog 8 (argsLV Try.prog [84, 85] ls) [] 0 (.lf false (.sc (.bool true))) [] nx := by
  obtain ⟨a0, _, rfl, h0, a1, _, rfl, h1, rfl⟩ := h
  obtain ⟨x0, rfl, g0⟩ := op84 (n := 0) h0
  obtain ⟨x1, rfl, g1⟩ := op85 (n := 2) h1
  simp only [argsLV, argLV, Try.underlying84, Try.underlying85, lfOf, List.map_cons, List.map_nil, List.cons_append, List.nil_append, eQueue, eLineStep]
  exact ⟨_, w_laws_FnExactStepQueue (step_holds x0 x1 g0 g1)⟩
set_option maxRecDepth 100000 in
theorem lifted (os : Os) (started : os.Started) (H : Type) (enc : TypeId × Value → H) :
    ReturnsInHanded {} Try.checked os 8 .any (Rows.fnExactStepQueueSpec.pre6 enc Try.prog Try.f8 Rows.fnExactStepQueueRow.domain false) (Rows.fnExactStepQueueSpec.post enc Try.prog Try.f8 false true false false) := by
  refine returnsInHanded_of_change_sized (C := Try.checked) own started (by kernel_rfl) Try.func8
    (ChangeSpec.witness6 (enc := enc) (C := Try.checked) false ⟨#[], #[.agg #[.int .i64 0, .slice none 0 0, .int .i64 0, .slice none 0 0, .slice none 0 0], .agg #[.int .i64 0, .int .i64 0, .string .empty]], []⟩ 8 (by kernel_rfl) (by kernel_rfl) (by kernel_rfl) (by kernel_rfl)) ?_
  intro W base args ds gs before hval0 hW hcnd hsz0 _
  have hval : ∀ (j : Nat) t v, Try.f8.params[j]? = some t → args[j]? = some v → Value.okWide Try.prog W .any base t v := hval0
  have hW' := hW
  obtain ⟨p, q, hA0, hV, rfl, hfz, hnd⟩ := hW
  have hA : DataW.TrodAll enc Try.prog W 0 (fun _ => true) true Try.f8.params.toList args.toList ds p := hA0
  rw [Try.params8] at hA hval
  obtain ⟨rfl, rfl⟩ := trodVars_none hV
  obtain ⟨hlen, hc⟩ := law_calls (n := 4) (base := base) (f := 8) (by kernel_rfl) (fun j t v h1 h2 => hval j t v (by simpa using h1) h2) hA law
  refine hc.mono fun e W' ⟨he, bel⟩ => ?_
  subst he
  have hback := backAll (enc := enc) (P := Try.prog) (by kernel_rfl) bel (by kernel_rfl) (fun x hx => hW'.lt x (by simpa using hx)) hA
  match ds, hlen with
  | [d0, d1], _ => exact ⟨_, rfl, _, _, _, [], _, [], hW', trodAll_mk1 (shut_bool Try.underlying4 _), hback, rfl, bel.frame _, fun h => by cases h⟩

theorem over : Rows.fnExactStepQueueRow.holds Try.pinned (OpenSpec.ofChange Rows.fnExactStepQueueSpec) :=
  OpenClaim.holds_of_wide 8 Try.f8 rfl rfl rfl rfl rfl rfl rfl ⟨rfl, rfl, rfl, rfl, rfl⟩ rfl rfl rfl rfl rfl (by kernel_rfl) Try.func8 (by kernel_rfl)
    (of_decide_eq_true (by kernel_rfl)) (by unfold Func.isWrapper; first | (rw [if_pos (by decide +kernel)]; kernel_rfl) | (rw [if_neg (by decide +kernel)]; exact ⟨rfl, rfl⟩))
    (fun os started H enc _ => lifted os started H enc)
theorem proved : Rows.FnExactStepQueueSaid := over
#print axioms proved
end Go.Proofs.Ytoabnifimfcbcaa.fnExactStepQueue
namespace Go.Proofs.Ytoabnifimfcbcaa
/-- The row, under a short name, for the claim. -/
theorem fnExactStepQueue_holds : Rows.FnExactStepQueueSaid := fnExactStepQueue.proved
end Go.Proofs.Ytoabnifimfcbcaa
