import Derived.Test.YtjhcfmcdllfmpaaTlBk
import Derived.Test.YtjhcfmcdllfmpaaG0TlCore
import Derived.RangeFuncCalls
import Derived.RegionIn
import Derived.Shelf.RegionOpen
set_option linter.unusedSimpArgs false
set_option linter.unusedVariables false
namespace Go.Proofs
open Go.RowKit Go.Shelf Go.TL
attribute [local go_sem] Oper.semAt_some

abbrev LI (l : List Int) : Leaf := .sl (l.map fun x => [.sc (.int .i64 x)])
abbrev LM (l : List (Int × Int × Int)) : Leaf := .sl (l.map fun x => [.sc (.int .i64 x.1), .sc (.int .i64 x.2.1), .sc (.int .i64 x.2.2)])

theorem rep_below {w w' : World} {F : CellSet} {v : Value} {l : Leaf} {n : Nat} (h : RepL w F v l) (hF : ∀ b k, F b k → b < n) (hb : Below n w w') : RepL w' F v l :=
  h.mono (fun _ _ x => x) fun b k x => hb.cell (p := ⟨b, k, none⟩) (hF b k x)
theorem rep_slice {w : World} {F : CellSet} {v : Value} {rows : List (List Leaf)} (h : RepL w F v (.sl rows)) : ∃ a c, v = .slice a rows.length c := by
  generalize hl : Leaf.sl rows = l at h
  cases h with
  | sc h => cases hl
  | nil => cases hl; exact ⟨_, _, rfl⟩
  | sl cs hes hcap hS hr => cases hl; exact ⟨_, _, rfl⟩

set_option maxRecDepth 100000 in
set_option maxHeartbeats 2000000 in
theorem Try.gs_body (l rb nb p : Nat) (W : World) (F : CellSet) (va : Option Addr) (vn vc : Nat) (now : Leaf) (m : Int × Int × Int) (c : List Int × Bool) (Q : Exit → Act → World → Prop) (t0 t1 t3 t5 t7 t8 t9 t10 t11 t12 t13 t14 t15 t16 t17 t18 t19 t20 t21 t22 t23 t24 t25 t26 t27 t28 t29 t30 t31 t32 t33 t34 t35 t36 t37 t38 t39 t40 t41 t42 t43 t44 t45 t46 t47 t48 t49 t50 t51 t52 t53 t54 : Value)
    (hn : nb < W.heap.size) (hrb : rb < W.heap.size) (x0 : W.cell? ⟨nb, 0, none⟩ = some (.slice va vn vc)) (x1 : W.frozen? ⟨nb, 0, none⟩ = false) (x2 : W.cell? ⟨rb, 0, none⟩ = some (.bool false)) (x3 : W.frozen? ⟨rb, 0, none⟩ = false)
    (m0 : W.cell? ⟨p, 0, none⟩ = some (.int .i64 m.1)) (m1 : W.cell? ⟨p, 1, none⟩ = some (.int .i64 m.2.1)) (m2 : W.cell? ⟨p, 2, none⟩ = some (.int .i64 m.2.2))
    (hF : ∀ b j, F b j → b < W.heap.size) (hrep : RepL W F (.slice va vn vc) now)
    (hMV : ∀ (W : World) (F : CellSet) (v : Value), (∀ b k, F b k → b < W.heap.size) → RepL W F v now →
        Calls Try.prog 42 #[v, Mv3 (m.2.1, m.1, m.2.2)] W fun e W' => ∃ v' F', e = .returned (.tuple #[v', .bool c.2]) ∧ Below W.heap.size W W' ∧ (∀ b k, F' b k → W.heap.size ≤ b ∧ b < W'.heap.size) ∧ RepL W' F' v' (LI c.1))
    (hBK : ∀ W, Calls Try.prog 43 #[Mv3 m] W fun e W' => e = .returned (Mv3 (m.2.1, m.1, m.2.2)) ∧ Below W.heap.size W W')
    (hN : c.2 = true → ∀ a w2 v' F', Below W.heap.size W w2 → (∀ b k, F' b k → W.heap.size ≤ b ∧ b < w2.heap.size) → RepL w2 F' v' (LI c.1) → Q .normal a (w2.setCell ⟨nb, 0, none⟩ v'))
    (hR : c.2 = false → ∀ a w2, Below W.heap.size W w2 → Q .ret a (w2.setCell ⟨rb, 0, none⟩ (.bool false))) :
    Code.wpIn (Fence.wide.inRound l) 0 Try.prog
      (Go.Code.block 1
                          ((Go.Code.region 7
                                #[{ dst := some 46, op := Go.Op.load 23 (Go.Operand.tmp 4), type := 23,
                                    pos := "l9_saga.go:58", after := #[], guard := none },
                                  { dst := some 47, op := Go.Op.load 59 (Go.Operand.tmp 6), type := 59,
                                    pos := "l9_saga.go:58", after := #[], guard := none },
                                  { dst := some 48,
                                    op :=
                                      Go.Op.call
                                        { callee := Go.Callee.value (Go.Operand.func 43), args := #[Go.Operand.tmp 47],
                                          argTypes := #[59] },
                                    type := 59, pos := "l9_saga.go:58",
                                    after := #[{ on := 1, ground := Go.Ground.data }], guard := none },
                                  { dst := some 49,
                                    op :=
                                      Go.Op.call
                                        { callee := Go.Callee.value (Go.Operand.func 42),
                                          args := #[Go.Operand.tmp 46, Go.Operand.tmp 48], argTypes := #[23, 59] },
                                    type := 73, pos := "l9_saga.go:58",
                                    after :=
                                      #[{ on := 0, ground := Go.Ground.data }, { on := 2, ground := Go.Ground.data },
                                        { on := 2, ground := Go.Ground.chain }],
                                    guard := none },
                                  { dst := some 45, op := Go.Op.move (Go.Operand.tmp 49), type := 73,
                                    pos := "l9_saga.go:58", after := #[{ on := 3, ground := Go.Ground.data }],
                                    guard := none },
                                  { dst := some 50, op := Go.Op.extract (Go.Operand.tmp 45) 0, type := 23,
                                    pos := "l9_saga.go:58", after := #[{ on := 4, ground := Go.Ground.data }],
                                    guard := none },
                                  { dst := some 51, op := Go.Op.extract (Go.Operand.tmp 45) 1, type := 4,
                                    pos := "l9_saga.go:58",
                                    after :=
                                      #[{ on := 4, ground := Go.Ground.data },
                                        { on := 7, ground := Go.Ground.gcOnly Go.Departure.lateStores }],
                                    guard := none },
                                  { dst := some 7, op := Go.Op.assign (Go.Operand.tmp 50), type := 23,
                                    pos := "l9_saga.go:58",
                                    after :=
                                      #[{ on := 5, ground := Go.Ground.data }, { on := 3, ground := Go.Ground.chain },
                                        { on := 0, ground := Go.Ground.phase }, { on := 1, ground := Go.Ground.phase },
                                        { on := 2, ground := Go.Ground.phase }, { on := 3, ground := Go.Ground.phase },
                                        { on := 4, ground := Go.Ground.phase }, { on := 5, ground := Go.Ground.phase },
                                        { on := 6, ground := Go.Ground.textOnly Go.Departure.lateStores }],
                                    guard := none },
                                  { dst := some 8, op := Go.Op.assign (Go.Operand.tmp 51), type := 4,
                                    pos := "l9_saga.go:58",
                                    after :=
                                      #[{ on := 6, ground := Go.Ground.data }, { on := 7, ground := Go.Ground.chain },
                                        { on := 0, ground := Go.Ground.phase }, { on := 1, ground := Go.Ground.phase },
                                        { on := 2, ground := Go.Ground.phase }, { on := 3, ground := Go.Ground.phase },
                                        { on := 4, ground := Go.Ground.phase }, { on := 5, ground := Go.Ground.phase },
                                        { on := 6, ground := Go.Ground.phase }, { on := 7, ground := Go.Ground.phase }],
                                    guard := none }]
                                true).seq
                            (((Go.Code.region 8
                                      #[{ dst := some 52, op := Go.Op.move (Go.Operand.tmp 8), type := 4,
                                          pos := "l9_saga.go:59", after := #[], guard := none },
                                        { dst := some 53, op := Go.Op.unOp Go.UnOp.not 4 (Go.Operand.tmp 52), type := 4,
                                          pos := "l9_saga.go:59", after := #[{ on := 0, ground := Go.Ground.data }],
                                          guard := none }]
                                      false).seq
                                  (Go.Code.cond (Go.Operand.tmp 53)
                                    ((Go.Code.region 9
                                          #[{ dst := none,
                                              op :=
                                                Go.Op.store 4 (Go.Operand.tmp 2)
                                                  (Go.Operand.const (Go.Value.bool false)),
                                              type := 0, pos := "l9_saga.go:60", after := #[], guard := none }]
                                          false).seq
                                      Go.Code.ret)
                                    Go.Code.skip)).seq
                              (Go.Code.region 10
                                #[{ dst := some 54, op := Go.Op.move (Go.Operand.tmp 7), type := 23,
                                    pos := "l9_saga.go:62", after := #[], guard := none },
                                  { dst := none, op := Go.Op.store 23 (Go.Operand.tmp 4) (Go.Operand.tmp 54), type := 0,
                                    pos := "l9_saga.go:62",
                                    after :=
                                      #[{ on := 0, ground := Go.Ground.data }, { on := 0, ground := Go.Ground.phase }],
                                    guard := none }]
                                false))))
      Q ⟨#[t0, t1, Value.pointer (some ⟨rb, 0, none⟩), t3, Value.pointer (some ⟨nb, 0, none⟩), t5, Value.pointer (some ⟨p, 0, none⟩), t7, t8, t9, t10, t11, t12, t13, t14, t15, t16, t17, t18, t19, t20, t21, t22, t23, t24, t25, t26, t27, t28, t29, t30, t31, t32, t33, t34, t35, t36, t37, t38, t39, t40, t41, t42, t43, t44, t45, t46, t47, t48, t49, t50, t51, t52, t53, t54], []⟩ W := by
  have hmx : Try.prog.follows .mixedOrders = true := by kernel_rfl
  have hq : ∀ W' : World, Below W.drew.heap.size W.drew W' → Below W.heap.size W W' ∧ W'.cell? ⟨nb, 0, none⟩ = some (.slice va vn vc) ∧ (∀ b j, F b j → b < W'.heap.size) ∧ RepL W' F (.slice va vn vc) now := by
    intro W' hb
    have hb2 : Below W.heap.size W W' := Below.trans (Below.drew (Below.refl _ W)) hb
    exact ⟨hb2, (hb2.cell (p := ⟨nb, 0, none⟩) hn).trans x0, fun b j hf => Nat.lt_of_lt_of_le (hF b j hf) hb2.size, rep_below hrep hF hb2⟩
  gi_wp2
  gi_region_with_o (first | (refine ⟨trivial, rfl, ?_⟩; gi_at_call 43; refine (CallsIn.inRound l (callsIn_wide.2 (hBK _))).mono ?_; rintro e w' ⟨rfl, hb43⟩; obtain ⟨q0, q1, q2, q3⟩ := hq _ hb43) | (refine ⟨trivial, rfl, ?_⟩; gi_at_call 42; refine (CallsIn.inRound l (callsIn_wide.2 (hMV _ F _ q2 q3))).mono ?_; rintro e w2 ⟨v', F', rfl, hb42, hF', hr'⟩))
  all_goals
    have hbW : Below W.heap.size W w2 := q0.trans (hb42.mono q0.size)
    have hFW : ∀ b k, F' b k → W.heap.size ≤ b ∧ b < w2.heap.size := fun b k h => ⟨Nat.le_trans q0.size (hF' b k h).1, (hF' b k h).2⟩
    have y0 := (hbW.cell (p := ⟨nb, 0, none⟩) hn).trans x0
    have y1 := (hbW.frozen (p := ⟨nb, 0, none⟩) hn).trans x1
    have y2 := (hbW.cell (p := ⟨rb, 0, none⟩) hrb).trans x2
    have y3 := (hbW.frozen (p := ⟨rb, 0, none⟩) hrb).trans x3
    obtain ⟨va', vc', rfl⟩ := rep_slice hr'
    simp only [List.length_map] at hr' ⊢
    cases hc : c.2
    · gi_wp2
      exact hR hc _ _ hbW
    · gi_wp2
      exact hN hc _ _ _ _ hbW hFW hr'
end Go.Proofs
