/-
  No cell of these rows narrows 'for every input' (looked for: loops, veiled, ifaces, maps, wideKeys, modest, calm, conditions, laid).
  DERIVED. THE GIVEN ROWS OF THIS SEAT. 12 by the template 'for every input the law returns true; each argument reads behind the call as it read before'; 0 by the template 'total and deterministic' (their statements: YtmmhgioeoikgbaaTotals.lean).
  GIVEN WITH THE SEED: the statements are not yours to turn. If you find one false, say at which input.
  Laid BY PROGRAM, IN A SANDBOX (cutbox-rows.mjs): the forced cells as the released guide's own fill.sh prints them over the translation 5828e3ed58c32d07… (all of the seat's roots in one cut). By AI agents, Wed Nov 11 2026. No macro, syntax, notation, axiom, sorry.
-/
import Derived.Test.YtmmhgioeoikgbaaChecked
import GoSem.Claim
import GoSem.ClaimJoined
import GoSem.ClaimMapViews
import Derived.JoinedTies
import Derived.KernelRfl
namespace Go.Proofs.Ytmmhgioeoikgbaa
/- THE CELL 'sum', in the pinned program and in every row, IS THE sha256 OF THE DUMP (.gsa) THAT YtmmhgioeoikgbaaProg.lean LOADS. Nothing in Lean hashes anything: it is a label: what it is worth is what the hold of that sum in a sandbox is worth. -/
noncomputable def Try.pinned : Pinned := { name := "ytmmhgioeoikgbaa", sum := "5828e3ed58c32d07fc69d46e784f589a61cd162eef805961332faa250dd681ea", checked := Try.checked }
namespace Rows
def none {H : Type} : Left H := { results := [], args := [] }

/-- 'laws.FnExactRegionOf': WHATEVER THE INPUT: true; the input reads as it did. -/
def fnExactRegionOfSpec : ChangeSpec := { name := "fnExactRegionOf", fn := fun _ => fun
  | [d] => { results := [.lit (.bool true)], args := [d] }
  | _ => none }
def fnExactRegionOfRow : OpenClaim := { program := "ytmmhgioeoikgbaa", sum := "5828e3ed58c32d07fc69d46e784f589a61cd162eef805961332faa250dd681ea", func := "loop.example/g00269/laws.FnExactRegionOf", spec := "fnExactRegionOf", apart := false }
def FnExactRegionOfSaid : Prop := fnExactRegionOfRow.holds Try.pinned (OpenSpec.ofChange fnExactRegionOfSpec)

/-- ITS FALSE NEIGHBOUR: 'it returns false'. Refute it at one input. -/
def fnExactRegionOfWrong : ChangeSpec := { name := "fnExactRegionOf", fn := fun _ => fun
  | [d] => { results := [.lit (.bool false)], args := [d] }
  | _ => none }
def FnExactRegionOfWrongFalsely : Prop := fnExactRegionOfRow.holds Try.pinned (OpenSpec.ofChange fnExactRegionOfWrong)

/-- 'laws.FnExactNextVersion': WHATEVER THE INPUT: true; the input reads as it did. -/
def fnExactNextVersionSpec : ChangeSpec := { name := "fnExactNextVersion", fn := fun _ => fun
  | [d1, d2] => { results := [.lit (.bool true)], args := [d1, d2] }
  | _ => none }
def fnExactNextVersionRow : OpenClaim := { program := "ytmmhgioeoikgbaa", sum := "5828e3ed58c32d07fc69d46e784f589a61cd162eef805961332faa250dd681ea", func := "loop.example/g00269/laws.FnExactNextVersion", spec := "fnExactNextVersion", apart := false }
def FnExactNextVersionSaid : Prop := fnExactNextVersionRow.holds Try.pinned (OpenSpec.ofChange fnExactNextVersionSpec)

/-- ITS FALSE NEIGHBOUR: 'it returns false'. Refute it at one input. -/
def fnExactNextVersionWrong : ChangeSpec := { name := "fnExactNextVersion", fn := fun _ => fun
  | [d1, d2] => { results := [.lit (.bool false)], args := [d1, d2] }
  | _ => none }
def FnExactNextVersionWrongFalsely : Prop := fnExactNextVersionRow.holds Try.pinned (OpenSpec.ofChange fnExactNextVersionWrong)

/-- 'laws.FnExactIsGraceful': WHATEVER THE INPUT: true; the input reads as it did. -/
def fnExactIsGracefulSpec : ChangeSpec := { name := "fnExactIsGraceful", fn := fun _ => fun
  | [d1, d2] => { results := [.lit (.bool true)], args := [d1, d2] }
  | _ => none }
def fnExactIsGracefulRow : OpenClaim := { program := "ytmmhgioeoikgbaa", sum := "5828e3ed58c32d07fc69d46e784f589a61cd162eef805961332faa250dd681ea", func := "loop.example/g00269/laws.FnExactIsGraceful", spec := "fnExactIsGraceful", apart := false }
def FnExactIsGracefulSaid : Prop := fnExactIsGracefulRow.holds Try.pinned (OpenSpec.ofChange fnExactIsGracefulSpec)

/-- ITS FALSE NEIGHBOUR: 'it returns false'. Refute it at one input. -/
def fnExactIsGracefulWrong : ChangeSpec := { name := "fnExactIsGraceful", fn := fun _ => fun
  | [d1, d2] => { results := [.lit (.bool false)], args := [d1, d2] }
  | _ => none }
def FnExactIsGracefulWrongFalsely : Prop := fnExactIsGracefulRow.holds Try.pinned (OpenSpec.ofChange fnExactIsGracefulWrong)

/-- 'laws.FnVersions': WHATEVER THE INPUT: true; the input reads as it did. -/
def fnVersionsSpec : ChangeSpec := { name := "fnVersions", fn := fun _ => fun
  | [d1, d2] => { results := [.lit (.bool true)], args := [d1, d2] }
  | _ => none }
def fnVersionsRow : OpenClaim := { program := "ytmmhgioeoikgbaa", sum := "5828e3ed58c32d07fc69d46e784f589a61cd162eef805961332faa250dd681ea", func := "loop.example/g00269/laws.FnVersions", spec := "fnVersions", apart := false }
def FnVersionsSaid : Prop := fnVersionsRow.holds Try.pinned (OpenSpec.ofChange fnVersionsSpec)

/-- ITS FALSE NEIGHBOUR: 'it returns false'. Refute it at one input. -/
def fnVersionsWrong : ChangeSpec := { name := "fnVersions", fn := fun _ => fun
  | [d1, d2] => { results := [.lit (.bool false)], args := [d1, d2] }
  | _ => none }
def FnVersionsWrongFalsely : Prop := fnVersionsRow.holds Try.pinned (OpenSpec.ofChange fnVersionsWrong)

/-- 'laws.FnExactCallBreaker': WHATEVER THE INPUT: true; the input reads as it did. -/
def fnExactCallBreakerSpec : ChangeSpec := { name := "fnExactCallBreaker", fn := fun _ => fun
  | [d1, d2] => { results := [.lit (.bool true)], args := [d1, d2] }
  | _ => none }
def fnExactCallBreakerRow : OpenClaim := { program := "ytmmhgioeoikgbaa", sum := "5828e3ed58c32d07fc69d46e784f589a61cd162eef805961332faa250dd681ea", func := "loop.example/g00269/laws.FnExactCallBreaker", spec := "fnExactCallBreaker", apart := false }
def FnExactCallBreakerSaid : Prop := fnExactCallBreakerRow.holds Try.pinned (OpenSpec.ofChange fnExactCallBreakerSpec)

/-- ITS FALSE NEIGHBOUR: 'it returns false'. Refute it at one input. -/
def fnExactCallBreakerWrong : ChangeSpec := { name := "fnExactCallBreaker", fn := fun _ => fun
  | [d1, d2] => { results := [.lit (.bool false)], args := [d1, d2] }
  | _ => none }
def FnExactCallBreakerWrongFalsely : Prop := fnExactCallBreakerRow.holds Try.pinned (OpenSpec.ofChange fnExactCallBreakerWrong)

/-- 'laws.FnExactNewQueue': WHATEVER THE INPUT: true; the input reads as it did. -/
def fnExactNewQueueSpec : ChangeSpec := { name := "fnExactNewQueue", fn := fun _ => fun
  | [d] => { results := [.lit (.bool true)], args := [d] }
  | _ => none }
def fnExactNewQueueRow : OpenClaim := { program := "ytmmhgioeoikgbaa", sum := "5828e3ed58c32d07fc69d46e784f589a61cd162eef805961332faa250dd681ea", func := "loop.example/g00269/laws.FnExactNewQueue", spec := "fnExactNewQueue", apart := false }
def FnExactNewQueueSaid : Prop := fnExactNewQueueRow.holds Try.pinned (OpenSpec.ofChange fnExactNewQueueSpec)

/-- ITS FALSE NEIGHBOUR: 'it returns false'. Refute it at one input. -/
def fnExactNewQueueWrong : ChangeSpec := { name := "fnExactNewQueue", fn := fun _ => fun
  | [d] => { results := [.lit (.bool false)], args := [d] }
  | _ => none }
def FnExactNewQueueWrongFalsely : Prop := fnExactNewQueueRow.holds Try.pinned (OpenSpec.ofChange fnExactNewQueueWrong)

/-- 'laws.FnExactNewRegion': WHATEVER THE INPUT: true; the input reads as it did. -/
def fnExactNewRegionSpec : ChangeSpec := { name := "fnExactNewRegion", fn := fun _ => fun
  | [d] => { results := [.lit (.bool true)], args := [d] }
  | _ => none }
def fnExactNewRegionRow : OpenClaim := { program := "ytmmhgioeoikgbaa", sum := "5828e3ed58c32d07fc69d46e784f589a61cd162eef805961332faa250dd681ea", func := "loop.example/g00269/laws.FnExactNewRegion", spec := "fnExactNewRegion", apart := false }
def FnExactNewRegionSaid : Prop := fnExactNewRegionRow.holds Try.pinned (OpenSpec.ofChange fnExactNewRegionSpec)

/-- ITS FALSE NEIGHBOUR: 'it returns false'. Refute it at one input. -/
def fnExactNewRegionWrong : ChangeSpec := { name := "fnExactNewRegion", fn := fun _ => fun
  | [d] => { results := [.lit (.bool false)], args := [d] }
  | _ => none }
def FnExactNewRegionWrongFalsely : Prop := fnExactNewRegionRow.holds Try.pinned (OpenSpec.ofChange fnExactNewRegionWrong)

/-- 'laws.FnExactPlayBreaker': WHATEVER THE INPUT: true; the input reads as it did. -/
def fnExactPlayBreakerSpec : ChangeSpec := { name := "fnExactPlayBreaker", fn := fun _ => fun
  | [d1, d2, d3] => { results := [.lit (.bool true)], args := [d1, d2, d3] }
  | _ => none }
def fnExactPlayBreakerRow : OpenClaim := { program := "ytmmhgioeoikgbaa", sum := "5828e3ed58c32d07fc69d46e784f589a61cd162eef805961332faa250dd681ea", func := "loop.example/g00269/laws.FnExactPlayBreaker", spec := "fnExactPlayBreaker", apart := false }
def FnExactPlayBreakerSaid : Prop := fnExactPlayBreakerRow.holds Try.pinned (OpenSpec.ofChange fnExactPlayBreakerSpec)

/-- ITS FALSE NEIGHBOUR: 'it returns false'. Refute it at one input. -/
def fnExactPlayBreakerWrong : ChangeSpec := { name := "fnExactPlayBreaker", fn := fun _ => fun
  | [d1, d2, d3] => { results := [.lit (.bool false)], args := [d1, d2, d3] }
  | _ => none }
def FnExactPlayBreakerWrongFalsely : Prop := fnExactPlayBreakerRow.holds Try.pinned (OpenSpec.ofChange fnExactPlayBreakerWrong)

/-- 'laws.FnExactGoodQueue': WHATEVER THE INPUT: true; the input reads as it did. -/
def fnExactGoodQueueSpec : ChangeSpec := { name := "fnExactGoodQueue", fn := fun _ => fun
  | [d] => { results := [.lit (.bool true)], args := [d] }
  | _ => none }
def fnExactGoodQueueRow : OpenClaim := { program := "ytmmhgioeoikgbaa", sum := "5828e3ed58c32d07fc69d46e784f589a61cd162eef805961332faa250dd681ea", func := "loop.example/g00269/laws.FnExactGoodQueue", spec := "fnExactGoodQueue", unfollowed := true, recurses := true, apart := false }
def FnExactGoodQueueSaid : Prop := fnExactGoodQueueRow.holds Try.pinned (OpenSpec.ofChange fnExactGoodQueueSpec)

/-- ITS FALSE NEIGHBOUR: 'it returns false'. Refute it at one input. -/
def fnExactGoodQueueWrong : ChangeSpec := { name := "fnExactGoodQueue", fn := fun _ => fun
  | [d] => { results := [.lit (.bool false)], args := [d] }
  | _ => none }
def FnExactGoodQueueWrongFalsely : Prop := fnExactGoodQueueRow.holds Try.pinned (OpenSpec.ofChange fnExactGoodQueueWrong)

/-- 'laws.FnBreaker': WHATEVER THE INPUT: true; the input reads as it did. -/
def fnBreakerSpec : ChangeSpec := { name := "fnBreaker", fn := fun _ => fun
  | [d1, d2] => { results := [.lit (.bool true)], args := [d1, d2] }
  | _ => none }
def fnBreakerRow : OpenClaim := { program := "ytmmhgioeoikgbaa", sum := "5828e3ed58c32d07fc69d46e784f589a61cd162eef805961332faa250dd681ea", func := "loop.example/g00269/laws.FnBreaker", spec := "fnBreaker", apart := false }
def FnBreakerSaid : Prop := fnBreakerRow.holds Try.pinned (OpenSpec.ofChange fnBreakerSpec)

/-- ITS FALSE NEIGHBOUR: 'it returns false'. Refute it at one input. -/
def fnBreakerWrong : ChangeSpec := { name := "fnBreaker", fn := fun _ => fun
  | [d1, d2] => { results := [.lit (.bool false)], args := [d1, d2] }
  | _ => none }
def FnBreakerWrongFalsely : Prop := fnBreakerRow.holds Try.pinned (OpenSpec.ofChange fnBreakerWrong)

/-- 'laws.FnExactWaitingIn': WHATEVER THE INPUT: true; the input reads as it did. -/
def fnExactWaitingInSpec : ChangeSpec := { name := "fnExactWaitingIn", fn := fun _ => fun
  | [d] => { results := [.lit (.bool true)], args := [d] }
  | _ => none }
def fnExactWaitingInRow : OpenClaim := { program := "ytmmhgioeoikgbaa", sum := "5828e3ed58c32d07fc69d46e784f589a61cd162eef805961332faa250dd681ea", func := "loop.example/g00269/laws.FnExactWaitingIn", spec := "fnExactWaitingIn", unfollowed := true, recurses := true, apart := false }
def FnExactWaitingInSaid : Prop := fnExactWaitingInRow.holds Try.pinned (OpenSpec.ofChange fnExactWaitingInSpec)

/-- ITS FALSE NEIGHBOUR: 'it returns false'. Refute it at one input. -/
def fnExactWaitingInWrong : ChangeSpec := { name := "fnExactWaitingIn", fn := fun _ => fun
  | [d] => { results := [.lit (.bool false)], args := [d] }
  | _ => none }
def FnExactWaitingInWrongFalsely : Prop := fnExactWaitingInRow.holds Try.pinned (OpenSpec.ofChange fnExactWaitingInWrong)

/-- 'laws.FnExactNewWorld': WHATEVER THE INPUT: true; the input reads as it did. -/
def fnExactNewWorldSpec : ChangeSpec := { name := "fnExactNewWorld", fn := fun _ => fun
  | [] => { results := [.lit (.bool true)], args := [] }
  | _ => none }
def fnExactNewWorldRow : OpenClaim := { program := "ytmmhgioeoikgbaa", sum := "5828e3ed58c32d07fc69d46e784f589a61cd162eef805961332faa250dd681ea", func := "loop.example/g00269/laws.FnExactNewWorld", spec := "fnExactNewWorld", apart := false }
def FnExactNewWorldSaid : Prop := fnExactNewWorldRow.holds Try.pinned (OpenSpec.ofChange fnExactNewWorldSpec)

/-- ITS FALSE NEIGHBOUR: 'it returns false'. Refute it at one input. -/
def fnExactNewWorldWrong : ChangeSpec := { name := "fnExactNewWorld", fn := fun _ => fun
  | [] => { results := [.lit (.bool false)], args := [] }
  | _ => none }
def FnExactNewWorldWrongFalsely : Prop := fnExactNewWorldRow.holds Try.pinned (OpenSpec.ofChange fnExactNewWorldWrong)

/- THE SECOND FORM. 'bulk': how many values and letters a reading holds, each counted each time it is reached (what is shared counts as often as it is met; a slice's spare places count too). A statement '..UptoSaid' is the law's where the arguments, and the package variables that the reading takes, are together of bulk at most 1048576: NARROWER than '..Said'. Prove '..Said' where nothing that the law and all that it calls make is longer than what came in: it says more and counts as full. Else prove '..UptoSaid'. A law counts once. -/
mutual
def uptoBulk {H : Type} : DataW H → Nat
  | .lit (.string bytes) => bytes.length + 1
  | .lit _ => 1
  | .nil => 1
  | .ptr d => uptoBulk d + 1
  | .slice elems spare => uptoBulkAll elems + uptoBulkAll spare + 1
  | .agg parts => uptoBulkAll parts + 1
  | .iface _ d => uptoBulk d + 1
  | .map entries => uptoBulkEntries entries + 1
  | .held _ => 1
def uptoBulkAll {H : Type} : List (DataW H) → Nat
  | [] => 0
  | d :: r => uptoBulk d + uptoBulkAll r
def uptoBulkEntries {H : Type} : List (Lit × DataW H) → Nat
  | [] => 0
  | x :: r => uptoBulkEntry x + uptoBulkEntries r
def uptoBulkEntry {H : Type} : Lit × DataW H → Nat
  | (.string bytes, d) => bytes.length + uptoBulk d + 1
  | (_, d) => uptoBulk d + 1
 end
def uptoSmall : (H : Type) → List (DataW H) → Bool := fun _ ds => decide (uptoBulkAll ds ≤ 1048576)
def OpenSpec.upto (s : _root_.Go.ChangeSpec) : _root_.Go.OpenSpec := { _root_.Go.OpenSpec.ofChange s with cond := some uptoSmall }

/-- 'laws.FnExactRegionOf', WHERE WHAT IT READS IS OF BULK AT MOST 1048576: true; the input reads as it did. -/
def fnExactRegionOfUptoRow : OpenClaim := { program := "ytmmhgioeoikgbaa", sum := "5828e3ed58c32d07fc69d46e784f589a61cd162eef805961332faa250dd681ea", func := "loop.example/g00269/laws.FnExactRegionOf", spec := "fnExactRegionOf", apart := false, narrowed := true }
def FnExactRegionOfUptoSaid : Prop := fnExactRegionOfUptoRow.holds Try.pinned (OpenSpec.upto fnExactRegionOfSpec)

/-- 'laws.FnExactNextVersion', WHERE WHAT IT READS IS OF BULK AT MOST 1048576: true; the input reads as it did. -/
def fnExactNextVersionUptoRow : OpenClaim := { program := "ytmmhgioeoikgbaa", sum := "5828e3ed58c32d07fc69d46e784f589a61cd162eef805961332faa250dd681ea", func := "loop.example/g00269/laws.FnExactNextVersion", spec := "fnExactNextVersion", apart := false, narrowed := true }
def FnExactNextVersionUptoSaid : Prop := fnExactNextVersionUptoRow.holds Try.pinned (OpenSpec.upto fnExactNextVersionSpec)

/-- 'laws.FnExactIsGraceful', WHERE WHAT IT READS IS OF BULK AT MOST 1048576: true; the input reads as it did. -/
def fnExactIsGracefulUptoRow : OpenClaim := { program := "ytmmhgioeoikgbaa", sum := "5828e3ed58c32d07fc69d46e784f589a61cd162eef805961332faa250dd681ea", func := "loop.example/g00269/laws.FnExactIsGraceful", spec := "fnExactIsGraceful", apart := false, narrowed := true }
def FnExactIsGracefulUptoSaid : Prop := fnExactIsGracefulUptoRow.holds Try.pinned (OpenSpec.upto fnExactIsGracefulSpec)

/-- 'laws.FnVersions', WHERE WHAT IT READS IS OF BULK AT MOST 1048576: true; the input reads as it did. -/
def fnVersionsUptoRow : OpenClaim := { program := "ytmmhgioeoikgbaa", sum := "5828e3ed58c32d07fc69d46e784f589a61cd162eef805961332faa250dd681ea", func := "loop.example/g00269/laws.FnVersions", spec := "fnVersions", apart := false, narrowed := true }
def FnVersionsUptoSaid : Prop := fnVersionsUptoRow.holds Try.pinned (OpenSpec.upto fnVersionsSpec)

/-- 'laws.FnExactCallBreaker', WHERE WHAT IT READS IS OF BULK AT MOST 1048576: true; the input reads as it did. -/
def fnExactCallBreakerUptoRow : OpenClaim := { program := "ytmmhgioeoikgbaa", sum := "5828e3ed58c32d07fc69d46e784f589a61cd162eef805961332faa250dd681ea", func := "loop.example/g00269/laws.FnExactCallBreaker", spec := "fnExactCallBreaker", apart := false, narrowed := true }
def FnExactCallBreakerUptoSaid : Prop := fnExactCallBreakerUptoRow.holds Try.pinned (OpenSpec.upto fnExactCallBreakerSpec)

/-- 'laws.FnExactNewQueue', WHERE WHAT IT READS IS OF BULK AT MOST 1048576: true; the input reads as it did. -/
def fnExactNewQueueUptoRow : OpenClaim := { program := "ytmmhgioeoikgbaa", sum := "5828e3ed58c32d07fc69d46e784f589a61cd162eef805961332faa250dd681ea", func := "loop.example/g00269/laws.FnExactNewQueue", spec := "fnExactNewQueue", apart := false, narrowed := true }
def FnExactNewQueueUptoSaid : Prop := fnExactNewQueueUptoRow.holds Try.pinned (OpenSpec.upto fnExactNewQueueSpec)

/-- 'laws.FnExactNewRegion', WHERE WHAT IT READS IS OF BULK AT MOST 1048576: true; the input reads as it did. -/
def fnExactNewRegionUptoRow : OpenClaim := { program := "ytmmhgioeoikgbaa", sum := "5828e3ed58c32d07fc69d46e784f589a61cd162eef805961332faa250dd681ea", func := "loop.example/g00269/laws.FnExactNewRegion", spec := "fnExactNewRegion", apart := false, narrowed := true }
def FnExactNewRegionUptoSaid : Prop := fnExactNewRegionUptoRow.holds Try.pinned (OpenSpec.upto fnExactNewRegionSpec)

/-- 'laws.FnExactPlayBreaker', WHERE WHAT IT READS IS OF BULK AT MOST 1048576: true; the input reads as it did. -/
def fnExactPlayBreakerUptoRow : OpenClaim := { program := "ytmmhgioeoikgbaa", sum := "5828e3ed58c32d07fc69d46e784f589a61cd162eef805961332faa250dd681ea", func := "loop.example/g00269/laws.FnExactPlayBreaker", spec := "fnExactPlayBreaker", apart := false, narrowed := true }
def FnExactPlayBreakerUptoSaid : Prop := fnExactPlayBreakerUptoRow.holds Try.pinned (OpenSpec.upto fnExactPlayBreakerSpec)

/-- 'laws.FnExactGoodQueue', WHERE WHAT IT READS IS OF BULK AT MOST 1048576: true; the input reads as it did. -/
def fnExactGoodQueueUptoRow : OpenClaim := { program := "ytmmhgioeoikgbaa", sum := "5828e3ed58c32d07fc69d46e784f589a61cd162eef805961332faa250dd681ea", func := "loop.example/g00269/laws.FnExactGoodQueue", spec := "fnExactGoodQueue", unfollowed := true, recurses := true, apart := false, narrowed := true }
def FnExactGoodQueueUptoSaid : Prop := fnExactGoodQueueUptoRow.holds Try.pinned (OpenSpec.upto fnExactGoodQueueSpec)

/-- 'laws.FnBreaker', WHERE WHAT IT READS IS OF BULK AT MOST 1048576: true; the input reads as it did. -/
def fnBreakerUptoRow : OpenClaim := { program := "ytmmhgioeoikgbaa", sum := "5828e3ed58c32d07fc69d46e784f589a61cd162eef805961332faa250dd681ea", func := "loop.example/g00269/laws.FnBreaker", spec := "fnBreaker", apart := false, narrowed := true }
def FnBreakerUptoSaid : Prop := fnBreakerUptoRow.holds Try.pinned (OpenSpec.upto fnBreakerSpec)

/-- 'laws.FnExactWaitingIn', WHERE WHAT IT READS IS OF BULK AT MOST 1048576: true; the input reads as it did. -/
def fnExactWaitingInUptoRow : OpenClaim := { program := "ytmmhgioeoikgbaa", sum := "5828e3ed58c32d07fc69d46e784f589a61cd162eef805961332faa250dd681ea", func := "loop.example/g00269/laws.FnExactWaitingIn", spec := "fnExactWaitingIn", unfollowed := true, recurses := true, apart := false, narrowed := true }
def FnExactWaitingInUptoSaid : Prop := fnExactWaitingInUptoRow.holds Try.pinned (OpenSpec.upto fnExactWaitingInSpec)

/-- 'laws.FnExactNewWorld', WHERE WHAT IT READS IS OF BULK AT MOST 1048576: true; the input reads as it did. -/
def fnExactNewWorldUptoRow : OpenClaim := { program := "ytmmhgioeoikgbaa", sum := "5828e3ed58c32d07fc69d46e784f589a61cd162eef805961332faa250dd681ea", func := "loop.example/g00269/laws.FnExactNewWorld", spec := "fnExactNewWorld", apart := false, narrowed := true }
def FnExactNewWorldUptoSaid : Prop := fnExactNewWorldUptoRow.holds Try.pinned (OpenSpec.upto fnExactNewWorldSpec)

end Rows
end Go.Proofs.Ytmmhgioeoikgbaa
