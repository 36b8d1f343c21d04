/-
  NARROWER THAN 'FOR EVERY INPUT', by the rows' own cells (each row's printed sentence says how): FnExactGoodDomains: laid · FnExactLeaderOf: laid · FnExactKnowsAll: laid · FnExactFailOver: laid · FnExactPartAt: laid · FnExactSignalsIn: laid.
  DERIVED. THE GIVEN ROWS OF THIS SEAT. 6 by the template 'for every input the law returns true; each argument reads behind the call as it read before'; 0 by the template 'total and deterministic' (their statements: YtoabnifimfcbcaaDoorTotals.lean).
  GIVEN WITH THE SEED: the statements are not yours to turn. If you find one false, say at which input.
  Laid BY PROGRAM, IN A SANDBOX (cutbox-rows.mjs): the forced cells as the released guide's own fill.sh prints them over the translation cc6a713772944cb6… (all of the seat's roots in one cut). By AI agents, Wed Nov 11 2026. No macro, syntax, notation, axiom, sorry.
-/
import Derived.Test.YtoabnifimfcbcaaDoorChecked
import GoSem.PinnedTables
import GoSem.Claim
import GoSem.ClaimJoined
import GoSem.ClaimMapViews
import Derived.JoinedTies
import Derived.KernelRfl
namespace Go.Proofs.YtoabnifimfcbcaaDoor
/- THE CELL 'sum', in the pinned program and in every row, IS THE sha256 OF THE DUMP (.gsa) THAT YtoabnifimfcbcaaDoorProg.lean LOADS. Nothing in Lean hashes anything: it is a label: what it is worth is what the hold of that sum in a sandbox is worth. -/
noncomputable def Tryd.pinned : Pinned := { name := "ytoabnifimfcbcaadoor", sum := "cc6a713772944cb6609ada3dd3d43eba3982b198bc04d280ff493e95951bca28", checked := Tryd.checked }
namespace Rows
def none {H : Type} : Left H := { results := [], args := [] }

/- WHAT THE LISTED PACKAGE-LEVEL VARIABLES READ AS WHEN THE CALL BEGINS. Each datum BY PROGRAM (the guide's laid-datum.mjs) off the statement by which the dump's own 'gosem.cut.vars' lays the variable. In a bare row this is a premise. The card (YtoabnifimfcbcaaDoorCards.lean) ties it to the program's text. -/
def laid_unicode_utf8_acceptRanges {H : Type} : DataW H := .agg [.agg [.lit (.int .u8 128), .lit (.int .u8 191)], .agg [.lit (.int .u8 160), .lit (.int .u8 191)], .agg [.lit (.int .u8 128), .lit (.int .u8 159)], .agg [.lit (.int .u8 144), .lit (.int .u8 191)], .agg [.lit (.int .u8 128), .lit (.int .u8 143)], .agg [.lit (.int .u8 0), .lit (.int .u8 0)], .agg [.lit (.int .u8 0), .lit (.int .u8 0)], .agg [.lit (.int .u8 0), .lit (.int .u8 0)], .agg [.lit (.int .u8 0), .lit (.int .u8 0)], .agg [.lit (.int .u8 0), .lit (.int .u8 0)], .agg [.lit (.int .u8 0), .lit (.int .u8 0)], .agg [.lit (.int .u8 0), .lit (.int .u8 0)], .agg [.lit (.int .u8 0), .lit (.int .u8 0)], .agg [.lit (.int .u8 0), .lit (.int .u8 0)], .agg [.lit (.int .u8 0), .lit (.int .u8 0)], .agg [.lit (.int .u8 0), .lit (.int .u8 0)]]
/-- One of Go's own tables, pinned by name: the form's constant. -/
def laid_unicode_utf8_first : DataW Unit := Go.Pinned.utf8First

/-- 'laws.FnExactGoodDomains': WHATEVER THE INPUT: true; the input reads as it did. -/
def fnExactGoodDomainsSpec : ChangeSpec := { name := "fnExactGoodDomains", fn := fun _ => fun
  | [d] => { results := [.lit (.bool true)], args := [d] }
  | _ => none }
def fnExactGoodDomainsRow : OpenClaim := { program := "ytoabnifimfcbcaadoor", sum := "cc6a713772944cb6609ada3dd3d43eba3982b198bc04d280ff493e95951bca28", func := "loop.example/g00269/laws.FnExactGoodDomains", spec := "fnExactGoodDomains", inPlace := ["internal/bytealg.IndexByteString", "internal/bytealg.IndexString"], named := ["unicode/utf8.first", "unicode/utf8.acceptRanges", "internal/bytealg.MaxLen"], apart := false, laid := [("unicode/utf8.acceptRanges", laid_unicode_utf8_acceptRanges), ("unicode/utf8.first", laid_unicode_utf8_first)] }
def FnExactGoodDomainsSaid : Prop := fnExactGoodDomainsRow.holds Tryd.pinned (OpenSpec.ofChange fnExactGoodDomainsSpec)

/-- ITS FALSE NEIGHBOUR: 'it returns false'. Refute it at one input. -/
def fnExactGoodDomainsWrong : ChangeSpec := { name := "fnExactGoodDomains", fn := fun _ => fun
  | [d] => { results := [.lit (.bool false)], args := [d] }
  | _ => none }
def FnExactGoodDomainsWrongFalsely : Prop := fnExactGoodDomainsRow.holds Tryd.pinned (OpenSpec.ofChange fnExactGoodDomainsWrong)

/-- 'laws.FnExactLeaderOf': WHATEVER THE INPUT: true; the input reads as it did. -/
def fnExactLeaderOfSpec : ChangeSpec := { name := "fnExactLeaderOf", fn := fun _ => fun
  | [d1, d2] => { results := [.lit (.bool true)], args := [d1, d2] }
  | _ => none }
def fnExactLeaderOfRow : OpenClaim := { program := "ytoabnifimfcbcaadoor", sum := "cc6a713772944cb6609ada3dd3d43eba3982b198bc04d280ff493e95951bca28", func := "loop.example/g00269/laws.FnExactLeaderOf", spec := "fnExactLeaderOf", inPlace := ["internal/bytealg.IndexByteString", "internal/bytealg.IndexString"], unfollowed := true, recurses := true, named := ["unicode/utf8.first", "unicode/utf8.acceptRanges", "internal/bytealg.MaxLen"], apart := false, laid := [("unicode/utf8.acceptRanges", laid_unicode_utf8_acceptRanges), ("unicode/utf8.first", laid_unicode_utf8_first)] }
def FnExactLeaderOfSaid : Prop := fnExactLeaderOfRow.holds Tryd.pinned (OpenSpec.ofChange fnExactLeaderOfSpec)

/-- ITS FALSE NEIGHBOUR: 'it returns false'. Refute it at one input. -/
def fnExactLeaderOfWrong : ChangeSpec := { name := "fnExactLeaderOf", fn := fun _ => fun
  | [d1, d2] => { results := [.lit (.bool false)], args := [d1, d2] }
  | _ => none }
def FnExactLeaderOfWrongFalsely : Prop := fnExactLeaderOfRow.holds Tryd.pinned (OpenSpec.ofChange fnExactLeaderOfWrong)

/-- 'laws.FnExactKnowsAll': WHATEVER THE INPUT: true; the input reads as it did. -/
def fnExactKnowsAllSpec : ChangeSpec := { name := "fnExactKnowsAll", fn := fun _ => fun
  | [d1, d2] => { results := [.lit (.bool true)], args := [d1, d2] }
  | _ => none }
def fnExactKnowsAllRow : OpenClaim := { program := "ytoabnifimfcbcaadoor", sum := "cc6a713772944cb6609ada3dd3d43eba3982b198bc04d280ff493e95951bca28", func := "loop.example/g00269/laws.FnExactKnowsAll", spec := "fnExactKnowsAll", inPlace := ["internal/bytealg.IndexByteString", "internal/bytealg.IndexString"], unfollowed := true, recurses := true, named := ["unicode/utf8.first", "unicode/utf8.acceptRanges", "internal/bytealg.MaxLen"], apart := false, laid := [("unicode/utf8.acceptRanges", laid_unicode_utf8_acceptRanges), ("unicode/utf8.first", laid_unicode_utf8_first)] }
def FnExactKnowsAllSaid : Prop := fnExactKnowsAllRow.holds Tryd.pinned (OpenSpec.ofChange fnExactKnowsAllSpec)

/-- ITS FALSE NEIGHBOUR: 'it returns false'. Refute it at one input. -/
def fnExactKnowsAllWrong : ChangeSpec := { name := "fnExactKnowsAll", fn := fun _ => fun
  | [d1, d2] => { results := [.lit (.bool false)], args := [d1, d2] }
  | _ => none }
def FnExactKnowsAllWrongFalsely : Prop := fnExactKnowsAllRow.holds Tryd.pinned (OpenSpec.ofChange fnExactKnowsAllWrong)

/-- 'laws.FnExactFailOver': WHATEVER THE INPUT: true; the input reads as it did. -/
def fnExactFailOverSpec : ChangeSpec := { name := "fnExactFailOver", fn := fun _ => fun
  | [d1, d2, d3] => { results := [.lit (.bool true)], args := [d1, d2, d3] }
  | _ => none }
def fnExactFailOverRow : OpenClaim := { program := "ytoabnifimfcbcaadoor", sum := "cc6a713772944cb6609ada3dd3d43eba3982b198bc04d280ff493e95951bca28", func := "loop.example/g00269/laws.FnExactFailOver", spec := "fnExactFailOver", inPlace := ["internal/bytealg.IndexByteString", "internal/bytealg.IndexString"], unfollowed := true, recurses := true, named := ["unicode/utf8.first", "unicode/utf8.acceptRanges", "internal/bytealg.MaxLen"], apart := false, laid := [("unicode/utf8.acceptRanges", laid_unicode_utf8_acceptRanges), ("unicode/utf8.first", laid_unicode_utf8_first)] }
def FnExactFailOverSaid : Prop := fnExactFailOverRow.holds Tryd.pinned (OpenSpec.ofChange fnExactFailOverSpec)

/-- ITS FALSE NEIGHBOUR: 'it returns false'. Refute it at one input. -/
def fnExactFailOverWrong : ChangeSpec := { name := "fnExactFailOver", fn := fun _ => fun
  | [d1, d2, d3] => { results := [.lit (.bool false)], args := [d1, d2, d3] }
  | _ => none }
def FnExactFailOverWrongFalsely : Prop := fnExactFailOverRow.holds Tryd.pinned (OpenSpec.ofChange fnExactFailOverWrong)

/-- 'laws.FnExactPartAt': WHATEVER THE INPUT: true; the input reads as it did. -/
def fnExactPartAtSpec : ChangeSpec := { name := "fnExactPartAt", fn := fun _ => fun
  | [d1, d2] => { results := [.lit (.bool true)], args := [d1, d2] }
  | _ => none }
def fnExactPartAtRow : OpenClaim := { program := "ytoabnifimfcbcaadoor", sum := "cc6a713772944cb6609ada3dd3d43eba3982b198bc04d280ff493e95951bca28", func := "loop.example/g00269/laws.FnExactPartAt", spec := "fnExactPartAt", inPlace := ["internal/bytealg.IndexByteString", "internal/bytealg.IndexString", "slices.overlaps[string]"], unfollowed := true, recurses := true, named := ["unicode/utf8.first", "unicode/utf8.acceptRanges", "internal/bytealg.MaxLen"], apart := false, laid := [("unicode/utf8.acceptRanges", laid_unicode_utf8_acceptRanges), ("unicode/utf8.first", laid_unicode_utf8_first)] }
def FnExactPartAtSaid : Prop := fnExactPartAtRow.holds Tryd.pinned (OpenSpec.ofChange fnExactPartAtSpec)

/-- ITS FALSE NEIGHBOUR: 'it returns false'. Refute it at one input. -/
def fnExactPartAtWrong : ChangeSpec := { name := "fnExactPartAt", fn := fun _ => fun
  | [d1, d2] => { results := [.lit (.bool false)], args := [d1, d2] }
  | _ => none }
def FnExactPartAtWrongFalsely : Prop := fnExactPartAtRow.holds Tryd.pinned (OpenSpec.ofChange fnExactPartAtWrong)

/-- 'laws.FnExactSignalsIn': WHATEVER THE INPUT: true; the input reads as it did. -/
def fnExactSignalsInSpec : ChangeSpec := { name := "fnExactSignalsIn", fn := fun _ => fun
  | [d] => { results := [.lit (.bool true)], args := [d] }
  | _ => none }
def fnExactSignalsInRow : OpenClaim := { program := "ytoabnifimfcbcaadoor", sum := "cc6a713772944cb6609ada3dd3d43eba3982b198bc04d280ff493e95951bca28", func := "loop.example/g00269/laws.FnExactSignalsIn", spec := "fnExactSignalsIn", inPlace := ["internal/bytealg.IndexByteString", "internal/bytealg.IndexString", "slices.overlaps[string]"], unfollowed := true, recurses := true, named := ["unicode/utf8.first", "unicode/utf8.acceptRanges", "internal/bytealg.MaxLen"], apart := false, laid := [("unicode/utf8.acceptRanges", laid_unicode_utf8_acceptRanges), ("unicode/utf8.first", laid_unicode_utf8_first)] }
def FnExactSignalsInSaid : Prop := fnExactSignalsInRow.holds Tryd.pinned (OpenSpec.ofChange fnExactSignalsInSpec)

/-- ITS FALSE NEIGHBOUR: 'it returns false'. Refute it at one input. -/
def fnExactSignalsInWrong : ChangeSpec := { name := "fnExactSignalsIn", fn := fun _ => fun
  | [d] => { results := [.lit (.bool false)], args := [d] }
  | _ => none }
def FnExactSignalsInWrongFalsely : Prop := fnExactSignalsInRow.holds Tryd.pinned (OpenSpec.ofChange fnExactSignalsInWrong)

/- THE SECOND FORM. 'bulk': how many values and letters a reading holds, each counted each time it is reached (what is shared counts as often as it is met; a slice's spare places count too). A statement '..UptoSaid' is the law's where the arguments, and the package variables that the reading takes, are together of bulk at most 1048576: NARROWER than '..Said'. Prove '..Said' where nothing that the law and all that it calls make is longer than what came in: it says more and counts as full. Else prove '..UptoSaid'. A law counts once. -/
mutual
def uptoBulk {H : Type} : DataW H → Nat
  | .lit (.string bytes) => bytes.length + 1
  | .lit _ => 1
  | .nil => 1
  | .ptr d => uptoBulk d + 1
  | .slice elems spare => uptoBulkAll elems + uptoBulkAll spare + 1
  | .agg parts => uptoBulkAll parts + 1
  | .iface _ d => uptoBulk d + 1
  | .map entries => uptoBulkEntries entries + 1
  | .held _ => 1
def uptoBulkAll {H : Type} : List (DataW H) → Nat
  | [] => 0
  | d :: r => uptoBulk d + uptoBulkAll r
def uptoBulkEntries {H : Type} : List (Lit × DataW H) → Nat
  | [] => 0
  | x :: r => uptoBulkEntry x + uptoBulkEntries r
def uptoBulkEntry {H : Type} : Lit × DataW H → Nat
  | (.string bytes, d) => bytes.length + uptoBulk d + 1
  | (_, d) => uptoBulk d + 1
 end
def uptoSmall : (H : Type) → List (DataW H) → Bool := fun _ ds => decide (uptoBulkAll ds ≤ 1048576)
def OpenSpec.upto (s : _root_.Go.ChangeSpec) : _root_.Go.OpenSpec := { _root_.Go.OpenSpec.ofChange s with cond := some uptoSmall }

/-- 'laws.FnExactGoodDomains', WHERE WHAT IT READS IS OF BULK AT MOST 1048576: true; the input reads as it did. -/
def fnExactGoodDomainsUptoRow : OpenClaim := { program := "ytoabnifimfcbcaadoor", sum := "cc6a713772944cb6609ada3dd3d43eba3982b198bc04d280ff493e95951bca28", func := "loop.example/g00269/laws.FnExactGoodDomains", spec := "fnExactGoodDomains", inPlace := ["internal/bytealg.IndexByteString", "internal/bytealg.IndexString"], named := ["unicode/utf8.first", "unicode/utf8.acceptRanges", "internal/bytealg.MaxLen"], apart := false, laid := [("unicode/utf8.acceptRanges", laid_unicode_utf8_acceptRanges), ("unicode/utf8.first", laid_unicode_utf8_first)], narrowed := true }
def FnExactGoodDomainsUptoSaid : Prop := fnExactGoodDomainsUptoRow.holds Tryd.pinned (OpenSpec.upto fnExactGoodDomainsSpec)

/-- 'laws.FnExactLeaderOf', WHERE WHAT IT READS IS OF BULK AT MOST 1048576: true; the input reads as it did. -/
def fnExactLeaderOfUptoRow : OpenClaim := { program := "ytoabnifimfcbcaadoor", sum := "cc6a713772944cb6609ada3dd3d43eba3982b198bc04d280ff493e95951bca28", func := "loop.example/g00269/laws.FnExactLeaderOf", spec := "fnExactLeaderOf", inPlace := ["internal/bytealg.IndexByteString", "internal/bytealg.IndexString"], unfollowed := true, recurses := true, named := ["unicode/utf8.first", "unicode/utf8.acceptRanges", "internal/bytealg.MaxLen"], apart := false, laid := [("unicode/utf8.acceptRanges", laid_unicode_utf8_acceptRanges), ("unicode/utf8.first", laid_unicode_utf8_first)], narrowed := true }
def FnExactLeaderOfUptoSaid : Prop := fnExactLeaderOfUptoRow.holds Tryd.pinned (OpenSpec.upto fnExactLeaderOfSpec)

/-- 'laws.FnExactKnowsAll', WHERE WHAT IT READS IS OF BULK AT MOST 1048576: true; the input reads as it did. -/
def fnExactKnowsAllUptoRow : OpenClaim := { program := "ytoabnifimfcbcaadoor", sum := "cc6a713772944cb6609ada3dd3d43eba3982b198bc04d280ff493e95951bca28", func := "loop.example/g00269/laws.FnExactKnowsAll", spec := "fnExactKnowsAll", inPlace := ["internal/bytealg.IndexByteString", "internal/bytealg.IndexString"], unfollowed := true, recurses := true, named := ["unicode/utf8.first", "unicode/utf8.acceptRanges", "internal/bytealg.MaxLen"], apart := false, laid := [("unicode/utf8.acceptRanges", laid_unicode_utf8_acceptRanges), ("unicode/utf8.first", laid_unicode_utf8_first)], narrowed := true }
def FnExactKnowsAllUptoSaid : Prop := fnExactKnowsAllUptoRow.holds Tryd.pinned (OpenSpec.upto fnExactKnowsAllSpec)

/-- 'laws.FnExactFailOver', WHERE WHAT IT READS IS OF BULK AT MOST 1048576: true; the input reads as it did. -/
def fnExactFailOverUptoRow : OpenClaim := { program := "ytoabnifimfcbcaadoor", sum := "cc6a713772944cb6609ada3dd3d43eba3982b198bc04d280ff493e95951bca28", func := "loop.example/g00269/laws.FnExactFailOver", spec := "fnExactFailOver", inPlace := ["internal/bytealg.IndexByteString", "internal/bytealg.IndexString"], unfollowed := true, recurses := true, named := ["unicode/utf8.first", "unicode/utf8.acceptRanges", "internal/bytealg.MaxLen"], apart := false, laid := [("unicode/utf8.acceptRanges", laid_unicode_utf8_acceptRanges), ("unicode/utf8.first", laid_unicode_utf8_first)], narrowed := true }
def FnExactFailOverUptoSaid : Prop := fnExactFailOverUptoRow.holds Tryd.pinned (OpenSpec.upto fnExactFailOverSpec)

/-- 'laws.FnExactPartAt', WHERE WHAT IT READS IS OF BULK AT MOST 1048576: true; the input reads as it did. -/
def fnExactPartAtUptoRow : OpenClaim := { program := "ytoabnifimfcbcaadoor", sum := "cc6a713772944cb6609ada3dd3d43eba3982b198bc04d280ff493e95951bca28", func := "loop.example/g00269/laws.FnExactPartAt", spec := "fnExactPartAt", inPlace := ["internal/bytealg.IndexByteString", "internal/bytealg.IndexString", "slices.overlaps[string]"], unfollowed := true, recurses := true, named := ["unicode/utf8.first", "unicode/utf8.acceptRanges", "internal/bytealg.MaxLen"], apart := false, laid := [("unicode/utf8.acceptRanges", laid_unicode_utf8_acceptRanges), ("unicode/utf8.first", laid_unicode_utf8_first)], narrowed := true }
def FnExactPartAtUptoSaid : Prop := fnExactPartAtUptoRow.holds Tryd.pinned (OpenSpec.upto fnExactPartAtSpec)

/-- 'laws.FnExactSignalsIn', WHERE WHAT IT READS IS OF BULK AT MOST 1048576: true; the input reads as it did. -/
def fnExactSignalsInUptoRow : OpenClaim := { program := "ytoabnifimfcbcaadoor", sum := "cc6a713772944cb6609ada3dd3d43eba3982b198bc04d280ff493e95951bca28", func := "loop.example/g00269/laws.FnExactSignalsIn", spec := "fnExactSignalsIn", inPlace := ["internal/bytealg.IndexByteString", "internal/bytealg.IndexString", "slices.overlaps[string]"], unfollowed := true, recurses := true, named := ["unicode/utf8.first", "unicode/utf8.acceptRanges", "internal/bytealg.MaxLen"], apart := false, laid := [("unicode/utf8.acceptRanges", laid_unicode_utf8_acceptRanges), ("unicode/utf8.first", laid_unicode_utf8_first)], narrowed := true }
def FnExactSignalsInUptoSaid : Prop := fnExactSignalsInUptoRow.holds Tryd.pinned (OpenSpec.upto fnExactSignalsInSpec)

end Rows
end Go.Proofs.YtoabnifimfcbcaaDoor
