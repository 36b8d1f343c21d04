/-
  NARROWER THAN 'FOR EVERY INPUT', by the rows' own cells (each row's printed sentence says how): FnExactPartAt: laid · FnExactSignalsIn: laid · FnExactFoldEvents: laid · FnStates: laid · FnExactBranchLess: laid · FnExactMergeDomains: laid · FnDomains: laid · FnExactGoodTellings: laid.
  DERIVED. THE GIVEN ROWS OF THIS SEAT. 8 by the template 'for every input the law returns true; each argument reads behind the call as it read before'; 0 by the template 'total and deterministic' (their statements: YtjhcfmcdllfmpaaDoorTotals.lean).
  GIVEN WITH THE SEED: the statements are not yours to turn. If you find one false, say at which input.
  Laid BY PROGRAM, IN A SANDBOX (cutbox-rows.mjs): the forced cells as the released guide's own fill.sh prints them over the translation 7e01e6767a2fe2f5… (all of the seat's roots in one cut). By AI agents, Wed Nov 11 2026. No macro, syntax, notation, axiom, sorry.
-/
import Derived.Test.YtjhcfmcdllfmpaaDoorChecked
import GoSem.PinnedTables
import GoSem.Claim
import GoSem.ClaimJoined
import GoSem.ClaimMapViews
import Derived.JoinedTies
import Derived.KernelRfl
namespace Go.Proofs.YtjhcfmcdllfmpaaDoor
/- THE CELL 'sum', in the pinned program and in every row, IS THE sha256 OF THE DUMP (.gsa) THAT YtjhcfmcdllfmpaaDoorProg.lean LOADS. Nothing in Lean hashes anything: it is a label: what it is worth is what the hold of that sum in a sandbox is worth. -/
noncomputable def Tryd.pinned : Pinned := { name := "ytjhcfmcdllfmpaadoor", sum := "7e01e6767a2fe2f592da4e0fed39345abe46b464b73df051353ace066eee9f11", checked := Tryd.checked }
namespace Rows
def none {H : Type} : Left H := { results := [], args := [] }

/- WHAT THE LISTED PACKAGE-LEVEL VARIABLES READ AS WHEN THE CALL BEGINS. Each datum BY PROGRAM (the guide's laid-datum.mjs) off the statement by which the dump's own 'gosem.cut.vars' lays the variable. In a bare row this is a premise. The card (YtjhcfmcdllfmpaaDoorCards.lean) ties it to the program's text. -/
def laid_unicode_utf8_acceptRanges {H : Type} : DataW H := .agg [.agg [.lit (.int .u8 128), .lit (.int .u8 191)], .agg [.lit (.int .u8 160), .lit (.int .u8 191)], .agg [.lit (.int .u8 128), .lit (.int .u8 159)], .agg [.lit (.int .u8 144), .lit (.int .u8 191)], .agg [.lit (.int .u8 128), .lit (.int .u8 143)], .agg [.lit (.int .u8 0), .lit (.int .u8 0)], .agg [.lit (.int .u8 0), .lit (.int .u8 0)], .agg [.lit (.int .u8 0), .lit (.int .u8 0)], .agg [.lit (.int .u8 0), .lit (.int .u8 0)], .agg [.lit (.int .u8 0), .lit (.int .u8 0)], .agg [.lit (.int .u8 0), .lit (.int .u8 0)], .agg [.lit (.int .u8 0), .lit (.int .u8 0)], .agg [.lit (.int .u8 0), .lit (.int .u8 0)], .agg [.lit (.int .u8 0), .lit (.int .u8 0)], .agg [.lit (.int .u8 0), .lit (.int .u8 0)], .agg [.lit (.int .u8 0), .lit (.int .u8 0)]]
/-- One of Go's own tables, pinned by name: the form's constant. -/
def laid_unicode_utf8_first : DataW Unit := Go.Pinned.utf8First

/-- 'laws.FnExactPartAt': WHATEVER THE INPUT: true; the input reads as it did. -/
def fnExactPartAtSpec : ChangeSpec := { name := "fnExactPartAt", fn := fun _ => fun
  | [d1, d2] => { results := [.lit (.bool true)], args := [d1, d2] }
  | _ => none }
def fnExactPartAtRow : OpenClaim := { program := "ytjhcfmcdllfmpaadoor", sum := "7e01e6767a2fe2f592da4e0fed39345abe46b464b73df051353ace066eee9f11", func := "loop.example/g00269/laws.FnExactPartAt", spec := "fnExactPartAt", inPlace := ["internal/bytealg.IndexByteString", "internal/bytealg.IndexString", "slices.overlaps[string]"], unfollowed := true, recurses := true, named := ["unicode/utf8.first", "unicode/utf8.acceptRanges", "internal/bytealg.MaxLen"], apart := false, laid := [("unicode/utf8.acceptRanges", laid_unicode_utf8_acceptRanges), ("unicode/utf8.first", laid_unicode_utf8_first)] }
def FnExactPartAtSaid : Prop := fnExactPartAtRow.holds Tryd.pinned (OpenSpec.ofChange fnExactPartAtSpec)

/-- ITS FALSE NEIGHBOUR: 'it returns false'. Refute it at one input. -/
def fnExactPartAtWrong : ChangeSpec := { name := "fnExactPartAt", fn := fun _ => fun
  | [d1, d2] => { results := [.lit (.bool false)], args := [d1, d2] }
  | _ => none }
def FnExactPartAtWrongFalsely : Prop := fnExactPartAtRow.holds Tryd.pinned (OpenSpec.ofChange fnExactPartAtWrong)

/-- 'laws.FnExactSignalsIn': WHATEVER THE INPUT: true; the input reads as it did. -/
def fnExactSignalsInSpec : ChangeSpec := { name := "fnExactSignalsIn", fn := fun _ => fun
  | [d] => { results := [.lit (.bool true)], args := [d] }
  | _ => none }
def fnExactSignalsInRow : OpenClaim := { program := "ytjhcfmcdllfmpaadoor", sum := "7e01e6767a2fe2f592da4e0fed39345abe46b464b73df051353ace066eee9f11", func := "loop.example/g00269/laws.FnExactSignalsIn", spec := "fnExactSignalsIn", inPlace := ["internal/bytealg.IndexByteString", "internal/bytealg.IndexString", "slices.overlaps[string]"], unfollowed := true, recurses := true, named := ["unicode/utf8.first", "unicode/utf8.acceptRanges", "internal/bytealg.MaxLen"], apart := false, laid := [("unicode/utf8.acceptRanges", laid_unicode_utf8_acceptRanges), ("unicode/utf8.first", laid_unicode_utf8_first)] }
def FnExactSignalsInSaid : Prop := fnExactSignalsInRow.holds Tryd.pinned (OpenSpec.ofChange fnExactSignalsInSpec)

/-- ITS FALSE NEIGHBOUR: 'it returns false'. Refute it at one input. -/
def fnExactSignalsInWrong : ChangeSpec := { name := "fnExactSignalsIn", fn := fun _ => fun
  | [d] => { results := [.lit (.bool false)], args := [d] }
  | _ => none }
def FnExactSignalsInWrongFalsely : Prop := fnExactSignalsInRow.holds Tryd.pinned (OpenSpec.ofChange fnExactSignalsInWrong)

/-- 'laws.FnExactFoldEvents': WHATEVER THE INPUT: true; the input reads as it did. -/
def fnExactFoldEventsSpec : ChangeSpec := { name := "fnExactFoldEvents", fn := fun _ => fun
  | [d] => { results := [.lit (.bool true)], args := [d] }
  | _ => none }
def fnExactFoldEventsRow : OpenClaim := { program := "ytjhcfmcdllfmpaadoor", sum := "7e01e6767a2fe2f592da4e0fed39345abe46b464b73df051353ace066eee9f11", func := "loop.example/g00269/laws.FnExactFoldEvents", spec := "fnExactFoldEvents", inPlace := ["internal/bytealg.IndexByteString", "internal/bytealg.IndexString", "slices.overlaps[string]"], unfollowed := true, recurses := true, named := ["unicode/utf8.first", "unicode/utf8.acceptRanges", "internal/bytealg.MaxLen"], apart := false, laid := [("unicode/utf8.acceptRanges", laid_unicode_utf8_acceptRanges), ("unicode/utf8.first", laid_unicode_utf8_first)] }
def FnExactFoldEventsSaid : Prop := fnExactFoldEventsRow.holds Tryd.pinned (OpenSpec.ofChange fnExactFoldEventsSpec)

/-- ITS FALSE NEIGHBOUR: 'it returns false'. Refute it at one input. -/
def fnExactFoldEventsWrong : ChangeSpec := { name := "fnExactFoldEvents", fn := fun _ => fun
  | [d] => { results := [.lit (.bool false)], args := [d] }
  | _ => none }
def FnExactFoldEventsWrongFalsely : Prop := fnExactFoldEventsRow.holds Tryd.pinned (OpenSpec.ofChange fnExactFoldEventsWrong)

/-- 'laws.FnStates': WHATEVER THE INPUT: true; the input reads as it did. -/
def fnStatesSpec : ChangeSpec := { name := "fnStates", fn := fun _ => fun
  | [d1, d2] => { results := [.lit (.bool true)], args := [d1, d2] }
  | _ => none }
def fnStatesRow : OpenClaim := { program := "ytjhcfmcdllfmpaadoor", sum := "7e01e6767a2fe2f592da4e0fed39345abe46b464b73df051353ace066eee9f11", func := "loop.example/g00269/laws.FnStates", spec := "fnStates", inPlace := ["internal/bytealg.IndexByteString", "internal/bytealg.IndexString", "slices.overlaps[string]"], unfollowed := true, recurses := true, named := ["unicode/utf8.first", "unicode/utf8.acceptRanges", "internal/bytealg.MaxLen"], apart := false, laid := [("unicode/utf8.acceptRanges", laid_unicode_utf8_acceptRanges), ("unicode/utf8.first", laid_unicode_utf8_first)] }
def FnStatesSaid : Prop := fnStatesRow.holds Tryd.pinned (OpenSpec.ofChange fnStatesSpec)

/-- ITS FALSE NEIGHBOUR: 'it returns false'. Refute it at one input. -/
def fnStatesWrong : ChangeSpec := { name := "fnStates", fn := fun _ => fun
  | [d1, d2] => { results := [.lit (.bool false)], args := [d1, d2] }
  | _ => none }
def FnStatesWrongFalsely : Prop := fnStatesRow.holds Tryd.pinned (OpenSpec.ofChange fnStatesWrong)

/-- 'laws.FnExactBranchLess': WHATEVER THE INPUT: true; the input reads as it did. -/
def fnExactBranchLessSpec : ChangeSpec := { name := "fnExactBranchLess", fn := fun _ => fun
  | [d1, d2] => { results := [.lit (.bool true)], args := [d1, d2] }
  | _ => none }
def fnExactBranchLessRow : OpenClaim := { program := "ytjhcfmcdllfmpaadoor", sum := "7e01e6767a2fe2f592da4e0fed39345abe46b464b73df051353ace066eee9f11", func := "loop.example/g00269/laws.FnExactBranchLess", spec := "fnExactBranchLess", inPlace := ["internal/bytealg.IndexByteString", "internal/bytealg.IndexString", "slices.overlaps[string]"], unfollowed := true, recurses := true, named := ["unicode/utf8.first", "unicode/utf8.acceptRanges", "internal/bytealg.MaxLen"], apart := false, laid := [("unicode/utf8.acceptRanges", laid_unicode_utf8_acceptRanges), ("unicode/utf8.first", laid_unicode_utf8_first)] }
def FnExactBranchLessSaid : Prop := fnExactBranchLessRow.holds Tryd.pinned (OpenSpec.ofChange fnExactBranchLessSpec)

/-- ITS FALSE NEIGHBOUR: 'it returns false'. Refute it at one input. -/
def fnExactBranchLessWrong : ChangeSpec := { name := "fnExactBranchLess", fn := fun _ => fun
  | [d1, d2] => { results := [.lit (.bool false)], args := [d1, d2] }
  | _ => none }
def FnExactBranchLessWrongFalsely : Prop := fnExactBranchLessRow.holds Tryd.pinned (OpenSpec.ofChange fnExactBranchLessWrong)

/-- 'laws.FnExactMergeDomains': WHATEVER THE INPUT: true; the input reads as it did. -/
def fnExactMergeDomainsSpec : ChangeSpec := { name := "fnExactMergeDomains", fn := fun _ => fun
  | [d1, d2] => { results := [.lit (.bool true)], args := [d1, d2] }
  | _ => none }
def fnExactMergeDomainsRow : OpenClaim := { program := "ytjhcfmcdllfmpaadoor", sum := "7e01e6767a2fe2f592da4e0fed39345abe46b464b73df051353ace066eee9f11", func := "loop.example/g00269/laws.FnExactMergeDomains", spec := "fnExactMergeDomains", inPlace := ["internal/bytealg.IndexByteString", "internal/bytealg.IndexString"], unfollowed := true, recurses := true, named := ["unicode/utf8.first", "unicode/utf8.acceptRanges", "internal/bytealg.MaxLen"], apart := false, laid := [("unicode/utf8.acceptRanges", laid_unicode_utf8_acceptRanges), ("unicode/utf8.first", laid_unicode_utf8_first)] }
def FnExactMergeDomainsSaid : Prop := fnExactMergeDomainsRow.holds Tryd.pinned (OpenSpec.ofChange fnExactMergeDomainsSpec)

/-- ITS FALSE NEIGHBOUR: 'it returns false'. Refute it at one input. -/
def fnExactMergeDomainsWrong : ChangeSpec := { name := "fnExactMergeDomains", fn := fun _ => fun
  | [d1, d2] => { results := [.lit (.bool false)], args := [d1, d2] }
  | _ => none }
def FnExactMergeDomainsWrongFalsely : Prop := fnExactMergeDomainsRow.holds Tryd.pinned (OpenSpec.ofChange fnExactMergeDomainsWrong)

/-- 'laws.FnDomains': WHATEVER THE INPUT: true; the input reads as it did. -/
def fnDomainsSpec : ChangeSpec := { name := "fnDomains", fn := fun _ => fun
  | [d1, d2] => { results := [.lit (.bool true)], args := [d1, d2] }
  | _ => none }
def fnDomainsRow : OpenClaim := { program := "ytjhcfmcdllfmpaadoor", sum := "7e01e6767a2fe2f592da4e0fed39345abe46b464b73df051353ace066eee9f11", func := "loop.example/g00269/laws.FnDomains", spec := "fnDomains", inPlace := ["internal/bytealg.IndexByteString", "internal/bytealg.IndexString"], unfollowed := true, recurses := true, named := ["unicode/utf8.first", "unicode/utf8.acceptRanges", "internal/bytealg.MaxLen"], apart := false, laid := [("unicode/utf8.acceptRanges", laid_unicode_utf8_acceptRanges), ("unicode/utf8.first", laid_unicode_utf8_first)] }
def FnDomainsSaid : Prop := fnDomainsRow.holds Tryd.pinned (OpenSpec.ofChange fnDomainsSpec)

/-- ITS FALSE NEIGHBOUR: 'it returns false'. Refute it at one input. -/
def fnDomainsWrong : ChangeSpec := { name := "fnDomains", fn := fun _ => fun
  | [d1, d2] => { results := [.lit (.bool false)], args := [d1, d2] }
  | _ => none }
def FnDomainsWrongFalsely : Prop := fnDomainsRow.holds Tryd.pinned (OpenSpec.ofChange fnDomainsWrong)

/-- 'laws.FnExactGoodTellings': WHATEVER THE INPUT: true; the input reads as it did. -/
def fnExactGoodTellingsSpec : ChangeSpec := { name := "fnExactGoodTellings", fn := fun _ => fun
  | [d] => { results := [.lit (.bool true)], args := [d] }
  | _ => none }
def fnExactGoodTellingsRow : OpenClaim := { program := "ytjhcfmcdllfmpaadoor", sum := "7e01e6767a2fe2f592da4e0fed39345abe46b464b73df051353ace066eee9f11", func := "loop.example/g00269/laws.FnExactGoodTellings", spec := "fnExactGoodTellings", inPlace := ["internal/bytealg.IndexByteString", "internal/bytealg.IndexString", "slices.overlaps[string]"], unfollowed := true, recurses := true, named := ["unicode/utf8.first", "unicode/utf8.acceptRanges", "internal/bytealg.MaxLen"], apart := false, laid := [("unicode/utf8.acceptRanges", laid_unicode_utf8_acceptRanges), ("unicode/utf8.first", laid_unicode_utf8_first)] }
def FnExactGoodTellingsSaid : Prop := fnExactGoodTellingsRow.holds Tryd.pinned (OpenSpec.ofChange fnExactGoodTellingsSpec)

/-- ITS FALSE NEIGHBOUR: 'it returns false'. Refute it at one input. -/
def fnExactGoodTellingsWrong : ChangeSpec := { name := "fnExactGoodTellings", fn := fun _ => fun
  | [d] => { results := [.lit (.bool false)], args := [d] }
  | _ => none }
def FnExactGoodTellingsWrongFalsely : Prop := fnExactGoodTellingsRow.holds Tryd.pinned (OpenSpec.ofChange fnExactGoodTellingsWrong)

/- THE SECOND FORM. 'bulk': how many values and letters a reading holds, each counted each time it is reached (what is shared counts as often as it is met; a slice's spare places count too). A statement '..UptoSaid' is the law's where the arguments, and the package variables that the reading takes, are together of bulk at most 1048576: NARROWER than '..Said'. Prove '..Said' where nothing that the law and all that it calls make is longer than what came in: it says more and counts as full. Else prove '..UptoSaid'. A law counts once. -/
mutual
def uptoBulk {H : Type} : DataW H → Nat
  | .lit (.string bytes) => bytes.length + 1
  | .lit _ => 1
  | .nil => 1
  | .ptr d => uptoBulk d + 1
  | .slice elems spare => uptoBulkAll elems + uptoBulkAll spare + 1
  | .agg parts => uptoBulkAll parts + 1
  | .iface _ d => uptoBulk d + 1
  | .map entries => uptoBulkEntries entries + 1
  | .held _ => 1
def uptoBulkAll {H : Type} : List (DataW H) → Nat
  | [] => 0
  | d :: r => uptoBulk d + uptoBulkAll r
def uptoBulkEntries {H : Type} : List (Lit × DataW H) → Nat
  | [] => 0
  | x :: r => uptoBulkEntry x + uptoBulkEntries r
def uptoBulkEntry {H : Type} : Lit × DataW H → Nat
  | (.string bytes, d) => bytes.length + uptoBulk d + 1
  | (_, d) => uptoBulk d + 1
 end
def uptoSmall : (H : Type) → List (DataW H) → Bool := fun _ ds => decide (uptoBulkAll ds ≤ 1048576)
def OpenSpec.upto (s : _root_.Go.ChangeSpec) : _root_.Go.OpenSpec := { _root_.Go.OpenSpec.ofChange s with cond := some uptoSmall }

/-- 'laws.FnExactPartAt', WHERE WHAT IT READS IS OF BULK AT MOST 1048576: true; the input reads as it did. -/
def fnExactPartAtUptoRow : OpenClaim := { program := "ytjhcfmcdllfmpaadoor", sum := "7e01e6767a2fe2f592da4e0fed39345abe46b464b73df051353ace066eee9f11", func := "loop.example/g00269/laws.FnExactPartAt", spec := "fnExactPartAt", inPlace := ["internal/bytealg.IndexByteString", "internal/bytealg.IndexString", "slices.overlaps[string]"], unfollowed := true, recurses := true, named := ["unicode/utf8.first", "unicode/utf8.acceptRanges", "internal/bytealg.MaxLen"], apart := false, laid := [("unicode/utf8.acceptRanges", laid_unicode_utf8_acceptRanges), ("unicode/utf8.first", laid_unicode_utf8_first)], narrowed := true }
def FnExactPartAtUptoSaid : Prop := fnExactPartAtUptoRow.holds Tryd.pinned (OpenSpec.upto fnExactPartAtSpec)

/-- 'laws.FnExactSignalsIn', WHERE WHAT IT READS IS OF BULK AT MOST 1048576: true; the input reads as it did. -/
def fnExactSignalsInUptoRow : OpenClaim := { program := "ytjhcfmcdllfmpaadoor", sum := "7e01e6767a2fe2f592da4e0fed39345abe46b464b73df051353ace066eee9f11", func := "loop.example/g00269/laws.FnExactSignalsIn", spec := "fnExactSignalsIn", inPlace := ["internal/bytealg.IndexByteString", "internal/bytealg.IndexString", "slices.overlaps[string]"], unfollowed := true, recurses := true, named := ["unicode/utf8.first", "unicode/utf8.acceptRanges", "internal/bytealg.MaxLen"], apart := false, laid := [("unicode/utf8.acceptRanges", laid_unicode_utf8_acceptRanges), ("unicode/utf8.first", laid_unicode_utf8_first)], narrowed := true }
def FnExactSignalsInUptoSaid : Prop := fnExactSignalsInUptoRow.holds Tryd.pinned (OpenSpec.upto fnExactSignalsInSpec)

/-- 'laws.FnExactFoldEvents', WHERE WHAT IT READS IS OF BULK AT MOST 1048576: true; the input reads as it did. -/
def fnExactFoldEventsUptoRow : OpenClaim := { program := "ytjhcfmcdllfmpaadoor", sum := "7e01e6767a2fe2f592da4e0fed39345abe46b464b73df051353ace066eee9f11", func := "loop.example/g00269/laws.FnExactFoldEvents", spec := "fnExactFoldEvents", inPlace := ["internal/bytealg.IndexByteString", "internal/bytealg.IndexString", "slices.overlaps[string]"], unfollowed := true, recurses := true, named := ["unicode/utf8.first", "unicode/utf8.acceptRanges", "internal/bytealg.MaxLen"], apart := false, laid := [("unicode/utf8.acceptRanges", laid_unicode_utf8_acceptRanges), ("unicode/utf8.first", laid_unicode_utf8_first)], narrowed := true }
def FnExactFoldEventsUptoSaid : Prop := fnExactFoldEventsUptoRow.holds Tryd.pinned (OpenSpec.upto fnExactFoldEventsSpec)

/-- 'laws.FnStates', WHERE WHAT IT READS IS OF BULK AT MOST 1048576: true; the input reads as it did. -/
def fnStatesUptoRow : OpenClaim := { program := "ytjhcfmcdllfmpaadoor", sum := "7e01e6767a2fe2f592da4e0fed39345abe46b464b73df051353ace066eee9f11", func := "loop.example/g00269/laws.FnStates", spec := "fnStates", inPlace := ["internal/bytealg.IndexByteString", "internal/bytealg.IndexString", "slices.overlaps[string]"], unfollowed := true, recurses := true, named := ["unicode/utf8.first", "unicode/utf8.acceptRanges", "internal/bytealg.MaxLen"], apart := false, laid := [("unicode/utf8.acceptRanges", laid_unicode_utf8_acceptRanges), ("unicode/utf8.first", laid_unicode_utf8_first)], narrowed := true }
def FnStatesUptoSaid : Prop := fnStatesUptoRow.holds Tryd.pinned (OpenSpec.upto fnStatesSpec)

/-- 'laws.FnExactBranchLess', WHERE WHAT IT READS IS OF BULK AT MOST 1048576: true; the input reads as it did. -/
def fnExactBranchLessUptoRow : OpenClaim := { program := "ytjhcfmcdllfmpaadoor", sum := "7e01e6767a2fe2f592da4e0fed39345abe46b464b73df051353ace066eee9f11", func := "loop.example/g00269/laws.FnExactBranchLess", spec := "fnExactBranchLess", inPlace := ["internal/bytealg.IndexByteString", "internal/bytealg.IndexString", "slices.overlaps[string]"], unfollowed := true, recurses := true, named := ["unicode/utf8.first", "unicode/utf8.acceptRanges", "internal/bytealg.MaxLen"], apart := false, laid := [("unicode/utf8.acceptRanges", laid_unicode_utf8_acceptRanges), ("unicode/utf8.first", laid_unicode_utf8_first)], narrowed := true }
def FnExactBranchLessUptoSaid : Prop := fnExactBranchLessUptoRow.holds Tryd.pinned (OpenSpec.upto fnExactBranchLessSpec)

/-- 'laws.FnExactMergeDomains', WHERE WHAT IT READS IS OF BULK AT MOST 1048576: true; the input reads as it did. -/
def fnExactMergeDomainsUptoRow : OpenClaim := { program := "ytjhcfmcdllfmpaadoor", sum := "7e01e6767a2fe2f592da4e0fed39345abe46b464b73df051353ace066eee9f11", func := "loop.example/g00269/laws.FnExactMergeDomains", spec := "fnExactMergeDomains", inPlace := ["internal/bytealg.IndexByteString", "internal/bytealg.IndexString"], unfollowed := true, recurses := true, named := ["unicode/utf8.first", "unicode/utf8.acceptRanges", "internal/bytealg.MaxLen"], apart := false, laid := [("unicode/utf8.acceptRanges", laid_unicode_utf8_acceptRanges), ("unicode/utf8.first", laid_unicode_utf8_first)], narrowed := true }
def FnExactMergeDomainsUptoSaid : Prop := fnExactMergeDomainsUptoRow.holds Tryd.pinned (OpenSpec.upto fnExactMergeDomainsSpec)

/-- 'laws.FnDomains', WHERE WHAT IT READS IS OF BULK AT MOST 1048576: true; the input reads as it did. -/
def fnDomainsUptoRow : OpenClaim := { program := "ytjhcfmcdllfmpaadoor", sum := "7e01e6767a2fe2f592da4e0fed39345abe46b464b73df051353ace066eee9f11", func := "loop.example/g00269/laws.FnDomains", spec := "fnDomains", inPlace := ["internal/bytealg.IndexByteString", "internal/bytealg.IndexString"], unfollowed := true, recurses := true, named := ["unicode/utf8.first", "unicode/utf8.acceptRanges", "internal/bytealg.MaxLen"], apart := false, laid := [("unicode/utf8.acceptRanges", laid_unicode_utf8_acceptRanges), ("unicode/utf8.first", laid_unicode_utf8_first)], narrowed := true }
def FnDomainsUptoSaid : Prop := fnDomainsUptoRow.holds Tryd.pinned (OpenSpec.upto fnDomainsSpec)

/-- 'laws.FnExactGoodTellings', WHERE WHAT IT READS IS OF BULK AT MOST 1048576: true; the input reads as it did. -/
def fnExactGoodTellingsUptoRow : OpenClaim := { program := "ytjhcfmcdllfmpaadoor", sum := "7e01e6767a2fe2f592da4e0fed39345abe46b464b73df051353ace066eee9f11", func := "loop.example/g00269/laws.FnExactGoodTellings", spec := "fnExactGoodTellings", inPlace := ["internal/bytealg.IndexByteString", "internal/bytealg.IndexString", "slices.overlaps[string]"], unfollowed := true, recurses := true, named := ["unicode/utf8.first", "unicode/utf8.acceptRanges", "internal/bytealg.MaxLen"], apart := false, laid := [("unicode/utf8.acceptRanges", laid_unicode_utf8_acceptRanges), ("unicode/utf8.first", laid_unicode_utf8_first)], narrowed := true }
def FnExactGoodTellingsUptoSaid : Prop := fnExactGoodTellingsUptoRow.holds Tryd.pinned (OpenSpec.upto fnExactGoodTellingsSpec)

end Rows
end Go.Proofs.YtjhcfmcdllfmpaaDoor
