/-
  NARROWER THAN 'FOR EVERY INPUT', by the rows' own cells (each row's printed sentence says how): FnExactCurrentOf: laid · FnExactWordOf: laid · FnExactStateOf: laid · FnExactTakeLead: laid · FnExactLeadersIn: laid · FnExactAddBranch: laid · FnBranches: laid · FnExactMergeTellings: laid · FnExactLostSignals: laid · FnCurrent: laid · FnExactHearWord: laid.
  DERIVED. THE GIVEN ROWS OF THIS SEAT. 11 by the template 'for every input the law returns true; each argument reads behind the call as it read before'; 0 by the template 'total and deterministic' (their statements: YtjkeoippmlmfbaaGreatDoorTotals.lean).
  GIVEN WITH THE SEED: the statements are not yours to turn. If you find one false, say at which input.
  Laid BY PROGRAM, IN A SANDBOX (cutbox-rows.mjs): the forced cells as the released guide's own fill.sh prints them over the translation 997c428b81e01dee… (all of the seat's roots in one cut). By AI agents, Wed Nov 11 2026. No macro, syntax, notation, axiom, sorry.
-/
import Derived.Test.YtjkeoippmlmfbaaGreatDoorChecked
import GoSem.PinnedTables
import GoSem.Claim
import GoSem.ClaimJoined
import GoSem.ClaimMapViews
import Derived.JoinedTies
import Derived.KernelRfl
namespace Go.Proofs.YtjkeoippmlmfbaaGreatDoor
/- THE CELL 'sum', in the pinned program and in every row, IS THE sha256 OF THE DUMP (.gsa) THAT YtjkeoippmlmfbaaGreatDoorProg.lean LOADS. Nothing in Lean hashes anything: it is a label: what it is worth is what the hold of that sum in a sandbox is worth. -/
noncomputable def Tryz.pinned : Pinned := { name := "ytjkeoippmlmfbaagreatdoor", sum := "997c428b81e01dee1507ce9644b3a5c4efdbc6a80c889f328c0c68a96fa6f761", checked := Tryz.checked }
namespace Rows
def none {H : Type} : Left H := { results := [], args := [] }

/- WHAT THE LISTED PACKAGE-LEVEL VARIABLES READ AS WHEN THE CALL BEGINS. Each datum BY PROGRAM (the guide's laid-datum.mjs) off the statement by which the dump's own 'gosem.cut.vars' lays the variable. In a bare row this is a premise. The card (YtjkeoippmlmfbaaGreatDoorCards.lean) ties it to the program's text. -/
def laid_unicode_utf8_acceptRanges {H : Type} : DataW H := .agg [.agg [.lit (.int .u8 128), .lit (.int .u8 191)], .agg [.lit (.int .u8 160), .lit (.int .u8 191)], .agg [.lit (.int .u8 128), .lit (.int .u8 159)], .agg [.lit (.int .u8 144), .lit (.int .u8 191)], .agg [.lit (.int .u8 128), .lit (.int .u8 143)], .agg [.lit (.int .u8 0), .lit (.int .u8 0)], .agg [.lit (.int .u8 0), .lit (.int .u8 0)], .agg [.lit (.int .u8 0), .lit (.int .u8 0)], .agg [.lit (.int .u8 0), .lit (.int .u8 0)], .agg [.lit (.int .u8 0), .lit (.int .u8 0)], .agg [.lit (.int .u8 0), .lit (.int .u8 0)], .agg [.lit (.int .u8 0), .lit (.int .u8 0)], .agg [.lit (.int .u8 0), .lit (.int .u8 0)], .agg [.lit (.int .u8 0), .lit (.int .u8 0)], .agg [.lit (.int .u8 0), .lit (.int .u8 0)], .agg [.lit (.int .u8 0), .lit (.int .u8 0)]]
/-- One of Go's own tables, pinned by name: the form's constant. -/
def laid_unicode_utf8_first : DataW Unit := Go.Pinned.utf8First

/-- 'laws.FnExactCurrentOf': WHATEVER THE INPUT: true; the input reads as it did. -/
def fnExactCurrentOfSpec : ChangeSpec := { name := "fnExactCurrentOf", fn := fun _ => fun
  | [d] => { results := [.lit (.bool true)], args := [d] }
  | _ => none }
def fnExactCurrentOfRow : OpenClaim := { program := "ytjkeoippmlmfbaagreatdoor", sum := "997c428b81e01dee1507ce9644b3a5c4efdbc6a80c889f328c0c68a96fa6f761", func := "loop.example/g00269/laws.FnExactCurrentOf", spec := "fnExactCurrentOf", inPlace := ["internal/bytealg.IndexByteString", "internal/bytealg.IndexString", "slices.overlaps[string]"], unfollowed := true, recurses := true, named := ["unicode/utf8.first", "unicode/utf8.acceptRanges", "internal/bytealg.MaxLen"], apart := false, laid := [("unicode/utf8.acceptRanges", laid_unicode_utf8_acceptRanges), ("unicode/utf8.first", laid_unicode_utf8_first)] }
def FnExactCurrentOfSaid : Prop := fnExactCurrentOfRow.holds Tryz.pinned (OpenSpec.ofChange fnExactCurrentOfSpec)

/-- ITS FALSE NEIGHBOUR: 'it returns false'. Refute it at one input. -/
def fnExactCurrentOfWrong : ChangeSpec := { name := "fnExactCurrentOf", fn := fun _ => fun
  | [d] => { results := [.lit (.bool false)], args := [d] }
  | _ => none }
def FnExactCurrentOfWrongFalsely : Prop := fnExactCurrentOfRow.holds Tryz.pinned (OpenSpec.ofChange fnExactCurrentOfWrong)

/-- 'laws.FnExactWordOf': WHATEVER THE INPUT: true; the input reads as it did. -/
def fnExactWordOfSpec : ChangeSpec := { name := "fnExactWordOf", fn := fun _ => fun
  | [d] => { results := [.lit (.bool true)], args := [d] }
  | _ => none }
def fnExactWordOfRow : OpenClaim := { program := "ytjkeoippmlmfbaagreatdoor", sum := "997c428b81e01dee1507ce9644b3a5c4efdbc6a80c889f328c0c68a96fa6f761", func := "loop.example/g00269/laws.FnExactWordOf", spec := "fnExactWordOf", inPlace := ["internal/bytealg.IndexByteString", "internal/bytealg.IndexString", "slices.overlaps[string]"], unfollowed := true, recurses := true, named := ["unicode/utf8.first", "unicode/utf8.acceptRanges", "internal/bytealg.MaxLen"], apart := false, laid := [("unicode/utf8.acceptRanges", laid_unicode_utf8_acceptRanges), ("unicode/utf8.first", laid_unicode_utf8_first)] }
def FnExactWordOfSaid : Prop := fnExactWordOfRow.holds Tryz.pinned (OpenSpec.ofChange fnExactWordOfSpec)

/-- ITS FALSE NEIGHBOUR: 'it returns false'. Refute it at one input. -/
def fnExactWordOfWrong : ChangeSpec := { name := "fnExactWordOf", fn := fun _ => fun
  | [d] => { results := [.lit (.bool false)], args := [d] }
  | _ => none }
def FnExactWordOfWrongFalsely : Prop := fnExactWordOfRow.holds Tryz.pinned (OpenSpec.ofChange fnExactWordOfWrong)

/-- 'laws.FnExactStateOf': WHATEVER THE INPUT: true; the input reads as it did. -/
def fnExactStateOfSpec : ChangeSpec := { name := "fnExactStateOf", fn := fun _ => fun
  | [d] => { results := [.lit (.bool true)], args := [d] }
  | _ => none }
def fnExactStateOfRow : OpenClaim := { program := "ytjkeoippmlmfbaagreatdoor", sum := "997c428b81e01dee1507ce9644b3a5c4efdbc6a80c889f328c0c68a96fa6f761", func := "loop.example/g00269/laws.FnExactStateOf", spec := "fnExactStateOf", inPlace := ["internal/bytealg.IndexByteString", "internal/bytealg.IndexString", "slices.overlaps[string]"], unfollowed := true, recurses := true, named := ["unicode/utf8.first", "unicode/utf8.acceptRanges", "internal/bytealg.MaxLen"], apart := false, laid := [("unicode/utf8.acceptRanges", laid_unicode_utf8_acceptRanges), ("unicode/utf8.first", laid_unicode_utf8_first)] }
def FnExactStateOfSaid : Prop := fnExactStateOfRow.holds Tryz.pinned (OpenSpec.ofChange fnExactStateOfSpec)

/-- ITS FALSE NEIGHBOUR: 'it returns false'. Refute it at one input. -/
def fnExactStateOfWrong : ChangeSpec := { name := "fnExactStateOf", fn := fun _ => fun
  | [d] => { results := [.lit (.bool false)], args := [d] }
  | _ => none }
def FnExactStateOfWrongFalsely : Prop := fnExactStateOfRow.holds Tryz.pinned (OpenSpec.ofChange fnExactStateOfWrong)

/-- 'laws.FnExactTakeLead': WHATEVER THE INPUT: true; the input reads as it did. -/
def fnExactTakeLeadSpec : ChangeSpec := { name := "fnExactTakeLead", fn := fun _ => fun
  | [d] => { results := [.lit (.bool true)], args := [d] }
  | _ => none }
def fnExactTakeLeadRow : OpenClaim := { program := "ytjkeoippmlmfbaagreatdoor", sum := "997c428b81e01dee1507ce9644b3a5c4efdbc6a80c889f328c0c68a96fa6f761", func := "loop.example/g00269/laws.FnExactTakeLead", spec := "fnExactTakeLead", inPlace := ["internal/bytealg.IndexByteString", "internal/bytealg.IndexString", "slices.overlaps[string]"], unfollowed := true, recurses := true, named := ["unicode/utf8.first", "unicode/utf8.acceptRanges", "internal/bytealg.MaxLen"], apart := false, laid := [("unicode/utf8.acceptRanges", laid_unicode_utf8_acceptRanges), ("unicode/utf8.first", laid_unicode_utf8_first)] }
def FnExactTakeLeadSaid : Prop := fnExactTakeLeadRow.holds Tryz.pinned (OpenSpec.ofChange fnExactTakeLeadSpec)

/-- ITS FALSE NEIGHBOUR: 'it returns false'. Refute it at one input. -/
def fnExactTakeLeadWrong : ChangeSpec := { name := "fnExactTakeLead", fn := fun _ => fun
  | [d] => { results := [.lit (.bool false)], args := [d] }
  | _ => none }
def FnExactTakeLeadWrongFalsely : Prop := fnExactTakeLeadRow.holds Tryz.pinned (OpenSpec.ofChange fnExactTakeLeadWrong)

/-- 'laws.FnExactLeadersIn': WHATEVER THE INPUT: true; the input reads as it did. -/
def fnExactLeadersInSpec : ChangeSpec := { name := "fnExactLeadersIn", fn := fun _ => fun
  | [d] => { results := [.lit (.bool true)], args := [d] }
  | _ => none }
def fnExactLeadersInRow : OpenClaim := { program := "ytjkeoippmlmfbaagreatdoor", sum := "997c428b81e01dee1507ce9644b3a5c4efdbc6a80c889f328c0c68a96fa6f761", func := "loop.example/g00269/laws.FnExactLeadersIn", spec := "fnExactLeadersIn", inPlace := ["internal/bytealg.IndexByteString", "internal/bytealg.IndexString", "slices.overlaps[string]"], unfollowed := true, recurses := true, named := ["unicode/utf8.first", "unicode/utf8.acceptRanges", "internal/bytealg.MaxLen"], apart := false, laid := [("unicode/utf8.acceptRanges", laid_unicode_utf8_acceptRanges), ("unicode/utf8.first", laid_unicode_utf8_first)] }
def FnExactLeadersInSaid : Prop := fnExactLeadersInRow.holds Tryz.pinned (OpenSpec.ofChange fnExactLeadersInSpec)

/-- ITS FALSE NEIGHBOUR: 'it returns false'. Refute it at one input. -/
def fnExactLeadersInWrong : ChangeSpec := { name := "fnExactLeadersIn", fn := fun _ => fun
  | [d] => { results := [.lit (.bool false)], args := [d] }
  | _ => none }
def FnExactLeadersInWrongFalsely : Prop := fnExactLeadersInRow.holds Tryz.pinned (OpenSpec.ofChange fnExactLeadersInWrong)

/-- 'laws.FnExactAddBranch': WHATEVER THE INPUT: true; the input reads as it did. -/
def fnExactAddBranchSpec : ChangeSpec := { name := "fnExactAddBranch", fn := fun _ => fun
  | [d1, d2] => { results := [.lit (.bool true)], args := [d1, d2] }
  | _ => none }
def fnExactAddBranchRow : OpenClaim := { program := "ytjkeoippmlmfbaagreatdoor", sum := "997c428b81e01dee1507ce9644b3a5c4efdbc6a80c889f328c0c68a96fa6f761", func := "loop.example/g00269/laws.FnExactAddBranch", spec := "fnExactAddBranch", inPlace := ["internal/bytealg.IndexByteString", "internal/bytealg.IndexString", "slices.overlaps[string]"], unfollowed := true, recurses := true, named := ["unicode/utf8.first", "unicode/utf8.acceptRanges", "internal/bytealg.MaxLen"], apart := false, laid := [("unicode/utf8.acceptRanges", laid_unicode_utf8_acceptRanges), ("unicode/utf8.first", laid_unicode_utf8_first)] }
def FnExactAddBranchSaid : Prop := fnExactAddBranchRow.holds Tryz.pinned (OpenSpec.ofChange fnExactAddBranchSpec)

/-- ITS FALSE NEIGHBOUR: 'it returns false'. Refute it at one input. -/
def fnExactAddBranchWrong : ChangeSpec := { name := "fnExactAddBranch", fn := fun _ => fun
  | [d1, d2] => { results := [.lit (.bool false)], args := [d1, d2] }
  | _ => none }
def FnExactAddBranchWrongFalsely : Prop := fnExactAddBranchRow.holds Tryz.pinned (OpenSpec.ofChange fnExactAddBranchWrong)

/-- 'laws.FnBranches': WHATEVER THE INPUT: true; the input reads as it did. -/
def fnBranchesSpec : ChangeSpec := { name := "fnBranches", fn := fun _ => fun
  | [d1, d2] => { results := [.lit (.bool true)], args := [d1, d2] }
  | _ => none }
def fnBranchesRow : OpenClaim := { program := "ytjkeoippmlmfbaagreatdoor", sum := "997c428b81e01dee1507ce9644b3a5c4efdbc6a80c889f328c0c68a96fa6f761", func := "loop.example/g00269/laws.FnBranches", spec := "fnBranches", inPlace := ["internal/bytealg.IndexByteString", "internal/bytealg.IndexString", "slices.overlaps[string]"], unfollowed := true, recurses := true, named := ["unicode/utf8.first", "unicode/utf8.acceptRanges", "internal/bytealg.MaxLen"], apart := false, laid := [("unicode/utf8.acceptRanges", laid_unicode_utf8_acceptRanges), ("unicode/utf8.first", laid_unicode_utf8_first)] }
def FnBranchesSaid : Prop := fnBranchesRow.holds Tryz.pinned (OpenSpec.ofChange fnBranchesSpec)

/-- ITS FALSE NEIGHBOUR: 'it returns false'. Refute it at one input. -/
def fnBranchesWrong : ChangeSpec := { name := "fnBranches", fn := fun _ => fun
  | [d1, d2] => { results := [.lit (.bool false)], args := [d1, d2] }
  | _ => none }
def FnBranchesWrongFalsely : Prop := fnBranchesRow.holds Tryz.pinned (OpenSpec.ofChange fnBranchesWrong)

/-- 'laws.FnExactMergeTellings': WHATEVER THE INPUT: true; the input reads as it did. -/
def fnExactMergeTellingsSpec : ChangeSpec := { name := "fnExactMergeTellings", fn := fun _ => fun
  | [d1, d2] => { results := [.lit (.bool true)], args := [d1, d2] }
  | _ => none }
def fnExactMergeTellingsRow : OpenClaim := { program := "ytjkeoippmlmfbaagreatdoor", sum := "997c428b81e01dee1507ce9644b3a5c4efdbc6a80c889f328c0c68a96fa6f761", func := "loop.example/g00269/laws.FnExactMergeTellings", spec := "fnExactMergeTellings", inPlace := ["internal/bytealg.IndexByteString", "internal/bytealg.IndexString", "slices.overlaps[string]"], unfollowed := true, recurses := true, named := ["unicode/utf8.first", "unicode/utf8.acceptRanges", "internal/bytealg.MaxLen"], apart := false, laid := [("unicode/utf8.acceptRanges", laid_unicode_utf8_acceptRanges), ("unicode/utf8.first", laid_unicode_utf8_first)] }
def FnExactMergeTellingsSaid : Prop := fnExactMergeTellingsRow.holds Tryz.pinned (OpenSpec.ofChange fnExactMergeTellingsSpec)

/-- ITS FALSE NEIGHBOUR: 'it returns false'. Refute it at one input. -/
def fnExactMergeTellingsWrong : ChangeSpec := { name := "fnExactMergeTellings", fn := fun _ => fun
  | [d1, d2] => { results := [.lit (.bool false)], args := [d1, d2] }
  | _ => none }
def FnExactMergeTellingsWrongFalsely : Prop := fnExactMergeTellingsRow.holds Tryz.pinned (OpenSpec.ofChange fnExactMergeTellingsWrong)

/-- 'laws.FnExactLostSignals': WHATEVER THE INPUT: true; the input reads as it did. -/
def fnExactLostSignalsSpec : ChangeSpec := { name := "fnExactLostSignals", fn := fun _ => fun
  | [d] => { results := [.lit (.bool true)], args := [d] }
  | _ => none }
def fnExactLostSignalsRow : OpenClaim := { program := "ytjkeoippmlmfbaagreatdoor", sum := "997c428b81e01dee1507ce9644b3a5c4efdbc6a80c889f328c0c68a96fa6f761", func := "loop.example/g00269/laws.FnExactLostSignals", spec := "fnExactLostSignals", inPlace := ["internal/bytealg.IndexByteString", "internal/bytealg.IndexString", "slices.overlaps[string]"], unfollowed := true, recurses := true, named := ["unicode/utf8.first", "unicode/utf8.acceptRanges", "internal/bytealg.MaxLen"], apart := false, laid := [("unicode/utf8.acceptRanges", laid_unicode_utf8_acceptRanges), ("unicode/utf8.first", laid_unicode_utf8_first)] }
def FnExactLostSignalsSaid : Prop := fnExactLostSignalsRow.holds Tryz.pinned (OpenSpec.ofChange fnExactLostSignalsSpec)

/-- ITS FALSE NEIGHBOUR: 'it returns false'. Refute it at one input. -/
def fnExactLostSignalsWrong : ChangeSpec := { name := "fnExactLostSignals", fn := fun _ => fun
  | [d] => { results := [.lit (.bool false)], args := [d] }
  | _ => none }
def FnExactLostSignalsWrongFalsely : Prop := fnExactLostSignalsRow.holds Tryz.pinned (OpenSpec.ofChange fnExactLostSignalsWrong)

/-- 'laws.FnCurrent': WHATEVER THE INPUT: true; the input reads as it did. -/
def fnCurrentSpec : ChangeSpec := { name := "fnCurrent", fn := fun _ => fun
  | [d1, d2] => { results := [.lit (.bool true)], args := [d1, d2] }
  | _ => none }
def fnCurrentRow : OpenClaim := { program := "ytjkeoippmlmfbaagreatdoor", sum := "997c428b81e01dee1507ce9644b3a5c4efdbc6a80c889f328c0c68a96fa6f761", func := "loop.example/g00269/laws.FnCurrent", spec := "fnCurrent", inPlace := ["internal/bytealg.IndexByteString", "internal/bytealg.IndexString", "slices.overlaps[string]"], unfollowed := true, recurses := true, named := ["unicode/utf8.first", "unicode/utf8.acceptRanges", "internal/bytealg.MaxLen"], apart := false, laid := [("unicode/utf8.acceptRanges", laid_unicode_utf8_acceptRanges), ("unicode/utf8.first", laid_unicode_utf8_first)] }
def FnCurrentSaid : Prop := fnCurrentRow.holds Tryz.pinned (OpenSpec.ofChange fnCurrentSpec)

/-- ITS FALSE NEIGHBOUR: 'it returns false'. Refute it at one input. -/
def fnCurrentWrong : ChangeSpec := { name := "fnCurrent", fn := fun _ => fun
  | [d1, d2] => { results := [.lit (.bool false)], args := [d1, d2] }
  | _ => none }
def FnCurrentWrongFalsely : Prop := fnCurrentRow.holds Tryz.pinned (OpenSpec.ofChange fnCurrentWrong)

/-- 'laws.FnExactHearWord': WHATEVER THE INPUT: true; the input reads as it did. -/
def fnExactHearWordSpec : ChangeSpec := { name := "fnExactHearWord", fn := fun _ => fun
  | [d1, d2] => { results := [.lit (.bool true)], args := [d1, d2] }
  | _ => none }
def fnExactHearWordRow : OpenClaim := { program := "ytjkeoippmlmfbaagreatdoor", sum := "997c428b81e01dee1507ce9644b3a5c4efdbc6a80c889f328c0c68a96fa6f761", func := "loop.example/g00269/laws.FnExactHearWord", spec := "fnExactHearWord", inPlace := ["internal/bytealg.IndexByteString", "internal/bytealg.IndexString", "slices.overlaps[string]"], unfollowed := true, recurses := true, named := ["unicode/utf8.first", "unicode/utf8.acceptRanges", "internal/bytealg.MaxLen"], apart := false, laid := [("unicode/utf8.acceptRanges", laid_unicode_utf8_acceptRanges), ("unicode/utf8.first", laid_unicode_utf8_first)] }
def FnExactHearWordSaid : Prop := fnExactHearWordRow.holds Tryz.pinned (OpenSpec.ofChange fnExactHearWordSpec)

/-- ITS FALSE NEIGHBOUR: 'it returns false'. Refute it at one input. -/
def fnExactHearWordWrong : ChangeSpec := { name := "fnExactHearWord", fn := fun _ => fun
  | [d1, d2] => { results := [.lit (.bool false)], args := [d1, d2] }
  | _ => none }
def FnExactHearWordWrongFalsely : Prop := fnExactHearWordRow.holds Tryz.pinned (OpenSpec.ofChange fnExactHearWordWrong)

/- THE SECOND FORM. 'bulk': how many values and letters a reading holds, each counted each time it is reached (what is shared counts as often as it is met; a slice's spare places count too). A statement '..UptoSaid' is the law's where the arguments, and the package variables that the reading takes, are together of bulk at most 1048576: NARROWER than '..Said'. Prove '..Said' where nothing that the law and all that it calls make is longer than what came in: it says more and counts as full. Else prove '..UptoSaid'. A law counts once. -/
mutual
def uptoBulk {H : Type} : DataW H → Nat
  | .lit (.string bytes) => bytes.length + 1
  | .lit _ => 1
  | .nil => 1
  | .ptr d => uptoBulk d + 1
  | .slice elems spare => uptoBulkAll elems + uptoBulkAll spare + 1
  | .agg parts => uptoBulkAll parts + 1
  | .iface _ d => uptoBulk d + 1
  | .map entries => uptoBulkEntries entries + 1
  | .held _ => 1
def uptoBulkAll {H : Type} : List (DataW H) → Nat
  | [] => 0
  | d :: r => uptoBulk d + uptoBulkAll r
def uptoBulkEntries {H : Type} : List (Lit × DataW H) → Nat
  | [] => 0
  | x :: r => uptoBulkEntry x + uptoBulkEntries r
def uptoBulkEntry {H : Type} : Lit × DataW H → Nat
  | (.string bytes, d) => bytes.length + uptoBulk d + 1
  | (_, d) => uptoBulk d + 1
 end
def uptoSmall : (H : Type) → List (DataW H) → Bool := fun _ ds => decide (uptoBulkAll ds ≤ 1048576)
def OpenSpec.upto (s : _root_.Go.ChangeSpec) : _root_.Go.OpenSpec := { _root_.Go.OpenSpec.ofChange s with cond := some uptoSmall }

/-- 'laws.FnExactCurrentOf', WHERE WHAT IT READS IS OF BULK AT MOST 1048576: true; the input reads as it did. -/
def fnExactCurrentOfUptoRow : OpenClaim := { program := "ytjkeoippmlmfbaagreatdoor", sum := "997c428b81e01dee1507ce9644b3a5c4efdbc6a80c889f328c0c68a96fa6f761", func := "loop.example/g00269/laws.FnExactCurrentOf", spec := "fnExactCurrentOf", inPlace := ["internal/bytealg.IndexByteString", "internal/bytealg.IndexString", "slices.overlaps[string]"], unfollowed := true, recurses := true, named := ["unicode/utf8.first", "unicode/utf8.acceptRanges", "internal/bytealg.MaxLen"], apart := false, laid := [("unicode/utf8.acceptRanges", laid_unicode_utf8_acceptRanges), ("unicode/utf8.first", laid_unicode_utf8_first)], narrowed := true }
def FnExactCurrentOfUptoSaid : Prop := fnExactCurrentOfUptoRow.holds Tryz.pinned (OpenSpec.upto fnExactCurrentOfSpec)

/-- 'laws.FnExactWordOf', WHERE WHAT IT READS IS OF BULK AT MOST 1048576: true; the input reads as it did. -/
def fnExactWordOfUptoRow : OpenClaim := { program := "ytjkeoippmlmfbaagreatdoor", sum := "997c428b81e01dee1507ce9644b3a5c4efdbc6a80c889f328c0c68a96fa6f761", func := "loop.example/g00269/laws.FnExactWordOf", spec := "fnExactWordOf", inPlace := ["internal/bytealg.IndexByteString", "internal/bytealg.IndexString", "slices.overlaps[string]"], unfollowed := true, recurses := true, named := ["unicode/utf8.first", "unicode/utf8.acceptRanges", "internal/bytealg.MaxLen"], apart := false, laid := [("unicode/utf8.acceptRanges", laid_unicode_utf8_acceptRanges), ("unicode/utf8.first", laid_unicode_utf8_first)], narrowed := true }
def FnExactWordOfUptoSaid : Prop := fnExactWordOfUptoRow.holds Tryz.pinned (OpenSpec.upto fnExactWordOfSpec)

/-- 'laws.FnExactStateOf', WHERE WHAT IT READS IS OF BULK AT MOST 1048576: true; the input reads as it did. -/
def fnExactStateOfUptoRow : OpenClaim := { program := "ytjkeoippmlmfbaagreatdoor", sum := "997c428b81e01dee1507ce9644b3a5c4efdbc6a80c889f328c0c68a96fa6f761", func := "loop.example/g00269/laws.FnExactStateOf", spec := "fnExactStateOf", inPlace := ["internal/bytealg.IndexByteString", "internal/bytealg.IndexString", "slices.overlaps[string]"], unfollowed := true, recurses := true, named := ["unicode/utf8.first", "unicode/utf8.acceptRanges", "internal/bytealg.MaxLen"], apart := false, laid := [("unicode/utf8.acceptRanges", laid_unicode_utf8_acceptRanges), ("unicode/utf8.first", laid_unicode_utf8_first)], narrowed := true }
def FnExactStateOfUptoSaid : Prop := fnExactStateOfUptoRow.holds Tryz.pinned (OpenSpec.upto fnExactStateOfSpec)

/-- 'laws.FnExactTakeLead', WHERE WHAT IT READS IS OF BULK AT MOST 1048576: true; the input reads as it did. -/
def fnExactTakeLeadUptoRow : OpenClaim := { program := "ytjkeoippmlmfbaagreatdoor", sum := "997c428b81e01dee1507ce9644b3a5c4efdbc6a80c889f328c0c68a96fa6f761", func := "loop.example/g00269/laws.FnExactTakeLead", spec := "fnExactTakeLead", inPlace := ["internal/bytealg.IndexByteString", "internal/bytealg.IndexString", "slices.overlaps[string]"], unfollowed := true, recurses := true, named := ["unicode/utf8.first", "unicode/utf8.acceptRanges", "internal/bytealg.MaxLen"], apart := false, laid := [("unicode/utf8.acceptRanges", laid_unicode_utf8_acceptRanges), ("unicode/utf8.first", laid_unicode_utf8_first)], narrowed := true }
def FnExactTakeLeadUptoSaid : Prop := fnExactTakeLeadUptoRow.holds Tryz.pinned (OpenSpec.upto fnExactTakeLeadSpec)

/-- 'laws.FnExactLeadersIn', WHERE WHAT IT READS IS OF BULK AT MOST 1048576: true; the input reads as it did. -/
def fnExactLeadersInUptoRow : OpenClaim := { program := "ytjkeoippmlmfbaagreatdoor", sum := "997c428b81e01dee1507ce9644b3a5c4efdbc6a80c889f328c0c68a96fa6f761", func := "loop.example/g00269/laws.FnExactLeadersIn", spec := "fnExactLeadersIn", inPlace := ["internal/bytealg.IndexByteString", "internal/bytealg.IndexString", "slices.overlaps[string]"], unfollowed := true, recurses := true, named := ["unicode/utf8.first", "unicode/utf8.acceptRanges", "internal/bytealg.MaxLen"], apart := false, laid := [("unicode/utf8.acceptRanges", laid_unicode_utf8_acceptRanges), ("unicode/utf8.first", laid_unicode_utf8_first)], narrowed := true }
def FnExactLeadersInUptoSaid : Prop := fnExactLeadersInUptoRow.holds Tryz.pinned (OpenSpec.upto fnExactLeadersInSpec)

/-- 'laws.FnExactAddBranch', WHERE WHAT IT READS IS OF BULK AT MOST 1048576: true; the input reads as it did. -/
def fnExactAddBranchUptoRow : OpenClaim := { program := "ytjkeoippmlmfbaagreatdoor", sum := "997c428b81e01dee1507ce9644b3a5c4efdbc6a80c889f328c0c68a96fa6f761", func := "loop.example/g00269/laws.FnExactAddBranch", spec := "fnExactAddBranch", inPlace := ["internal/bytealg.IndexByteString", "internal/bytealg.IndexString", "slices.overlaps[string]"], unfollowed := true, recurses := true, named := ["unicode/utf8.first", "unicode/utf8.acceptRanges", "internal/bytealg.MaxLen"], apart := false, laid := [("unicode/utf8.acceptRanges", laid_unicode_utf8_acceptRanges), ("unicode/utf8.first", laid_unicode_utf8_first)], narrowed := true }
def FnExactAddBranchUptoSaid : Prop := fnExactAddBranchUptoRow.holds Tryz.pinned (OpenSpec.upto fnExactAddBranchSpec)

/-- 'laws.FnBranches', WHERE WHAT IT READS IS OF BULK AT MOST 1048576: true; the input reads as it did. -/
def fnBranchesUptoRow : OpenClaim := { program := "ytjkeoippmlmfbaagreatdoor", sum := "997c428b81e01dee1507ce9644b3a5c4efdbc6a80c889f328c0c68a96fa6f761", func := "loop.example/g00269/laws.FnBranches", spec := "fnBranches", inPlace := ["internal/bytealg.IndexByteString", "internal/bytealg.IndexString", "slices.overlaps[string]"], unfollowed := true, recurses := true, named := ["unicode/utf8.first", "unicode/utf8.acceptRanges", "internal/bytealg.MaxLen"], apart := false, laid := [("unicode/utf8.acceptRanges", laid_unicode_utf8_acceptRanges), ("unicode/utf8.first", laid_unicode_utf8_first)], narrowed := true }
def FnBranchesUptoSaid : Prop := fnBranchesUptoRow.holds Tryz.pinned (OpenSpec.upto fnBranchesSpec)

/-- 'laws.FnExactMergeTellings', WHERE WHAT IT READS IS OF BULK AT MOST 1048576: true; the input reads as it did. -/
def fnExactMergeTellingsUptoRow : OpenClaim := { program := "ytjkeoippmlmfbaagreatdoor", sum := "997c428b81e01dee1507ce9644b3a5c4efdbc6a80c889f328c0c68a96fa6f761", func := "loop.example/g00269/laws.FnExactMergeTellings", spec := "fnExactMergeTellings", inPlace := ["internal/bytealg.IndexByteString", "internal/bytealg.IndexString", "slices.overlaps[string]"], unfollowed := true, recurses := true, named := ["unicode/utf8.first", "unicode/utf8.acceptRanges", "internal/bytealg.MaxLen"], apart := false, laid := [("unicode/utf8.acceptRanges", laid_unicode_utf8_acceptRanges), ("unicode/utf8.first", laid_unicode_utf8_first)], narrowed := true }
def FnExactMergeTellingsUptoSaid : Prop := fnExactMergeTellingsUptoRow.holds Tryz.pinned (OpenSpec.upto fnExactMergeTellingsSpec)

/-- 'laws.FnExactLostSignals', WHERE WHAT IT READS IS OF BULK AT MOST 1048576: true; the input reads as it did. -/
def fnExactLostSignalsUptoRow : OpenClaim := { program := "ytjkeoippmlmfbaagreatdoor", sum := "997c428b81e01dee1507ce9644b3a5c4efdbc6a80c889f328c0c68a96fa6f761", func := "loop.example/g00269/laws.FnExactLostSignals", spec := "fnExactLostSignals", inPlace := ["internal/bytealg.IndexByteString", "internal/bytealg.IndexString", "slices.overlaps[string]"], unfollowed := true, recurses := true, named := ["unicode/utf8.first", "unicode/utf8.acceptRanges", "internal/bytealg.MaxLen"], apart := false, laid := [("unicode/utf8.acceptRanges", laid_unicode_utf8_acceptRanges), ("unicode/utf8.first", laid_unicode_utf8_first)], narrowed := true }
def FnExactLostSignalsUptoSaid : Prop := fnExactLostSignalsUptoRow.holds Tryz.pinned (OpenSpec.upto fnExactLostSignalsSpec)

/-- 'laws.FnCurrent', WHERE WHAT IT READS IS OF BULK AT MOST 1048576: true; the input reads as it did. -/
def fnCurrentUptoRow : OpenClaim := { program := "ytjkeoippmlmfbaagreatdoor", sum := "997c428b81e01dee1507ce9644b3a5c4efdbc6a80c889f328c0c68a96fa6f761", func := "loop.example/g00269/laws.FnCurrent", spec := "fnCurrent", inPlace := ["internal/bytealg.IndexByteString", "internal/bytealg.IndexString", "slices.overlaps[string]"], unfollowed := true, recurses := true, named := ["unicode/utf8.first", "unicode/utf8.acceptRanges", "internal/bytealg.MaxLen"], apart := false, laid := [("unicode/utf8.acceptRanges", laid_unicode_utf8_acceptRanges), ("unicode/utf8.first", laid_unicode_utf8_first)], narrowed := true }
def FnCurrentUptoSaid : Prop := fnCurrentUptoRow.holds Tryz.pinned (OpenSpec.upto fnCurrentSpec)

/-- 'laws.FnExactHearWord', WHERE WHAT IT READS IS OF BULK AT MOST 1048576: true; the input reads as it did. -/
def fnExactHearWordUptoRow : OpenClaim := { program := "ytjkeoippmlmfbaagreatdoor", sum := "997c428b81e01dee1507ce9644b3a5c4efdbc6a80c889f328c0c68a96fa6f761", func := "loop.example/g00269/laws.FnExactHearWord", spec := "fnExactHearWord", inPlace := ["internal/bytealg.IndexByteString", "internal/bytealg.IndexString", "slices.overlaps[string]"], unfollowed := true, recurses := true, named := ["unicode/utf8.first", "unicode/utf8.acceptRanges", "internal/bytealg.MaxLen"], apart := false, laid := [("unicode/utf8.acceptRanges", laid_unicode_utf8_acceptRanges), ("unicode/utf8.first", laid_unicode_utf8_first)], narrowed := true }
def FnExactHearWordUptoSaid : Prop := fnExactHearWordUptoRow.holds Tryz.pinned (OpenSpec.upto fnExactHearWordSpec)

end Rows
end Go.Proofs.YtjkeoippmlmfbaaGreatDoor
