/-
  NARROWER THAN 'FOR EVERY INPUT', by the rows' own cells (each row's printed sentence says how): FnHeard: laid · FnExactReapply: laid · FnOneTelling: laid · FnExactSettleWorld: laid · FnExactPlayWorld: laid.
  DERIVED. THE GIVEN ROWS OF THIS SEAT. 5 by the template 'for every input the law returns true; each argument reads behind the call as it read before'; 0 by the template 'total and deterministic' (their statements: YteonagfnhdlfcaaGreatDoorTotals.lean).
  GIVEN WITH THE SEED: the statements are not yours to turn. If you find one false, say at which input.
  Laid BY PROGRAM, IN A SANDBOX (cutbox-rows.mjs): the forced cells as the released guide's own fill.sh prints them over the translation cad495ff1ae5eaba… (all of the seat's roots in one cut). By AI agents, Wed Nov 11 2026. No macro, syntax, notation, axiom, sorry.
-/
import Derived.Test.YteonagfnhdlfcaaGreatDoorChecked
import GoSem.PinnedTables
import GoSem.Claim
import GoSem.ClaimJoined
import GoSem.ClaimMapViews
import Derived.JoinedTies
import Derived.KernelRfl
namespace Go.Proofs.YteonagfnhdlfcaaGreatDoor
/- THE CELL 'sum', in the pinned program and in every row, IS THE sha256 OF THE DUMP (.gsa) THAT YteonagfnhdlfcaaGreatDoorProg.lean LOADS. Nothing in Lean hashes anything: it is a label: what it is worth is what the hold of that sum in a sandbox is worth. -/
noncomputable def Tryz.pinned : Pinned := { name := "yteonagfnhdlfcaagreatdoor", sum := "cad495ff1ae5eaba935b6434b4a3011bfb96d6f9fef8404472929c83b0661fdb", checked := Tryz.checked }
namespace Rows
def none {H : Type} : Left H := { results := [], args := [] }

/- WHAT THE LISTED PACKAGE-LEVEL VARIABLES READ AS WHEN THE CALL BEGINS. Each datum BY PROGRAM (the guide's laid-datum.mjs) off the statement by which the dump's own 'gosem.cut.vars' lays the variable. In a bare row this is a premise. The card (YteonagfnhdlfcaaGreatDoorCards.lean) ties it to the program's text. -/
def laid_unicode_utf8_acceptRanges {H : Type} : DataW H := .agg [.agg [.lit (.int .u8 128), .lit (.int .u8 191)], .agg [.lit (.int .u8 160), .lit (.int .u8 191)], .agg [.lit (.int .u8 128), .lit (.int .u8 159)], .agg [.lit (.int .u8 144), .lit (.int .u8 191)], .agg [.lit (.int .u8 128), .lit (.int .u8 143)], .agg [.lit (.int .u8 0), .lit (.int .u8 0)], .agg [.lit (.int .u8 0), .lit (.int .u8 0)], .agg [.lit (.int .u8 0), .lit (.int .u8 0)], .agg [.lit (.int .u8 0), .lit (.int .u8 0)], .agg [.lit (.int .u8 0), .lit (.int .u8 0)], .agg [.lit (.int .u8 0), .lit (.int .u8 0)], .agg [.lit (.int .u8 0), .lit (.int .u8 0)], .agg [.lit (.int .u8 0), .lit (.int .u8 0)], .agg [.lit (.int .u8 0), .lit (.int .u8 0)], .agg [.lit (.int .u8 0), .lit (.int .u8 0)], .agg [.lit (.int .u8 0), .lit (.int .u8 0)]]
/-- One of Go's own tables, pinned by name: the form's constant. -/
def laid_unicode_utf8_first : DataW Unit := Go.Pinned.utf8First

/-- 'laws.FnHeard': WHATEVER THE INPUT: true; the input reads as it did. -/
def fnHeardSpec : ChangeSpec := { name := "fnHeard", fn := fun _ => fun
  | [d1, d2] => { results := [.lit (.bool true)], args := [d1, d2] }
  | _ => none }
def fnHeardRow : OpenClaim := { program := "yteonagfnhdlfcaagreatdoor", sum := "cad495ff1ae5eaba935b6434b4a3011bfb96d6f9fef8404472929c83b0661fdb", func := "loop.example/g00269/laws.FnHeard", spec := "fnHeard", inPlace := ["internal/bytealg.IndexByteString", "internal/bytealg.IndexString", "slices.overlaps[string]"], unfollowed := true, recurses := true, named := ["unicode/utf8.first", "unicode/utf8.acceptRanges", "internal/bytealg.MaxLen"], apart := false, laid := [("unicode/utf8.acceptRanges", laid_unicode_utf8_acceptRanges), ("unicode/utf8.first", laid_unicode_utf8_first)] }
def FnHeardSaid : Prop := fnHeardRow.holds Tryz.pinned (OpenSpec.ofChange fnHeardSpec)

/-- ITS FALSE NEIGHBOUR: 'it returns false'. Refute it at one input. -/
def fnHeardWrong : ChangeSpec := { name := "fnHeard", fn := fun _ => fun
  | [d1, d2] => { results := [.lit (.bool false)], args := [d1, d2] }
  | _ => none }
def FnHeardWrongFalsely : Prop := fnHeardRow.holds Tryz.pinned (OpenSpec.ofChange fnHeardWrong)

/-- 'laws.FnExactReapply': WHATEVER THE INPUT: true; the input reads as it did. -/
def fnExactReapplySpec : ChangeSpec := { name := "fnExactReapply", fn := fun _ => fun
  | [d] => { results := [.lit (.bool true)], args := [d] }
  | _ => none }
def fnExactReapplyRow : OpenClaim := { program := "yteonagfnhdlfcaagreatdoor", sum := "cad495ff1ae5eaba935b6434b4a3011bfb96d6f9fef8404472929c83b0661fdb", func := "loop.example/g00269/laws.FnExactReapply", spec := "fnExactReapply", inPlace := ["internal/bytealg.IndexByteString", "internal/bytealg.IndexString", "slices.overlaps[string]"], unfollowed := true, recurses := true, named := ["unicode/utf8.first", "unicode/utf8.acceptRanges", "internal/bytealg.MaxLen"], apart := false, laid := [("unicode/utf8.acceptRanges", laid_unicode_utf8_acceptRanges), ("unicode/utf8.first", laid_unicode_utf8_first)] }
def FnExactReapplySaid : Prop := fnExactReapplyRow.holds Tryz.pinned (OpenSpec.ofChange fnExactReapplySpec)

/-- ITS FALSE NEIGHBOUR: 'it returns false'. Refute it at one input. -/
def fnExactReapplyWrong : ChangeSpec := { name := "fnExactReapply", fn := fun _ => fun
  | [d] => { results := [.lit (.bool false)], args := [d] }
  | _ => none }
def FnExactReapplyWrongFalsely : Prop := fnExactReapplyRow.holds Tryz.pinned (OpenSpec.ofChange fnExactReapplyWrong)

/-- 'laws.FnOneTelling': WHATEVER THE INPUT: true; the input reads as it did. -/
def fnOneTellingSpec : ChangeSpec := { name := "fnOneTelling", fn := fun _ => fun
  | [d] => { results := [.lit (.bool true)], args := [d] }
  | _ => none }
def fnOneTellingRow : OpenClaim := { program := "yteonagfnhdlfcaagreatdoor", sum := "cad495ff1ae5eaba935b6434b4a3011bfb96d6f9fef8404472929c83b0661fdb", func := "loop.example/g00269/laws.FnOneTelling", spec := "fnOneTelling", inPlace := ["internal/bytealg.IndexByteString", "internal/bytealg.IndexString", "slices.overlaps[string]"], unfollowed := true, recurses := true, named := ["unicode/utf8.first", "unicode/utf8.acceptRanges", "internal/bytealg.MaxLen"], apart := false, laid := [("unicode/utf8.acceptRanges", laid_unicode_utf8_acceptRanges), ("unicode/utf8.first", laid_unicode_utf8_first)] }
def FnOneTellingSaid : Prop := fnOneTellingRow.holds Tryz.pinned (OpenSpec.ofChange fnOneTellingSpec)

/-- ITS FALSE NEIGHBOUR: 'it returns false'. Refute it at one input. -/
def fnOneTellingWrong : ChangeSpec := { name := "fnOneTelling", fn := fun _ => fun
  | [d] => { results := [.lit (.bool false)], args := [d] }
  | _ => none }
def FnOneTellingWrongFalsely : Prop := fnOneTellingRow.holds Tryz.pinned (OpenSpec.ofChange fnOneTellingWrong)

/-- 'laws.FnExactSettleWorld': WHATEVER THE INPUT: true; the input reads as it did. -/
def fnExactSettleWorldSpec : ChangeSpec := { name := "fnExactSettleWorld", fn := fun _ => fun
  | [d] => { results := [.lit (.bool true)], args := [d] }
  | _ => none }
def fnExactSettleWorldRow : OpenClaim := { program := "yteonagfnhdlfcaagreatdoor", sum := "cad495ff1ae5eaba935b6434b4a3011bfb96d6f9fef8404472929c83b0661fdb", func := "loop.example/g00269/laws.FnExactSettleWorld", spec := "fnExactSettleWorld", inPlace := ["internal/bytealg.IndexByteString", "internal/bytealg.IndexString", "slices.overlaps[string]"], unfollowed := true, recurses := true, named := ["unicode/utf8.first", "unicode/utf8.acceptRanges", "internal/bytealg.MaxLen"], apart := false, laid := [("unicode/utf8.acceptRanges", laid_unicode_utf8_acceptRanges), ("unicode/utf8.first", laid_unicode_utf8_first)] }
def FnExactSettleWorldSaid : Prop := fnExactSettleWorldRow.holds Tryz.pinned (OpenSpec.ofChange fnExactSettleWorldSpec)

/-- ITS FALSE NEIGHBOUR: 'it returns false'. Refute it at one input. -/
def fnExactSettleWorldWrong : ChangeSpec := { name := "fnExactSettleWorld", fn := fun _ => fun
  | [d] => { results := [.lit (.bool false)], args := [d] }
  | _ => none }
def FnExactSettleWorldWrongFalsely : Prop := fnExactSettleWorldRow.holds Tryz.pinned (OpenSpec.ofChange fnExactSettleWorldWrong)

/-- 'laws.FnExactPlayWorld': WHATEVER THE INPUT: true; the input reads as it did. -/
def fnExactPlayWorldSpec : ChangeSpec := { name := "fnExactPlayWorld", fn := fun _ => fun
  | [d] => { results := [.lit (.bool true)], args := [d] }
  | _ => none }
def fnExactPlayWorldRow : OpenClaim := { program := "yteonagfnhdlfcaagreatdoor", sum := "cad495ff1ae5eaba935b6434b4a3011bfb96d6f9fef8404472929c83b0661fdb", func := "loop.example/g00269/laws.FnExactPlayWorld", spec := "fnExactPlayWorld", inPlace := ["internal/bytealg.IndexByteString", "internal/bytealg.IndexString", "slices.overlaps[string]"], unfollowed := true, recurses := true, named := ["unicode/utf8.first", "unicode/utf8.acceptRanges", "internal/bytealg.MaxLen"], apart := false, laid := [("unicode/utf8.acceptRanges", laid_unicode_utf8_acceptRanges), ("unicode/utf8.first", laid_unicode_utf8_first)] }
def FnExactPlayWorldSaid : Prop := fnExactPlayWorldRow.holds Tryz.pinned (OpenSpec.ofChange fnExactPlayWorldSpec)

/-- ITS FALSE NEIGHBOUR: 'it returns false'. Refute it at one input. -/
def fnExactPlayWorldWrong : ChangeSpec := { name := "fnExactPlayWorld", fn := fun _ => fun
  | [d] => { results := [.lit (.bool false)], args := [d] }
  | _ => none }
def FnExactPlayWorldWrongFalsely : Prop := fnExactPlayWorldRow.holds Tryz.pinned (OpenSpec.ofChange fnExactPlayWorldWrong)

/- THE SECOND FORM. 'bulk': how many values and letters a reading holds, each counted each time it is reached (what is shared counts as often as it is met; a slice's spare places count too). A statement '..UptoSaid' is the law's where the arguments, and the package variables that the reading takes, are together of bulk at most 1048576: NARROWER than '..Said'. Prove '..Said' where nothing that the law and all that it calls make is longer than what came in: it says more and counts as full. Else prove '..UptoSaid'. A law counts once. -/
mutual
def uptoBulk {H : Type} : DataW H → Nat
  | .lit (.string bytes) => bytes.length + 1
  | .lit _ => 1
  | .nil => 1
  | .ptr d => uptoBulk d + 1
  | .slice elems spare => uptoBulkAll elems + uptoBulkAll spare + 1
  | .agg parts => uptoBulkAll parts + 1
  | .iface _ d => uptoBulk d + 1
  | .map entries => uptoBulkEntries entries + 1
  | .held _ => 1
def uptoBulkAll {H : Type} : List (DataW H) → Nat
  | [] => 0
  | d :: r => uptoBulk d + uptoBulkAll r
def uptoBulkEntries {H : Type} : List (Lit × DataW H) → Nat
  | [] => 0
  | x :: r => uptoBulkEntry x + uptoBulkEntries r
def uptoBulkEntry {H : Type} : Lit × DataW H → Nat
  | (.string bytes, d) => bytes.length + uptoBulk d + 1
  | (_, d) => uptoBulk d + 1
 end
def uptoSmall : (H : Type) → List (DataW H) → Bool := fun _ ds => decide (uptoBulkAll ds ≤ 1048576)
def OpenSpec.upto (s : _root_.Go.ChangeSpec) : _root_.Go.OpenSpec := { _root_.Go.OpenSpec.ofChange s with cond := some uptoSmall }

/-- 'laws.FnHeard', WHERE WHAT IT READS IS OF BULK AT MOST 1048576: true; the input reads as it did. -/
def fnHeardUptoRow : OpenClaim := { program := "yteonagfnhdlfcaagreatdoor", sum := "cad495ff1ae5eaba935b6434b4a3011bfb96d6f9fef8404472929c83b0661fdb", func := "loop.example/g00269/laws.FnHeard", spec := "fnHeard", inPlace := ["internal/bytealg.IndexByteString", "internal/bytealg.IndexString", "slices.overlaps[string]"], unfollowed := true, recurses := true, named := ["unicode/utf8.first", "unicode/utf8.acceptRanges", "internal/bytealg.MaxLen"], apart := false, laid := [("unicode/utf8.acceptRanges", laid_unicode_utf8_acceptRanges), ("unicode/utf8.first", laid_unicode_utf8_first)], narrowed := true }
def FnHeardUptoSaid : Prop := fnHeardUptoRow.holds Tryz.pinned (OpenSpec.upto fnHeardSpec)

/-- 'laws.FnExactReapply', WHERE WHAT IT READS IS OF BULK AT MOST 1048576: true; the input reads as it did. -/
def fnExactReapplyUptoRow : OpenClaim := { program := "yteonagfnhdlfcaagreatdoor", sum := "cad495ff1ae5eaba935b6434b4a3011bfb96d6f9fef8404472929c83b0661fdb", func := "loop.example/g00269/laws.FnExactReapply", spec := "fnExactReapply", inPlace := ["internal/bytealg.IndexByteString", "internal/bytealg.IndexString", "slices.overlaps[string]"], unfollowed := true, recurses := true, named := ["unicode/utf8.first", "unicode/utf8.acceptRanges", "internal/bytealg.MaxLen"], apart := false, laid := [("unicode/utf8.acceptRanges", laid_unicode_utf8_acceptRanges), ("unicode/utf8.first", laid_unicode_utf8_first)], narrowed := true }
def FnExactReapplyUptoSaid : Prop := fnExactReapplyUptoRow.holds Tryz.pinned (OpenSpec.upto fnExactReapplySpec)

/-- 'laws.FnOneTelling', WHERE WHAT IT READS IS OF BULK AT MOST 1048576: true; the input reads as it did. -/
def fnOneTellingUptoRow : OpenClaim := { program := "yteonagfnhdlfcaagreatdoor", sum := "cad495ff1ae5eaba935b6434b4a3011bfb96d6f9fef8404472929c83b0661fdb", func := "loop.example/g00269/laws.FnOneTelling", spec := "fnOneTelling", inPlace := ["internal/bytealg.IndexByteString", "internal/bytealg.IndexString", "slices.overlaps[string]"], unfollowed := true, recurses := true, named := ["unicode/utf8.first", "unicode/utf8.acceptRanges", "internal/bytealg.MaxLen"], apart := false, laid := [("unicode/utf8.acceptRanges", laid_unicode_utf8_acceptRanges), ("unicode/utf8.first", laid_unicode_utf8_first)], narrowed := true }
def FnOneTellingUptoSaid : Prop := fnOneTellingUptoRow.holds Tryz.pinned (OpenSpec.upto fnOneTellingSpec)

/-- 'laws.FnExactSettleWorld', WHERE WHAT IT READS IS OF BULK AT MOST 1048576: true; the input reads as it did. -/
def fnExactSettleWorldUptoRow : OpenClaim := { program := "yteonagfnhdlfcaagreatdoor", sum := "cad495ff1ae5eaba935b6434b4a3011bfb96d6f9fef8404472929c83b0661fdb", func := "loop.example/g00269/laws.FnExactSettleWorld", spec := "fnExactSettleWorld", inPlace := ["internal/bytealg.IndexByteString", "internal/bytealg.IndexString", "slices.overlaps[string]"], unfollowed := true, recurses := true, named := ["unicode/utf8.first", "unicode/utf8.acceptRanges", "internal/bytealg.MaxLen"], apart := false, laid := [("unicode/utf8.acceptRanges", laid_unicode_utf8_acceptRanges), ("unicode/utf8.first", laid_unicode_utf8_first)], narrowed := true }
def FnExactSettleWorldUptoSaid : Prop := fnExactSettleWorldUptoRow.holds Tryz.pinned (OpenSpec.upto fnExactSettleWorldSpec)

/-- 'laws.FnExactPlayWorld', WHERE WHAT IT READS IS OF BULK AT MOST 1048576: true; the input reads as it did. -/
def fnExactPlayWorldUptoRow : OpenClaim := { program := "yteonagfnhdlfcaagreatdoor", sum := "cad495ff1ae5eaba935b6434b4a3011bfb96d6f9fef8404472929c83b0661fdb", func := "loop.example/g00269/laws.FnExactPlayWorld", spec := "fnExactPlayWorld", inPlace := ["internal/bytealg.IndexByteString", "internal/bytealg.IndexString", "slices.overlaps[string]"], unfollowed := true, recurses := true, named := ["unicode/utf8.first", "unicode/utf8.acceptRanges", "internal/bytealg.MaxLen"], apart := false, laid := [("unicode/utf8.acceptRanges", laid_unicode_utf8_acceptRanges), ("unicode/utf8.first", laid_unicode_utf8_first)], narrowed := true }
def FnExactPlayWorldUptoSaid : Prop := fnExactPlayWorldUptoRow.holds Tryz.pinned (OpenSpec.upto fnExactPlayWorldSpec)

end Rows
end Go.Proofs.YteonagfnhdlfcaaGreatDoor
