/-
  NARROWER THAN 'FOR EVERY INPUT', by the rows' own cells (each row's printed sentence says how): FnRelation: laid · FnWireGrows: laid · FnCone: laid · FnEditInverse: laid · FnEditList: laid · FnPlacesAfter: laid.
  DERIVED. THE GIVEN ROWS OF THIS SEAT. 6 by the template 'for every input the law returns true; each argument reads behind the call as it read before'; 0 by the template 'total and deterministic' (their statements: YtnnbgbgapogckaaGreatDoorTotals.lean).
  GIVEN WITH THE SEED: the statements are not yours to turn. If you find one false, say at which input.
  Laid BY PROGRAM, IN A SANDBOX (cutbox-rows.mjs): the forced cells as the released guide's own fill.sh prints them over the translation c1ea11464dc998a2… (all of the seat's roots in one cut). By AI agents, Wed Nov 11 2026. No macro, syntax, notation, axiom, sorry.
-/
import Derived.Test.YtnnbgbgapogckaaGreatDoorChecked
import GoSem.PinnedTables
import GoSem.Claim
import GoSem.ClaimJoined
import GoSem.ClaimMapViews
import Derived.JoinedTies
import Derived.KernelRfl
namespace Go.Proofs.YtnnbgbgapogckaaGreatDoor
/- THE CELL 'sum', in the pinned program and in every row, IS THE sha256 OF THE DUMP (.gsa) THAT YtnnbgbgapogckaaGreatDoorProg.lean LOADS. Nothing in Lean hashes anything: it is a label: what it is worth is what the hold of that sum in a sandbox is worth. -/
noncomputable def Tryz.pinned : Pinned := { name := "ytnnbgbgapogckaagreatdoor", sum := "c1ea11464dc998a2ef5a53d1d8e16c7a258200f88d484d3a83cc97dbde470b7d", checked := Tryz.checked }
namespace Rows
def none {H : Type} : Left H := { results := [], args := [] }

/- WHAT THE LISTED PACKAGE-LEVEL VARIABLES READ AS WHEN THE CALL BEGINS. Each datum BY PROGRAM (the guide's laid-datum.mjs) off the statement by which the dump's own 'gosem.cut.vars' lays the variable. In a bare row this is a premise. The card (YtnnbgbgapogckaaGreatDoorCards.lean) ties it to the program's text. -/
def laid_unicode_utf8_acceptRanges {H : Type} : DataW H := .agg [.agg [.lit (.int .u8 128), .lit (.int .u8 191)], .agg [.lit (.int .u8 160), .lit (.int .u8 191)], .agg [.lit (.int .u8 128), .lit (.int .u8 159)], .agg [.lit (.int .u8 144), .lit (.int .u8 191)], .agg [.lit (.int .u8 128), .lit (.int .u8 143)], .agg [.lit (.int .u8 0), .lit (.int .u8 0)], .agg [.lit (.int .u8 0), .lit (.int .u8 0)], .agg [.lit (.int .u8 0), .lit (.int .u8 0)], .agg [.lit (.int .u8 0), .lit (.int .u8 0)], .agg [.lit (.int .u8 0), .lit (.int .u8 0)], .agg [.lit (.int .u8 0), .lit (.int .u8 0)], .agg [.lit (.int .u8 0), .lit (.int .u8 0)], .agg [.lit (.int .u8 0), .lit (.int .u8 0)], .agg [.lit (.int .u8 0), .lit (.int .u8 0)], .agg [.lit (.int .u8 0), .lit (.int .u8 0)], .agg [.lit (.int .u8 0), .lit (.int .u8 0)]]
/-- One of Go's own tables, pinned by name: the form's constant. -/
def laid_unicode_utf8_first : DataW Unit := Go.Pinned.utf8First

/-- 'laws.FnRelation': WHATEVER THE INPUT: true; the input reads as it did. -/
def fnRelationSpec : ChangeSpec := { name := "fnRelation", fn := fun _ => fun
  | [d] => { results := [.lit (.bool true)], args := [d] }
  | _ => none }
def fnRelationRow : OpenClaim := { program := "ytnnbgbgapogckaagreatdoor", sum := "c1ea11464dc998a2ef5a53d1d8e16c7a258200f88d484d3a83cc97dbde470b7d", func := "loop.example/g00861/laws.FnRelation", spec := "fnRelation", inPlace := ["internal/bytealg.IndexByteString", "internal/bytealg.IndexString"], unfollowed := true, recurses := true, named := ["unicode/utf8.first", "unicode/utf8.acceptRanges", "internal/bytealg.MaxLen"], plainKeys := false, apart := false, laid := [("unicode/utf8.acceptRanges", laid_unicode_utf8_acceptRanges), ("unicode/utf8.first", laid_unicode_utf8_first)] }
def FnRelationSaid : Prop := fnRelationRow.holds Tryz.pinned (OpenSpec.ofChange fnRelationSpec)

/-- ITS FALSE NEIGHBOUR: 'it returns false'. Refute it at one input. -/
def fnRelationWrong : ChangeSpec := { name := "fnRelation", fn := fun _ => fun
  | [d] => { results := [.lit (.bool false)], args := [d] }
  | _ => none }
def FnRelationWrongFalsely : Prop := fnRelationRow.holds Tryz.pinned (OpenSpec.ofChange fnRelationWrong)

/-- 'laws.FnWireGrows': WHATEVER THE INPUT: true; the input reads as it did. -/
def fnWireGrowsSpec : ChangeSpec := { name := "fnWireGrows", fn := fun _ => fun
  | [d] => { results := [.lit (.bool true)], args := [d] }
  | _ => none }
def fnWireGrowsRow : OpenClaim := { program := "ytnnbgbgapogckaagreatdoor", sum := "c1ea11464dc998a2ef5a53d1d8e16c7a258200f88d484d3a83cc97dbde470b7d", func := "loop.example/g00861/laws.FnWireGrows", spec := "fnWireGrows", inPlace := ["internal/bytealg.IndexByteString", "internal/bytealg.IndexString"], unfollowed := true, recurses := true, named := ["unicode/utf8.first", "unicode/utf8.acceptRanges", "internal/bytealg.MaxLen"], plainKeys := false, apart := false, laid := [("unicode/utf8.acceptRanges", laid_unicode_utf8_acceptRanges), ("unicode/utf8.first", laid_unicode_utf8_first)] }
def FnWireGrowsSaid : Prop := fnWireGrowsRow.holds Tryz.pinned (OpenSpec.ofChange fnWireGrowsSpec)

/-- ITS FALSE NEIGHBOUR: 'it returns false'. Refute it at one input. -/
def fnWireGrowsWrong : ChangeSpec := { name := "fnWireGrows", fn := fun _ => fun
  | [d] => { results := [.lit (.bool false)], args := [d] }
  | _ => none }
def FnWireGrowsWrongFalsely : Prop := fnWireGrowsRow.holds Tryz.pinned (OpenSpec.ofChange fnWireGrowsWrong)

/-- 'laws.FnCone': WHATEVER THE INPUT: true; the input reads as it did. -/
def fnConeSpec : ChangeSpec := { name := "fnCone", fn := fun _ => fun
  | [d] => { results := [.lit (.bool true)], args := [d] }
  | _ => none }
def fnConeRow : OpenClaim := { program := "ytnnbgbgapogckaagreatdoor", sum := "c1ea11464dc998a2ef5a53d1d8e16c7a258200f88d484d3a83cc97dbde470b7d", func := "loop.example/g00861/laws.FnCone", spec := "fnCone", inPlace := ["internal/bytealg.IndexByteString", "internal/bytealg.IndexString"], unfollowed := true, recurses := true, named := ["unicode/utf8.first", "unicode/utf8.acceptRanges", "internal/bytealg.MaxLen"], plainKeys := false, apart := false, laid := [("unicode/utf8.acceptRanges", laid_unicode_utf8_acceptRanges), ("unicode/utf8.first", laid_unicode_utf8_first)] }
def FnConeSaid : Prop := fnConeRow.holds Tryz.pinned (OpenSpec.ofChange fnConeSpec)

/-- ITS FALSE NEIGHBOUR: 'it returns false'. Refute it at one input. -/
def fnConeWrong : ChangeSpec := { name := "fnCone", fn := fun _ => fun
  | [d] => { results := [.lit (.bool false)], args := [d] }
  | _ => none }
def FnConeWrongFalsely : Prop := fnConeRow.holds Tryz.pinned (OpenSpec.ofChange fnConeWrong)

/-- 'laws.FnEditInverse': WHATEVER THE INPUT: true; the input reads as it did. -/
def fnEditInverseSpec : ChangeSpec := { name := "fnEditInverse", fn := fun _ => fun
  | [d] => { results := [.lit (.bool true)], args := [d] }
  | _ => none }
def fnEditInverseRow : OpenClaim := { program := "ytnnbgbgapogckaagreatdoor", sum := "c1ea11464dc998a2ef5a53d1d8e16c7a258200f88d484d3a83cc97dbde470b7d", func := "loop.example/g00861/laws.FnEditInverse", spec := "fnEditInverse", inPlace := ["internal/bytealg.IndexByteString", "internal/bytealg.IndexString"], unfollowed := true, recurses := true, named := ["unicode/utf8.first", "unicode/utf8.acceptRanges", "internal/bytealg.MaxLen"], plainKeys := false, apart := false, laid := [("unicode/utf8.acceptRanges", laid_unicode_utf8_acceptRanges), ("unicode/utf8.first", laid_unicode_utf8_first)] }
def FnEditInverseSaid : Prop := fnEditInverseRow.holds Tryz.pinned (OpenSpec.ofChange fnEditInverseSpec)

/-- ITS FALSE NEIGHBOUR: 'it returns false'. Refute it at one input. -/
def fnEditInverseWrong : ChangeSpec := { name := "fnEditInverse", fn := fun _ => fun
  | [d] => { results := [.lit (.bool false)], args := [d] }
  | _ => none }
def FnEditInverseWrongFalsely : Prop := fnEditInverseRow.holds Tryz.pinned (OpenSpec.ofChange fnEditInverseWrong)

/-- 'laws.FnEditList': WHATEVER THE INPUT: true; the input reads as it did. -/
def fnEditListSpec : ChangeSpec := { name := "fnEditList", fn := fun _ => fun
  | [d] => { results := [.lit (.bool true)], args := [d] }
  | _ => none }
def fnEditListRow : OpenClaim := { program := "ytnnbgbgapogckaagreatdoor", sum := "c1ea11464dc998a2ef5a53d1d8e16c7a258200f88d484d3a83cc97dbde470b7d", func := "loop.example/g00861/laws.FnEditList", spec := "fnEditList", inPlace := ["internal/bytealg.IndexByteString", "internal/bytealg.IndexString"], unfollowed := true, recurses := true, named := ["unicode/utf8.first", "unicode/utf8.acceptRanges", "internal/bytealg.MaxLen"], plainKeys := false, apart := false, laid := [("unicode/utf8.acceptRanges", laid_unicode_utf8_acceptRanges), ("unicode/utf8.first", laid_unicode_utf8_first)] }
def FnEditListSaid : Prop := fnEditListRow.holds Tryz.pinned (OpenSpec.ofChange fnEditListSpec)

/-- ITS FALSE NEIGHBOUR: 'it returns false'. Refute it at one input. -/
def fnEditListWrong : ChangeSpec := { name := "fnEditList", fn := fun _ => fun
  | [d] => { results := [.lit (.bool false)], args := [d] }
  | _ => none }
def FnEditListWrongFalsely : Prop := fnEditListRow.holds Tryz.pinned (OpenSpec.ofChange fnEditListWrong)

/-- 'laws.FnPlacesAfter': WHATEVER THE INPUT: true; the input reads as it did. -/
def fnPlacesAfterSpec : ChangeSpec := { name := "fnPlacesAfter", fn := fun _ => fun
  | [d] => { results := [.lit (.bool true)], args := [d] }
  | _ => none }
def fnPlacesAfterRow : OpenClaim := { program := "ytnnbgbgapogckaagreatdoor", sum := "c1ea11464dc998a2ef5a53d1d8e16c7a258200f88d484d3a83cc97dbde470b7d", func := "loop.example/g00861/laws.FnPlacesAfter", spec := "fnPlacesAfter", inPlace := ["internal/bytealg.IndexByteString", "internal/bytealg.IndexString"], unfollowed := true, recurses := true, named := ["unicode/utf8.first", "unicode/utf8.acceptRanges", "internal/bytealg.MaxLen"], plainKeys := false, apart := false, laid := [("unicode/utf8.acceptRanges", laid_unicode_utf8_acceptRanges), ("unicode/utf8.first", laid_unicode_utf8_first)] }
def FnPlacesAfterSaid : Prop := fnPlacesAfterRow.holds Tryz.pinned (OpenSpec.ofChange fnPlacesAfterSpec)

/-- ITS FALSE NEIGHBOUR: 'it returns false'. Refute it at one input. -/
def fnPlacesAfterWrong : ChangeSpec := { name := "fnPlacesAfter", fn := fun _ => fun
  | [d] => { results := [.lit (.bool false)], args := [d] }
  | _ => none }
def FnPlacesAfterWrongFalsely : Prop := fnPlacesAfterRow.holds Tryz.pinned (OpenSpec.ofChange fnPlacesAfterWrong)

/- THE SECOND FORM. 'bulk': how many values and letters a reading holds, each counted each time it is reached (what is shared counts as often as it is met; a slice's spare places count too). A statement '..UptoSaid' is the law's where the arguments, and the package variables that the reading takes, are together of bulk at most 1048576: NARROWER than '..Said'. Prove '..Said' where nothing that the law and all that it calls make is longer than what came in: it says more and counts as full. Else prove '..UptoSaid'. A law counts once. -/
mutual
def uptoBulk {H : Type} : DataW H → Nat
  | .lit (.string bytes) => bytes.length + 1
  | .lit _ => 1
  | .nil => 1
  | .ptr d => uptoBulk d + 1
  | .slice elems spare => uptoBulkAll elems + uptoBulkAll spare + 1
  | .agg parts => uptoBulkAll parts + 1
  | .iface _ d => uptoBulk d + 1
  | .map entries => uptoBulkEntries entries + 1
  | .held _ => 1
def uptoBulkAll {H : Type} : List (DataW H) → Nat
  | [] => 0
  | d :: r => uptoBulk d + uptoBulkAll r
def uptoBulkEntries {H : Type} : List (Lit × DataW H) → Nat
  | [] => 0
  | x :: r => uptoBulkEntry x + uptoBulkEntries r
def uptoBulkEntry {H : Type} : Lit × DataW H → Nat
  | (.string bytes, d) => bytes.length + uptoBulk d + 1
  | (_, d) => uptoBulk d + 1
 end
def uptoSmall : (H : Type) → List (DataW H) → Bool := fun _ ds => decide (uptoBulkAll ds ≤ 1048576)
def OpenSpec.upto (s : _root_.Go.ChangeSpec) : _root_.Go.OpenSpec := { _root_.Go.OpenSpec.ofChange s with cond := some uptoSmall }

/-- 'laws.FnRelation', WHERE WHAT IT READS IS OF BULK AT MOST 1048576: true; the input reads as it did. -/
def fnRelationUptoRow : OpenClaim := { program := "ytnnbgbgapogckaagreatdoor", sum := "c1ea11464dc998a2ef5a53d1d8e16c7a258200f88d484d3a83cc97dbde470b7d", func := "loop.example/g00861/laws.FnRelation", spec := "fnRelation", inPlace := ["internal/bytealg.IndexByteString", "internal/bytealg.IndexString"], unfollowed := true, recurses := true, named := ["unicode/utf8.first", "unicode/utf8.acceptRanges", "internal/bytealg.MaxLen"], plainKeys := false, apart := false, laid := [("unicode/utf8.acceptRanges", laid_unicode_utf8_acceptRanges), ("unicode/utf8.first", laid_unicode_utf8_first)], narrowed := true }
def FnRelationUptoSaid : Prop := fnRelationUptoRow.holds Tryz.pinned (OpenSpec.upto fnRelationSpec)

/-- 'laws.FnWireGrows', WHERE WHAT IT READS IS OF BULK AT MOST 1048576: true; the input reads as it did. -/
def fnWireGrowsUptoRow : OpenClaim := { program := "ytnnbgbgapogckaagreatdoor", sum := "c1ea11464dc998a2ef5a53d1d8e16c7a258200f88d484d3a83cc97dbde470b7d", func := "loop.example/g00861/laws.FnWireGrows", spec := "fnWireGrows", inPlace := ["internal/bytealg.IndexByteString", "internal/bytealg.IndexString"], unfollowed := true, recurses := true, named := ["unicode/utf8.first", "unicode/utf8.acceptRanges", "internal/bytealg.MaxLen"], plainKeys := false, apart := false, laid := [("unicode/utf8.acceptRanges", laid_unicode_utf8_acceptRanges), ("unicode/utf8.first", laid_unicode_utf8_first)], narrowed := true }
def FnWireGrowsUptoSaid : Prop := fnWireGrowsUptoRow.holds Tryz.pinned (OpenSpec.upto fnWireGrowsSpec)

/-- 'laws.FnCone', WHERE WHAT IT READS IS OF BULK AT MOST 1048576: true; the input reads as it did. -/
def fnConeUptoRow : OpenClaim := { program := "ytnnbgbgapogckaagreatdoor", sum := "c1ea11464dc998a2ef5a53d1d8e16c7a258200f88d484d3a83cc97dbde470b7d", func := "loop.example/g00861/laws.FnCone", spec := "fnCone", inPlace := ["internal/bytealg.IndexByteString", "internal/bytealg.IndexString"], unfollowed := true, recurses := true, named := ["unicode/utf8.first", "unicode/utf8.acceptRanges", "internal/bytealg.MaxLen"], plainKeys := false, apart := false, laid := [("unicode/utf8.acceptRanges", laid_unicode_utf8_acceptRanges), ("unicode/utf8.first", laid_unicode_utf8_first)], narrowed := true }
def FnConeUptoSaid : Prop := fnConeUptoRow.holds Tryz.pinned (OpenSpec.upto fnConeSpec)

/-- 'laws.FnEditInverse', WHERE WHAT IT READS IS OF BULK AT MOST 1048576: true; the input reads as it did. -/
def fnEditInverseUptoRow : OpenClaim := { program := "ytnnbgbgapogckaagreatdoor", sum := "c1ea11464dc998a2ef5a53d1d8e16c7a258200f88d484d3a83cc97dbde470b7d", func := "loop.example/g00861/laws.FnEditInverse", spec := "fnEditInverse", inPlace := ["internal/bytealg.IndexByteString", "internal/bytealg.IndexString"], unfollowed := true, recurses := true, named := ["unicode/utf8.first", "unicode/utf8.acceptRanges", "internal/bytealg.MaxLen"], plainKeys := false, apart := false, laid := [("unicode/utf8.acceptRanges", laid_unicode_utf8_acceptRanges), ("unicode/utf8.first", laid_unicode_utf8_first)], narrowed := true }
def FnEditInverseUptoSaid : Prop := fnEditInverseUptoRow.holds Tryz.pinned (OpenSpec.upto fnEditInverseSpec)

/-- 'laws.FnEditList', WHERE WHAT IT READS IS OF BULK AT MOST 1048576: true; the input reads as it did. -/
def fnEditListUptoRow : OpenClaim := { program := "ytnnbgbgapogckaagreatdoor", sum := "c1ea11464dc998a2ef5a53d1d8e16c7a258200f88d484d3a83cc97dbde470b7d", func := "loop.example/g00861/laws.FnEditList", spec := "fnEditList", inPlace := ["internal/bytealg.IndexByteString", "internal/bytealg.IndexString"], unfollowed := true, recurses := true, named := ["unicode/utf8.first", "unicode/utf8.acceptRanges", "internal/bytealg.MaxLen"], plainKeys := false, apart := false, laid := [("unicode/utf8.acceptRanges", laid_unicode_utf8_acceptRanges), ("unicode/utf8.first", laid_unicode_utf8_first)], narrowed := true }
def FnEditListUptoSaid : Prop := fnEditListUptoRow.holds Tryz.pinned (OpenSpec.upto fnEditListSpec)

/-- 'laws.FnPlacesAfter', WHERE WHAT IT READS IS OF BULK AT MOST 1048576: true; the input reads as it did. -/
def fnPlacesAfterUptoRow : OpenClaim := { program := "ytnnbgbgapogckaagreatdoor", sum := "c1ea11464dc998a2ef5a53d1d8e16c7a258200f88d484d3a83cc97dbde470b7d", func := "loop.example/g00861/laws.FnPlacesAfter", spec := "fnPlacesAfter", inPlace := ["internal/bytealg.IndexByteString", "internal/bytealg.IndexString"], unfollowed := true, recurses := true, named := ["unicode/utf8.first", "unicode/utf8.acceptRanges", "internal/bytealg.MaxLen"], plainKeys := false, apart := false, laid := [("unicode/utf8.acceptRanges", laid_unicode_utf8_acceptRanges), ("unicode/utf8.first", laid_unicode_utf8_first)], narrowed := true }
def FnPlacesAfterUptoSaid : Prop := fnPlacesAfterUptoRow.holds Tryz.pinned (OpenSpec.upto fnPlacesAfterSpec)

end Rows
end Go.Proofs.YtnnbgbgapogckaaGreatDoor
