/-
  NARROWER THAN 'FOR EVERY INPUT', by the rows' own cells (each row's printed sentence says how): FnExactIsSession: laid · FnExactOpenSession: laid · FnExactUndoSession: laid · FnExactRedoSession: laid · FnExactEditSession: laid.
  DERIVED. THE GIVEN ROWS OF THIS SEAT. 5 by the template 'for every input the law returns true; each argument reads behind the call as it read before'; 0 by the template 'total and deterministic' (their statements: YthkhedimjmkifaaGreatDoorTotals.lean).
  GIVEN WITH THE SEED: the statements are not yours to turn. If you find one false, say at which input.
  Laid BY PROGRAM, IN A SANDBOX (cutbox-rows.mjs): the forced cells as the released guide's own fill.sh prints them over the translation 1bc062b34d10825b… (all of the seat's roots in one cut). By AI agents, Wed Nov 11 2026. No macro, syntax, notation, axiom, sorry.
-/
import Derived.Test.YthkhedimjmkifaaGreatDoorChecked
import GoSem.PinnedTables
import GoSem.Claim
import GoSem.ClaimJoined
import GoSem.ClaimMapViews
import Derived.JoinedTies
import Derived.KernelRfl
namespace Go.Proofs.YthkhedimjmkifaaGreatDoor
/- THE CELL 'sum', in the pinned program and in every row, IS THE sha256 OF THE DUMP (.gsa) THAT YthkhedimjmkifaaGreatDoorProg.lean LOADS. Nothing in Lean hashes anything: it is a label: what it is worth is what the hold of that sum in a sandbox is worth. -/
noncomputable def Tryz.pinned : Pinned := { name := "ythkhedimjmkifaagreatdoor", sum := "1bc062b34d10825bb6c6ec9e6b73fa72644543def097483236081375c3b5ea89", checked := Tryz.checked }
namespace Rows
def none {H : Type} : Left H := { results := [], args := [] }

/- WHAT THE LISTED PACKAGE-LEVEL VARIABLES READ AS WHEN THE CALL BEGINS. Each datum BY PROGRAM (the guide's laid-datum.mjs) off the statement by which the dump's own 'gosem.cut.vars' lays the variable. In a bare row this is a premise. The card (YthkhedimjmkifaaGreatDoorCards.lean) ties it to the program's text. -/
def laid_unicode_utf8_acceptRanges {H : Type} : DataW H := .agg [.agg [.lit (.int .u8 128), .lit (.int .u8 191)], .agg [.lit (.int .u8 160), .lit (.int .u8 191)], .agg [.lit (.int .u8 128), .lit (.int .u8 159)], .agg [.lit (.int .u8 144), .lit (.int .u8 191)], .agg [.lit (.int .u8 128), .lit (.int .u8 143)], .agg [.lit (.int .u8 0), .lit (.int .u8 0)], .agg [.lit (.int .u8 0), .lit (.int .u8 0)], .agg [.lit (.int .u8 0), .lit (.int .u8 0)], .agg [.lit (.int .u8 0), .lit (.int .u8 0)], .agg [.lit (.int .u8 0), .lit (.int .u8 0)], .agg [.lit (.int .u8 0), .lit (.int .u8 0)], .agg [.lit (.int .u8 0), .lit (.int .u8 0)], .agg [.lit (.int .u8 0), .lit (.int .u8 0)], .agg [.lit (.int .u8 0), .lit (.int .u8 0)], .agg [.lit (.int .u8 0), .lit (.int .u8 0)], .agg [.lit (.int .u8 0), .lit (.int .u8 0)]]
/-- One of Go's own tables, pinned by name: the form's constant. -/
def laid_unicode_utf8_first : DataW Unit := Go.Pinned.utf8First

/-- 'laws.FnExactIsSession': WHATEVER THE INPUT: true; the input reads as it did. -/
def fnExactIsSessionSpec : ChangeSpec := { name := "fnExactIsSession", fn := fun _ => fun
  | [d] => { results := [.lit (.bool true)], args := [d] }
  | _ => none }
def fnExactIsSessionRow : OpenClaim := { program := "ythkhedimjmkifaagreatdoor", sum := "1bc062b34d10825bb6c6ec9e6b73fa72644543def097483236081375c3b5ea89", func := "loop.example/g00861/laws.FnExactIsSession", spec := "fnExactIsSession", inPlace := ["internal/bytealg.IndexByteString", "internal/bytealg.IndexString"], unfollowed := true, recurses := true, named := ["unicode/utf8.first", "unicode/utf8.acceptRanges", "internal/bytealg.MaxLen"], plainKeys := false, apart := false, laid := [("unicode/utf8.acceptRanges", laid_unicode_utf8_acceptRanges), ("unicode/utf8.first", laid_unicode_utf8_first)] }
def FnExactIsSessionSaid : Prop := fnExactIsSessionRow.holds Tryz.pinned (OpenSpec.ofChange fnExactIsSessionSpec)

/-- ITS FALSE NEIGHBOUR: 'it returns false'. Refute it at one input. -/
def fnExactIsSessionWrong : ChangeSpec := { name := "fnExactIsSession", fn := fun _ => fun
  | [d] => { results := [.lit (.bool false)], args := [d] }
  | _ => none }
def FnExactIsSessionWrongFalsely : Prop := fnExactIsSessionRow.holds Tryz.pinned (OpenSpec.ofChange fnExactIsSessionWrong)

/-- 'laws.FnExactOpenSession': WHATEVER THE INPUT: true; the input reads as it did. -/
def fnExactOpenSessionSpec : ChangeSpec := { name := "fnExactOpenSession", fn := fun _ => fun
  | [d1, d2] => { results := [.lit (.bool true)], args := [d1, d2] }
  | _ => none }
def fnExactOpenSessionRow : OpenClaim := { program := "ythkhedimjmkifaagreatdoor", sum := "1bc062b34d10825bb6c6ec9e6b73fa72644543def097483236081375c3b5ea89", func := "loop.example/g00861/laws.FnExactOpenSession", spec := "fnExactOpenSession", inPlace := ["internal/bytealg.IndexByteString", "internal/bytealg.IndexString"], unfollowed := true, recurses := true, named := ["unicode/utf8.first", "unicode/utf8.acceptRanges", "internal/bytealg.MaxLen"], plainKeys := false, apart := false, laid := [("unicode/utf8.acceptRanges", laid_unicode_utf8_acceptRanges), ("unicode/utf8.first", laid_unicode_utf8_first)] }
def FnExactOpenSessionSaid : Prop := fnExactOpenSessionRow.holds Tryz.pinned (OpenSpec.ofChange fnExactOpenSessionSpec)

/-- ITS FALSE NEIGHBOUR: 'it returns false'. Refute it at one input. -/
def fnExactOpenSessionWrong : ChangeSpec := { name := "fnExactOpenSession", fn := fun _ => fun
  | [d1, d2] => { results := [.lit (.bool false)], args := [d1, d2] }
  | _ => none }
def FnExactOpenSessionWrongFalsely : Prop := fnExactOpenSessionRow.holds Tryz.pinned (OpenSpec.ofChange fnExactOpenSessionWrong)

/-- 'laws.FnExactUndoSession': WHATEVER THE INPUT: true; the input reads as it did. -/
def fnExactUndoSessionSpec : ChangeSpec := { name := "fnExactUndoSession", fn := fun _ => fun
  | [d] => { results := [.lit (.bool true)], args := [d] }
  | _ => none }
def fnExactUndoSessionRow : OpenClaim := { program := "ythkhedimjmkifaagreatdoor", sum := "1bc062b34d10825bb6c6ec9e6b73fa72644543def097483236081375c3b5ea89", func := "loop.example/g00861/laws.FnExactUndoSession", spec := "fnExactUndoSession", inPlace := ["internal/bytealg.IndexByteString", "internal/bytealg.IndexString"], unfollowed := true, recurses := true, named := ["unicode/utf8.first", "unicode/utf8.acceptRanges", "internal/bytealg.MaxLen"], plainKeys := false, apart := false, laid := [("unicode/utf8.acceptRanges", laid_unicode_utf8_acceptRanges), ("unicode/utf8.first", laid_unicode_utf8_first)] }
def FnExactUndoSessionSaid : Prop := fnExactUndoSessionRow.holds Tryz.pinned (OpenSpec.ofChange fnExactUndoSessionSpec)

/-- ITS FALSE NEIGHBOUR: 'it returns false'. Refute it at one input. -/
def fnExactUndoSessionWrong : ChangeSpec := { name := "fnExactUndoSession", fn := fun _ => fun
  | [d] => { results := [.lit (.bool false)], args := [d] }
  | _ => none }
def FnExactUndoSessionWrongFalsely : Prop := fnExactUndoSessionRow.holds Tryz.pinned (OpenSpec.ofChange fnExactUndoSessionWrong)

/-- 'laws.FnExactRedoSession': WHATEVER THE INPUT: true; the input reads as it did. -/
def fnExactRedoSessionSpec : ChangeSpec := { name := "fnExactRedoSession", fn := fun _ => fun
  | [d] => { results := [.lit (.bool true)], args := [d] }
  | _ => none }
def fnExactRedoSessionRow : OpenClaim := { program := "ythkhedimjmkifaagreatdoor", sum := "1bc062b34d10825bb6c6ec9e6b73fa72644543def097483236081375c3b5ea89", func := "loop.example/g00861/laws.FnExactRedoSession", spec := "fnExactRedoSession", inPlace := ["internal/bytealg.IndexByteString", "internal/bytealg.IndexString"], unfollowed := true, recurses := true, named := ["unicode/utf8.first", "unicode/utf8.acceptRanges", "internal/bytealg.MaxLen"], plainKeys := false, apart := false, laid := [("unicode/utf8.acceptRanges", laid_unicode_utf8_acceptRanges), ("unicode/utf8.first", laid_unicode_utf8_first)] }
def FnExactRedoSessionSaid : Prop := fnExactRedoSessionRow.holds Tryz.pinned (OpenSpec.ofChange fnExactRedoSessionSpec)

/-- ITS FALSE NEIGHBOUR: 'it returns false'. Refute it at one input. -/
def fnExactRedoSessionWrong : ChangeSpec := { name := "fnExactRedoSession", fn := fun _ => fun
  | [d] => { results := [.lit (.bool false)], args := [d] }
  | _ => none }
def FnExactRedoSessionWrongFalsely : Prop := fnExactRedoSessionRow.holds Tryz.pinned (OpenSpec.ofChange fnExactRedoSessionWrong)

/-- 'laws.FnExactEditSession': WHATEVER THE INPUT: true; the input reads as it did. -/
def fnExactEditSessionSpec : ChangeSpec := { name := "fnExactEditSession", fn := fun _ => fun
  | [d1, d2] => { results := [.lit (.bool true)], args := [d1, d2] }
  | _ => none }
def fnExactEditSessionRow : OpenClaim := { program := "ythkhedimjmkifaagreatdoor", sum := "1bc062b34d10825bb6c6ec9e6b73fa72644543def097483236081375c3b5ea89", func := "loop.example/g00861/laws.FnExactEditSession", spec := "fnExactEditSession", inPlace := ["internal/bytealg.IndexByteString", "internal/bytealg.IndexString"], unfollowed := true, recurses := true, named := ["unicode/utf8.first", "unicode/utf8.acceptRanges", "internal/bytealg.MaxLen"], plainKeys := false, apart := false, laid := [("unicode/utf8.acceptRanges", laid_unicode_utf8_acceptRanges), ("unicode/utf8.first", laid_unicode_utf8_first)] }
def FnExactEditSessionSaid : Prop := fnExactEditSessionRow.holds Tryz.pinned (OpenSpec.ofChange fnExactEditSessionSpec)

/-- ITS FALSE NEIGHBOUR: 'it returns false'. Refute it at one input. -/
def fnExactEditSessionWrong : ChangeSpec := { name := "fnExactEditSession", fn := fun _ => fun
  | [d1, d2] => { results := [.lit (.bool false)], args := [d1, d2] }
  | _ => none }
def FnExactEditSessionWrongFalsely : Prop := fnExactEditSessionRow.holds Tryz.pinned (OpenSpec.ofChange fnExactEditSessionWrong)

/- THE SECOND FORM. 'bulk': how many values and letters a reading holds, each counted each time it is reached (what is shared counts as often as it is met; a slice's spare places count too). A statement '..UptoSaid' is the law's where the arguments, and the package variables that the reading takes, are together of bulk at most 1048576: NARROWER than '..Said'. Prove '..Said' where nothing that the law and all that it calls make is longer than what came in: it says more and counts as full. Else prove '..UptoSaid'. A law counts once. -/
mutual
def uptoBulk {H : Type} : DataW H → Nat
  | .lit (.string bytes) => bytes.length + 1
  | .lit _ => 1
  | .nil => 1
  | .ptr d => uptoBulk d + 1
  | .slice elems spare => uptoBulkAll elems + uptoBulkAll spare + 1
  | .agg parts => uptoBulkAll parts + 1
  | .iface _ d => uptoBulk d + 1
  | .map entries => uptoBulkEntries entries + 1
  | .held _ => 1
def uptoBulkAll {H : Type} : List (DataW H) → Nat
  | [] => 0
  | d :: r => uptoBulk d + uptoBulkAll r
def uptoBulkEntries {H : Type} : List (Lit × DataW H) → Nat
  | [] => 0
  | x :: r => uptoBulkEntry x + uptoBulkEntries r
def uptoBulkEntry {H : Type} : Lit × DataW H → Nat
  | (.string bytes, d) => bytes.length + uptoBulk d + 1
  | (_, d) => uptoBulk d + 1
 end
def uptoSmall : (H : Type) → List (DataW H) → Bool := fun _ ds => decide (uptoBulkAll ds ≤ 1048576)
def OpenSpec.upto (s : _root_.Go.ChangeSpec) : _root_.Go.OpenSpec := { _root_.Go.OpenSpec.ofChange s with cond := some uptoSmall }

/-- 'laws.FnExactIsSession', WHERE WHAT IT READS IS OF BULK AT MOST 1048576: true; the input reads as it did. -/
def fnExactIsSessionUptoRow : OpenClaim := { program := "ythkhedimjmkifaagreatdoor", sum := "1bc062b34d10825bb6c6ec9e6b73fa72644543def097483236081375c3b5ea89", func := "loop.example/g00861/laws.FnExactIsSession", spec := "fnExactIsSession", inPlace := ["internal/bytealg.IndexByteString", "internal/bytealg.IndexString"], unfollowed := true, recurses := true, named := ["unicode/utf8.first", "unicode/utf8.acceptRanges", "internal/bytealg.MaxLen"], plainKeys := false, apart := false, laid := [("unicode/utf8.acceptRanges", laid_unicode_utf8_acceptRanges), ("unicode/utf8.first", laid_unicode_utf8_first)], narrowed := true }
def FnExactIsSessionUptoSaid : Prop := fnExactIsSessionUptoRow.holds Tryz.pinned (OpenSpec.upto fnExactIsSessionSpec)

/-- 'laws.FnExactOpenSession', WHERE WHAT IT READS IS OF BULK AT MOST 1048576: true; the input reads as it did. -/
def fnExactOpenSessionUptoRow : OpenClaim := { program := "ythkhedimjmkifaagreatdoor", sum := "1bc062b34d10825bb6c6ec9e6b73fa72644543def097483236081375c3b5ea89", func := "loop.example/g00861/laws.FnExactOpenSession", spec := "fnExactOpenSession", inPlace := ["internal/bytealg.IndexByteString", "internal/bytealg.IndexString"], unfollowed := true, recurses := true, named := ["unicode/utf8.first", "unicode/utf8.acceptRanges", "internal/bytealg.MaxLen"], plainKeys := false, apart := false, laid := [("unicode/utf8.acceptRanges", laid_unicode_utf8_acceptRanges), ("unicode/utf8.first", laid_unicode_utf8_first)], narrowed := true }
def FnExactOpenSessionUptoSaid : Prop := fnExactOpenSessionUptoRow.holds Tryz.pinned (OpenSpec.upto fnExactOpenSessionSpec)

/-- 'laws.FnExactUndoSession', WHERE WHAT IT READS IS OF BULK AT MOST 1048576: true; the input reads as it did. -/
def fnExactUndoSessionUptoRow : OpenClaim := { program := "ythkhedimjmkifaagreatdoor", sum := "1bc062b34d10825bb6c6ec9e6b73fa72644543def097483236081375c3b5ea89", func := "loop.example/g00861/laws.FnExactUndoSession", spec := "fnExactUndoSession", inPlace := ["internal/bytealg.IndexByteString", "internal/bytealg.IndexString"], unfollowed := true, recurses := true, named := ["unicode/utf8.first", "unicode/utf8.acceptRanges", "internal/bytealg.MaxLen"], plainKeys := false, apart := false, laid := [("unicode/utf8.acceptRanges", laid_unicode_utf8_acceptRanges), ("unicode/utf8.first", laid_unicode_utf8_first)], narrowed := true }
def FnExactUndoSessionUptoSaid : Prop := fnExactUndoSessionUptoRow.holds Tryz.pinned (OpenSpec.upto fnExactUndoSessionSpec)

/-- 'laws.FnExactRedoSession', WHERE WHAT IT READS IS OF BULK AT MOST 1048576: true; the input reads as it did. -/
def fnExactRedoSessionUptoRow : OpenClaim := { program := "ythkhedimjmkifaagreatdoor", sum := "1bc062b34d10825bb6c6ec9e6b73fa72644543def097483236081375c3b5ea89", func := "loop.example/g00861/laws.FnExactRedoSession", spec := "fnExactRedoSession", inPlace := ["internal/bytealg.IndexByteString", "internal/bytealg.IndexString"], unfollowed := true, recurses := true, named := ["unicode/utf8.first", "unicode/utf8.acceptRanges", "internal/bytealg.MaxLen"], plainKeys := false, apart := false, laid := [("unicode/utf8.acceptRanges", laid_unicode_utf8_acceptRanges), ("unicode/utf8.first", laid_unicode_utf8_first)], narrowed := true }
def FnExactRedoSessionUptoSaid : Prop := fnExactRedoSessionUptoRow.holds Tryz.pinned (OpenSpec.upto fnExactRedoSessionSpec)

/-- 'laws.FnExactEditSession', WHERE WHAT IT READS IS OF BULK AT MOST 1048576: true; the input reads as it did. -/
def fnExactEditSessionUptoRow : OpenClaim := { program := "ythkhedimjmkifaagreatdoor", sum := "1bc062b34d10825bb6c6ec9e6b73fa72644543def097483236081375c3b5ea89", func := "loop.example/g00861/laws.FnExactEditSession", spec := "fnExactEditSession", inPlace := ["internal/bytealg.IndexByteString", "internal/bytealg.IndexString"], unfollowed := true, recurses := true, named := ["unicode/utf8.first", "unicode/utf8.acceptRanges", "internal/bytealg.MaxLen"], plainKeys := false, apart := false, laid := [("unicode/utf8.acceptRanges", laid_unicode_utf8_acceptRanges), ("unicode/utf8.first", laid_unicode_utf8_first)], narrowed := true }
def FnExactEditSessionUptoSaid : Prop := fnExactEditSessionUptoRow.holds Tryz.pinned (OpenSpec.upto fnExactEditSessionSpec)

end Rows
end Go.Proofs.YthkhedimjmkifaaGreatDoor
