/-
  NARROWER THAN 'FOR EVERY INPUT', by the rows' own cells (each row's printed sentence says how): FnExactDensityBound: laid · FnExactNetPower: laid · FnExactInstancePower: laid · FnExactPowerBelow: laid · FnExactTotalPower: laid.
  DERIVED. THE GIVEN ROWS OF THIS SEAT. 5 by the template 'for every input the law returns true; each argument reads behind the call as it read before'; 0 by the template 'total and deterministic' (their statements: YtjfbeebdhmebpaaGreatDoorTotals.lean).
  GIVEN WITH THE SEED: the statements are not yours to turn. If you find one false, say at which input.
  Laid BY PROGRAM, IN A SANDBOX (cutbox-rows.mjs): the forced cells as the released guide's own fill.sh prints them over the translation 591cad764964a8c2… (all of the seat's roots in one cut). By AI agents, Wed Nov 11 2026. No macro, syntax, notation, axiom, sorry.
-/
import Derived.Test.YtjfbeebdhmebpaaGreatDoorChecked
import GoSem.PinnedTables
import GoSem.Claim
import GoSem.ClaimJoined
import GoSem.ClaimMapViews
import Derived.JoinedTies
import Derived.KernelRfl
namespace Go.Proofs.YtjfbeebdhmebpaaGreatDoor
/- THE CELL 'sum', in the pinned program and in every row, IS THE sha256 OF THE DUMP (.gsa) THAT YtjfbeebdhmebpaaGreatDoorProg.lean LOADS. Nothing in Lean hashes anything: it is a label: what it is worth is what the hold of that sum in a sandbox is worth. -/
noncomputable def Tryz.pinned : Pinned := { name := "ytjfbeebdhmebpaagreatdoor", sum := "591cad764964a8c21d5545676e28e178ffcb46054dd0e6917e12f684e6f5f1ef", checked := Tryz.checked }
namespace Rows
def none {H : Type} : Left H := { results := [], args := [] }

/- WHAT THE LISTED PACKAGE-LEVEL VARIABLES READ AS WHEN THE CALL BEGINS. Each datum BY PROGRAM (the guide's laid-datum.mjs) off the statement by which the dump's own 'gosem.cut.vars' lays the variable. In a bare row this is a premise. The card (YtjfbeebdhmebpaaGreatDoorCards.lean) ties it to the program's text. -/
def laid_unicode_utf8_acceptRanges {H : Type} : DataW H := .agg [.agg [.lit (.int .u8 128), .lit (.int .u8 191)], .agg [.lit (.int .u8 160), .lit (.int .u8 191)], .agg [.lit (.int .u8 128), .lit (.int .u8 159)], .agg [.lit (.int .u8 144), .lit (.int .u8 191)], .agg [.lit (.int .u8 128), .lit (.int .u8 143)], .agg [.lit (.int .u8 0), .lit (.int .u8 0)], .agg [.lit (.int .u8 0), .lit (.int .u8 0)], .agg [.lit (.int .u8 0), .lit (.int .u8 0)], .agg [.lit (.int .u8 0), .lit (.int .u8 0)], .agg [.lit (.int .u8 0), .lit (.int .u8 0)], .agg [.lit (.int .u8 0), .lit (.int .u8 0)], .agg [.lit (.int .u8 0), .lit (.int .u8 0)], .agg [.lit (.int .u8 0), .lit (.int .u8 0)], .agg [.lit (.int .u8 0), .lit (.int .u8 0)], .agg [.lit (.int .u8 0), .lit (.int .u8 0)], .agg [.lit (.int .u8 0), .lit (.int .u8 0)]]
/-- One of Go's own tables, pinned by name: the form's constant. -/
def laid_unicode_utf8_first : DataW Unit := Go.Pinned.utf8First

/-- 'laws.FnExactDensityBound': WHATEVER THE INPUT: true; the input reads as it did. -/
def fnExactDensityBoundSpec : ChangeSpec := { name := "fnExactDensityBound", fn := fun _ => fun
  | [d1, d2, d3] => { results := [.lit (.bool true)], args := [d1, d2, d3] }
  | _ => none }
def fnExactDensityBoundRow : OpenClaim := { program := "ytjfbeebdhmebpaagreatdoor", sum := "591cad764964a8c21d5545676e28e178ffcb46054dd0e6917e12f684e6f5f1ef", func := "loop.example/g00861/laws.FnExactDensityBound", spec := "fnExactDensityBound", inPlace := ["internal/bytealg.IndexByteString", "internal/bytealg.IndexString"], unfollowed := true, recurses := true, named := ["unicode/utf8.first", "unicode/utf8.acceptRanges", "internal/bytealg.MaxLen"], apart := false, laid := [("unicode/utf8.acceptRanges", laid_unicode_utf8_acceptRanges), ("unicode/utf8.first", laid_unicode_utf8_first)] }
def FnExactDensityBoundSaid : Prop := fnExactDensityBoundRow.holds Tryz.pinned (OpenSpec.ofChange fnExactDensityBoundSpec)

/-- ITS FALSE NEIGHBOUR: 'it returns false'. Refute it at one input. -/
def fnExactDensityBoundWrong : ChangeSpec := { name := "fnExactDensityBound", fn := fun _ => fun
  | [d1, d2, d3] => { results := [.lit (.bool false)], args := [d1, d2, d3] }
  | _ => none }
def FnExactDensityBoundWrongFalsely : Prop := fnExactDensityBoundRow.holds Tryz.pinned (OpenSpec.ofChange fnExactDensityBoundWrong)

/-- 'laws.FnExactNetPower': WHATEVER THE INPUT: true; the input reads as it did. -/
def fnExactNetPowerSpec : ChangeSpec := { name := "fnExactNetPower", fn := fun _ => fun
  | [d1, d2, d3] => { results := [.lit (.bool true)], args := [d1, d2, d3] }
  | _ => none }
def fnExactNetPowerRow : OpenClaim := { program := "ytjfbeebdhmebpaagreatdoor", sum := "591cad764964a8c21d5545676e28e178ffcb46054dd0e6917e12f684e6f5f1ef", func := "loop.example/g00861/laws.FnExactNetPower", spec := "fnExactNetPower", inPlace := ["internal/bytealg.IndexByteString", "internal/bytealg.IndexString"], unfollowed := true, recurses := true, named := ["unicode/utf8.first", "unicode/utf8.acceptRanges", "internal/bytealg.MaxLen"], apart := false, laid := [("unicode/utf8.acceptRanges", laid_unicode_utf8_acceptRanges), ("unicode/utf8.first", laid_unicode_utf8_first)] }
def FnExactNetPowerSaid : Prop := fnExactNetPowerRow.holds Tryz.pinned (OpenSpec.ofChange fnExactNetPowerSpec)

/-- ITS FALSE NEIGHBOUR: 'it returns false'. Refute it at one input. -/
def fnExactNetPowerWrong : ChangeSpec := { name := "fnExactNetPower", fn := fun _ => fun
  | [d1, d2, d3] => { results := [.lit (.bool false)], args := [d1, d2, d3] }
  | _ => none }
def FnExactNetPowerWrongFalsely : Prop := fnExactNetPowerRow.holds Tryz.pinned (OpenSpec.ofChange fnExactNetPowerWrong)

/-- 'laws.FnExactInstancePower': WHATEVER THE INPUT: true; the input reads as it did. -/
def fnExactInstancePowerSpec : ChangeSpec := { name := "fnExactInstancePower", fn := fun _ => fun
  | [d1, d2, d3] => { results := [.lit (.bool true)], args := [d1, d2, d3] }
  | _ => none }
def fnExactInstancePowerRow : OpenClaim := { program := "ytjfbeebdhmebpaagreatdoor", sum := "591cad764964a8c21d5545676e28e178ffcb46054dd0e6917e12f684e6f5f1ef", func := "loop.example/g00861/laws.FnExactInstancePower", spec := "fnExactInstancePower", inPlace := ["internal/bytealg.IndexByteString", "internal/bytealg.IndexString"], unfollowed := true, recurses := true, named := ["unicode/utf8.first", "unicode/utf8.acceptRanges", "internal/bytealg.MaxLen"], apart := false, laid := [("unicode/utf8.acceptRanges", laid_unicode_utf8_acceptRanges), ("unicode/utf8.first", laid_unicode_utf8_first)] }
def FnExactInstancePowerSaid : Prop := fnExactInstancePowerRow.holds Tryz.pinned (OpenSpec.ofChange fnExactInstancePowerSpec)

/-- ITS FALSE NEIGHBOUR: 'it returns false'. Refute it at one input. -/
def fnExactInstancePowerWrong : ChangeSpec := { name := "fnExactInstancePower", fn := fun _ => fun
  | [d1, d2, d3] => { results := [.lit (.bool false)], args := [d1, d2, d3] }
  | _ => none }
def FnExactInstancePowerWrongFalsely : Prop := fnExactInstancePowerRow.holds Tryz.pinned (OpenSpec.ofChange fnExactInstancePowerWrong)

/-- 'laws.FnExactPowerBelow': WHATEVER THE INPUT: true; the input reads as it did. -/
def fnExactPowerBelowSpec : ChangeSpec := { name := "fnExactPowerBelow", fn := fun _ => fun
  | [d1, d2, d3] => { results := [.lit (.bool true)], args := [d1, d2, d3] }
  | _ => none }
def fnExactPowerBelowRow : OpenClaim := { program := "ytjfbeebdhmebpaagreatdoor", sum := "591cad764964a8c21d5545676e28e178ffcb46054dd0e6917e12f684e6f5f1ef", func := "loop.example/g00861/laws.FnExactPowerBelow", spec := "fnExactPowerBelow", inPlace := ["internal/bytealg.IndexByteString", "internal/bytealg.IndexString"], unfollowed := true, recurses := true, named := ["unicode/utf8.first", "unicode/utf8.acceptRanges", "internal/bytealg.MaxLen"], apart := false, laid := [("unicode/utf8.acceptRanges", laid_unicode_utf8_acceptRanges), ("unicode/utf8.first", laid_unicode_utf8_first)] }
def FnExactPowerBelowSaid : Prop := fnExactPowerBelowRow.holds Tryz.pinned (OpenSpec.ofChange fnExactPowerBelowSpec)

/-- ITS FALSE NEIGHBOUR: 'it returns false'. Refute it at one input. -/
def fnExactPowerBelowWrong : ChangeSpec := { name := "fnExactPowerBelow", fn := fun _ => fun
  | [d1, d2, d3] => { results := [.lit (.bool false)], args := [d1, d2, d3] }
  | _ => none }
def FnExactPowerBelowWrongFalsely : Prop := fnExactPowerBelowRow.holds Tryz.pinned (OpenSpec.ofChange fnExactPowerBelowWrong)

/-- 'laws.FnExactTotalPower': WHATEVER THE INPUT: true; the input reads as it did. -/
def fnExactTotalPowerSpec : ChangeSpec := { name := "fnExactTotalPower", fn := fun _ => fun
  | [d1, d2] => { results := [.lit (.bool true)], args := [d1, d2] }
  | _ => none }
def fnExactTotalPowerRow : OpenClaim := { program := "ytjfbeebdhmebpaagreatdoor", sum := "591cad764964a8c21d5545676e28e178ffcb46054dd0e6917e12f684e6f5f1ef", func := "loop.example/g00861/laws.FnExactTotalPower", spec := "fnExactTotalPower", inPlace := ["internal/bytealg.IndexByteString", "internal/bytealg.IndexString"], unfollowed := true, recurses := true, named := ["unicode/utf8.first", "unicode/utf8.acceptRanges", "internal/bytealg.MaxLen"], apart := false, laid := [("unicode/utf8.acceptRanges", laid_unicode_utf8_acceptRanges), ("unicode/utf8.first", laid_unicode_utf8_first)] }
def FnExactTotalPowerSaid : Prop := fnExactTotalPowerRow.holds Tryz.pinned (OpenSpec.ofChange fnExactTotalPowerSpec)

/-- ITS FALSE NEIGHBOUR: 'it returns false'. Refute it at one input. -/
def fnExactTotalPowerWrong : ChangeSpec := { name := "fnExactTotalPower", fn := fun _ => fun
  | [d1, d2] => { results := [.lit (.bool false)], args := [d1, d2] }
  | _ => none }
def FnExactTotalPowerWrongFalsely : Prop := fnExactTotalPowerRow.holds Tryz.pinned (OpenSpec.ofChange fnExactTotalPowerWrong)

/- THE SECOND FORM. 'bulk': how many values and letters a reading holds, each counted each time it is reached (what is shared counts as often as it is met; a slice's spare places count too). A statement '..UptoSaid' is the law's where the arguments, and the package variables that the reading takes, are together of bulk at most 1048576: NARROWER than '..Said'. Prove '..Said' where nothing that the law and all that it calls make is longer than what came in: it says more and counts as full. Else prove '..UptoSaid'. A law counts once. -/
mutual
def uptoBulk {H : Type} : DataW H → Nat
  | .lit (.string bytes) => bytes.length + 1
  | .lit _ => 1
  | .nil => 1
  | .ptr d => uptoBulk d + 1
  | .slice elems spare => uptoBulkAll elems + uptoBulkAll spare + 1
  | .agg parts => uptoBulkAll parts + 1
  | .iface _ d => uptoBulk d + 1
  | .map entries => uptoBulkEntries entries + 1
  | .held _ => 1
def uptoBulkAll {H : Type} : List (DataW H) → Nat
  | [] => 0
  | d :: r => uptoBulk d + uptoBulkAll r
def uptoBulkEntries {H : Type} : List (Lit × DataW H) → Nat
  | [] => 0
  | x :: r => uptoBulkEntry x + uptoBulkEntries r
def uptoBulkEntry {H : Type} : Lit × DataW H → Nat
  | (.string bytes, d) => bytes.length + uptoBulk d + 1
  | (_, d) => uptoBulk d + 1
 end
def uptoSmall : (H : Type) → List (DataW H) → Bool := fun _ ds => decide (uptoBulkAll ds ≤ 1048576)
def OpenSpec.upto (s : _root_.Go.ChangeSpec) : _root_.Go.OpenSpec := { _root_.Go.OpenSpec.ofChange s with cond := some uptoSmall }

/-- 'laws.FnExactDensityBound', WHERE WHAT IT READS IS OF BULK AT MOST 1048576: true; the input reads as it did. -/
def fnExactDensityBoundUptoRow : OpenClaim := { program := "ytjfbeebdhmebpaagreatdoor", sum := "591cad764964a8c21d5545676e28e178ffcb46054dd0e6917e12f684e6f5f1ef", func := "loop.example/g00861/laws.FnExactDensityBound", spec := "fnExactDensityBound", inPlace := ["internal/bytealg.IndexByteString", "internal/bytealg.IndexString"], unfollowed := true, recurses := true, named := ["unicode/utf8.first", "unicode/utf8.acceptRanges", "internal/bytealg.MaxLen"], apart := false, laid := [("unicode/utf8.acceptRanges", laid_unicode_utf8_acceptRanges), ("unicode/utf8.first", laid_unicode_utf8_first)], narrowed := true }
def FnExactDensityBoundUptoSaid : Prop := fnExactDensityBoundUptoRow.holds Tryz.pinned (OpenSpec.upto fnExactDensityBoundSpec)

/-- 'laws.FnExactNetPower', WHERE WHAT IT READS IS OF BULK AT MOST 1048576: true; the input reads as it did. -/
def fnExactNetPowerUptoRow : OpenClaim := { program := "ytjfbeebdhmebpaagreatdoor", sum := "591cad764964a8c21d5545676e28e178ffcb46054dd0e6917e12f684e6f5f1ef", func := "loop.example/g00861/laws.FnExactNetPower", spec := "fnExactNetPower", inPlace := ["internal/bytealg.IndexByteString", "internal/bytealg.IndexString"], unfollowed := true, recurses := true, named := ["unicode/utf8.first", "unicode/utf8.acceptRanges", "internal/bytealg.MaxLen"], apart := false, laid := [("unicode/utf8.acceptRanges", laid_unicode_utf8_acceptRanges), ("unicode/utf8.first", laid_unicode_utf8_first)], narrowed := true }
def FnExactNetPowerUptoSaid : Prop := fnExactNetPowerUptoRow.holds Tryz.pinned (OpenSpec.upto fnExactNetPowerSpec)

/-- 'laws.FnExactInstancePower', WHERE WHAT IT READS IS OF BULK AT MOST 1048576: true; the input reads as it did. -/
def fnExactInstancePowerUptoRow : OpenClaim := { program := "ytjfbeebdhmebpaagreatdoor", sum := "591cad764964a8c21d5545676e28e178ffcb46054dd0e6917e12f684e6f5f1ef", func := "loop.example/g00861/laws.FnExactInstancePower", spec := "fnExactInstancePower", inPlace := ["internal/bytealg.IndexByteString", "internal/bytealg.IndexString"], unfollowed := true, recurses := true, named := ["unicode/utf8.first", "unicode/utf8.acceptRanges", "internal/bytealg.MaxLen"], apart := false, laid := [("unicode/utf8.acceptRanges", laid_unicode_utf8_acceptRanges), ("unicode/utf8.first", laid_unicode_utf8_first)], narrowed := true }
def FnExactInstancePowerUptoSaid : Prop := fnExactInstancePowerUptoRow.holds Tryz.pinned (OpenSpec.upto fnExactInstancePowerSpec)

/-- 'laws.FnExactPowerBelow', WHERE WHAT IT READS IS OF BULK AT MOST 1048576: true; the input reads as it did. -/
def fnExactPowerBelowUptoRow : OpenClaim := { program := "ytjfbeebdhmebpaagreatdoor", sum := "591cad764964a8c21d5545676e28e178ffcb46054dd0e6917e12f684e6f5f1ef", func := "loop.example/g00861/laws.FnExactPowerBelow", spec := "fnExactPowerBelow", inPlace := ["internal/bytealg.IndexByteString", "internal/bytealg.IndexString"], unfollowed := true, recurses := true, named := ["unicode/utf8.first", "unicode/utf8.acceptRanges", "internal/bytealg.MaxLen"], apart := false, laid := [("unicode/utf8.acceptRanges", laid_unicode_utf8_acceptRanges), ("unicode/utf8.first", laid_unicode_utf8_first)], narrowed := true }
def FnExactPowerBelowUptoSaid : Prop := fnExactPowerBelowUptoRow.holds Tryz.pinned (OpenSpec.upto fnExactPowerBelowSpec)

/-- 'laws.FnExactTotalPower', WHERE WHAT IT READS IS OF BULK AT MOST 1048576: true; the input reads as it did. -/
def fnExactTotalPowerUptoRow : OpenClaim := { program := "ytjfbeebdhmebpaagreatdoor", sum := "591cad764964a8c21d5545676e28e178ffcb46054dd0e6917e12f684e6f5f1ef", func := "loop.example/g00861/laws.FnExactTotalPower", spec := "fnExactTotalPower", inPlace := ["internal/bytealg.IndexByteString", "internal/bytealg.IndexString"], unfollowed := true, recurses := true, named := ["unicode/utf8.first", "unicode/utf8.acceptRanges", "internal/bytealg.MaxLen"], apart := false, laid := [("unicode/utf8.acceptRanges", laid_unicode_utf8_acceptRanges), ("unicode/utf8.first", laid_unicode_utf8_first)], narrowed := true }
def FnExactTotalPowerUptoSaid : Prop := fnExactTotalPowerUptoRow.holds Tryz.pinned (OpenSpec.upto fnExactTotalPowerSpec)

end Rows
end Go.Proofs.YtjfbeebdhmebpaaGreatDoor
