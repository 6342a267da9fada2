/-
  NARROWER THAN 'FOR EVERY INPUT', by the rows' own cells (each row's printed sentence says how): PlaneThrough: laid · PlaneRow: laid · PlaneGreat: laid · PlaneSame: laid · PlaneReads: laid · PlaneBetween: laid · PlaneOrders: laid · PlaneKnown: laid.
  DERIVED. THE GIVEN ROWS OF THIS SEAT. 8 by the template 'for every input the law returns true; each argument reads behind the call as it read before'; 0 by the template 'total and deterministic' (their statements: YtojbflghmjfbpaaGreatDoorTotals.lean).
  GIVEN WITH THE SEED: the statements are not yours to turn. If you find one false, say at which input.
  Laid BY PROGRAM, IN A SANDBOX (cutbox-rows.mjs): the forced cells as the released guide's own fill.sh prints them over the translation 1a02fdeafdd6bd10… (all of the seat's roots in one cut). By AI agents, Wed Nov 11 2026. No macro, syntax, notation, axiom, sorry.
-/
import Derived.Test.YtojbflghmjfbpaaGreatDoorChecked
import GoSem.PinnedTables
import GoSem.Claim
import GoSem.ClaimJoined
import GoSem.ClaimMapViews
import Derived.JoinedTies
import Derived.KernelRfl
namespace Go.Proofs.YtojbflghmjfbpaaGreatDoor
/- THE CELL 'sum', in the pinned program and in every row, IS THE sha256 OF THE DUMP (.gsa) THAT YtojbflghmjfbpaaGreatDoorProg.lean LOADS. Nothing in Lean hashes anything: it is a label: what it is worth is what the hold of that sum in a sandbox is worth. -/
noncomputable def Tryz.pinned : Pinned := { name := "ytojbflghmjfbpaagreatdoor", sum := "1a02fdeafdd6bd104791a34dce07fea681b59f67c3c8b82bb52c6351ca6927dd", checked := Tryz.checked }
namespace Rows
def none {H : Type} : Left H := { results := [], args := [] }

/- WHAT THE LISTED PACKAGE-LEVEL VARIABLES READ AS WHEN THE CALL BEGINS. Each datum BY PROGRAM (the guide's laid-datum.mjs) off the statement by which the dump's own 'gosem.cut.vars' lays the variable. In a bare row this is a premise. The card (YtojbflghmjfbpaaGreatDoorCards.lean) ties it to the program's text. -/
def laid_unicode_utf8_acceptRanges {H : Type} : DataW H := .agg [.agg [.lit (.int .u8 128), .lit (.int .u8 191)], .agg [.lit (.int .u8 160), .lit (.int .u8 191)], .agg [.lit (.int .u8 128), .lit (.int .u8 159)], .agg [.lit (.int .u8 144), .lit (.int .u8 191)], .agg [.lit (.int .u8 128), .lit (.int .u8 143)], .agg [.lit (.int .u8 0), .lit (.int .u8 0)], .agg [.lit (.int .u8 0), .lit (.int .u8 0)], .agg [.lit (.int .u8 0), .lit (.int .u8 0)], .agg [.lit (.int .u8 0), .lit (.int .u8 0)], .agg [.lit (.int .u8 0), .lit (.int .u8 0)], .agg [.lit (.int .u8 0), .lit (.int .u8 0)], .agg [.lit (.int .u8 0), .lit (.int .u8 0)], .agg [.lit (.int .u8 0), .lit (.int .u8 0)], .agg [.lit (.int .u8 0), .lit (.int .u8 0)], .agg [.lit (.int .u8 0), .lit (.int .u8 0)], .agg [.lit (.int .u8 0), .lit (.int .u8 0)]]
/-- One of Go's own tables, pinned by name: the form's constant. -/
def laid_unicode_utf8_first : DataW Unit := Go.Pinned.utf8First

/-- 'chamferlaw05.PlaneThrough': WHATEVER THE INPUT: true; the input reads as it did. -/
def planeThroughSpec : ChangeSpec := { name := "planeThrough", fn := fun _ => fun
  | [d1, d2, d3] => { results := [.lit (.bool true)], args := [d1, d2, d3] }
  | _ => none }
def planeThroughRow : OpenClaim := { program := "ytojbflghmjfbpaagreatdoor", sum := "1a02fdeafdd6bd104791a34dce07fea681b59f67c3c8b82bb52c6351ca6927dd", func := "chamfer/chamferlaw05.PlaneThrough", spec := "planeThrough", inPlace := ["math/bits.Add64", "math/bits.Sub64", "internal/bytealg.IndexByteString", "internal/bytealg.IndexString"], unfollowed := true, recurses := true, named := ["math/bits.divideError", "math/bits.overflowError", "internal/bytealg.MaxLen", "unicode/utf8.first", "unicode/utf8.acceptRanges"], apart := false, laid := [("unicode/utf8.acceptRanges", laid_unicode_utf8_acceptRanges), ("unicode/utf8.first", laid_unicode_utf8_first)] }
def PlaneThroughSaid : Prop := planeThroughRow.holds Tryz.pinned (OpenSpec.ofChange planeThroughSpec)

/-- ITS FALSE NEIGHBOUR: 'it returns false'. Refute it at one input. -/
def planeThroughWrong : ChangeSpec := { name := "planeThrough", fn := fun _ => fun
  | [d1, d2, d3] => { results := [.lit (.bool false)], args := [d1, d2, d3] }
  | _ => none }
def PlaneThroughWrongFalsely : Prop := planeThroughRow.holds Tryz.pinned (OpenSpec.ofChange planeThroughWrong)

/-- 'chamferlaw05.PlaneRow': WHATEVER THE INPUT: true; the input reads as it did. -/
def planeRowSpec : ChangeSpec := { name := "planeRow", fn := fun _ => fun
  | [d1, d2, d3] => { results := [.lit (.bool true)], args := [d1, d2, d3] }
  | _ => none }
def planeRowRow : OpenClaim := { program := "ytojbflghmjfbpaagreatdoor", sum := "1a02fdeafdd6bd104791a34dce07fea681b59f67c3c8b82bb52c6351ca6927dd", func := "chamfer/chamferlaw05.PlaneRow", spec := "planeRow", inPlace := ["math/bits.Add64", "math/bits.Sub64", "internal/bytealg.IndexByteString", "internal/bytealg.IndexString"], unfollowed := true, recurses := true, named := ["math/bits.divideError", "math/bits.overflowError", "internal/bytealg.MaxLen", "unicode/utf8.first", "unicode/utf8.acceptRanges"], apart := false, laid := [("unicode/utf8.acceptRanges", laid_unicode_utf8_acceptRanges), ("unicode/utf8.first", laid_unicode_utf8_first)] }
def PlaneRowSaid : Prop := planeRowRow.holds Tryz.pinned (OpenSpec.ofChange planeRowSpec)

/-- ITS FALSE NEIGHBOUR: 'it returns false'. Refute it at one input. -/
def planeRowWrong : ChangeSpec := { name := "planeRow", fn := fun _ => fun
  | [d1, d2, d3] => { results := [.lit (.bool false)], args := [d1, d2, d3] }
  | _ => none }
def PlaneRowWrongFalsely : Prop := planeRowRow.holds Tryz.pinned (OpenSpec.ofChange planeRowWrong)

/-- 'chamferlaw05.PlaneGreat': WHATEVER THE INPUT: true; the input reads as it did. -/
def planeGreatSpec : ChangeSpec := { name := "planeGreat", fn := fun _ => fun
  | [d1, d2] => { results := [.lit (.bool true)], args := [d1, d2] }
  | _ => none }
def planeGreatRow : OpenClaim := { program := "ytojbflghmjfbpaagreatdoor", sum := "1a02fdeafdd6bd104791a34dce07fea681b59f67c3c8b82bb52c6351ca6927dd", func := "chamfer/chamferlaw05.PlaneGreat", spec := "planeGreat", inPlace := ["math/bits.Add64", "math/bits.Sub64", "internal/bytealg.IndexByteString", "internal/bytealg.IndexString"], unfollowed := true, recurses := true, named := ["math/bits.divideError", "math/bits.overflowError", "internal/bytealg.MaxLen", "unicode/utf8.first", "unicode/utf8.acceptRanges"], apart := false, laid := [("unicode/utf8.acceptRanges", laid_unicode_utf8_acceptRanges), ("unicode/utf8.first", laid_unicode_utf8_first)] }
def PlaneGreatSaid : Prop := planeGreatRow.holds Tryz.pinned (OpenSpec.ofChange planeGreatSpec)

/-- ITS FALSE NEIGHBOUR: 'it returns false'. Refute it at one input. -/
def planeGreatWrong : ChangeSpec := { name := "planeGreat", fn := fun _ => fun
  | [d1, d2] => { results := [.lit (.bool false)], args := [d1, d2] }
  | _ => none }
def PlaneGreatWrongFalsely : Prop := planeGreatRow.holds Tryz.pinned (OpenSpec.ofChange planeGreatWrong)

/-- 'chamferlaw05.PlaneSame': WHATEVER THE INPUT: true; the input reads as it did. -/
def planeSameSpec : ChangeSpec := { name := "planeSame", fn := fun _ => fun
  | [d1, d2, d3, d4, d5] => { results := [.lit (.bool true)], args := [d1, d2, d3, d4, d5] }
  | _ => none }
def planeSameRow : OpenClaim := { program := "ytojbflghmjfbpaagreatdoor", sum := "1a02fdeafdd6bd104791a34dce07fea681b59f67c3c8b82bb52c6351ca6927dd", func := "chamfer/chamferlaw05.PlaneSame", spec := "planeSame", inPlace := ["math/bits.Add64", "math/bits.Sub64", "internal/bytealg.IndexByteString", "internal/bytealg.IndexString"], unfollowed := true, recurses := true, named := ["math/bits.divideError", "math/bits.overflowError", "internal/bytealg.MaxLen", "unicode/utf8.first", "unicode/utf8.acceptRanges"], apart := false, laid := [("unicode/utf8.acceptRanges", laid_unicode_utf8_acceptRanges), ("unicode/utf8.first", laid_unicode_utf8_first)] }
def PlaneSameSaid : Prop := planeSameRow.holds Tryz.pinned (OpenSpec.ofChange planeSameSpec)

/-- ITS FALSE NEIGHBOUR: 'it returns false'. Refute it at one input. -/
def planeSameWrong : ChangeSpec := { name := "planeSame", fn := fun _ => fun
  | [d1, d2, d3, d4, d5] => { results := [.lit (.bool false)], args := [d1, d2, d3, d4, d5] }
  | _ => none }
def PlaneSameWrongFalsely : Prop := planeSameRow.holds Tryz.pinned (OpenSpec.ofChange planeSameWrong)

/-- 'chamferlaw05.PlaneReads': WHATEVER THE INPUT: true; the input reads as it did. -/
def planeReadsSpec : ChangeSpec := { name := "planeReads", fn := fun _ => fun
  | [d1, d2] => { results := [.lit (.bool true)], args := [d1, d2] }
  | _ => none }
def planeReadsRow : OpenClaim := { program := "ytojbflghmjfbpaagreatdoor", sum := "1a02fdeafdd6bd104791a34dce07fea681b59f67c3c8b82bb52c6351ca6927dd", func := "chamfer/chamferlaw05.PlaneReads", spec := "planeReads", inPlace := ["math/bits.Add64", "math/bits.Sub64", "internal/bytealg.IndexByteString", "internal/bytealg.IndexString"], unfollowed := true, recurses := true, named := ["math/bits.divideError", "math/bits.overflowError", "internal/bytealg.MaxLen", "unicode/utf8.first", "unicode/utf8.acceptRanges"], apart := false, laid := [("unicode/utf8.acceptRanges", laid_unicode_utf8_acceptRanges), ("unicode/utf8.first", laid_unicode_utf8_first)] }
def PlaneReadsSaid : Prop := planeReadsRow.holds Tryz.pinned (OpenSpec.ofChange planeReadsSpec)

/-- ITS FALSE NEIGHBOUR: 'it returns false'. Refute it at one input. -/
def planeReadsWrong : ChangeSpec := { name := "planeReads", fn := fun _ => fun
  | [d1, d2] => { results := [.lit (.bool false)], args := [d1, d2] }
  | _ => none }
def PlaneReadsWrongFalsely : Prop := planeReadsRow.holds Tryz.pinned (OpenSpec.ofChange planeReadsWrong)

/-- 'chamferlaw05.PlaneBetween': WHATEVER THE INPUT: true; the input reads as it did. -/
def planeBetweenSpec : ChangeSpec := { name := "planeBetween", fn := fun _ => fun
  | [d1, d2, d3] => { results := [.lit (.bool true)], args := [d1, d2, d3] }
  | _ => none }
def planeBetweenRow : OpenClaim := { program := "ytojbflghmjfbpaagreatdoor", sum := "1a02fdeafdd6bd104791a34dce07fea681b59f67c3c8b82bb52c6351ca6927dd", func := "chamfer/chamferlaw05.PlaneBetween", spec := "planeBetween", inPlace := ["math/bits.Add64", "math/bits.Sub64", "internal/bytealg.IndexByteString", "internal/bytealg.IndexString"], unfollowed := true, recurses := true, named := ["math/bits.divideError", "math/bits.overflowError", "internal/bytealg.MaxLen", "unicode/utf8.first", "unicode/utf8.acceptRanges"], apart := false, laid := [("unicode/utf8.acceptRanges", laid_unicode_utf8_acceptRanges), ("unicode/utf8.first", laid_unicode_utf8_first)] }
def PlaneBetweenSaid : Prop := planeBetweenRow.holds Tryz.pinned (OpenSpec.ofChange planeBetweenSpec)

/-- ITS FALSE NEIGHBOUR: 'it returns false'. Refute it at one input. -/
def planeBetweenWrong : ChangeSpec := { name := "planeBetween", fn := fun _ => fun
  | [d1, d2, d3] => { results := [.lit (.bool false)], args := [d1, d2, d3] }
  | _ => none }
def PlaneBetweenWrongFalsely : Prop := planeBetweenRow.holds Tryz.pinned (OpenSpec.ofChange planeBetweenWrong)

/-- 'chamferlaw05.PlaneOrders': WHATEVER THE INPUT: true; the input reads as it did. -/
def planeOrdersSpec : ChangeSpec := { name := "planeOrders", fn := fun _ => fun
  | [d] => { results := [.lit (.bool true)], args := [d] }
  | _ => none }
def planeOrdersRow : OpenClaim := { program := "ytojbflghmjfbpaagreatdoor", sum := "1a02fdeafdd6bd104791a34dce07fea681b59f67c3c8b82bb52c6351ca6927dd", func := "chamfer/chamferlaw05.PlaneOrders", spec := "planeOrders", inPlace := ["math/bits.Add64", "math/bits.Sub64", "internal/bytealg.IndexByteString", "internal/bytealg.IndexString"], unfollowed := true, recurses := true, named := ["math/bits.divideError", "math/bits.overflowError", "internal/bytealg.MaxLen", "unicode/utf8.first", "unicode/utf8.acceptRanges"], apart := false, laid := [("unicode/utf8.acceptRanges", laid_unicode_utf8_acceptRanges), ("unicode/utf8.first", laid_unicode_utf8_first)] }
def PlaneOrdersSaid : Prop := planeOrdersRow.holds Tryz.pinned (OpenSpec.ofChange planeOrdersSpec)

/-- ITS FALSE NEIGHBOUR: 'it returns false'. Refute it at one input. -/
def planeOrdersWrong : ChangeSpec := { name := "planeOrders", fn := fun _ => fun
  | [d] => { results := [.lit (.bool false)], args := [d] }
  | _ => none }
def PlaneOrdersWrongFalsely : Prop := planeOrdersRow.holds Tryz.pinned (OpenSpec.ofChange planeOrdersWrong)

/-- 'chamferlaw05.PlaneKnown': WHATEVER THE INPUT: true; the input reads as it did. -/
def planeKnownSpec : ChangeSpec := { name := "planeKnown", fn := fun _ => fun
  | [] => { results := [.lit (.bool true)], args := [] }
  | _ => none }
def planeKnownRow : OpenClaim := { program := "ytojbflghmjfbpaagreatdoor", sum := "1a02fdeafdd6bd104791a34dce07fea681b59f67c3c8b82bb52c6351ca6927dd", func := "chamfer/chamferlaw05.PlaneKnown", spec := "planeKnown", inPlace := ["math/bits.Add64", "math/bits.Sub64", "internal/bytealg.IndexByteString", "internal/bytealg.IndexString"], unfollowed := true, recurses := true, named := ["math/bits.divideError", "math/bits.overflowError", "internal/bytealg.MaxLen", "unicode/utf8.first", "unicode/utf8.acceptRanges"], apart := false, laid := [("unicode/utf8.acceptRanges", laid_unicode_utf8_acceptRanges), ("unicode/utf8.first", laid_unicode_utf8_first)] }
def PlaneKnownSaid : Prop := planeKnownRow.holds Tryz.pinned (OpenSpec.ofChange planeKnownSpec)

/-- ITS FALSE NEIGHBOUR: 'it returns false'. Refute it at one input. -/
def planeKnownWrong : ChangeSpec := { name := "planeKnown", fn := fun _ => fun
  | [] => { results := [.lit (.bool false)], args := [] }
  | _ => none }
def PlaneKnownWrongFalsely : Prop := planeKnownRow.holds Tryz.pinned (OpenSpec.ofChange planeKnownWrong)

/- THE SECOND FORM. 'bulk': how many values and letters a reading holds, each counted each time it is reached (what is shared counts as often as it is met; a slice's spare places count too). A statement '..UptoSaid' is the law's where the arguments, and the package variables that the reading takes, are together of bulk at most 1048576: NARROWER than '..Said'. Prove '..Said' where nothing that the law and all that it calls make is longer than what came in: it says more and counts as full. Else prove '..UptoSaid'. A law counts once. -/
mutual
def uptoBulk {H : Type} : DataW H → Nat
  | .lit (.string bytes) => bytes.length + 1
  | .lit _ => 1
  | .nil => 1
  | .ptr d => uptoBulk d + 1
  | .slice elems spare => uptoBulkAll elems + uptoBulkAll spare + 1
  | .agg parts => uptoBulkAll parts + 1
  | .iface _ d => uptoBulk d + 1
  | .map entries => uptoBulkEntries entries + 1
  | .held _ => 1
def uptoBulkAll {H : Type} : List (DataW H) → Nat
  | [] => 0
  | d :: r => uptoBulk d + uptoBulkAll r
def uptoBulkEntries {H : Type} : List (Lit × DataW H) → Nat
  | [] => 0
  | x :: r => uptoBulkEntry x + uptoBulkEntries r
def uptoBulkEntry {H : Type} : Lit × DataW H → Nat
  | (.string bytes, d) => bytes.length + uptoBulk d + 1
  | (_, d) => uptoBulk d + 1
 end
def uptoSmall : (H : Type) → List (DataW H) → Bool := fun _ ds => decide (uptoBulkAll ds ≤ 1048576)
def OpenSpec.upto (s : _root_.Go.ChangeSpec) : _root_.Go.OpenSpec := { _root_.Go.OpenSpec.ofChange s with cond := some uptoSmall }

/-- 'chamferlaw05.PlaneThrough', WHERE WHAT IT READS IS OF BULK AT MOST 1048576: true; the input reads as it did. -/
def planeThroughUptoRow : OpenClaim := { program := "ytojbflghmjfbpaagreatdoor", sum := "1a02fdeafdd6bd104791a34dce07fea681b59f67c3c8b82bb52c6351ca6927dd", func := "chamfer/chamferlaw05.PlaneThrough", spec := "planeThrough", inPlace := ["math/bits.Add64", "math/bits.Sub64", "internal/bytealg.IndexByteString", "internal/bytealg.IndexString"], unfollowed := true, recurses := true, named := ["math/bits.divideError", "math/bits.overflowError", "internal/bytealg.MaxLen", "unicode/utf8.first", "unicode/utf8.acceptRanges"], apart := false, laid := [("unicode/utf8.acceptRanges", laid_unicode_utf8_acceptRanges), ("unicode/utf8.first", laid_unicode_utf8_first)], narrowed := true }
def PlaneThroughUptoSaid : Prop := planeThroughUptoRow.holds Tryz.pinned (OpenSpec.upto planeThroughSpec)

/-- 'chamferlaw05.PlaneRow', WHERE WHAT IT READS IS OF BULK AT MOST 1048576: true; the input reads as it did. -/
def planeRowUptoRow : OpenClaim := { program := "ytojbflghmjfbpaagreatdoor", sum := "1a02fdeafdd6bd104791a34dce07fea681b59f67c3c8b82bb52c6351ca6927dd", func := "chamfer/chamferlaw05.PlaneRow", spec := "planeRow", inPlace := ["math/bits.Add64", "math/bits.Sub64", "internal/bytealg.IndexByteString", "internal/bytealg.IndexString"], unfollowed := true, recurses := true, named := ["math/bits.divideError", "math/bits.overflowError", "internal/bytealg.MaxLen", "unicode/utf8.first", "unicode/utf8.acceptRanges"], apart := false, laid := [("unicode/utf8.acceptRanges", laid_unicode_utf8_acceptRanges), ("unicode/utf8.first", laid_unicode_utf8_first)], narrowed := true }
def PlaneRowUptoSaid : Prop := planeRowUptoRow.holds Tryz.pinned (OpenSpec.upto planeRowSpec)

/-- 'chamferlaw05.PlaneGreat', WHERE WHAT IT READS IS OF BULK AT MOST 1048576: true; the input reads as it did. -/
def planeGreatUptoRow : OpenClaim := { program := "ytojbflghmjfbpaagreatdoor", sum := "1a02fdeafdd6bd104791a34dce07fea681b59f67c3c8b82bb52c6351ca6927dd", func := "chamfer/chamferlaw05.PlaneGreat", spec := "planeGreat", inPlace := ["math/bits.Add64", "math/bits.Sub64", "internal/bytealg.IndexByteString", "internal/bytealg.IndexString"], unfollowed := true, recurses := true, named := ["math/bits.divideError", "math/bits.overflowError", "internal/bytealg.MaxLen", "unicode/utf8.first", "unicode/utf8.acceptRanges"], apart := false, laid := [("unicode/utf8.acceptRanges", laid_unicode_utf8_acceptRanges), ("unicode/utf8.first", laid_unicode_utf8_first)], narrowed := true }
def PlaneGreatUptoSaid : Prop := planeGreatUptoRow.holds Tryz.pinned (OpenSpec.upto planeGreatSpec)

/-- 'chamferlaw05.PlaneSame', WHERE WHAT IT READS IS OF BULK AT MOST 1048576: true; the input reads as it did. -/
def planeSameUptoRow : OpenClaim := { program := "ytojbflghmjfbpaagreatdoor", sum := "1a02fdeafdd6bd104791a34dce07fea681b59f67c3c8b82bb52c6351ca6927dd", func := "chamfer/chamferlaw05.PlaneSame", spec := "planeSame", inPlace := ["math/bits.Add64", "math/bits.Sub64", "internal/bytealg.IndexByteString", "internal/bytealg.IndexString"], unfollowed := true, recurses := true, named := ["math/bits.divideError", "math/bits.overflowError", "internal/bytealg.MaxLen", "unicode/utf8.first", "unicode/utf8.acceptRanges"], apart := false, laid := [("unicode/utf8.acceptRanges", laid_unicode_utf8_acceptRanges), ("unicode/utf8.first", laid_unicode_utf8_first)], narrowed := true }
def PlaneSameUptoSaid : Prop := planeSameUptoRow.holds Tryz.pinned (OpenSpec.upto planeSameSpec)

/-- 'chamferlaw05.PlaneReads', WHERE WHAT IT READS IS OF BULK AT MOST 1048576: true; the input reads as it did. -/
def planeReadsUptoRow : OpenClaim := { program := "ytojbflghmjfbpaagreatdoor", sum := "1a02fdeafdd6bd104791a34dce07fea681b59f67c3c8b82bb52c6351ca6927dd", func := "chamfer/chamferlaw05.PlaneReads", spec := "planeReads", inPlace := ["math/bits.Add64", "math/bits.Sub64", "internal/bytealg.IndexByteString", "internal/bytealg.IndexString"], unfollowed := true, recurses := true, named := ["math/bits.divideError", "math/bits.overflowError", "internal/bytealg.MaxLen", "unicode/utf8.first", "unicode/utf8.acceptRanges"], apart := false, laid := [("unicode/utf8.acceptRanges", laid_unicode_utf8_acceptRanges), ("unicode/utf8.first", laid_unicode_utf8_first)], narrowed := true }
def PlaneReadsUptoSaid : Prop := planeReadsUptoRow.holds Tryz.pinned (OpenSpec.upto planeReadsSpec)

/-- 'chamferlaw05.PlaneBetween', WHERE WHAT IT READS IS OF BULK AT MOST 1048576: true; the input reads as it did. -/
def planeBetweenUptoRow : OpenClaim := { program := "ytojbflghmjfbpaagreatdoor", sum := "1a02fdeafdd6bd104791a34dce07fea681b59f67c3c8b82bb52c6351ca6927dd", func := "chamfer/chamferlaw05.PlaneBetween", spec := "planeBetween", inPlace := ["math/bits.Add64", "math/bits.Sub64", "internal/bytealg.IndexByteString", "internal/bytealg.IndexString"], unfollowed := true, recurses := true, named := ["math/bits.divideError", "math/bits.overflowError", "internal/bytealg.MaxLen", "unicode/utf8.first", "unicode/utf8.acceptRanges"], apart := false, laid := [("unicode/utf8.acceptRanges", laid_unicode_utf8_acceptRanges), ("unicode/utf8.first", laid_unicode_utf8_first)], narrowed := true }
def PlaneBetweenUptoSaid : Prop := planeBetweenUptoRow.holds Tryz.pinned (OpenSpec.upto planeBetweenSpec)

/-- 'chamferlaw05.PlaneOrders', WHERE WHAT IT READS IS OF BULK AT MOST 1048576: true; the input reads as it did. -/
def planeOrdersUptoRow : OpenClaim := { program := "ytojbflghmjfbpaagreatdoor", sum := "1a02fdeafdd6bd104791a34dce07fea681b59f67c3c8b82bb52c6351ca6927dd", func := "chamfer/chamferlaw05.PlaneOrders", spec := "planeOrders", inPlace := ["math/bits.Add64", "math/bits.Sub64", "internal/bytealg.IndexByteString", "internal/bytealg.IndexString"], unfollowed := true, recurses := true, named := ["math/bits.divideError", "math/bits.overflowError", "internal/bytealg.MaxLen", "unicode/utf8.first", "unicode/utf8.acceptRanges"], apart := false, laid := [("unicode/utf8.acceptRanges", laid_unicode_utf8_acceptRanges), ("unicode/utf8.first", laid_unicode_utf8_first)], narrowed := true }
def PlaneOrdersUptoSaid : Prop := planeOrdersUptoRow.holds Tryz.pinned (OpenSpec.upto planeOrdersSpec)

/-- 'chamferlaw05.PlaneKnown', WHERE WHAT IT READS IS OF BULK AT MOST 1048576: true; the input reads as it did. -/
def planeKnownUptoRow : OpenClaim := { program := "ytojbflghmjfbpaagreatdoor", sum := "1a02fdeafdd6bd104791a34dce07fea681b59f67c3c8b82bb52c6351ca6927dd", func := "chamfer/chamferlaw05.PlaneKnown", spec := "planeKnown", inPlace := ["math/bits.Add64", "math/bits.Sub64", "internal/bytealg.IndexByteString", "internal/bytealg.IndexString"], unfollowed := true, recurses := true, named := ["math/bits.divideError", "math/bits.overflowError", "internal/bytealg.MaxLen", "unicode/utf8.first", "unicode/utf8.acceptRanges"], apart := false, laid := [("unicode/utf8.acceptRanges", laid_unicode_utf8_acceptRanges), ("unicode/utf8.first", laid_unicode_utf8_first)], narrowed := true }
def PlaneKnownUptoSaid : Prop := planeKnownUptoRow.holds Tryz.pinned (OpenSpec.upto planeKnownSpec)

end Rows
end Go.Proofs.YtojbflghmjfbpaaGreatDoor
