/-
  DERIVED. GIVEN WITH THE SEED: THE CARDS: each row of YtojbflghmjfbpaaGreatDoorRows.lean that lists a variable, with what it lists TIED to the program's text (the seventh form; the later family's looks); each row that meets fmt, with fmt's text TOLD by the authors' own Lean function (tested against real Go, not proved from fmt's source: count such statements apart). THE CARD IS WHAT COUNTS. Prove the row's statement (the work); the ties are given (YtojbflghmjfbpaaGreatDoorTie.lean); close each card by the builder's one call (the guide's Derived/Test/ToyasCard.lean, 'card_holds'). Laid BY PROGRAM, IN A SANDBOX (cutbox-door.mjs). By AI agents, Wed Nov 11 2026. No macro, syntax, notation, axiom, sorry.
-/
import Derived.Test.YtojbflghmjfbpaaGreatDoorRows
import GoSem.ClaimSeven
namespace Go.Proofs.YtojbflghmjfbpaaGreatDoor
namespace Rows

/-- THE TIED CARD OF 'chamferlaw05.PlaneThrough'. -/
def planeThroughCard : Claim7 := { stood := { row := planeThroughRow, standIns := [], harness := (true, "8dd16922af27d847e9d6ab52b5cf23485b28b3bd3b95fda2dce64008d4fb45a6"), looks := false }, kinds := [], alts := [], laidByText := true, laidKinds := [.data, .pinned], laidTests := true, laidLooks := .later }
def PlaneThroughCardSaid : Prop := Claim7.holds Tryz.pinned (.plain (OpenSpec.ofChange planeThroughSpec)) planeThroughCard

/-- THE TIED CARD OF 'chamferlaw05.PlaneRow'. -/
def planeRowCard : Claim7 := { stood := { row := planeRowRow, standIns := [], harness := (true, "8dd16922af27d847e9d6ab52b5cf23485b28b3bd3b95fda2dce64008d4fb45a6"), looks := false }, kinds := [], alts := [], laidByText := true, laidKinds := [.data, .pinned], laidTests := true, laidLooks := .later }
def PlaneRowCardSaid : Prop := Claim7.holds Tryz.pinned (.plain (OpenSpec.ofChange planeRowSpec)) planeRowCard

/-- THE TIED CARD OF 'chamferlaw05.PlaneGreat'. -/
def planeGreatCard : Claim7 := { stood := { row := planeGreatRow, standIns := [], harness := (true, "8dd16922af27d847e9d6ab52b5cf23485b28b3bd3b95fda2dce64008d4fb45a6"), looks := false }, kinds := [], alts := [], laidByText := true, laidKinds := [.data, .pinned], laidTests := true, laidLooks := .later }
def PlaneGreatCardSaid : Prop := Claim7.holds Tryz.pinned (.plain (OpenSpec.ofChange planeGreatSpec)) planeGreatCard

/-- THE TIED CARD OF 'chamferlaw05.PlaneSame'. -/
def planeSameCard : Claim7 := { stood := { row := planeSameRow, standIns := [], harness := (true, "8dd16922af27d847e9d6ab52b5cf23485b28b3bd3b95fda2dce64008d4fb45a6"), looks := false }, kinds := [], alts := [], laidByText := true, laidKinds := [.data, .pinned], laidTests := true, laidLooks := .later }
def PlaneSameCardSaid : Prop := Claim7.holds Tryz.pinned (.plain (OpenSpec.ofChange planeSameSpec)) planeSameCard

/-- THE TIED CARD OF 'chamferlaw05.PlaneReads'. -/
def planeReadsCard : Claim7 := { stood := { row := planeReadsRow, standIns := [], harness := (true, "8dd16922af27d847e9d6ab52b5cf23485b28b3bd3b95fda2dce64008d4fb45a6"), looks := false }, kinds := [], alts := [], laidByText := true, laidKinds := [.data, .pinned], laidTests := true, laidLooks := .later }
def PlaneReadsCardSaid : Prop := Claim7.holds Tryz.pinned (.plain (OpenSpec.ofChange planeReadsSpec)) planeReadsCard

/-- THE TIED CARD OF 'chamferlaw05.PlaneBetween'. -/
def planeBetweenCard : Claim7 := { stood := { row := planeBetweenRow, standIns := [], harness := (true, "8dd16922af27d847e9d6ab52b5cf23485b28b3bd3b95fda2dce64008d4fb45a6"), looks := false }, kinds := [], alts := [], laidByText := true, laidKinds := [.data, .pinned], laidTests := true, laidLooks := .later }
def PlaneBetweenCardSaid : Prop := Claim7.holds Tryz.pinned (.plain (OpenSpec.ofChange planeBetweenSpec)) planeBetweenCard

/-- THE TIED CARD OF 'chamferlaw05.PlaneOrders'. -/
def planeOrdersCard : Claim7 := { stood := { row := planeOrdersRow, standIns := [], harness := (true, "8dd16922af27d847e9d6ab52b5cf23485b28b3bd3b95fda2dce64008d4fb45a6"), looks := false }, kinds := [], alts := [], laidByText := true, laidKinds := [.data, .pinned], laidTests := true, laidLooks := .later }
def PlaneOrdersCardSaid : Prop := Claim7.holds Tryz.pinned (.plain (OpenSpec.ofChange planeOrdersSpec)) planeOrdersCard

/-- THE TIED CARD OF 'chamferlaw05.PlaneKnown'. -/
def planeKnownCard : Claim7 := { stood := { row := planeKnownRow, standIns := [], harness := (true, "8dd16922af27d847e9d6ab52b5cf23485b28b3bd3b95fda2dce64008d4fb45a6"), looks := false }, kinds := [], alts := [], laidByText := true, laidKinds := [.data, .pinned], laidTests := true, laidLooks := .later }
def PlaneKnownCardSaid : Prop := Claim7.holds Tryz.pinned (.plain (OpenSpec.ofChange planeKnownSpec)) planeKnownCard

/-- THE SECOND FORM's CARD OF 'chamferlaw05.PlaneThrough'. -/
def planeThroughUptoCard : Claim7 := { stood := { row := planeThroughUptoRow, standIns := [], harness := (true, "8dd16922af27d847e9d6ab52b5cf23485b28b3bd3b95fda2dce64008d4fb45a6"), looks := false }, kinds := [], alts := [], laidByText := true, laidKinds := [.data, .pinned], laidTests := true, laidLooks := .later }
def PlaneThroughUptoCardSaid : Prop := Claim7.holds Tryz.pinned (.plain (OpenSpec.upto planeThroughSpec)) planeThroughUptoCard

/-- THE SECOND FORM's CARD OF 'chamferlaw05.PlaneRow'. -/
def planeRowUptoCard : Claim7 := { stood := { row := planeRowUptoRow, standIns := [], harness := (true, "8dd16922af27d847e9d6ab52b5cf23485b28b3bd3b95fda2dce64008d4fb45a6"), looks := false }, kinds := [], alts := [], laidByText := true, laidKinds := [.data, .pinned], laidTests := true, laidLooks := .later }
def PlaneRowUptoCardSaid : Prop := Claim7.holds Tryz.pinned (.plain (OpenSpec.upto planeRowSpec)) planeRowUptoCard

/-- THE SECOND FORM's CARD OF 'chamferlaw05.PlaneGreat'. -/
def planeGreatUptoCard : Claim7 := { stood := { row := planeGreatUptoRow, standIns := [], harness := (true, "8dd16922af27d847e9d6ab52b5cf23485b28b3bd3b95fda2dce64008d4fb45a6"), looks := false }, kinds := [], alts := [], laidByText := true, laidKinds := [.data, .pinned], laidTests := true, laidLooks := .later }
def PlaneGreatUptoCardSaid : Prop := Claim7.holds Tryz.pinned (.plain (OpenSpec.upto planeGreatSpec)) planeGreatUptoCard

/-- THE SECOND FORM's CARD OF 'chamferlaw05.PlaneSame'. -/
def planeSameUptoCard : Claim7 := { stood := { row := planeSameUptoRow, standIns := [], harness := (true, "8dd16922af27d847e9d6ab52b5cf23485b28b3bd3b95fda2dce64008d4fb45a6"), looks := false }, kinds := [], alts := [], laidByText := true, laidKinds := [.data, .pinned], laidTests := true, laidLooks := .later }
def PlaneSameUptoCardSaid : Prop := Claim7.holds Tryz.pinned (.plain (OpenSpec.upto planeSameSpec)) planeSameUptoCard

/-- THE SECOND FORM's CARD OF 'chamferlaw05.PlaneReads'. -/
def planeReadsUptoCard : Claim7 := { stood := { row := planeReadsUptoRow, standIns := [], harness := (true, "8dd16922af27d847e9d6ab52b5cf23485b28b3bd3b95fda2dce64008d4fb45a6"), looks := false }, kinds := [], alts := [], laidByText := true, laidKinds := [.data, .pinned], laidTests := true, laidLooks := .later }
def PlaneReadsUptoCardSaid : Prop := Claim7.holds Tryz.pinned (.plain (OpenSpec.upto planeReadsSpec)) planeReadsUptoCard

/-- THE SECOND FORM's CARD OF 'chamferlaw05.PlaneBetween'. -/
def planeBetweenUptoCard : Claim7 := { stood := { row := planeBetweenUptoRow, standIns := [], harness := (true, "8dd16922af27d847e9d6ab52b5cf23485b28b3bd3b95fda2dce64008d4fb45a6"), looks := false }, kinds := [], alts := [], laidByText := true, laidKinds := [.data, .pinned], laidTests := true, laidLooks := .later }
def PlaneBetweenUptoCardSaid : Prop := Claim7.holds Tryz.pinned (.plain (OpenSpec.upto planeBetweenSpec)) planeBetweenUptoCard

/-- THE SECOND FORM's CARD OF 'chamferlaw05.PlaneOrders'. -/
def planeOrdersUptoCard : Claim7 := { stood := { row := planeOrdersUptoRow, standIns := [], harness := (true, "8dd16922af27d847e9d6ab52b5cf23485b28b3bd3b95fda2dce64008d4fb45a6"), looks := false }, kinds := [], alts := [], laidByText := true, laidKinds := [.data, .pinned], laidTests := true, laidLooks := .later }
def PlaneOrdersUptoCardSaid : Prop := Claim7.holds Tryz.pinned (.plain (OpenSpec.upto planeOrdersSpec)) planeOrdersUptoCard

/-- THE SECOND FORM's CARD OF 'chamferlaw05.PlaneKnown'. -/
def planeKnownUptoCard : Claim7 := { stood := { row := planeKnownUptoRow, standIns := [], harness := (true, "8dd16922af27d847e9d6ab52b5cf23485b28b3bd3b95fda2dce64008d4fb45a6"), looks := false }, kinds := [], alts := [], laidByText := true, laidKinds := [.data, .pinned], laidTests := true, laidLooks := .later }
def PlaneKnownUptoCardSaid : Prop := Claim7.holds Tryz.pinned (.plain (OpenSpec.upto planeKnownSpec)) planeKnownUptoCard
end Rows
end Go.Proofs.YtojbflghmjfbpaaGreatDoor
