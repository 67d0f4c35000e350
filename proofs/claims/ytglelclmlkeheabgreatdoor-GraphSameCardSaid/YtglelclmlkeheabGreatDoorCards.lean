/-
  DERIVED. GIVEN WITH THE SEED: THE CARDS: each row of YtglelclmlkeheabGreatDoorRows.lean that lists a variable, with what it lists TIED to the program's text (the seventh form; the later family's looks); each row that meets fmt, with fmt's text TOLD by the authors' own Lean function (tested against real Go, not proved from fmt's source: count such statements apart). THE CARD IS WHAT COUNTS. Prove the row's statement (the work); the ties are given (YtglelclmlkeheabGreatDoorTie.lean); close each card by the builder's one call (the guide's Derived/Test/ToyasCard.lean, 'card_holds'). Laid BY PROGRAM, IN A SANDBOX (cutbox-door.mjs). By AI agents, Wed Nov 11 2026. No macro, syntax, notation, axiom, sorry.
-/
import Derived.Test.YtglelclmlkeheabGreatDoorRows
import GoSem.ClaimSeven
namespace Go.Proofs.YtglelclmlkeheabGreatDoor
namespace Rows

/-- THE TIED CARD OF 'ratchetlaw02.GraphSame'. -/
def graphSameCard : Claim7 := { stood := { row := graphSameRow, standIns := [], harness := (true, "6c8e84bdb02fd4f823d55fd280d7bbd700402c7588e185502f5761acace31258"), looks := true }, kinds := [], alts := [], laidByText := true, laidKinds := [.data, .data, .data], laidTests := true, laidLooks := .later }
def GraphSameCardSaid : Prop := Claim7.holds Tryz.pinned (.plain (OpenSpec.ofChange graphSameSpec)) graphSameCard

/-- THE TIED CARD OF 'ratchetlaw02.GraphStrings'. -/
def graphStringsCard : Claim7 := { stood := { row := graphStringsRow, standIns := [], harness := (true, "6c8e84bdb02fd4f823d55fd280d7bbd700402c7588e185502f5761acace31258"), looks := true }, kinds := [], alts := [], laidByText := true, laidKinds := [.data, .data, .data, .data, .sentinel, .sentinel, .pinned], laidTests := true, laidLooks := .later }
def GraphStringsCardSaid : Prop := Claim7.holds Tryz.pinned (.plain (OpenSpec.ofChange graphStringsSpec)) graphStringsCard

/-- THE SECOND FORM's CARD OF 'ratchetlaw02.GraphSame'. -/
def graphSameUptoCard : Claim7 := { stood := { row := graphSameUptoRow, standIns := [], harness := (true, "6c8e84bdb02fd4f823d55fd280d7bbd700402c7588e185502f5761acace31258"), looks := true }, kinds := [], alts := [], laidByText := true, laidKinds := [.data, .data, .data], laidTests := true, laidLooks := .later }
def GraphSameUptoCardSaid : Prop := Claim7.holds Tryz.pinned (.plain (OpenSpec.upto graphSameSpec)) graphSameUptoCard

/-- THE SECOND FORM's CARD OF 'ratchetlaw02.GraphStrings'. -/
def graphStringsUptoCard : Claim7 := { stood := { row := graphStringsUptoRow, standIns := [], harness := (true, "6c8e84bdb02fd4f823d55fd280d7bbd700402c7588e185502f5761acace31258"), looks := true }, kinds := [], alts := [], laidByText := true, laidKinds := [.data, .data, .data, .data, .sentinel, .sentinel, .pinned], laidTests := true, laidLooks := .later }
def GraphStringsUptoCardSaid : Prop := Claim7.holds Tryz.pinned (.plain (OpenSpec.upto graphStringsSpec)) graphStringsUptoCard
end Rows
end Go.Proofs.YtglelclmlkeheabGreatDoor
