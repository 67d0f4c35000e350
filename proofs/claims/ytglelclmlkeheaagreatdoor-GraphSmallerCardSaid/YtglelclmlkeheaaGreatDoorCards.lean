/-
  DERIVED. GIVEN WITH THE SEED: THE CARDS: each row of YtglelclmlkeheaaGreatDoorRows.lean that lists a variable, with what it lists TIED to the program's text (the seventh form; the later family's looks); each row that meets fmt, with fmt's text TOLD by the authors' own Lean function (tested against real Go, not proved from fmt's source: count such statements apart). THE CARD IS WHAT COUNTS. Prove the row's statement (the work); the ties are given (YtglelclmlkeheaaGreatDoorTie.lean); close each card by the builder's one call (the guide's Derived/Test/ToyasCard.lean, 'card_holds'). Laid BY PROGRAM, IN A SANDBOX (cutbox-door.mjs). By AI agents, Wed Nov 11 2026. No macro, syntax, notation, axiom, sorry.
-/
import Derived.Test.YtglelclmlkeheaaGreatDoorRows
import GoSem.ClaimSeven
namespace Go.Proofs.YtglelclmlkeheaaGreatDoor
namespace Rows

/-- THE TIED CARD OF 'ratchetlaw02.GraphErrors'. -/
def graphErrorsCard : Claim7 := { stood := { row := graphErrorsRow, standIns := [], harness := (true, "a5aa11c6cade993a6e8562b8dac9106592a546860d1e85b1082549ac68044a3a"), looks := false }, kinds := [], alts := [], laidByText := true, laidKinds := [.data, .data, .data], laidTests := true, laidLooks := .later }
def GraphErrorsCardSaid : Prop := Claim7.holds Tryz.pinned (.plain (OpenSpec.ofChange graphErrorsSpec)) graphErrorsCard

/-- THE TIED CARD OF 'ratchetlaw02.GraphMatters'. -/
def graphMattersCard : Claim7 := { stood := { row := graphMattersRow, standIns := [], harness := (true, "a5aa11c6cade993a6e8562b8dac9106592a546860d1e85b1082549ac68044a3a"), looks := false }, kinds := [], alts := [], laidByText := true, laidKinds := [.data, .data, .data], laidTests := true, laidLooks := .later }
def GraphMattersCardSaid : Prop := Claim7.holds Tryz.pinned (.plain (OpenSpec.ofChange graphMattersSpec)) graphMattersCard

/-- THE TIED CARD OF 'ratchetlaw02.GraphAlways'. -/
def graphAlwaysCard : Claim7 := { stood := { row := graphAlwaysRow, standIns := [], harness := (true, "a5aa11c6cade993a6e8562b8dac9106592a546860d1e85b1082549ac68044a3a"), looks := false }, kinds := [], alts := [], laidByText := true, laidKinds := [.data, .data, .data], laidTests := true, laidLooks := .later }
def GraphAlwaysCardSaid : Prop := Claim7.holds Tryz.pinned (.plain (OpenSpec.ofChange graphAlwaysSpec)) graphAlwaysCard

/-- THE TIED CARD OF 'ratchetlaw02.GraphValues'. -/
def graphValuesCard : Claim7 := { stood := { row := graphValuesRow, standIns := [], harness := (true, "a5aa11c6cade993a6e8562b8dac9106592a546860d1e85b1082549ac68044a3a"), looks := false }, kinds := [], alts := [], laidByText := true, laidKinds := [.data, .data, .data], laidTests := true, laidLooks := .later }
def GraphValuesCardSaid : Prop := Claim7.holds Tryz.pinned (.plain (OpenSpec.ofChange graphValuesSpec)) graphValuesCard

/-- THE TIED CARD OF 'ratchetlaw02.GraphLarger'. -/
def graphLargerCard : Claim7 := { stood := { row := graphLargerRow, standIns := [], harness := (true, "a5aa11c6cade993a6e8562b8dac9106592a546860d1e85b1082549ac68044a3a"), looks := false }, kinds := [], alts := [], laidByText := true, laidKinds := [.data, .data, .data], laidTests := true, laidLooks := .later }
def GraphLargerCardSaid : Prop := Claim7.holds Tryz.pinned (.plain (OpenSpec.ofChange graphLargerSpec)) graphLargerCard

/-- THE TIED CARD OF 'ratchetlaw02.GraphSmaller'. -/
def graphSmallerCard : Claim7 := { stood := { row := graphSmallerRow, standIns := [], harness := (true, "a5aa11c6cade993a6e8562b8dac9106592a546860d1e85b1082549ac68044a3a"), looks := false }, kinds := [], alts := [], laidByText := true, laidKinds := [.data, .data, .data], laidTests := true, laidLooks := .later }
def GraphSmallerCardSaid : Prop := Claim7.holds Tryz.pinned (.plain (OpenSpec.ofChange graphSmallerSpec)) graphSmallerCard

/-- THE SECOND FORM's CARD OF 'ratchetlaw02.GraphErrors'. -/
def graphErrorsUptoCard : Claim7 := { stood := { row := graphErrorsUptoRow, standIns := [], harness := (true, "a5aa11c6cade993a6e8562b8dac9106592a546860d1e85b1082549ac68044a3a"), looks := false }, kinds := [], alts := [], laidByText := true, laidKinds := [.data, .data, .data], laidTests := true, laidLooks := .later }
def GraphErrorsUptoCardSaid : Prop := Claim7.holds Tryz.pinned (.plain (OpenSpec.upto graphErrorsSpec)) graphErrorsUptoCard

/-- THE SECOND FORM's CARD OF 'ratchetlaw02.GraphMatters'. -/
def graphMattersUptoCard : Claim7 := { stood := { row := graphMattersUptoRow, standIns := [], harness := (true, "a5aa11c6cade993a6e8562b8dac9106592a546860d1e85b1082549ac68044a3a"), looks := false }, kinds := [], alts := [], laidByText := true, laidKinds := [.data, .data, .data], laidTests := true, laidLooks := .later }
def GraphMattersUptoCardSaid : Prop := Claim7.holds Tryz.pinned (.plain (OpenSpec.upto graphMattersSpec)) graphMattersUptoCard

/-- THE SECOND FORM's CARD OF 'ratchetlaw02.GraphAlways'. -/
def graphAlwaysUptoCard : Claim7 := { stood := { row := graphAlwaysUptoRow, standIns := [], harness := (true, "a5aa11c6cade993a6e8562b8dac9106592a546860d1e85b1082549ac68044a3a"), looks := false }, kinds := [], alts := [], laidByText := true, laidKinds := [.data, .data, .data], laidTests := true, laidLooks := .later }
def GraphAlwaysUptoCardSaid : Prop := Claim7.holds Tryz.pinned (.plain (OpenSpec.upto graphAlwaysSpec)) graphAlwaysUptoCard

/-- THE SECOND FORM's CARD OF 'ratchetlaw02.GraphValues'. -/
def graphValuesUptoCard : Claim7 := { stood := { row := graphValuesUptoRow, standIns := [], harness := (true, "a5aa11c6cade993a6e8562b8dac9106592a546860d1e85b1082549ac68044a3a"), looks := false }, kinds := [], alts := [], laidByText := true, laidKinds := [.data, .data, .data], laidTests := true, laidLooks := .later }
def GraphValuesUptoCardSaid : Prop := Claim7.holds Tryz.pinned (.plain (OpenSpec.upto graphValuesSpec)) graphValuesUptoCard

/-- THE SECOND FORM's CARD OF 'ratchetlaw02.GraphLarger'. -/
def graphLargerUptoCard : Claim7 := { stood := { row := graphLargerUptoRow, standIns := [], harness := (true, "a5aa11c6cade993a6e8562b8dac9106592a546860d1e85b1082549ac68044a3a"), looks := false }, kinds := [], alts := [], laidByText := true, laidKinds := [.data, .data, .data], laidTests := true, laidLooks := .later }
def GraphLargerUptoCardSaid : Prop := Claim7.holds Tryz.pinned (.plain (OpenSpec.upto graphLargerSpec)) graphLargerUptoCard

/-- THE SECOND FORM's CARD OF 'ratchetlaw02.GraphSmaller'. -/
def graphSmallerUptoCard : Claim7 := { stood := { row := graphSmallerUptoRow, standIns := [], harness := (true, "a5aa11c6cade993a6e8562b8dac9106592a546860d1e85b1082549ac68044a3a"), looks := false }, kinds := [], alts := [], laidByText := true, laidKinds := [.data, .data, .data], laidTests := true, laidLooks := .later }
def GraphSmallerUptoCardSaid : Prop := Claim7.holds Tryz.pinned (.plain (OpenSpec.upto graphSmallerSpec)) graphSmallerUptoCard
end Rows
end Go.Proofs.YtglelclmlkeheaaGreatDoor
