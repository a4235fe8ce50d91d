/-
  DERIVED. GIVEN WITH THE SEED: THE CARDS: each row of YtgncapdjheghfaaDoorRows.lean that lists a variable, with what it lists TIED to the program's text (the seventh form; the later family's looks); each row that meets fmt, with fmt's text TOLD by the authors' own Lean function (tested against real Go, not proved from fmt's source: count such statements apart). THE CARD IS WHAT COUNTS. Prove the row's statement (the work); the ties are given (YtgncapdjheghfaaDoorTie.lean); close each card by the builder's one call (the guide's Derived/Test/ToyasCard.lean, 'card_holds'). Laid BY PROGRAM, IN A SANDBOX (cutbox-door.mjs). By AI agents, Wed Nov 11 2026. No macro, syntax, notation, axiom, sorry.
-/
import Derived.Test.YtgncapdjheghfaaDoorRows
import GoSem.ClaimSeven
namespace Go.Proofs.YtgncapdjheghfaaDoor
namespace Rows

/-- THE TIED CARD OF 'ceroplastlaw07.BillKnown'. -/
def billKnownCard : Claim7 := { stood := { row := billKnownRow, standIns := [], harness := (true, "6b762312da0d7df3a533df884a6fbd7df2ddf4b0d1662be804dec7be5134c926"), looks := false }, kinds := [], alts := [], laidByText := true, laidKinds := [.data, .data, .data], laidTests := true, laidLooks := .later }
def BillKnownCardSaid : Prop := Claim7.holds Tryd.pinned (.plain (OpenSpec.ofChange billKnownSpec)) billKnownCard

/-- THE SECOND FORM's CARD OF 'ceroplastlaw07.BillKnown'. -/
def billKnownUptoCard : Claim7 := { stood := { row := billKnownUptoRow, standIns := [], harness := (true, "6b762312da0d7df3a533df884a6fbd7df2ddf4b0d1662be804dec7be5134c926"), looks := false }, kinds := [], alts := [], laidByText := true, laidKinds := [.data, .data, .data], laidTests := true, laidLooks := .later }
def BillKnownUptoCardSaid : Prop := Claim7.holds Tryd.pinned (.plain (OpenSpec.upto billKnownSpec)) billKnownUptoCard
end Rows
end Go.Proofs.YtgncapdjheghfaaDoor
