/-
  DERIVED. GIVEN WITH THE SEED: THE CARDS: each row of YtbpiibdcncfphaaGreatDoorRows.lean that lists a variable, with what it lists TIED to the program's text (the seventh form; the later family's looks); each row that meets fmt, with fmt's text TOLD by the authors' own Lean function (tested against real Go, not proved from fmt's source: count such statements apart). THE CARD IS WHAT COUNTS. Prove the row's statement (the work); the ties are given (YtbpiibdcncfphaaGreatDoorTie.lean); close each card by the builder's one call (the guide's Derived/Test/ToyasCard.lean, 'card_holds'). Laid BY PROGRAM, IN A SANDBOX (cutbox-door.mjs). By AI agents, Wed Nov 11 2026. No macro, syntax, notation, axiom, sorry.
-/
import Derived.Test.YtbpiibdcncfphaaGreatDoorRows
import GoSem.ClaimSeven
namespace Go.Proofs.YtbpiibdcncfphaaGreatDoor
namespace Rows

/-- THE TIED CARD OF 'ceroplastlaw02.WaxPours'. -/
def waxPoursCard : Claim7 := { stood := { row := waxPoursRow, standIns := [], harness := (true, "979aec855978d8e7b84e04980b9b10f4961cc55457b6d304b0473a19fa6dd18e"), looks := false }, kinds := [], alts := [], laidByText := true, laidKinds := [.data, .data], laidTests := true, laidLooks := .later }
def WaxPoursCardSaid : Prop := Claim7.holds Tryz.pinned (.plain (OpenSpec.ofChange waxPoursSpec)) waxPoursCard

/-- THE TIED CARD OF 'ceroplastlaw02.WaxLacks'. -/
def waxLacksCard : Claim7 := { stood := { row := waxLacksRow, standIns := [], harness := (true, "979aec855978d8e7b84e04980b9b10f4961cc55457b6d304b0473a19fa6dd18e"), looks := false }, kinds := [], alts := [], laidByText := true, laidKinds := [.data, .data], laidTests := true, laidLooks := .later }
def WaxLacksCardSaid : Prop := Claim7.holds Tryz.pinned (.plain (OpenSpec.ofChange waxLacksSpec)) waxLacksCard

/-- THE TIED CARD OF 'ceroplastlaw02.WaxFaded'. -/
def waxFadedCard : Claim7 := { stood := { row := waxFadedRow, standIns := [], harness := (true, "979aec855978d8e7b84e04980b9b10f4961cc55457b6d304b0473a19fa6dd18e"), looks := false }, kinds := [], alts := [], laidByText := true, laidKinds := [.data, .data], laidTests := true, laidLooks := .later }
def WaxFadedCardSaid : Prop := Claim7.holds Tryz.pinned (.plain (OpenSpec.ofChange waxFadedSpec)) waxFadedCard

/-- THE SECOND FORM's CARD OF 'ceroplastlaw02.WaxPours'. -/
def waxPoursUptoCard : Claim7 := { stood := { row := waxPoursUptoRow, standIns := [], harness := (true, "979aec855978d8e7b84e04980b9b10f4961cc55457b6d304b0473a19fa6dd18e"), looks := false }, kinds := [], alts := [], laidByText := true, laidKinds := [.data, .data], laidTests := true, laidLooks := .later }
def WaxPoursUptoCardSaid : Prop := Claim7.holds Tryz.pinned (.plain (OpenSpec.upto waxPoursSpec)) waxPoursUptoCard

/-- THE SECOND FORM's CARD OF 'ceroplastlaw02.WaxLacks'. -/
def waxLacksUptoCard : Claim7 := { stood := { row := waxLacksUptoRow, standIns := [], harness := (true, "979aec855978d8e7b84e04980b9b10f4961cc55457b6d304b0473a19fa6dd18e"), looks := false }, kinds := [], alts := [], laidByText := true, laidKinds := [.data, .data], laidTests := true, laidLooks := .later }
def WaxLacksUptoCardSaid : Prop := Claim7.holds Tryz.pinned (.plain (OpenSpec.upto waxLacksSpec)) waxLacksUptoCard

/-- THE SECOND FORM's CARD OF 'ceroplastlaw02.WaxFaded'. -/
def waxFadedUptoCard : Claim7 := { stood := { row := waxFadedUptoRow, standIns := [], harness := (true, "979aec855978d8e7b84e04980b9b10f4961cc55457b6d304b0473a19fa6dd18e"), looks := false }, kinds := [], alts := [], laidByText := true, laidKinds := [.data, .data], laidTests := true, laidLooks := .later }
def WaxFadedUptoCardSaid : Prop := Claim7.holds Tryz.pinned (.plain (OpenSpec.upto waxFadedSpec)) waxFadedUptoCard
end Rows
end Go.Proofs.YtbpiibdcncfphaaGreatDoor
