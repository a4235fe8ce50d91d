/-
  DERIVED. GIVEN WITH THE SEED: THE CARDS: each row of YtgncapdjheghfaaGreatDoorRows.lean that lists a variable, with what it lists TIED to the program's text (the seventh form; the later family's looks); each row that meets fmt, with fmt's text TOLD by the authors' own Lean function (tested against real Go, not proved from fmt's source: count such statements apart). THE CARD IS WHAT COUNTS. Prove the row's statement (the work); the ties are given (YtgncapdjheghfaaGreatDoorTie.lean); close each card by the builder's one call (the guide's Derived/Test/ToyasCard.lean, 'card_holds'). Laid BY PROGRAM, IN A SANDBOX (cutbox-door.mjs). By AI agents, Wed Nov 11 2026. No macro, syntax, notation, axiom, sorry.
-/
import Derived.Test.YtgncapdjheghfaaGreatDoorRows
import GoSem.ClaimSeven
namespace Go.Proofs.YtgncapdjheghfaaGreatDoor
namespace Rows

/-- THE TIED CARD OF 'ceroplastlaw07.BillTrue'. -/
def billTrueCard : Claim7 := { stood := { row := billTrueRow, standIns := [], harness := (true, "7f261a64423068cce11a3825df417d1c131f3b865937518a0fc615670291e746"), looks := false }, kinds := [], alts := [], laidByText := true, laidKinds := [.data, .data, .data], laidTests := true, laidLooks := .later }
def BillTrueCardSaid : Prop := Claim7.holds Tryz.pinned (.plain (OpenSpec.ofChange billTrueSpec)) billTrueCard

/-- THE TIED CARD OF 'ceroplastlaw07.BillBest'. -/
def billBestCard : Claim7 := { stood := { row := billBestRow, standIns := [], harness := (true, "7f261a64423068cce11a3825df417d1c131f3b865937518a0fc615670291e746"), looks := false }, kinds := [], alts := [], laidByText := true, laidKinds := [.data, .data, .data], laidTests := true, laidLooks := .later }
def BillBestCardSaid : Prop := Claim7.holds Tryz.pinned (.plain (OpenSpec.ofChange billBestSpec)) billBestCard

/-- THE TIED CARD OF 'ceroplastlaw07.BillPages'. -/
def billPagesCard : Claim7 := { stood := { row := billPagesRow, standIns := [], harness := (true, "7f261a64423068cce11a3825df417d1c131f3b865937518a0fc615670291e746"), looks := false }, kinds := [], alts := [], laidByText := true, laidKinds := [.data, .data, .data], laidTests := true, laidLooks := .later }
def BillPagesCardSaid : Prop := Claim7.holds Tryz.pinned (.plain (OpenSpec.ofChange billPagesSpec)) billPagesCard

/-- THE TIED CARD OF 'ceroplastlaw07.BillTexts'. -/
def billTextsCard : Claim7 := { stood := { row := billTextsRow, standIns := [], harness := (true, "7f261a64423068cce11a3825df417d1c131f3b865937518a0fc615670291e746"), looks := false }, kinds := [], alts := [], laidByText := true, laidKinds := [.data, .data, .data], laidTests := true, laidLooks := .later }
def BillTextsCardSaid : Prop := Claim7.holds Tryz.pinned (.plain (OpenSpec.ofChange billTextsSpec)) billTextsCard

/-- THE TIED CARD OF 'ceroplastlaw07.BillSlips'. -/
def billSlipsCard : Claim7 := { stood := { row := billSlipsRow, standIns := [], harness := (true, "7f261a64423068cce11a3825df417d1c131f3b865937518a0fc615670291e746"), looks := false }, kinds := [], alts := [], laidByText := true, laidKinds := [.data, .data, .data], laidTests := true, laidLooks := .later }
def BillSlipsCardSaid : Prop := Claim7.holds Tryz.pinned (.plain (OpenSpec.ofChange billSlipsSpec)) billSlipsCard

/-- THE TIED CARD OF 'ceroplastlaw07.BillHolds'. -/
def billHoldsCard : Claim7 := { stood := { row := billHoldsRow, standIns := [], harness := (true, "7f261a64423068cce11a3825df417d1c131f3b865937518a0fc615670291e746"), looks := false }, kinds := [], alts := [], laidByText := true, laidKinds := [.data, .data, .data], laidTests := true, laidLooks := .later }
def BillHoldsCardSaid : Prop := Claim7.holds Tryz.pinned (.plain (OpenSpec.ofChange billHoldsSpec)) billHoldsCard

/-- THE TIED CARD OF 'ceroplastlaw07.BillFewest'. -/
def billFewestCard : Claim7 := { stood := { row := billFewestRow, standIns := [], harness := (true, "7f261a64423068cce11a3825df417d1c131f3b865937518a0fc615670291e746"), looks := false }, kinds := [], alts := [], laidByText := true, laidKinds := [.data, .data, .data], laidTests := true, laidLooks := .later }
def BillFewestCardSaid : Prop := Claim7.holds Tryz.pinned (.plain (OpenSpec.ofChange billFewestSpec)) billFewestCard

/-- THE TIED CARD OF 'ceroplastlaw07.BillWhite'. -/
def billWhiteCard : Claim7 := { stood := { row := billWhiteRow, standIns := [], harness := (true, "7f261a64423068cce11a3825df417d1c131f3b865937518a0fc615670291e746"), looks := false }, kinds := [], alts := [], laidByText := true, laidKinds := [.data, .data, .data], laidTests := true, laidLooks := .later }
def BillWhiteCardSaid : Prop := Claim7.holds Tryz.pinned (.plain (OpenSpec.ofChange billWhiteSpec)) billWhiteCard

/-- THE TIED CARD OF 'ceroplastlaw07.BillRound'. -/
def billRoundCard : Claim7 := { stood := { row := billRoundRow, standIns := [], harness := (true, "7f261a64423068cce11a3825df417d1c131f3b865937518a0fc615670291e746"), looks := false }, kinds := [], alts := [], laidByText := true, laidKinds := [.data, .data, .data], laidTests := true, laidLooks := .later }
def BillRoundCardSaid : Prop := Claim7.holds Tryz.pinned (.plain (OpenSpec.ofChange billRoundSpec)) billRoundCard

/-- THE TIED CARD OF 'ceroplastlaw07.BillSlip'. -/
def billSlipCard : Claim7 := { stood := { row := billSlipRow, standIns := [], harness := (true, "7f261a64423068cce11a3825df417d1c131f3b865937518a0fc615670291e746"), looks := false }, kinds := [], alts := [], laidByText := true, laidKinds := [.data, .data, .data], laidTests := true, laidLooks := .later }
def BillSlipCardSaid : Prop := Claim7.holds Tryz.pinned (.plain (OpenSpec.ofChange billSlipSpec)) billSlipCard

/-- THE TIED CARD OF 'ceroplastlaw07.BillSurely'. -/
def billSurelyCard : Claim7 := { stood := { row := billSurelyRow, standIns := [], harness := (true, "7f261a64423068cce11a3825df417d1c131f3b865937518a0fc615670291e746"), looks := false }, kinds := [], alts := [], laidByText := true, laidKinds := [.data, .data, .data], laidTests := true, laidLooks := .later }
def BillSurelyCardSaid : Prop := Claim7.holds Tryz.pinned (.plain (OpenSpec.ofChange billSurelySpec)) billSurelyCard

/-- THE TIED CARD OF 'ceroplastlaw07.BillOrder'. -/
def billOrderCard : Claim7 := { stood := { row := billOrderRow, standIns := [], harness := (true, "7f261a64423068cce11a3825df417d1c131f3b865937518a0fc615670291e746"), looks := false }, kinds := [], alts := [], laidByText := true, laidKinds := [.data, .data, .data], laidTests := true, laidLooks := .later }
def BillOrderCardSaid : Prop := Claim7.holds Tryz.pinned (.plain (OpenSpec.ofChange billOrderSpec)) billOrderCard

/-- THE SECOND FORM's CARD OF 'ceroplastlaw07.BillTrue'. -/
def billTrueUptoCard : Claim7 := { stood := { row := billTrueUptoRow, standIns := [], harness := (true, "7f261a64423068cce11a3825df417d1c131f3b865937518a0fc615670291e746"), looks := false }, kinds := [], alts := [], laidByText := true, laidKinds := [.data, .data, .data], laidTests := true, laidLooks := .later }
def BillTrueUptoCardSaid : Prop := Claim7.holds Tryz.pinned (.plain (OpenSpec.upto billTrueSpec)) billTrueUptoCard

/-- THE SECOND FORM's CARD OF 'ceroplastlaw07.BillBest'. -/
def billBestUptoCard : Claim7 := { stood := { row := billBestUptoRow, standIns := [], harness := (true, "7f261a64423068cce11a3825df417d1c131f3b865937518a0fc615670291e746"), looks := false }, kinds := [], alts := [], laidByText := true, laidKinds := [.data, .data, .data], laidTests := true, laidLooks := .later }
def BillBestUptoCardSaid : Prop := Claim7.holds Tryz.pinned (.plain (OpenSpec.upto billBestSpec)) billBestUptoCard

/-- THE SECOND FORM's CARD OF 'ceroplastlaw07.BillPages'. -/
def billPagesUptoCard : Claim7 := { stood := { row := billPagesUptoRow, standIns := [], harness := (true, "7f261a64423068cce11a3825df417d1c131f3b865937518a0fc615670291e746"), looks := false }, kinds := [], alts := [], laidByText := true, laidKinds := [.data, .data, .data], laidTests := true, laidLooks := .later }
def BillPagesUptoCardSaid : Prop := Claim7.holds Tryz.pinned (.plain (OpenSpec.upto billPagesSpec)) billPagesUptoCard

/-- THE SECOND FORM's CARD OF 'ceroplastlaw07.BillTexts'. -/
def billTextsUptoCard : Claim7 := { stood := { row := billTextsUptoRow, standIns := [], harness := (true, "7f261a64423068cce11a3825df417d1c131f3b865937518a0fc615670291e746"), looks := false }, kinds := [], alts := [], laidByText := true, laidKinds := [.data, .data, .data], laidTests := true, laidLooks := .later }
def BillTextsUptoCardSaid : Prop := Claim7.holds Tryz.pinned (.plain (OpenSpec.upto billTextsSpec)) billTextsUptoCard

/-- THE SECOND FORM's CARD OF 'ceroplastlaw07.BillSlips'. -/
def billSlipsUptoCard : Claim7 := { stood := { row := billSlipsUptoRow, standIns := [], harness := (true, "7f261a64423068cce11a3825df417d1c131f3b865937518a0fc615670291e746"), looks := false }, kinds := [], alts := [], laidByText := true, laidKinds := [.data, .data, .data], laidTests := true, laidLooks := .later }
def BillSlipsUptoCardSaid : Prop := Claim7.holds Tryz.pinned (.plain (OpenSpec.upto billSlipsSpec)) billSlipsUptoCard

/-- THE SECOND FORM's CARD OF 'ceroplastlaw07.BillHolds'. -/
def billHoldsUptoCard : Claim7 := { stood := { row := billHoldsUptoRow, standIns := [], harness := (true, "7f261a64423068cce11a3825df417d1c131f3b865937518a0fc615670291e746"), looks := false }, kinds := [], alts := [], laidByText := true, laidKinds := [.data, .data, .data], laidTests := true, laidLooks := .later }
def BillHoldsUptoCardSaid : Prop := Claim7.holds Tryz.pinned (.plain (OpenSpec.upto billHoldsSpec)) billHoldsUptoCard

/-- THE SECOND FORM's CARD OF 'ceroplastlaw07.BillFewest'. -/
def billFewestUptoCard : Claim7 := { stood := { row := billFewestUptoRow, standIns := [], harness := (true, "7f261a64423068cce11a3825df417d1c131f3b865937518a0fc615670291e746"), looks := false }, kinds := [], alts := [], laidByText := true, laidKinds := [.data, .data, .data], laidTests := true, laidLooks := .later }
def BillFewestUptoCardSaid : Prop := Claim7.holds Tryz.pinned (.plain (OpenSpec.upto billFewestSpec)) billFewestUptoCard

/-- THE SECOND FORM's CARD OF 'ceroplastlaw07.BillWhite'. -/
def billWhiteUptoCard : Claim7 := { stood := { row := billWhiteUptoRow, standIns := [], harness := (true, "7f261a64423068cce11a3825df417d1c131f3b865937518a0fc615670291e746"), looks := false }, kinds := [], alts := [], laidByText := true, laidKinds := [.data, .data, .data], laidTests := true, laidLooks := .later }
def BillWhiteUptoCardSaid : Prop := Claim7.holds Tryz.pinned (.plain (OpenSpec.upto billWhiteSpec)) billWhiteUptoCard

/-- THE SECOND FORM's CARD OF 'ceroplastlaw07.BillRound'. -/
def billRoundUptoCard : Claim7 := { stood := { row := billRoundUptoRow, standIns := [], harness := (true, "7f261a64423068cce11a3825df417d1c131f3b865937518a0fc615670291e746"), looks := false }, kinds := [], alts := [], laidByText := true, laidKinds := [.data, .data, .data], laidTests := true, laidLooks := .later }
def BillRoundUptoCardSaid : Prop := Claim7.holds Tryz.pinned (.plain (OpenSpec.upto billRoundSpec)) billRoundUptoCard

/-- THE SECOND FORM's CARD OF 'ceroplastlaw07.BillSlip'. -/
def billSlipUptoCard : Claim7 := { stood := { row := billSlipUptoRow, standIns := [], harness := (true, "7f261a64423068cce11a3825df417d1c131f3b865937518a0fc615670291e746"), looks := false }, kinds := [], alts := [], laidByText := true, laidKinds := [.data, .data, .data], laidTests := true, laidLooks := .later }
def BillSlipUptoCardSaid : Prop := Claim7.holds Tryz.pinned (.plain (OpenSpec.upto billSlipSpec)) billSlipUptoCard

/-- THE SECOND FORM's CARD OF 'ceroplastlaw07.BillSurely'. -/
def billSurelyUptoCard : Claim7 := { stood := { row := billSurelyUptoRow, standIns := [], harness := (true, "7f261a64423068cce11a3825df417d1c131f3b865937518a0fc615670291e746"), looks := false }, kinds := [], alts := [], laidByText := true, laidKinds := [.data, .data, .data], laidTests := true, laidLooks := .later }
def BillSurelyUptoCardSaid : Prop := Claim7.holds Tryz.pinned (.plain (OpenSpec.upto billSurelySpec)) billSurelyUptoCard

/-- THE SECOND FORM's CARD OF 'ceroplastlaw07.BillOrder'. -/
def billOrderUptoCard : Claim7 := { stood := { row := billOrderUptoRow, standIns := [], harness := (true, "7f261a64423068cce11a3825df417d1c131f3b865937518a0fc615670291e746"), looks := false }, kinds := [], alts := [], laidByText := true, laidKinds := [.data, .data, .data], laidTests := true, laidLooks := .later }
def BillOrderUptoCardSaid : Prop := Claim7.holds Tryz.pinned (.plain (OpenSpec.upto billOrderSpec)) billOrderUptoCard
end Rows
end Go.Proofs.YtgncapdjheghfaaGreatDoor
