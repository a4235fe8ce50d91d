/-
  DERIVED. GIVEN WITH THE SEED: THE CARDS: each row of YtbpiibdcncfphaaDoorRows.lean that lists a variable, with what it lists TIED to the program's text (the seventh form; the later family's looks); each row that meets fmt, with fmt's text TOLD by the authors' own Lean function (tested against real Go, not proved from fmt's source: count such statements apart). THE CARD IS WHAT COUNTS. Prove the row's statement (the work); the ties are given (YtbpiibdcncfphaaDoorTie.lean); close each card by the builder's one call (the guide's Derived/Test/ToyasCard.lean, 'card_holds'). Laid BY PROGRAM, IN A SANDBOX (cutbox-door.mjs). By AI agents, Wed Nov 11 2026. No macro, syntax, notation, axiom, sorry.
-/
import Derived.Test.YtbpiibdcncfphaaDoorRows
import GoSem.ClaimSeven
namespace Go.Proofs.YtbpiibdcncfphaaDoor
namespace Rows

/-- THE TIED CARD OF 'ceroplastlaw02.WaxMelts'. -/
def waxMeltsCard : Claim7 := { stood := { row := waxMeltsRow, standIns := [], harness := (true, "35f8aef721b7c581a8ba9aebe8feddca2f749c55aa777739bf6ad661faad2302"), looks := false }, kinds := [], alts := [], laidByText := true, laidKinds := [.data, .data], laidTests := true, laidLooks := .later }
def WaxMeltsCardSaid : Prop := Claim7.holds Tryd.pinned (.plain (OpenSpec.ofChange waxMeltsSpec)) waxMeltsCard

/-- THE TIED CARD OF 'ceroplastlaw02.WaxSuits'. -/
def waxSuitsCard : Claim7 := { stood := { row := waxSuitsRow, standIns := [], harness := (true, "35f8aef721b7c581a8ba9aebe8feddca2f749c55aa777739bf6ad661faad2302"), looks := false }, kinds := [], alts := [], laidByText := true, laidKinds := [.data, .data], laidTests := true, laidLooks := .later }
def WaxSuitsCardSaid : Prop := Claim7.holds Tryd.pinned (.plain (OpenSpec.ofChange waxSuitsSpec)) waxSuitsCard

/-- THE TIED CARD OF 'ceroplastlaw02.WaxKnown'. -/
def waxKnownCard : Claim7 := { stood := { row := waxKnownRow, standIns := [], harness := (true, "35f8aef721b7c581a8ba9aebe8feddca2f749c55aa777739bf6ad661faad2302"), looks := false }, kinds := [], alts := [], laidByText := true, laidKinds := [.data, .data], laidTests := true, laidLooks := .later }
def WaxKnownCardSaid : Prop := Claim7.holds Tryd.pinned (.plain (OpenSpec.ofChange waxKnownSpec)) waxKnownCard

/-- THE TIED CARD OF 'ceroplastlaw02.WaxPoured'. -/
def waxPouredCard : Claim7 := { stood := { row := waxPouredRow, standIns := [], harness := (true, "35f8aef721b7c581a8ba9aebe8feddca2f749c55aa777739bf6ad661faad2302"), looks := false }, kinds := [], alts := [], laidByText := true, laidKinds := [.data, .data], laidTests := true, laidLooks := .later }
def WaxPouredCardSaid : Prop := Claim7.holds Tryd.pinned (.plain (OpenSpec.ofChange waxPouredSpec)) waxPouredCard

/-- THE TIED CARD OF 'ceroplastlaw02.WaxMust'. -/
def waxMustCard : Claim7 := { stood := { row := waxMustRow, standIns := [], harness := (true, "35f8aef721b7c581a8ba9aebe8feddca2f749c55aa777739bf6ad661faad2302"), looks := false }, kinds := [], alts := [], laidByText := true, laidKinds := [.data, .data], laidTests := true, laidLooks := .later }
def WaxMustCardSaid : Prop := Claim7.holds Tryd.pinned (.plain (OpenSpec.ofChange waxMustSpec)) waxMustCard

/-- THE TIED CARD OF 'ceroplastlaw02.WaxLost'. -/
def waxLostCard : Claim7 := { stood := { row := waxLostRow, standIns := [], harness := (true, "35f8aef721b7c581a8ba9aebe8feddca2f749c55aa777739bf6ad661faad2302"), looks := false }, kinds := [], alts := [], laidByText := true, laidKinds := [.data, .data], laidTests := true, laidLooks := .later }
def WaxLostCardSaid : Prop := Claim7.holds Tryd.pinned (.plain (OpenSpec.ofChange waxLostSpec)) waxLostCard

/-- THE TIED CARD OF 'ceroplastlaw02.WaxLacking'. -/
def waxLackingCard : Claim7 := { stood := { row := waxLackingRow, standIns := [], harness := (true, "35f8aef721b7c581a8ba9aebe8feddca2f749c55aa777739bf6ad661faad2302"), looks := false }, kinds := [], alts := [], laidByText := true, laidKinds := [.data, .data], laidTests := true, laidLooks := .later }
def WaxLackingCardSaid : Prop := Claim7.holds Tryd.pinned (.plain (OpenSpec.ofChange waxLackingSpec)) waxLackingCard

/-- THE TIED CARD OF 'ceroplastlaw02.WaxMore'. -/
def waxMoreCard : Claim7 := { stood := { row := waxMoreRow, standIns := [], harness := (true, "35f8aef721b7c581a8ba9aebe8feddca2f749c55aa777739bf6ad661faad2302"), looks := false }, kinds := [], alts := [], laidByText := true, laidKinds := [.data, .data], laidTests := true, laidLooks := .later }
def WaxMoreCardSaid : Prop := Claim7.holds Tryd.pinned (.plain (OpenSpec.ofChange waxMoreSpec)) waxMoreCard

/-- THE TIED CARD OF 'ceroplastlaw02.WaxOrder'. -/
def waxOrderCard : Claim7 := { stood := { row := waxOrderRow, standIns := [], harness := (true, "35f8aef721b7c581a8ba9aebe8feddca2f749c55aa777739bf6ad661faad2302"), looks := false }, kinds := [], alts := [], laidByText := true, laidKinds := [.data, .data], laidTests := true, laidLooks := .later }
def WaxOrderCardSaid : Prop := Claim7.holds Tryd.pinned (.plain (OpenSpec.ofChange waxOrderSpec)) waxOrderCard

/-- THE SECOND FORM's CARD OF 'ceroplastlaw02.WaxMelts'. -/
def waxMeltsUptoCard : Claim7 := { stood := { row := waxMeltsUptoRow, standIns := [], harness := (true, "35f8aef721b7c581a8ba9aebe8feddca2f749c55aa777739bf6ad661faad2302"), looks := false }, kinds := [], alts := [], laidByText := true, laidKinds := [.data, .data], laidTests := true, laidLooks := .later }
def WaxMeltsUptoCardSaid : Prop := Claim7.holds Tryd.pinned (.plain (OpenSpec.upto waxMeltsSpec)) waxMeltsUptoCard

/-- THE SECOND FORM's CARD OF 'ceroplastlaw02.WaxSuits'. -/
def waxSuitsUptoCard : Claim7 := { stood := { row := waxSuitsUptoRow, standIns := [], harness := (true, "35f8aef721b7c581a8ba9aebe8feddca2f749c55aa777739bf6ad661faad2302"), looks := false }, kinds := [], alts := [], laidByText := true, laidKinds := [.data, .data], laidTests := true, laidLooks := .later }
def WaxSuitsUptoCardSaid : Prop := Claim7.holds Tryd.pinned (.plain (OpenSpec.upto waxSuitsSpec)) waxSuitsUptoCard

/-- THE SECOND FORM's CARD OF 'ceroplastlaw02.WaxKnown'. -/
def waxKnownUptoCard : Claim7 := { stood := { row := waxKnownUptoRow, standIns := [], harness := (true, "35f8aef721b7c581a8ba9aebe8feddca2f749c55aa777739bf6ad661faad2302"), looks := false }, kinds := [], alts := [], laidByText := true, laidKinds := [.data, .data], laidTests := true, laidLooks := .later }
def WaxKnownUptoCardSaid : Prop := Claim7.holds Tryd.pinned (.plain (OpenSpec.upto waxKnownSpec)) waxKnownUptoCard

/-- THE SECOND FORM's CARD OF 'ceroplastlaw02.WaxPoured'. -/
def waxPouredUptoCard : Claim7 := { stood := { row := waxPouredUptoRow, standIns := [], harness := (true, "35f8aef721b7c581a8ba9aebe8feddca2f749c55aa777739bf6ad661faad2302"), looks := false }, kinds := [], alts := [], laidByText := true, laidKinds := [.data, .data], laidTests := true, laidLooks := .later }
def WaxPouredUptoCardSaid : Prop := Claim7.holds Tryd.pinned (.plain (OpenSpec.upto waxPouredSpec)) waxPouredUptoCard

/-- THE SECOND FORM's CARD OF 'ceroplastlaw02.WaxMust'. -/
def waxMustUptoCard : Claim7 := { stood := { row := waxMustUptoRow, standIns := [], harness := (true, "35f8aef721b7c581a8ba9aebe8feddca2f749c55aa777739bf6ad661faad2302"), looks := false }, kinds := [], alts := [], laidByText := true, laidKinds := [.data, .data], laidTests := true, laidLooks := .later }
def WaxMustUptoCardSaid : Prop := Claim7.holds Tryd.pinned (.plain (OpenSpec.upto waxMustSpec)) waxMustUptoCard

/-- THE SECOND FORM's CARD OF 'ceroplastlaw02.WaxLost'. -/
def waxLostUptoCard : Claim7 := { stood := { row := waxLostUptoRow, standIns := [], harness := (true, "35f8aef721b7c581a8ba9aebe8feddca2f749c55aa777739bf6ad661faad2302"), looks := false }, kinds := [], alts := [], laidByText := true, laidKinds := [.data, .data], laidTests := true, laidLooks := .later }
def WaxLostUptoCardSaid : Prop := Claim7.holds Tryd.pinned (.plain (OpenSpec.upto waxLostSpec)) waxLostUptoCard

/-- THE SECOND FORM's CARD OF 'ceroplastlaw02.WaxLacking'. -/
def waxLackingUptoCard : Claim7 := { stood := { row := waxLackingUptoRow, standIns := [], harness := (true, "35f8aef721b7c581a8ba9aebe8feddca2f749c55aa777739bf6ad661faad2302"), looks := false }, kinds := [], alts := [], laidByText := true, laidKinds := [.data, .data], laidTests := true, laidLooks := .later }
def WaxLackingUptoCardSaid : Prop := Claim7.holds Tryd.pinned (.plain (OpenSpec.upto waxLackingSpec)) waxLackingUptoCard

/-- THE SECOND FORM's CARD OF 'ceroplastlaw02.WaxMore'. -/
def waxMoreUptoCard : Claim7 := { stood := { row := waxMoreUptoRow, standIns := [], harness := (true, "35f8aef721b7c581a8ba9aebe8feddca2f749c55aa777739bf6ad661faad2302"), looks := false }, kinds := [], alts := [], laidByText := true, laidKinds := [.data, .data], laidTests := true, laidLooks := .later }
def WaxMoreUptoCardSaid : Prop := Claim7.holds Tryd.pinned (.plain (OpenSpec.upto waxMoreSpec)) waxMoreUptoCard

/-- THE SECOND FORM's CARD OF 'ceroplastlaw02.WaxOrder'. -/
def waxOrderUptoCard : Claim7 := { stood := { row := waxOrderUptoRow, standIns := [], harness := (true, "35f8aef721b7c581a8ba9aebe8feddca2f749c55aa777739bf6ad661faad2302"), looks := false }, kinds := [], alts := [], laidByText := true, laidKinds := [.data, .data], laidTests := true, laidLooks := .later }
def WaxOrderUptoCardSaid : Prop := Claim7.holds Tryd.pinned (.plain (OpenSpec.upto waxOrderSpec)) waxOrderUptoCard
end Rows
end Go.Proofs.YtbpiibdcncfphaaDoor
