/-
  NARROWER THAN 'FOR EVERY INPUT', by the rows' own cells (each row's printed sentence says how): WaxMelts: laid · WaxSuits: laid · WaxKnown: laid · WaxPoured: laid · WaxMust: laid · WaxLost: laid · WaxLacking: laid · WaxMore: laid · WaxOrder: laid.
  DERIVED. THE GIVEN ROWS OF THIS SEAT. 9 by the template 'for every input the law returns true; each argument reads behind the call as it read before'; 0 by the template 'total and deterministic' (their statements: YtbpiibdcncfphaaDoorTotals.lean).
  GIVEN WITH THE SEED: the statements are not yours to turn. If you find one false, say at which input.
  Laid BY PROGRAM, IN A SANDBOX (cutbox-rows.mjs): the forced cells as the released guide's own fill.sh prints them over the translation 3d46ca0fed9d5445… (all of the seat's roots in one cut). By AI agents, Wed Nov 11 2026. No macro, syntax, notation, axiom, sorry.
-/
import Derived.Test.YtbpiibdcncfphaaDoorChecked
import GoSem.Claim
import GoSem.ClaimJoined
import GoSem.ClaimMapViews
import Derived.JoinedTies
import Derived.KernelRfl
namespace Go.Proofs.YtbpiibdcncfphaaDoor
/- THE CELL 'sum', in the pinned program and in every row, IS THE sha256 OF THE DUMP (.gsa) THAT YtbpiibdcncfphaaDoorProg.lean LOADS. Nothing in Lean hashes anything: it is a label: what it is worth is what the hold of that sum in a sandbox is worth. -/
noncomputable def Tryd.pinned : Pinned := { name := "ytbpiibdcncfphaadoor", sum := "3d46ca0fed9d5445b3067adea3ad28c5a9e3e442205f5b417361eb2749774341", checked := Tryd.checked }
namespace Rows
def none {H : Type} : Left H := { results := [], args := [] }

/- WHAT THE LISTED PACKAGE-LEVEL VARIABLES READ AS WHEN THE CALL BEGINS. Each datum BY PROGRAM (the guide's laid-datum.mjs) off the statement by which the dump's own 'gosem.cut.vars' lays the variable. In a bare row this is a premise. The card (YtbpiibdcncfphaaDoorCards.lean) ties it to the program's text. -/
def laid_math_bits_deBruijn32tab {H : Type} : DataW H := .agg [.lit (.int .u8 0), .lit (.int .u8 1), .lit (.int .u8 28), .lit (.int .u8 2), .lit (.int .u8 29), .lit (.int .u8 14), .lit (.int .u8 24), .lit (.int .u8 3), .lit (.int .u8 30), .lit (.int .u8 22), .lit (.int .u8 20), .lit (.int .u8 15), .lit (.int .u8 25), .lit (.int .u8 17), .lit (.int .u8 4), .lit (.int .u8 8), .lit (.int .u8 31), .lit (.int .u8 27), .lit (.int .u8 13), .lit (.int .u8 23), .lit (.int .u8 21), .lit (.int .u8 19), .lit (.int .u8 16), .lit (.int .u8 7), .lit (.int .u8 26), .lit (.int .u8 12), .lit (.int .u8 18), .lit (.int .u8 6), .lit (.int .u8 11), .lit (.int .u8 5), .lit (.int .u8 10), .lit (.int .u8 9)]
def laid_math_bits_deBruijn64tab {H : Type} : DataW H := .agg [.lit (.int .u8 0), .lit (.int .u8 1), .lit (.int .u8 56), .lit (.int .u8 2), .lit (.int .u8 57), .lit (.int .u8 49), .lit (.int .u8 28), .lit (.int .u8 3), .lit (.int .u8 61), .lit (.int .u8 58), .lit (.int .u8 42), .lit (.int .u8 50), .lit (.int .u8 38), .lit (.int .u8 29), .lit (.int .u8 17), .lit (.int .u8 4), .lit (.int .u8 62), .lit (.int .u8 47), .lit (.int .u8 59), .lit (.int .u8 36), .lit (.int .u8 45), .lit (.int .u8 43), .lit (.int .u8 51), .lit (.int .u8 22), .lit (.int .u8 53), .lit (.int .u8 39), .lit (.int .u8 33), .lit (.int .u8 30), .lit (.int .u8 24), .lit (.int .u8 18), .lit (.int .u8 12), .lit (.int .u8 5), .lit (.int .u8 63), .lit (.int .u8 55), .lit (.int .u8 48), .lit (.int .u8 27), .lit (.int .u8 60), .lit (.int .u8 41), .lit (.int .u8 37), .lit (.int .u8 16), .lit (.int .u8 46), .lit (.int .u8 35), .lit (.int .u8 44), .lit (.int .u8 21), .lit (.int .u8 52), .lit (.int .u8 32), .lit (.int .u8 23), .lit (.int .u8 11), .lit (.int .u8 54), .lit (.int .u8 26), .lit (.int .u8 40), .lit (.int .u8 15), .lit (.int .u8 34), .lit (.int .u8 20), .lit (.int .u8 31), .lit (.int .u8 10), .lit (.int .u8 25), .lit (.int .u8 14), .lit (.int .u8 19), .lit (.int .u8 9), .lit (.int .u8 13), .lit (.int .u8 8), .lit (.int .u8 7), .lit (.int .u8 6)]

/-- 'ceroplastlaw02.WaxMelts': WHATEVER THE INPUT: true; the input reads as it did. -/
def waxMeltsSpec : ChangeSpec := { name := "waxMelts", fn := fun _ => fun
  | [d1, d2, d3] => { results := [.lit (.bool true)], args := [d1, d2, d3] }
  | _ => none }
def waxMeltsRow : OpenClaim := { program := "ytbpiibdcncfphaadoor", sum := "3d46ca0fed9d5445b3067adea3ad28c5a9e3e442205f5b417361eb2749774341", func := "ceroplast/ceroplastlaw02.WaxMelts", spec := "waxMelts", unfollowed := true, recurses := true, named := ["math/bits.deBruijn32tab", "math/bits.deBruijn64tab"], plainKeys := false, apart := false, laid := [("math/bits.deBruijn32tab", laid_math_bits_deBruijn32tab), ("math/bits.deBruijn64tab", laid_math_bits_deBruijn64tab)] }
def WaxMeltsSaid : Prop := waxMeltsRow.holds Tryd.pinned (OpenSpec.ofChange waxMeltsSpec)

/-- ITS FALSE NEIGHBOUR: 'it returns false'. Refute it at one input. -/
def waxMeltsWrong : ChangeSpec := { name := "waxMelts", fn := fun _ => fun
  | [d1, d2, d3] => { results := [.lit (.bool false)], args := [d1, d2, d3] }
  | _ => none }
def WaxMeltsWrongFalsely : Prop := waxMeltsRow.holds Tryd.pinned (OpenSpec.ofChange waxMeltsWrong)

/-- 'ceroplastlaw02.WaxSuits': WHATEVER THE INPUT: true; the input reads as it did. -/
def waxSuitsSpec : ChangeSpec := { name := "waxSuits", fn := fun _ => fun
  | [d1, d2] => { results := [.lit (.bool true)], args := [d1, d2] }
  | _ => none }
def waxSuitsRow : OpenClaim := { program := "ytbpiibdcncfphaadoor", sum := "3d46ca0fed9d5445b3067adea3ad28c5a9e3e442205f5b417361eb2749774341", func := "ceroplast/ceroplastlaw02.WaxSuits", spec := "waxSuits", unfollowed := true, recurses := true, named := ["math/bits.deBruijn32tab", "math/bits.deBruijn64tab"], plainKeys := false, apart := false, laid := [("math/bits.deBruijn32tab", laid_math_bits_deBruijn32tab), ("math/bits.deBruijn64tab", laid_math_bits_deBruijn64tab)] }
def WaxSuitsSaid : Prop := waxSuitsRow.holds Tryd.pinned (OpenSpec.ofChange waxSuitsSpec)

/-- ITS FALSE NEIGHBOUR: 'it returns false'. Refute it at one input. -/
def waxSuitsWrong : ChangeSpec := { name := "waxSuits", fn := fun _ => fun
  | [d1, d2] => { results := [.lit (.bool false)], args := [d1, d2] }
  | _ => none }
def WaxSuitsWrongFalsely : Prop := waxSuitsRow.holds Tryd.pinned (OpenSpec.ofChange waxSuitsWrong)

/-- 'ceroplastlaw02.WaxKnown': WHATEVER THE INPUT: true; the input reads as it did. -/
def waxKnownSpec : ChangeSpec := { name := "waxKnown", fn := fun _ => fun
  | [] => { results := [.lit (.bool true)], args := [] }
  | _ => none }
def waxKnownRow : OpenClaim := { program := "ytbpiibdcncfphaadoor", sum := "3d46ca0fed9d5445b3067adea3ad28c5a9e3e442205f5b417361eb2749774341", func := "ceroplast/ceroplastlaw02.WaxKnown", spec := "waxKnown", unfollowed := true, recurses := true, named := ["math/bits.deBruijn32tab", "math/bits.deBruijn64tab"], plainKeys := false, apart := false, laid := [("math/bits.deBruijn32tab", laid_math_bits_deBruijn32tab), ("math/bits.deBruijn64tab", laid_math_bits_deBruijn64tab)] }
def WaxKnownSaid : Prop := waxKnownRow.holds Tryd.pinned (OpenSpec.ofChange waxKnownSpec)

/-- ITS FALSE NEIGHBOUR: 'it returns false'. Refute it at one input. -/
def waxKnownWrong : ChangeSpec := { name := "waxKnown", fn := fun _ => fun
  | [] => { results := [.lit (.bool false)], args := [] }
  | _ => none }
def WaxKnownWrongFalsely : Prop := waxKnownRow.holds Tryd.pinned (OpenSpec.ofChange waxKnownWrong)

/-- 'ceroplastlaw02.WaxPoured': WHATEVER THE INPUT: true; the input reads as it did. -/
def waxPouredSpec : ChangeSpec := { name := "waxPoured", fn := fun _ => fun
  | [d1, d2] => { results := [.lit (.bool true)], args := [d1, d2] }
  | _ => none }
def waxPouredRow : OpenClaim := { program := "ytbpiibdcncfphaadoor", sum := "3d46ca0fed9d5445b3067adea3ad28c5a9e3e442205f5b417361eb2749774341", func := "ceroplast/ceroplastlaw02.WaxPoured", spec := "waxPoured", unfollowed := true, recurses := true, named := ["math/bits.deBruijn32tab", "math/bits.deBruijn64tab"], plainKeys := false, apart := false, laid := [("math/bits.deBruijn32tab", laid_math_bits_deBruijn32tab), ("math/bits.deBruijn64tab", laid_math_bits_deBruijn64tab)] }
def WaxPouredSaid : Prop := waxPouredRow.holds Tryd.pinned (OpenSpec.ofChange waxPouredSpec)

/-- ITS FALSE NEIGHBOUR: 'it returns false'. Refute it at one input. -/
def waxPouredWrong : ChangeSpec := { name := "waxPoured", fn := fun _ => fun
  | [d1, d2] => { results := [.lit (.bool false)], args := [d1, d2] }
  | _ => none }
def WaxPouredWrongFalsely : Prop := waxPouredRow.holds Tryd.pinned (OpenSpec.ofChange waxPouredWrong)

/-- 'ceroplastlaw02.WaxMust': WHATEVER THE INPUT: true; the input reads as it did. -/
def waxMustSpec : ChangeSpec := { name := "waxMust", fn := fun _ => fun
  | [d1, d2] => { results := [.lit (.bool true)], args := [d1, d2] }
  | _ => none }
def waxMustRow : OpenClaim := { program := "ytbpiibdcncfphaadoor", sum := "3d46ca0fed9d5445b3067adea3ad28c5a9e3e442205f5b417361eb2749774341", func := "ceroplast/ceroplastlaw02.WaxMust", spec := "waxMust", unfollowed := true, recurses := true, named := ["math/bits.deBruijn32tab", "math/bits.deBruijn64tab"], plainKeys := false, apart := false, laid := [("math/bits.deBruijn32tab", laid_math_bits_deBruijn32tab), ("math/bits.deBruijn64tab", laid_math_bits_deBruijn64tab)] }
def WaxMustSaid : Prop := waxMustRow.holds Tryd.pinned (OpenSpec.ofChange waxMustSpec)

/-- ITS FALSE NEIGHBOUR: 'it returns false'. Refute it at one input. -/
def waxMustWrong : ChangeSpec := { name := "waxMust", fn := fun _ => fun
  | [d1, d2] => { results := [.lit (.bool false)], args := [d1, d2] }
  | _ => none }
def WaxMustWrongFalsely : Prop := waxMustRow.holds Tryd.pinned (OpenSpec.ofChange waxMustWrong)

/-- 'ceroplastlaw02.WaxLost': WHATEVER THE INPUT: true; the input reads as it did. -/
def waxLostSpec : ChangeSpec := { name := "waxLost", fn := fun _ => fun
  | [d1, d2] => { results := [.lit (.bool true)], args := [d1, d2] }
  | _ => none }
def waxLostRow : OpenClaim := { program := "ytbpiibdcncfphaadoor", sum := "3d46ca0fed9d5445b3067adea3ad28c5a9e3e442205f5b417361eb2749774341", func := "ceroplast/ceroplastlaw02.WaxLost", spec := "waxLost", unfollowed := true, recurses := true, named := ["math/bits.deBruijn32tab", "math/bits.deBruijn64tab"], plainKeys := false, apart := false, laid := [("math/bits.deBruijn32tab", laid_math_bits_deBruijn32tab), ("math/bits.deBruijn64tab", laid_math_bits_deBruijn64tab)] }
def WaxLostSaid : Prop := waxLostRow.holds Tryd.pinned (OpenSpec.ofChange waxLostSpec)

/-- ITS FALSE NEIGHBOUR: 'it returns false'. Refute it at one input. -/
def waxLostWrong : ChangeSpec := { name := "waxLost", fn := fun _ => fun
  | [d1, d2] => { results := [.lit (.bool false)], args := [d1, d2] }
  | _ => none }
def WaxLostWrongFalsely : Prop := waxLostRow.holds Tryd.pinned (OpenSpec.ofChange waxLostWrong)

/-- 'ceroplastlaw02.WaxLacking': WHATEVER THE INPUT: true; the input reads as it did. -/
def waxLackingSpec : ChangeSpec := { name := "waxLacking", fn := fun _ => fun
  | [d1, d2] => { results := [.lit (.bool true)], args := [d1, d2] }
  | _ => none }
def waxLackingRow : OpenClaim := { program := "ytbpiibdcncfphaadoor", sum := "3d46ca0fed9d5445b3067adea3ad28c5a9e3e442205f5b417361eb2749774341", func := "ceroplast/ceroplastlaw02.WaxLacking", spec := "waxLacking", unfollowed := true, recurses := true, named := ["math/bits.deBruijn32tab", "math/bits.deBruijn64tab"], plainKeys := false, apart := false, laid := [("math/bits.deBruijn32tab", laid_math_bits_deBruijn32tab), ("math/bits.deBruijn64tab", laid_math_bits_deBruijn64tab)] }
def WaxLackingSaid : Prop := waxLackingRow.holds Tryd.pinned (OpenSpec.ofChange waxLackingSpec)

/-- ITS FALSE NEIGHBOUR: 'it returns false'. Refute it at one input. -/
def waxLackingWrong : ChangeSpec := { name := "waxLacking", fn := fun _ => fun
  | [d1, d2] => { results := [.lit (.bool false)], args := [d1, d2] }
  | _ => none }
def WaxLackingWrongFalsely : Prop := waxLackingRow.holds Tryd.pinned (OpenSpec.ofChange waxLackingWrong)

/-- 'ceroplastlaw02.WaxMore': WHATEVER THE INPUT: true; the input reads as it did. -/
def waxMoreSpec : ChangeSpec := { name := "waxMore", fn := fun _ => fun
  | [d1, d2, d3] => { results := [.lit (.bool true)], args := [d1, d2, d3] }
  | _ => none }
def waxMoreRow : OpenClaim := { program := "ytbpiibdcncfphaadoor", sum := "3d46ca0fed9d5445b3067adea3ad28c5a9e3e442205f5b417361eb2749774341", func := "ceroplast/ceroplastlaw02.WaxMore", spec := "waxMore", unfollowed := true, recurses := true, named := ["math/bits.deBruijn32tab", "math/bits.deBruijn64tab"], plainKeys := false, apart := false, laid := [("math/bits.deBruijn32tab", laid_math_bits_deBruijn32tab), ("math/bits.deBruijn64tab", laid_math_bits_deBruijn64tab)] }
def WaxMoreSaid : Prop := waxMoreRow.holds Tryd.pinned (OpenSpec.ofChange waxMoreSpec)

/-- ITS FALSE NEIGHBOUR: 'it returns false'. Refute it at one input. -/
def waxMoreWrong : ChangeSpec := { name := "waxMore", fn := fun _ => fun
  | [d1, d2, d3] => { results := [.lit (.bool false)], args := [d1, d2, d3] }
  | _ => none }
def WaxMoreWrongFalsely : Prop := waxMoreRow.holds Tryd.pinned (OpenSpec.ofChange waxMoreWrong)

/-- 'ceroplastlaw02.WaxOrder': WHATEVER THE INPUT: true; the input reads as it did. -/
def waxOrderSpec : ChangeSpec := { name := "waxOrder", fn := fun _ => fun
  | [d] => { results := [.lit (.bool true)], args := [d] }
  | _ => none }
def waxOrderRow : OpenClaim := { program := "ytbpiibdcncfphaadoor", sum := "3d46ca0fed9d5445b3067adea3ad28c5a9e3e442205f5b417361eb2749774341", func := "ceroplast/ceroplastlaw02.WaxOrder", spec := "waxOrder", unfollowed := true, recurses := true, named := ["math/bits.deBruijn32tab", "math/bits.deBruijn64tab"], plainKeys := false, apart := false, laid := [("math/bits.deBruijn32tab", laid_math_bits_deBruijn32tab), ("math/bits.deBruijn64tab", laid_math_bits_deBruijn64tab)] }
def WaxOrderSaid : Prop := waxOrderRow.holds Tryd.pinned (OpenSpec.ofChange waxOrderSpec)

/-- ITS FALSE NEIGHBOUR: 'it returns false'. Refute it at one input. -/
def waxOrderWrong : ChangeSpec := { name := "waxOrder", fn := fun _ => fun
  | [d] => { results := [.lit (.bool false)], args := [d] }
  | _ => none }
def WaxOrderWrongFalsely : Prop := waxOrderRow.holds Tryd.pinned (OpenSpec.ofChange waxOrderWrong)

/- THE SECOND FORM. 'bulk': how many values and letters a reading holds, each counted each time it is reached (what is shared counts as often as it is met; a slice's spare places count too). A statement '..UptoSaid' is the law's where the arguments, and the package variables that the reading takes, are together of bulk at most 1048576: NARROWER than '..Said'. Prove '..Said' where nothing that the law and all that it calls make is longer than what came in: it says more and counts as full. Else prove '..UptoSaid'. A law counts once. -/
mutual
def uptoBulk {H : Type} : DataW H → Nat
  | .lit (.string bytes) => bytes.length + 1
  | .lit _ => 1
  | .nil => 1
  | .ptr d => uptoBulk d + 1
  | .slice elems spare => uptoBulkAll elems + uptoBulkAll spare + 1
  | .agg parts => uptoBulkAll parts + 1
  | .iface _ d => uptoBulk d + 1
  | .map entries => uptoBulkEntries entries + 1
  | .held _ => 1
def uptoBulkAll {H : Type} : List (DataW H) → Nat
  | [] => 0
  | d :: r => uptoBulk d + uptoBulkAll r
def uptoBulkEntries {H : Type} : List (Lit × DataW H) → Nat
  | [] => 0
  | x :: r => uptoBulkEntry x + uptoBulkEntries r
def uptoBulkEntry {H : Type} : Lit × DataW H → Nat
  | (.string bytes, d) => bytes.length + uptoBulk d + 1
  | (_, d) => uptoBulk d + 1
 end
def uptoSmall : (H : Type) → List (DataW H) → Bool := fun _ ds => decide (uptoBulkAll ds ≤ 1048576)
def OpenSpec.upto (s : _root_.Go.ChangeSpec) : _root_.Go.OpenSpec := { _root_.Go.OpenSpec.ofChange s with cond := some uptoSmall }

/-- 'ceroplastlaw02.WaxMelts', WHERE WHAT IT READS IS OF BULK AT MOST 1048576: true; the input reads as it did. -/
def waxMeltsUptoRow : OpenClaim := { program := "ytbpiibdcncfphaadoor", sum := "3d46ca0fed9d5445b3067adea3ad28c5a9e3e442205f5b417361eb2749774341", func := "ceroplast/ceroplastlaw02.WaxMelts", spec := "waxMelts", unfollowed := true, recurses := true, named := ["math/bits.deBruijn32tab", "math/bits.deBruijn64tab"], plainKeys := false, apart := false, laid := [("math/bits.deBruijn32tab", laid_math_bits_deBruijn32tab), ("math/bits.deBruijn64tab", laid_math_bits_deBruijn64tab)], narrowed := true }
def WaxMeltsUptoSaid : Prop := waxMeltsUptoRow.holds Tryd.pinned (OpenSpec.upto waxMeltsSpec)

/-- 'ceroplastlaw02.WaxSuits', WHERE WHAT IT READS IS OF BULK AT MOST 1048576: true; the input reads as it did. -/
def waxSuitsUptoRow : OpenClaim := { program := "ytbpiibdcncfphaadoor", sum := "3d46ca0fed9d5445b3067adea3ad28c5a9e3e442205f5b417361eb2749774341", func := "ceroplast/ceroplastlaw02.WaxSuits", spec := "waxSuits", unfollowed := true, recurses := true, named := ["math/bits.deBruijn32tab", "math/bits.deBruijn64tab"], plainKeys := false, apart := false, laid := [("math/bits.deBruijn32tab", laid_math_bits_deBruijn32tab), ("math/bits.deBruijn64tab", laid_math_bits_deBruijn64tab)], narrowed := true }
def WaxSuitsUptoSaid : Prop := waxSuitsUptoRow.holds Tryd.pinned (OpenSpec.upto waxSuitsSpec)

/-- 'ceroplastlaw02.WaxKnown', WHERE WHAT IT READS IS OF BULK AT MOST 1048576: true; the input reads as it did. -/
def waxKnownUptoRow : OpenClaim := { program := "ytbpiibdcncfphaadoor", sum := "3d46ca0fed9d5445b3067adea3ad28c5a9e3e442205f5b417361eb2749774341", func := "ceroplast/ceroplastlaw02.WaxKnown", spec := "waxKnown", unfollowed := true, recurses := true, named := ["math/bits.deBruijn32tab", "math/bits.deBruijn64tab"], plainKeys := false, apart := false, laid := [("math/bits.deBruijn32tab", laid_math_bits_deBruijn32tab), ("math/bits.deBruijn64tab", laid_math_bits_deBruijn64tab)], narrowed := true }
def WaxKnownUptoSaid : Prop := waxKnownUptoRow.holds Tryd.pinned (OpenSpec.upto waxKnownSpec)

/-- 'ceroplastlaw02.WaxPoured', WHERE WHAT IT READS IS OF BULK AT MOST 1048576: true; the input reads as it did. -/
def waxPouredUptoRow : OpenClaim := { program := "ytbpiibdcncfphaadoor", sum := "3d46ca0fed9d5445b3067adea3ad28c5a9e3e442205f5b417361eb2749774341", func := "ceroplast/ceroplastlaw02.WaxPoured", spec := "waxPoured", unfollowed := true, recurses := true, named := ["math/bits.deBruijn32tab", "math/bits.deBruijn64tab"], plainKeys := false, apart := false, laid := [("math/bits.deBruijn32tab", laid_math_bits_deBruijn32tab), ("math/bits.deBruijn64tab", laid_math_bits_deBruijn64tab)], narrowed := true }
def WaxPouredUptoSaid : Prop := waxPouredUptoRow.holds Tryd.pinned (OpenSpec.upto waxPouredSpec)

/-- 'ceroplastlaw02.WaxMust', WHERE WHAT IT READS IS OF BULK AT MOST 1048576: true; the input reads as it did. -/
def waxMustUptoRow : OpenClaim := { program := "ytbpiibdcncfphaadoor", sum := "3d46ca0fed9d5445b3067adea3ad28c5a9e3e442205f5b417361eb2749774341", func := "ceroplast/ceroplastlaw02.WaxMust", spec := "waxMust", unfollowed := true, recurses := true, named := ["math/bits.deBruijn32tab", "math/bits.deBruijn64tab"], plainKeys := false, apart := false, laid := [("math/bits.deBruijn32tab", laid_math_bits_deBruijn32tab), ("math/bits.deBruijn64tab", laid_math_bits_deBruijn64tab)], narrowed := true }
def WaxMustUptoSaid : Prop := waxMustUptoRow.holds Tryd.pinned (OpenSpec.upto waxMustSpec)

/-- 'ceroplastlaw02.WaxLost', WHERE WHAT IT READS IS OF BULK AT MOST 1048576: true; the input reads as it did. -/
def waxLostUptoRow : OpenClaim := { program := "ytbpiibdcncfphaadoor", sum := "3d46ca0fed9d5445b3067adea3ad28c5a9e3e442205f5b417361eb2749774341", func := "ceroplast/ceroplastlaw02.WaxLost", spec := "waxLost", unfollowed := true, recurses := true, named := ["math/bits.deBruijn32tab", "math/bits.deBruijn64tab"], plainKeys := false, apart := false, laid := [("math/bits.deBruijn32tab", laid_math_bits_deBruijn32tab), ("math/bits.deBruijn64tab", laid_math_bits_deBruijn64tab)], narrowed := true }
def WaxLostUptoSaid : Prop := waxLostUptoRow.holds Tryd.pinned (OpenSpec.upto waxLostSpec)

/-- 'ceroplastlaw02.WaxLacking', WHERE WHAT IT READS IS OF BULK AT MOST 1048576: true; the input reads as it did. -/
def waxLackingUptoRow : OpenClaim := { program := "ytbpiibdcncfphaadoor", sum := "3d46ca0fed9d5445b3067adea3ad28c5a9e3e442205f5b417361eb2749774341", func := "ceroplast/ceroplastlaw02.WaxLacking", spec := "waxLacking", unfollowed := true, recurses := true, named := ["math/bits.deBruijn32tab", "math/bits.deBruijn64tab"], plainKeys := false, apart := false, laid := [("math/bits.deBruijn32tab", laid_math_bits_deBruijn32tab), ("math/bits.deBruijn64tab", laid_math_bits_deBruijn64tab)], narrowed := true }
def WaxLackingUptoSaid : Prop := waxLackingUptoRow.holds Tryd.pinned (OpenSpec.upto waxLackingSpec)

/-- 'ceroplastlaw02.WaxMore', WHERE WHAT IT READS IS OF BULK AT MOST 1048576: true; the input reads as it did. -/
def waxMoreUptoRow : OpenClaim := { program := "ytbpiibdcncfphaadoor", sum := "3d46ca0fed9d5445b3067adea3ad28c5a9e3e442205f5b417361eb2749774341", func := "ceroplast/ceroplastlaw02.WaxMore", spec := "waxMore", unfollowed := true, recurses := true, named := ["math/bits.deBruijn32tab", "math/bits.deBruijn64tab"], plainKeys := false, apart := false, laid := [("math/bits.deBruijn32tab", laid_math_bits_deBruijn32tab), ("math/bits.deBruijn64tab", laid_math_bits_deBruijn64tab)], narrowed := true }
def WaxMoreUptoSaid : Prop := waxMoreUptoRow.holds Tryd.pinned (OpenSpec.upto waxMoreSpec)

/-- 'ceroplastlaw02.WaxOrder', WHERE WHAT IT READS IS OF BULK AT MOST 1048576: true; the input reads as it did. -/
def waxOrderUptoRow : OpenClaim := { program := "ytbpiibdcncfphaadoor", sum := "3d46ca0fed9d5445b3067adea3ad28c5a9e3e442205f5b417361eb2749774341", func := "ceroplast/ceroplastlaw02.WaxOrder", spec := "waxOrder", unfollowed := true, recurses := true, named := ["math/bits.deBruijn32tab", "math/bits.deBruijn64tab"], plainKeys := false, apart := false, laid := [("math/bits.deBruijn32tab", laid_math_bits_deBruijn32tab), ("math/bits.deBruijn64tab", laid_math_bits_deBruijn64tab)], narrowed := true }
def WaxOrderUptoSaid : Prop := waxOrderUptoRow.holds Tryd.pinned (OpenSpec.upto waxOrderSpec)

end Rows
end Go.Proofs.YtbpiibdcncfphaaDoor
