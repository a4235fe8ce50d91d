/-
  NARROWER THAN 'FOR EVERY INPUT', by the rows' own cells (each row's printed sentence says how): BillTrue: laid · BillBest: laid · BillPages: laid · BillTexts: laid · BillSlips: laid · BillHolds: laid · BillFewest: laid · BillWhite: laid · BillRound: laid · BillSlip: laid · BillSurely: laid · BillOrder: laid.
  DERIVED. THE GIVEN ROWS OF THIS SEAT. 12 by the template 'for every input the law returns true; each argument reads behind the call as it read before'; 0 by the template 'total and deterministic' (their statements: YtgncapdjheghfaaGreatDoorTotals.lean).
  GIVEN WITH THE SEED: the statements are not yours to turn. If you find one false, say at which input.
  Laid BY PROGRAM, IN A SANDBOX (cutbox-rows.mjs): the forced cells as the released guide's own fill.sh prints them over the translation aa208128f1babad5… (all of the seat's roots in one cut). By AI agents, Wed Nov 11 2026. No macro, syntax, notation, axiom, sorry.
-/
import Derived.Test.YtgncapdjheghfaaGreatDoorChecked
import GoSem.Claim
import GoSem.ClaimJoined
import GoSem.ClaimMapViews
import Derived.JoinedTies
import Derived.KernelRfl
namespace Go.Proofs.YtgncapdjheghfaaGreatDoor
/- THE CELL 'sum', in the pinned program and in every row, IS THE sha256 OF THE DUMP (.gsa) THAT YtgncapdjheghfaaGreatDoorProg.lean LOADS. Nothing in Lean hashes anything: it is a label: what it is worth is what the hold of that sum in a sandbox is worth. -/
noncomputable def Tryz.pinned : Pinned := { name := "ytgncapdjheghfaagreatdoor", sum := "aa208128f1babad5c294205efc797e0768fe6a931fad091bbde322670d105d8f", checked := Tryz.checked }
namespace Rows
def none {H : Type} : Left H := { results := [], args := [] }

/- WHAT THE LISTED PACKAGE-LEVEL VARIABLES READ AS WHEN THE CALL BEGINS. Each datum BY PROGRAM (the guide's laid-datum.mjs) off the statement by which the dump's own 'gosem.cut.vars' lays the variable. In a bare row this is a premise. The card (YtgncapdjheghfaaGreatDoorCards.lean) ties it to the program's text. -/
def laid_math_bits_deBruijn32tab {H : Type} : DataW H := .agg [.lit (.int .u8 0), .lit (.int .u8 1), .lit (.int .u8 28), .lit (.int .u8 2), .lit (.int .u8 29), .lit (.int .u8 14), .lit (.int .u8 24), .lit (.int .u8 3), .lit (.int .u8 30), .lit (.int .u8 22), .lit (.int .u8 20), .lit (.int .u8 15), .lit (.int .u8 25), .lit (.int .u8 17), .lit (.int .u8 4), .lit (.int .u8 8), .lit (.int .u8 31), .lit (.int .u8 27), .lit (.int .u8 13), .lit (.int .u8 23), .lit (.int .u8 21), .lit (.int .u8 19), .lit (.int .u8 16), .lit (.int .u8 7), .lit (.int .u8 26), .lit (.int .u8 12), .lit (.int .u8 18), .lit (.int .u8 6), .lit (.int .u8 11), .lit (.int .u8 5), .lit (.int .u8 10), .lit (.int .u8 9)]
def laid_math_bits_deBruijn64tab {H : Type} : DataW H := .agg [.lit (.int .u8 0), .lit (.int .u8 1), .lit (.int .u8 56), .lit (.int .u8 2), .lit (.int .u8 57), .lit (.int .u8 49), .lit (.int .u8 28), .lit (.int .u8 3), .lit (.int .u8 61), .lit (.int .u8 58), .lit (.int .u8 42), .lit (.int .u8 50), .lit (.int .u8 38), .lit (.int .u8 29), .lit (.int .u8 17), .lit (.int .u8 4), .lit (.int .u8 62), .lit (.int .u8 47), .lit (.int .u8 59), .lit (.int .u8 36), .lit (.int .u8 45), .lit (.int .u8 43), .lit (.int .u8 51), .lit (.int .u8 22), .lit (.int .u8 53), .lit (.int .u8 39), .lit (.int .u8 33), .lit (.int .u8 30), .lit (.int .u8 24), .lit (.int .u8 18), .lit (.int .u8 12), .lit (.int .u8 5), .lit (.int .u8 63), .lit (.int .u8 55), .lit (.int .u8 48), .lit (.int .u8 27), .lit (.int .u8 60), .lit (.int .u8 41), .lit (.int .u8 37), .lit (.int .u8 16), .lit (.int .u8 46), .lit (.int .u8 35), .lit (.int .u8 44), .lit (.int .u8 21), .lit (.int .u8 52), .lit (.int .u8 32), .lit (.int .u8 23), .lit (.int .u8 11), .lit (.int .u8 54), .lit (.int .u8 26), .lit (.int .u8 40), .lit (.int .u8 15), .lit (.int .u8 34), .lit (.int .u8 20), .lit (.int .u8 31), .lit (.int .u8 10), .lit (.int .u8 25), .lit (.int .u8 14), .lit (.int .u8 19), .lit (.int .u8 9), .lit (.int .u8 13), .lit (.int .u8 8), .lit (.int .u8 7), .lit (.int .u8 6)]
def laid_internal_strconv_uint64pow10 {H : Type} : DataW H := .agg [.lit (.int .u64 1), .lit (.int .u64 10), .lit (.int .u64 100), .lit (.int .u64 1000), .lit (.int .u64 10000), .lit (.int .u64 100000), .lit (.int .u64 1000000), .lit (.int .u64 10000000), .lit (.int .u64 100000000), .lit (.int .u64 1000000000), .lit (.int .u64 10000000000), .lit (.int .u64 100000000000), .lit (.int .u64 1000000000000), .lit (.int .u64 10000000000000), .lit (.int .u64 100000000000000), .lit (.int .u64 1000000000000000), .lit (.int .u64 10000000000000000), .lit (.int .u64 100000000000000000), .lit (.int .u64 1000000000000000000), .lit (.int .u64 10000000000000000000)]

/-- 'ceroplastlaw07.BillTrue': WHATEVER THE INPUT: true; the input reads as it did. -/
def billTrueSpec : ChangeSpec := { name := "billTrue", fn := fun _ => fun
  | [d1, d2, d3] => { results := [.lit (.bool true)], args := [d1, d2, d3] }
  | _ => none }
def billTrueRow : OpenClaim := { program := "ytgncapdjheghfaagreatdoor", sum := "aa208128f1babad5c294205efc797e0768fe6a931fad091bbde322670d105d8f", func := "ceroplast/ceroplastlaw07.BillTrue", spec := "billTrue", inPlace := ["internal/abi.NoEscape", "internal/bytealg.MakeNoZero", "internal/bytealg.IndexByteString"], unfollowed := true, recurses := true, named := ["internal/strconv.uint64pow10", "math/bits.deBruijn32tab", "math/bits.deBruijn64tab"], apart := false, laid := [("math/bits.deBruijn32tab", laid_math_bits_deBruijn32tab), ("math/bits.deBruijn64tab", laid_math_bits_deBruijn64tab), ("internal/strconv.uint64pow10", laid_internal_strconv_uint64pow10)] }
def BillTrueSaid : Prop := billTrueRow.holds Tryz.pinned (OpenSpec.ofChange billTrueSpec)

/-- ITS FALSE NEIGHBOUR: 'it returns false'. Refute it at one input. -/
def billTrueWrong : ChangeSpec := { name := "billTrue", fn := fun _ => fun
  | [d1, d2, d3] => { results := [.lit (.bool false)], args := [d1, d2, d3] }
  | _ => none }
def BillTrueWrongFalsely : Prop := billTrueRow.holds Tryz.pinned (OpenSpec.ofChange billTrueWrong)

/-- 'ceroplastlaw07.BillBest': WHATEVER THE INPUT: true; the input reads as it did. -/
def billBestSpec : ChangeSpec := { name := "billBest", fn := fun _ => fun
  | [d] => { results := [.lit (.bool true)], args := [d] }
  | _ => none }
def billBestRow : OpenClaim := { program := "ytgncapdjheghfaagreatdoor", sum := "aa208128f1babad5c294205efc797e0768fe6a931fad091bbde322670d105d8f", func := "ceroplast/ceroplastlaw07.BillBest", spec := "billBest", inPlace := ["internal/abi.NoEscape", "internal/bytealg.MakeNoZero", "internal/bytealg.IndexByteString"], unfollowed := true, recurses := true, named := ["internal/strconv.uint64pow10", "math/bits.deBruijn32tab", "math/bits.deBruijn64tab"], apart := false, laid := [("math/bits.deBruijn32tab", laid_math_bits_deBruijn32tab), ("math/bits.deBruijn64tab", laid_math_bits_deBruijn64tab), ("internal/strconv.uint64pow10", laid_internal_strconv_uint64pow10)] }
def BillBestSaid : Prop := billBestRow.holds Tryz.pinned (OpenSpec.ofChange billBestSpec)

/-- ITS FALSE NEIGHBOUR: 'it returns false'. Refute it at one input. -/
def billBestWrong : ChangeSpec := { name := "billBest", fn := fun _ => fun
  | [d] => { results := [.lit (.bool false)], args := [d] }
  | _ => none }
def BillBestWrongFalsely : Prop := billBestRow.holds Tryz.pinned (OpenSpec.ofChange billBestWrong)

/-- 'ceroplastlaw07.BillPages': WHATEVER THE INPUT: true; the input reads as it did. -/
def billPagesSpec : ChangeSpec := { name := "billPages", fn := fun _ => fun
  | [d1, d2, d3] => { results := [.lit (.bool true)], args := [d1, d2, d3] }
  | _ => none }
def billPagesRow : OpenClaim := { program := "ytgncapdjheghfaagreatdoor", sum := "aa208128f1babad5c294205efc797e0768fe6a931fad091bbde322670d105d8f", func := "ceroplast/ceroplastlaw07.BillPages", spec := "billPages", inPlace := ["internal/abi.NoEscape", "internal/bytealg.MakeNoZero", "internal/bytealg.IndexByteString"], unfollowed := true, recurses := true, named := ["internal/strconv.uint64pow10", "math/bits.deBruijn32tab", "math/bits.deBruijn64tab"], apart := false, laid := [("math/bits.deBruijn32tab", laid_math_bits_deBruijn32tab), ("math/bits.deBruijn64tab", laid_math_bits_deBruijn64tab), ("internal/strconv.uint64pow10", laid_internal_strconv_uint64pow10)] }
def BillPagesSaid : Prop := billPagesRow.holds Tryz.pinned (OpenSpec.ofChange billPagesSpec)

/-- ITS FALSE NEIGHBOUR: 'it returns false'. Refute it at one input. -/
def billPagesWrong : ChangeSpec := { name := "billPages", fn := fun _ => fun
  | [d1, d2, d3] => { results := [.lit (.bool false)], args := [d1, d2, d3] }
  | _ => none }
def BillPagesWrongFalsely : Prop := billPagesRow.holds Tryz.pinned (OpenSpec.ofChange billPagesWrong)

/-- 'ceroplastlaw07.BillTexts': WHATEVER THE INPUT: true; the input reads as it did. -/
def billTextsSpec : ChangeSpec := { name := "billTexts", fn := fun _ => fun
  | [d1, d2, d3] => { results := [.lit (.bool true)], args := [d1, d2, d3] }
  | _ => none }
def billTextsRow : OpenClaim := { program := "ytgncapdjheghfaagreatdoor", sum := "aa208128f1babad5c294205efc797e0768fe6a931fad091bbde322670d105d8f", func := "ceroplast/ceroplastlaw07.BillTexts", spec := "billTexts", inPlace := ["internal/abi.NoEscape", "internal/bytealg.MakeNoZero", "internal/bytealg.IndexByteString"], unfollowed := true, recurses := true, named := ["internal/strconv.uint64pow10", "math/bits.deBruijn32tab", "math/bits.deBruijn64tab"], apart := false, laid := [("math/bits.deBruijn32tab", laid_math_bits_deBruijn32tab), ("math/bits.deBruijn64tab", laid_math_bits_deBruijn64tab), ("internal/strconv.uint64pow10", laid_internal_strconv_uint64pow10)] }
def BillTextsSaid : Prop := billTextsRow.holds Tryz.pinned (OpenSpec.ofChange billTextsSpec)

/-- ITS FALSE NEIGHBOUR: 'it returns false'. Refute it at one input. -/
def billTextsWrong : ChangeSpec := { name := "billTexts", fn := fun _ => fun
  | [d1, d2, d3] => { results := [.lit (.bool false)], args := [d1, d2, d3] }
  | _ => none }
def BillTextsWrongFalsely : Prop := billTextsRow.holds Tryz.pinned (OpenSpec.ofChange billTextsWrong)

/-- 'ceroplastlaw07.BillSlips': WHATEVER THE INPUT: true; the input reads as it did. -/
def billSlipsSpec : ChangeSpec := { name := "billSlips", fn := fun _ => fun
  | [d1, d2, d3] => { results := [.lit (.bool true)], args := [d1, d2, d3] }
  | _ => none }
def billSlipsRow : OpenClaim := { program := "ytgncapdjheghfaagreatdoor", sum := "aa208128f1babad5c294205efc797e0768fe6a931fad091bbde322670d105d8f", func := "ceroplast/ceroplastlaw07.BillSlips", spec := "billSlips", inPlace := ["internal/abi.NoEscape", "internal/bytealg.MakeNoZero", "internal/bytealg.IndexByteString"], unfollowed := true, recurses := true, named := ["internal/strconv.uint64pow10", "math/bits.deBruijn32tab", "math/bits.deBruijn64tab"], apart := false, laid := [("math/bits.deBruijn32tab", laid_math_bits_deBruijn32tab), ("math/bits.deBruijn64tab", laid_math_bits_deBruijn64tab), ("internal/strconv.uint64pow10", laid_internal_strconv_uint64pow10)] }
def BillSlipsSaid : Prop := billSlipsRow.holds Tryz.pinned (OpenSpec.ofChange billSlipsSpec)

/-- ITS FALSE NEIGHBOUR: 'it returns false'. Refute it at one input. -/
def billSlipsWrong : ChangeSpec := { name := "billSlips", fn := fun _ => fun
  | [d1, d2, d3] => { results := [.lit (.bool false)], args := [d1, d2, d3] }
  | _ => none }
def BillSlipsWrongFalsely : Prop := billSlipsRow.holds Tryz.pinned (OpenSpec.ofChange billSlipsWrong)

/-- 'ceroplastlaw07.BillHolds': WHATEVER THE INPUT: true; the input reads as it did. -/
def billHoldsSpec : ChangeSpec := { name := "billHolds", fn := fun _ => fun
  | [d1, d2] => { results := [.lit (.bool true)], args := [d1, d2] }
  | _ => none }
def billHoldsRow : OpenClaim := { program := "ytgncapdjheghfaagreatdoor", sum := "aa208128f1babad5c294205efc797e0768fe6a931fad091bbde322670d105d8f", func := "ceroplast/ceroplastlaw07.BillHolds", spec := "billHolds", inPlace := ["internal/abi.NoEscape", "internal/bytealg.MakeNoZero", "internal/bytealg.IndexByteString"], unfollowed := true, recurses := true, named := ["internal/strconv.uint64pow10", "math/bits.deBruijn32tab", "math/bits.deBruijn64tab"], apart := false, laid := [("math/bits.deBruijn32tab", laid_math_bits_deBruijn32tab), ("math/bits.deBruijn64tab", laid_math_bits_deBruijn64tab), ("internal/strconv.uint64pow10", laid_internal_strconv_uint64pow10)] }
def BillHoldsSaid : Prop := billHoldsRow.holds Tryz.pinned (OpenSpec.ofChange billHoldsSpec)

/-- ITS FALSE NEIGHBOUR: 'it returns false'. Refute it at one input. -/
def billHoldsWrong : ChangeSpec := { name := "billHolds", fn := fun _ => fun
  | [d1, d2] => { results := [.lit (.bool false)], args := [d1, d2] }
  | _ => none }
def BillHoldsWrongFalsely : Prop := billHoldsRow.holds Tryz.pinned (OpenSpec.ofChange billHoldsWrong)

/-- 'ceroplastlaw07.BillFewest': WHATEVER THE INPUT: true; the input reads as it did. -/
def billFewestSpec : ChangeSpec := { name := "billFewest", fn := fun _ => fun
  | [d1, d2, d3] => { results := [.lit (.bool true)], args := [d1, d2, d3] }
  | _ => none }
def billFewestRow : OpenClaim := { program := "ytgncapdjheghfaagreatdoor", sum := "aa208128f1babad5c294205efc797e0768fe6a931fad091bbde322670d105d8f", func := "ceroplast/ceroplastlaw07.BillFewest", spec := "billFewest", inPlace := ["internal/abi.NoEscape", "internal/bytealg.MakeNoZero", "internal/bytealg.IndexByteString"], unfollowed := true, recurses := true, named := ["internal/strconv.uint64pow10", "math/bits.deBruijn32tab", "math/bits.deBruijn64tab"], apart := false, laid := [("math/bits.deBruijn32tab", laid_math_bits_deBruijn32tab), ("math/bits.deBruijn64tab", laid_math_bits_deBruijn64tab), ("internal/strconv.uint64pow10", laid_internal_strconv_uint64pow10)] }
def BillFewestSaid : Prop := billFewestRow.holds Tryz.pinned (OpenSpec.ofChange billFewestSpec)

/-- ITS FALSE NEIGHBOUR: 'it returns false'. Refute it at one input. -/
def billFewestWrong : ChangeSpec := { name := "billFewest", fn := fun _ => fun
  | [d1, d2, d3] => { results := [.lit (.bool false)], args := [d1, d2, d3] }
  | _ => none }
def BillFewestWrongFalsely : Prop := billFewestRow.holds Tryz.pinned (OpenSpec.ofChange billFewestWrong)

/-- 'ceroplastlaw07.BillWhite': WHATEVER THE INPUT: true; the input reads as it did. -/
def billWhiteSpec : ChangeSpec := { name := "billWhite", fn := fun _ => fun
  | [d1, d2, d3] => { results := [.lit (.bool true)], args := [d1, d2, d3] }
  | _ => none }
def billWhiteRow : OpenClaim := { program := "ytgncapdjheghfaagreatdoor", sum := "aa208128f1babad5c294205efc797e0768fe6a931fad091bbde322670d105d8f", func := "ceroplast/ceroplastlaw07.BillWhite", spec := "billWhite", inPlace := ["internal/abi.NoEscape", "internal/bytealg.MakeNoZero", "internal/bytealg.IndexByteString"], unfollowed := true, recurses := true, named := ["internal/strconv.uint64pow10", "math/bits.deBruijn32tab", "math/bits.deBruijn64tab"], apart := false, laid := [("math/bits.deBruijn32tab", laid_math_bits_deBruijn32tab), ("math/bits.deBruijn64tab", laid_math_bits_deBruijn64tab), ("internal/strconv.uint64pow10", laid_internal_strconv_uint64pow10)] }
def BillWhiteSaid : Prop := billWhiteRow.holds Tryz.pinned (OpenSpec.ofChange billWhiteSpec)

/-- ITS FALSE NEIGHBOUR: 'it returns false'. Refute it at one input. -/
def billWhiteWrong : ChangeSpec := { name := "billWhite", fn := fun _ => fun
  | [d1, d2, d3] => { results := [.lit (.bool false)], args := [d1, d2, d3] }
  | _ => none }
def BillWhiteWrongFalsely : Prop := billWhiteRow.holds Tryz.pinned (OpenSpec.ofChange billWhiteWrong)

/-- 'ceroplastlaw07.BillRound': WHATEVER THE INPUT: true; the input reads as it did. -/
def billRoundSpec : ChangeSpec := { name := "billRound", fn := fun _ => fun
  | [d1, d2, d3] => { results := [.lit (.bool true)], args := [d1, d2, d3] }
  | _ => none }
def billRoundRow : OpenClaim := { program := "ytgncapdjheghfaagreatdoor", sum := "aa208128f1babad5c294205efc797e0768fe6a931fad091bbde322670d105d8f", func := "ceroplast/ceroplastlaw07.BillRound", spec := "billRound", inPlace := ["internal/bytealg.IndexByteString", "internal/abi.NoEscape", "internal/bytealg.MakeNoZero"], unfollowed := true, recurses := true, named := ["internal/strconv.uint64pow10", "math/bits.deBruijn32tab", "math/bits.deBruijn64tab"], apart := false, laid := [("math/bits.deBruijn32tab", laid_math_bits_deBruijn32tab), ("math/bits.deBruijn64tab", laid_math_bits_deBruijn64tab), ("internal/strconv.uint64pow10", laid_internal_strconv_uint64pow10)] }
def BillRoundSaid : Prop := billRoundRow.holds Tryz.pinned (OpenSpec.ofChange billRoundSpec)

/-- ITS FALSE NEIGHBOUR: 'it returns false'. Refute it at one input. -/
def billRoundWrong : ChangeSpec := { name := "billRound", fn := fun _ => fun
  | [d1, d2, d3] => { results := [.lit (.bool false)], args := [d1, d2, d3] }
  | _ => none }
def BillRoundWrongFalsely : Prop := billRoundRow.holds Tryz.pinned (OpenSpec.ofChange billRoundWrong)

/-- 'ceroplastlaw07.BillSlip': WHATEVER THE INPUT: true; the input reads as it did. -/
def billSlipSpec : ChangeSpec := { name := "billSlip", fn := fun _ => fun
  | [d1, d2, d3] => { results := [.lit (.bool true)], args := [d1, d2, d3] }
  | _ => none }
def billSlipRow : OpenClaim := { program := "ytgncapdjheghfaagreatdoor", sum := "aa208128f1babad5c294205efc797e0768fe6a931fad091bbde322670d105d8f", func := "ceroplast/ceroplastlaw07.BillSlip", spec := "billSlip", inPlace := ["internal/abi.NoEscape", "internal/bytealg.MakeNoZero", "internal/bytealg.IndexByteString"], unfollowed := true, recurses := true, named := ["internal/strconv.uint64pow10", "math/bits.deBruijn32tab", "math/bits.deBruijn64tab"], apart := false, laid := [("math/bits.deBruijn32tab", laid_math_bits_deBruijn32tab), ("math/bits.deBruijn64tab", laid_math_bits_deBruijn64tab), ("internal/strconv.uint64pow10", laid_internal_strconv_uint64pow10)] }
def BillSlipSaid : Prop := billSlipRow.holds Tryz.pinned (OpenSpec.ofChange billSlipSpec)

/-- ITS FALSE NEIGHBOUR: 'it returns false'. Refute it at one input. -/
def billSlipWrong : ChangeSpec := { name := "billSlip", fn := fun _ => fun
  | [d1, d2, d3] => { results := [.lit (.bool false)], args := [d1, d2, d3] }
  | _ => none }
def BillSlipWrongFalsely : Prop := billSlipRow.holds Tryz.pinned (OpenSpec.ofChange billSlipWrong)

/-- 'ceroplastlaw07.BillSurely': WHATEVER THE INPUT: true; the input reads as it did. -/
def billSurelySpec : ChangeSpec := { name := "billSurely", fn := fun _ => fun
  | [d1, d2, d3] => { results := [.lit (.bool true)], args := [d1, d2, d3] }
  | _ => none }
def billSurelyRow : OpenClaim := { program := "ytgncapdjheghfaagreatdoor", sum := "aa208128f1babad5c294205efc797e0768fe6a931fad091bbde322670d105d8f", func := "ceroplast/ceroplastlaw07.BillSurely", spec := "billSurely", inPlace := ["internal/abi.NoEscape", "internal/bytealg.MakeNoZero", "internal/bytealg.IndexByteString"], unfollowed := true, recurses := true, named := ["internal/strconv.uint64pow10", "math/bits.deBruijn32tab", "math/bits.deBruijn64tab"], apart := false, laid := [("math/bits.deBruijn32tab", laid_math_bits_deBruijn32tab), ("math/bits.deBruijn64tab", laid_math_bits_deBruijn64tab), ("internal/strconv.uint64pow10", laid_internal_strconv_uint64pow10)] }
def BillSurelySaid : Prop := billSurelyRow.holds Tryz.pinned (OpenSpec.ofChange billSurelySpec)

/-- ITS FALSE NEIGHBOUR: 'it returns false'. Refute it at one input. -/
def billSurelyWrong : ChangeSpec := { name := "billSurely", fn := fun _ => fun
  | [d1, d2, d3] => { results := [.lit (.bool false)], args := [d1, d2, d3] }
  | _ => none }
def BillSurelyWrongFalsely : Prop := billSurelyRow.holds Tryz.pinned (OpenSpec.ofChange billSurelyWrong)

/-- 'ceroplastlaw07.BillOrder': WHATEVER THE INPUT: true; the input reads as it did. -/
def billOrderSpec : ChangeSpec := { name := "billOrder", fn := fun _ => fun
  | [d1, d2] => { results := [.lit (.bool true)], args := [d1, d2] }
  | _ => none }
def billOrderRow : OpenClaim := { program := "ytgncapdjheghfaagreatdoor", sum := "aa208128f1babad5c294205efc797e0768fe6a931fad091bbde322670d105d8f", func := "ceroplast/ceroplastlaw07.BillOrder", spec := "billOrder", inPlace := ["internal/abi.NoEscape", "internal/bytealg.MakeNoZero", "internal/bytealg.IndexByteString"], unfollowed := true, recurses := true, named := ["internal/strconv.uint64pow10", "math/bits.deBruijn32tab", "math/bits.deBruijn64tab"], apart := false, laid := [("math/bits.deBruijn32tab", laid_math_bits_deBruijn32tab), ("math/bits.deBruijn64tab", laid_math_bits_deBruijn64tab), ("internal/strconv.uint64pow10", laid_internal_strconv_uint64pow10)] }
def BillOrderSaid : Prop := billOrderRow.holds Tryz.pinned (OpenSpec.ofChange billOrderSpec)

/-- ITS FALSE NEIGHBOUR: 'it returns false'. Refute it at one input. -/
def billOrderWrong : ChangeSpec := { name := "billOrder", fn := fun _ => fun
  | [d1, d2] => { results := [.lit (.bool false)], args := [d1, d2] }
  | _ => none }
def BillOrderWrongFalsely : Prop := billOrderRow.holds Tryz.pinned (OpenSpec.ofChange billOrderWrong)

/- THE SECOND FORM. 'bulk': how many values and letters a reading holds, each counted each time it is reached (what is shared counts as often as it is met; a slice's spare places count too). A statement '..UptoSaid' is the law's where the arguments, and the package variables that the reading takes, are together of bulk at most 1048576: NARROWER than '..Said'. Prove '..Said' where nothing that the law and all that it calls make is longer than what came in: it says more and counts as full. Else prove '..UptoSaid'. A law counts once. -/
mutual
def uptoBulk {H : Type} : DataW H → Nat
  | .lit (.string bytes) => bytes.length + 1
  | .lit _ => 1
  | .nil => 1
  | .ptr d => uptoBulk d + 1
  | .slice elems spare => uptoBulkAll elems + uptoBulkAll spare + 1
  | .agg parts => uptoBulkAll parts + 1
  | .iface _ d => uptoBulk d + 1
  | .map entries => uptoBulkEntries entries + 1
  | .held _ => 1
def uptoBulkAll {H : Type} : List (DataW H) → Nat
  | [] => 0
  | d :: r => uptoBulk d + uptoBulkAll r
def uptoBulkEntries {H : Type} : List (Lit × DataW H) → Nat
  | [] => 0
  | x :: r => uptoBulkEntry x + uptoBulkEntries r
def uptoBulkEntry {H : Type} : Lit × DataW H → Nat
  | (.string bytes, d) => bytes.length + uptoBulk d + 1
  | (_, d) => uptoBulk d + 1
 end
def uptoSmall : (H : Type) → List (DataW H) → Bool := fun _ ds => decide (uptoBulkAll ds ≤ 1048576)
def OpenSpec.upto (s : _root_.Go.ChangeSpec) : _root_.Go.OpenSpec := { _root_.Go.OpenSpec.ofChange s with cond := some uptoSmall }

/-- 'ceroplastlaw07.BillTrue', WHERE WHAT IT READS IS OF BULK AT MOST 1048576: true; the input reads as it did. -/
def billTrueUptoRow : OpenClaim := { program := "ytgncapdjheghfaagreatdoor", sum := "aa208128f1babad5c294205efc797e0768fe6a931fad091bbde322670d105d8f", func := "ceroplast/ceroplastlaw07.BillTrue", spec := "billTrue", inPlace := ["internal/abi.NoEscape", "internal/bytealg.MakeNoZero", "internal/bytealg.IndexByteString"], unfollowed := true, recurses := true, named := ["internal/strconv.uint64pow10", "math/bits.deBruijn32tab", "math/bits.deBruijn64tab"], apart := false, laid := [("math/bits.deBruijn32tab", laid_math_bits_deBruijn32tab), ("math/bits.deBruijn64tab", laid_math_bits_deBruijn64tab), ("internal/strconv.uint64pow10", laid_internal_strconv_uint64pow10)], narrowed := true }
def BillTrueUptoSaid : Prop := billTrueUptoRow.holds Tryz.pinned (OpenSpec.upto billTrueSpec)

/-- 'ceroplastlaw07.BillBest', WHERE WHAT IT READS IS OF BULK AT MOST 1048576: true; the input reads as it did. -/
def billBestUptoRow : OpenClaim := { program := "ytgncapdjheghfaagreatdoor", sum := "aa208128f1babad5c294205efc797e0768fe6a931fad091bbde322670d105d8f", func := "ceroplast/ceroplastlaw07.BillBest", spec := "billBest", inPlace := ["internal/abi.NoEscape", "internal/bytealg.MakeNoZero", "internal/bytealg.IndexByteString"], unfollowed := true, recurses := true, named := ["internal/strconv.uint64pow10", "math/bits.deBruijn32tab", "math/bits.deBruijn64tab"], apart := false, laid := [("math/bits.deBruijn32tab", laid_math_bits_deBruijn32tab), ("math/bits.deBruijn64tab", laid_math_bits_deBruijn64tab), ("internal/strconv.uint64pow10", laid_internal_strconv_uint64pow10)], narrowed := true }
def BillBestUptoSaid : Prop := billBestUptoRow.holds Tryz.pinned (OpenSpec.upto billBestSpec)

/-- 'ceroplastlaw07.BillPages', WHERE WHAT IT READS IS OF BULK AT MOST 1048576: true; the input reads as it did. -/
def billPagesUptoRow : OpenClaim := { program := "ytgncapdjheghfaagreatdoor", sum := "aa208128f1babad5c294205efc797e0768fe6a931fad091bbde322670d105d8f", func := "ceroplast/ceroplastlaw07.BillPages", spec := "billPages", inPlace := ["internal/abi.NoEscape", "internal/bytealg.MakeNoZero", "internal/bytealg.IndexByteString"], unfollowed := true, recurses := true, named := ["internal/strconv.uint64pow10", "math/bits.deBruijn32tab", "math/bits.deBruijn64tab"], apart := false, laid := [("math/bits.deBruijn32tab", laid_math_bits_deBruijn32tab), ("math/bits.deBruijn64tab", laid_math_bits_deBruijn64tab), ("internal/strconv.uint64pow10", laid_internal_strconv_uint64pow10)], narrowed := true }
def BillPagesUptoSaid : Prop := billPagesUptoRow.holds Tryz.pinned (OpenSpec.upto billPagesSpec)

/-- 'ceroplastlaw07.BillTexts', WHERE WHAT IT READS IS OF BULK AT MOST 1048576: true; the input reads as it did. -/
def billTextsUptoRow : OpenClaim := { program := "ytgncapdjheghfaagreatdoor", sum := "aa208128f1babad5c294205efc797e0768fe6a931fad091bbde322670d105d8f", func := "ceroplast/ceroplastlaw07.BillTexts", spec := "billTexts", inPlace := ["internal/abi.NoEscape", "internal/bytealg.MakeNoZero", "internal/bytealg.IndexByteString"], unfollowed := true, recurses := true, named := ["internal/strconv.uint64pow10", "math/bits.deBruijn32tab", "math/bits.deBruijn64tab"], apart := false, laid := [("math/bits.deBruijn32tab", laid_math_bits_deBruijn32tab), ("math/bits.deBruijn64tab", laid_math_bits_deBruijn64tab), ("internal/strconv.uint64pow10", laid_internal_strconv_uint64pow10)], narrowed := true }
def BillTextsUptoSaid : Prop := billTextsUptoRow.holds Tryz.pinned (OpenSpec.upto billTextsSpec)

/-- 'ceroplastlaw07.BillSlips', WHERE WHAT IT READS IS OF BULK AT MOST 1048576: true; the input reads as it did. -/
def billSlipsUptoRow : OpenClaim := { program := "ytgncapdjheghfaagreatdoor", sum := "aa208128f1babad5c294205efc797e0768fe6a931fad091bbde322670d105d8f", func := "ceroplast/ceroplastlaw07.BillSlips", spec := "billSlips", inPlace := ["internal/abi.NoEscape", "internal/bytealg.MakeNoZero", "internal/bytealg.IndexByteString"], unfollowed := true, recurses := true, named := ["internal/strconv.uint64pow10", "math/bits.deBruijn32tab", "math/bits.deBruijn64tab"], apart := false, laid := [("math/bits.deBruijn32tab", laid_math_bits_deBruijn32tab), ("math/bits.deBruijn64tab", laid_math_bits_deBruijn64tab), ("internal/strconv.uint64pow10", laid_internal_strconv_uint64pow10)], narrowed := true }
def BillSlipsUptoSaid : Prop := billSlipsUptoRow.holds Tryz.pinned (OpenSpec.upto billSlipsSpec)

/-- 'ceroplastlaw07.BillHolds', WHERE WHAT IT READS IS OF BULK AT MOST 1048576: true; the input reads as it did. -/
def billHoldsUptoRow : OpenClaim := { program := "ytgncapdjheghfaagreatdoor", sum := "aa208128f1babad5c294205efc797e0768fe6a931fad091bbde322670d105d8f", func := "ceroplast/ceroplastlaw07.BillHolds", spec := "billHolds", inPlace := ["internal/abi.NoEscape", "internal/bytealg.MakeNoZero", "internal/bytealg.IndexByteString"], unfollowed := true, recurses := true, named := ["internal/strconv.uint64pow10", "math/bits.deBruijn32tab", "math/bits.deBruijn64tab"], apart := false, laid := [("math/bits.deBruijn32tab", laid_math_bits_deBruijn32tab), ("math/bits.deBruijn64tab", laid_math_bits_deBruijn64tab), ("internal/strconv.uint64pow10", laid_internal_strconv_uint64pow10)], narrowed := true }
def BillHoldsUptoSaid : Prop := billHoldsUptoRow.holds Tryz.pinned (OpenSpec.upto billHoldsSpec)

/-- 'ceroplastlaw07.BillFewest', WHERE WHAT IT READS IS OF BULK AT MOST 1048576: true; the input reads as it did. -/
def billFewestUptoRow : OpenClaim := { program := "ytgncapdjheghfaagreatdoor", sum := "aa208128f1babad5c294205efc797e0768fe6a931fad091bbde322670d105d8f", func := "ceroplast/ceroplastlaw07.BillFewest", spec := "billFewest", inPlace := ["internal/abi.NoEscape", "internal/bytealg.MakeNoZero", "internal/bytealg.IndexByteString"], unfollowed := true, recurses := true, named := ["internal/strconv.uint64pow10", "math/bits.deBruijn32tab", "math/bits.deBruijn64tab"], apart := false, laid := [("math/bits.deBruijn32tab", laid_math_bits_deBruijn32tab), ("math/bits.deBruijn64tab", laid_math_bits_deBruijn64tab), ("internal/strconv.uint64pow10", laid_internal_strconv_uint64pow10)], narrowed := true }
def BillFewestUptoSaid : Prop := billFewestUptoRow.holds Tryz.pinned (OpenSpec.upto billFewestSpec)

/-- 'ceroplastlaw07.BillWhite', WHERE WHAT IT READS IS OF BULK AT MOST 1048576: true; the input reads as it did. -/
def billWhiteUptoRow : OpenClaim := { program := "ytgncapdjheghfaagreatdoor", sum := "aa208128f1babad5c294205efc797e0768fe6a931fad091bbde322670d105d8f", func := "ceroplast/ceroplastlaw07.BillWhite", spec := "billWhite", inPlace := ["internal/abi.NoEscape", "internal/bytealg.MakeNoZero", "internal/bytealg.IndexByteString"], unfollowed := true, recurses := true, named := ["internal/strconv.uint64pow10", "math/bits.deBruijn32tab", "math/bits.deBruijn64tab"], apart := false, laid := [("math/bits.deBruijn32tab", laid_math_bits_deBruijn32tab), ("math/bits.deBruijn64tab", laid_math_bits_deBruijn64tab), ("internal/strconv.uint64pow10", laid_internal_strconv_uint64pow10)], narrowed := true }
def BillWhiteUptoSaid : Prop := billWhiteUptoRow.holds Tryz.pinned (OpenSpec.upto billWhiteSpec)

/-- 'ceroplastlaw07.BillRound', WHERE WHAT IT READS IS OF BULK AT MOST 1048576: true; the input reads as it did. -/
def billRoundUptoRow : OpenClaim := { program := "ytgncapdjheghfaagreatdoor", sum := "aa208128f1babad5c294205efc797e0768fe6a931fad091bbde322670d105d8f", func := "ceroplast/ceroplastlaw07.BillRound", spec := "billRound", inPlace := ["internal/bytealg.IndexByteString", "internal/abi.NoEscape", "internal/bytealg.MakeNoZero"], unfollowed := true, recurses := true, named := ["internal/strconv.uint64pow10", "math/bits.deBruijn32tab", "math/bits.deBruijn64tab"], apart := false, laid := [("math/bits.deBruijn32tab", laid_math_bits_deBruijn32tab), ("math/bits.deBruijn64tab", laid_math_bits_deBruijn64tab), ("internal/strconv.uint64pow10", laid_internal_strconv_uint64pow10)], narrowed := true }
def BillRoundUptoSaid : Prop := billRoundUptoRow.holds Tryz.pinned (OpenSpec.upto billRoundSpec)

/-- 'ceroplastlaw07.BillSlip', WHERE WHAT IT READS IS OF BULK AT MOST 1048576: true; the input reads as it did. -/
def billSlipUptoRow : OpenClaim := { program := "ytgncapdjheghfaagreatdoor", sum := "aa208128f1babad5c294205efc797e0768fe6a931fad091bbde322670d105d8f", func := "ceroplast/ceroplastlaw07.BillSlip", spec := "billSlip", inPlace := ["internal/abi.NoEscape", "internal/bytealg.MakeNoZero", "internal/bytealg.IndexByteString"], unfollowed := true, recurses := true, named := ["internal/strconv.uint64pow10", "math/bits.deBruijn32tab", "math/bits.deBruijn64tab"], apart := false, laid := [("math/bits.deBruijn32tab", laid_math_bits_deBruijn32tab), ("math/bits.deBruijn64tab", laid_math_bits_deBruijn64tab), ("internal/strconv.uint64pow10", laid_internal_strconv_uint64pow10)], narrowed := true }
def BillSlipUptoSaid : Prop := billSlipUptoRow.holds Tryz.pinned (OpenSpec.upto billSlipSpec)

/-- 'ceroplastlaw07.BillSurely', WHERE WHAT IT READS IS OF BULK AT MOST 1048576: true; the input reads as it did. -/
def billSurelyUptoRow : OpenClaim := { program := "ytgncapdjheghfaagreatdoor", sum := "aa208128f1babad5c294205efc797e0768fe6a931fad091bbde322670d105d8f", func := "ceroplast/ceroplastlaw07.BillSurely", spec := "billSurely", inPlace := ["internal/abi.NoEscape", "internal/bytealg.MakeNoZero", "internal/bytealg.IndexByteString"], unfollowed := true, recurses := true, named := ["internal/strconv.uint64pow10", "math/bits.deBruijn32tab", "math/bits.deBruijn64tab"], apart := false, laid := [("math/bits.deBruijn32tab", laid_math_bits_deBruijn32tab), ("math/bits.deBruijn64tab", laid_math_bits_deBruijn64tab), ("internal/strconv.uint64pow10", laid_internal_strconv_uint64pow10)], narrowed := true }
def BillSurelyUptoSaid : Prop := billSurelyUptoRow.holds Tryz.pinned (OpenSpec.upto billSurelySpec)

/-- 'ceroplastlaw07.BillOrder', WHERE WHAT IT READS IS OF BULK AT MOST 1048576: true; the input reads as it did. -/
def billOrderUptoRow : OpenClaim := { program := "ytgncapdjheghfaagreatdoor", sum := "aa208128f1babad5c294205efc797e0768fe6a931fad091bbde322670d105d8f", func := "ceroplast/ceroplastlaw07.BillOrder", spec := "billOrder", inPlace := ["internal/abi.NoEscape", "internal/bytealg.MakeNoZero", "internal/bytealg.IndexByteString"], unfollowed := true, recurses := true, named := ["internal/strconv.uint64pow10", "math/bits.deBruijn32tab", "math/bits.deBruijn64tab"], apart := false, laid := [("math/bits.deBruijn32tab", laid_math_bits_deBruijn32tab), ("math/bits.deBruijn64tab", laid_math_bits_deBruijn64tab), ("internal/strconv.uint64pow10", laid_internal_strconv_uint64pow10)], narrowed := true }
def BillOrderUptoSaid : Prop := billOrderUptoRow.holds Tryz.pinned (OpenSpec.upto billOrderSpec)

end Rows
end Go.Proofs.YtgncapdjheghfaaGreatDoor
