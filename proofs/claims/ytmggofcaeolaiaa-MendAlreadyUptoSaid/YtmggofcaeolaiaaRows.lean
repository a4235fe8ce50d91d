/-
  No cell of these rows narrows 'for every input' (looked for: loops, veiled, ifaces, maps, wideKeys, modest, calm, conditions, laid).
  DERIVED. THE GIVEN ROWS OF THIS SEAT. 13 by the template 'for every input the law returns true; each argument reads behind the call as it read before'; 0 by the template 'total and deterministic' (their statements: YtmggofcaeolaiaaTotals.lean).
  GIVEN WITH THE SEED: the statements are not yours to turn. If you find one false, say at which input.
  Laid BY PROGRAM, IN A SANDBOX (cutbox-rows.mjs): the forced cells as the released guide's own fill.sh prints them over the translation 3205e6c502bb4c5a… (all of the seat's roots in one cut). By AI agents, Wed Nov 11 2026. No macro, syntax, notation, axiom, sorry.
-/
import Derived.Test.YtmggofcaeolaiaaChecked
import GoSem.Claim
import GoSem.ClaimJoined
import GoSem.ClaimMapViews
import Derived.JoinedTies
import Derived.KernelRfl
namespace Go.Proofs.Ytmggofcaeolaiaa
/- THE CELL 'sum', in the pinned program and in every row, IS THE sha256 OF THE DUMP (.gsa) THAT YtmggofcaeolaiaaProg.lean LOADS. Nothing in Lean hashes anything: it is a label: what it is worth is what the hold of that sum in a sandbox is worth. -/
noncomputable def Try.pinned : Pinned := { name := "ytmggofcaeolaiaa", sum := "3205e6c502bb4c5a9375baaf5965c93545dfded4cea44fb0ffaf2e8691c88a8c", checked := Try.checked }
namespace Rows
def none {H : Type} : Left H := { results := [], args := [] }

/-- 'ceroplastlaw11.MendDone': WHATEVER THE INPUT: true; the input reads as it did. -/
def mendDoneSpec : ChangeSpec := { name := "mendDone", fn := fun _ => fun
  | [d1, d2] => { results := [.lit (.bool true)], args := [d1, d2] }
  | _ => none }
def mendDoneRow : OpenClaim := { program := "ytmggofcaeolaiaa", sum := "3205e6c502bb4c5a9375baaf5965c93545dfded4cea44fb0ffaf2e8691c88a8c", func := "ceroplast/ceroplastlaw11.MendDone", spec := "mendDone", unfollowed := true, recurses := true, plainKeys := false, apart := false }
def MendDoneSaid : Prop := mendDoneRow.holds Try.pinned (OpenSpec.ofChange mendDoneSpec)

/-- ITS FALSE NEIGHBOUR: 'it returns false'. Refute it at one input. -/
def mendDoneWrong : ChangeSpec := { name := "mendDone", fn := fun _ => fun
  | [d1, d2] => { results := [.lit (.bool false)], args := [d1, d2] }
  | _ => none }
def MendDoneWrongFalsely : Prop := mendDoneRow.holds Try.pinned (OpenSpec.ofChange mendDoneWrong)

/-- 'ceroplastlaw11.MendFewest': WHATEVER THE INPUT: true; the input reads as it did. -/
def mendFewestSpec : ChangeSpec := { name := "mendFewest", fn := fun _ => fun
  | [d] => { results := [.lit (.bool true)], args := [d] }
  | _ => none }
def mendFewestRow : OpenClaim := { program := "ytmggofcaeolaiaa", sum := "3205e6c502bb4c5a9375baaf5965c93545dfded4cea44fb0ffaf2e8691c88a8c", func := "ceroplast/ceroplastlaw11.MendFewest", spec := "mendFewest", unfollowed := true, recurses := true, plainKeys := false, apart := false }
def MendFewestSaid : Prop := mendFewestRow.holds Try.pinned (OpenSpec.ofChange mendFewestSpec)

/-- ITS FALSE NEIGHBOUR: 'it returns false'. Refute it at one input. -/
def mendFewestWrong : ChangeSpec := { name := "mendFewest", fn := fun _ => fun
  | [d] => { results := [.lit (.bool false)], args := [d] }
  | _ => none }
def MendFewestWrongFalsely : Prop := mendFewestRow.holds Try.pinned (OpenSpec.ofChange mendFewestWrong)

/-- 'ceroplastlaw11.MendReach': WHATEVER THE INPUT: true; the input reads as it did. -/
def mendReachSpec : ChangeSpec := { name := "mendReach", fn := fun _ => fun
  | [d1, d2, d3] => { results := [.lit (.bool true)], args := [d1, d2, d3] }
  | _ => none }
def mendReachRow : OpenClaim := { program := "ytmggofcaeolaiaa", sum := "3205e6c502bb4c5a9375baaf5965c93545dfded4cea44fb0ffaf2e8691c88a8c", func := "ceroplast/ceroplastlaw11.MendReach", spec := "mendReach", unfollowed := true, recurses := true, plainKeys := false, apart := false }
def MendReachSaid : Prop := mendReachRow.holds Try.pinned (OpenSpec.ofChange mendReachSpec)

/-- ITS FALSE NEIGHBOUR: 'it returns false'. Refute it at one input. -/
def mendReachWrong : ChangeSpec := { name := "mendReach", fn := fun _ => fun
  | [d1, d2, d3] => { results := [.lit (.bool false)], args := [d1, d2, d3] }
  | _ => none }
def MendReachWrongFalsely : Prop := mendReachRow.holds Try.pinned (OpenSpec.ofChange mendReachWrong)

/-- 'ceroplastlaw11.MendLoops': WHATEVER THE INPUT: true; the input reads as it did. -/
def mendLoopsSpec : ChangeSpec := { name := "mendLoops", fn := fun _ => fun
  | [d] => { results := [.lit (.bool true)], args := [d] }
  | _ => none }
def mendLoopsRow : OpenClaim := { program := "ytmggofcaeolaiaa", sum := "3205e6c502bb4c5a9375baaf5965c93545dfded4cea44fb0ffaf2e8691c88a8c", func := "ceroplast/ceroplastlaw11.MendLoops", spec := "mendLoops", unfollowed := true, recurses := true, plainKeys := false, apart := false }
def MendLoopsSaid : Prop := mendLoopsRow.holds Try.pinned (OpenSpec.ofChange mendLoopsSpec)

/-- ITS FALSE NEIGHBOUR: 'it returns false'. Refute it at one input. -/
def mendLoopsWrong : ChangeSpec := { name := "mendLoops", fn := fun _ => fun
  | [d] => { results := [.lit (.bool false)], args := [d] }
  | _ => none }
def MendLoopsWrongFalsely : Prop := mendLoopsRow.holds Try.pinned (OpenSpec.ofChange mendLoopsWrong)

/-- 'ceroplastlaw11.MendKnown': WHATEVER THE INPUT: true; the input reads as it did. -/
def mendKnownSpec : ChangeSpec := { name := "mendKnown", fn := fun _ => fun
  | [] => { results := [.lit (.bool true)], args := [] }
  | _ => none }
def mendKnownRow : OpenClaim := { program := "ytmggofcaeolaiaa", sum := "3205e6c502bb4c5a9375baaf5965c93545dfded4cea44fb0ffaf2e8691c88a8c", func := "ceroplast/ceroplastlaw11.MendKnown", spec := "mendKnown", unfollowed := true, recurses := true, plainKeys := false, apart := false }
def MendKnownSaid : Prop := mendKnownRow.holds Try.pinned (OpenSpec.ofChange mendKnownSpec)

/-- ITS FALSE NEIGHBOUR: 'it returns false'. Refute it at one input. -/
def mendKnownWrong : ChangeSpec := { name := "mendKnown", fn := fun _ => fun
  | [] => { results := [.lit (.bool false)], args := [] }
  | _ => none }
def MendKnownWrongFalsely : Prop := mendKnownRow.holds Try.pinned (OpenSpec.ofChange mendKnownWrong)

/-- 'ceroplastlaw11.MendLeast': WHATEVER THE INPUT: true; the input reads as it did. -/
def mendLeastSpec : ChangeSpec := { name := "mendLeast", fn := fun _ => fun
  | [d1, d2] => { results := [.lit (.bool true)], args := [d1, d2] }
  | _ => none }
def mendLeastRow : OpenClaim := { program := "ytmggofcaeolaiaa", sum := "3205e6c502bb4c5a9375baaf5965c93545dfded4cea44fb0ffaf2e8691c88a8c", func := "ceroplast/ceroplastlaw11.MendLeast", spec := "mendLeast", unfollowed := true, recurses := true, plainKeys := false, apart := false }
def MendLeastSaid : Prop := mendLeastRow.holds Try.pinned (OpenSpec.ofChange mendLeastSpec)

/-- ITS FALSE NEIGHBOUR: 'it returns false'. Refute it at one input. -/
def mendLeastWrong : ChangeSpec := { name := "mendLeast", fn := fun _ => fun
  | [d1, d2] => { results := [.lit (.bool false)], args := [d1, d2] }
  | _ => none }
def MendLeastWrongFalsely : Prop := mendLeastRow.holds Try.pinned (OpenSpec.ofChange mendLeastWrong)

/-- 'ceroplastlaw11.MendLoop': WHATEVER THE INPUT: true; the input reads as it did. -/
def mendLoopSpec : ChangeSpec := { name := "mendLoop", fn := fun _ => fun
  | [d] => { results := [.lit (.bool true)], args := [d] }
  | _ => none }
def mendLoopRow : OpenClaim := { program := "ytmggofcaeolaiaa", sum := "3205e6c502bb4c5a9375baaf5965c93545dfded4cea44fb0ffaf2e8691c88a8c", func := "ceroplast/ceroplastlaw11.MendLoop", spec := "mendLoop", unfollowed := true, recurses := true, plainKeys := false, apart := false }
def MendLoopSaid : Prop := mendLoopRow.holds Try.pinned (OpenSpec.ofChange mendLoopSpec)

/-- ITS FALSE NEIGHBOUR: 'it returns false'. Refute it at one input. -/
def mendLoopWrong : ChangeSpec := { name := "mendLoop", fn := fun _ => fun
  | [d] => { results := [.lit (.bool false)], args := [d] }
  | _ => none }
def MendLoopWrongFalsely : Prop := mendLoopRow.holds Try.pinned (OpenSpec.ofChange mendLoopWrong)

/-- 'ceroplastlaw11.MendMost': WHATEVER THE INPUT: true; the input reads as it did. -/
def mendMostSpec : ChangeSpec := { name := "mendMost", fn := fun _ => fun
  | [d1, d2] => { results := [.lit (.bool true)], args := [d1, d2] }
  | _ => none }
def mendMostRow : OpenClaim := { program := "ytmggofcaeolaiaa", sum := "3205e6c502bb4c5a9375baaf5965c93545dfded4cea44fb0ffaf2e8691c88a8c", func := "ceroplast/ceroplastlaw11.MendMost", spec := "mendMost", unfollowed := true, recurses := true, plainKeys := false, apart := false }
def MendMostSaid : Prop := mendMostRow.holds Try.pinned (OpenSpec.ofChange mendMostSpec)

/-- ITS FALSE NEIGHBOUR: 'it returns false'. Refute it at one input. -/
def mendMostWrong : ChangeSpec := { name := "mendMost", fn := fun _ => fun
  | [d1, d2] => { results := [.lit (.bool false)], args := [d1, d2] }
  | _ => none }
def MendMostWrongFalsely : Prop := mendMostRow.holds Try.pinned (OpenSpec.ofChange mendMostWrong)

/-- 'ceroplastlaw11.MendStay': WHATEVER THE INPUT: true; the input reads as it did. -/
def mendStaySpec : ChangeSpec := { name := "mendStay", fn := fun _ => fun
  | [d1, d2, d3] => { results := [.lit (.bool true)], args := [d1, d2, d3] }
  | _ => none }
def mendStayRow : OpenClaim := { program := "ytmggofcaeolaiaa", sum := "3205e6c502bb4c5a9375baaf5965c93545dfded4cea44fb0ffaf2e8691c88a8c", func := "ceroplast/ceroplastlaw11.MendStay", spec := "mendStay", unfollowed := true, recurses := true, plainKeys := false, apart := false }
def MendStaySaid : Prop := mendStayRow.holds Try.pinned (OpenSpec.ofChange mendStaySpec)

/-- ITS FALSE NEIGHBOUR: 'it returns false'. Refute it at one input. -/
def mendStayWrong : ChangeSpec := { name := "mendStay", fn := fun _ => fun
  | [d1, d2, d3] => { results := [.lit (.bool false)], args := [d1, d2, d3] }
  | _ => none }
def MendStayWrongFalsely : Prop := mendStayRow.holds Try.pinned (OpenSpec.ofChange mendStayWrong)

/-- 'ceroplastlaw11.MendReached': WHATEVER THE INPUT: true; the input reads as it did. -/
def mendReachedSpec : ChangeSpec := { name := "mendReached", fn := fun _ => fun
  | [d1, d2] => { results := [.lit (.bool true)], args := [d1, d2] }
  | _ => none }
def mendReachedRow : OpenClaim := { program := "ytmggofcaeolaiaa", sum := "3205e6c502bb4c5a9375baaf5965c93545dfded4cea44fb0ffaf2e8691c88a8c", func := "ceroplast/ceroplastlaw11.MendReached", spec := "mendReached", unfollowed := true, recurses := true, plainKeys := false, apart := false }
def MendReachedSaid : Prop := mendReachedRow.holds Try.pinned (OpenSpec.ofChange mendReachedSpec)

/-- ITS FALSE NEIGHBOUR: 'it returns false'. Refute it at one input. -/
def mendReachedWrong : ChangeSpec := { name := "mendReached", fn := fun _ => fun
  | [d1, d2] => { results := [.lit (.bool false)], args := [d1, d2] }
  | _ => none }
def MendReachedWrongFalsely : Prop := mendReachedRow.holds Try.pinned (OpenSpec.ofChange mendReachedWrong)

/-- 'ceroplastlaw11.MendSaved': WHATEVER THE INPUT: true; the input reads as it did. -/
def mendSavedSpec : ChangeSpec := { name := "mendSaved", fn := fun _ => fun
  | [d1, d2] => { results := [.lit (.bool true)], args := [d1, d2] }
  | _ => none }
def mendSavedRow : OpenClaim := { program := "ytmggofcaeolaiaa", sum := "3205e6c502bb4c5a9375baaf5965c93545dfded4cea44fb0ffaf2e8691c88a8c", func := "ceroplast/ceroplastlaw11.MendSaved", spec := "mendSaved", unfollowed := true, recurses := true, plainKeys := false, apart := false }
def MendSavedSaid : Prop := mendSavedRow.holds Try.pinned (OpenSpec.ofChange mendSavedSpec)

/-- ITS FALSE NEIGHBOUR: 'it returns false'. Refute it at one input. -/
def mendSavedWrong : ChangeSpec := { name := "mendSaved", fn := fun _ => fun
  | [d1, d2] => { results := [.lit (.bool false)], args := [d1, d2] }
  | _ => none }
def MendSavedWrongFalsely : Prop := mendSavedRow.holds Try.pinned (OpenSpec.ofChange mendSavedWrong)

/-- 'ceroplastlaw11.MendBack': WHATEVER THE INPUT: true; the input reads as it did. -/
def mendBackSpec : ChangeSpec := { name := "mendBack", fn := fun _ => fun
  | [d1, d2] => { results := [.lit (.bool true)], args := [d1, d2] }
  | _ => none }
def mendBackRow : OpenClaim := { program := "ytmggofcaeolaiaa", sum := "3205e6c502bb4c5a9375baaf5965c93545dfded4cea44fb0ffaf2e8691c88a8c", func := "ceroplast/ceroplastlaw11.MendBack", spec := "mendBack", unfollowed := true, recurses := true, plainKeys := false, apart := false }
def MendBackSaid : Prop := mendBackRow.holds Try.pinned (OpenSpec.ofChange mendBackSpec)

/-- ITS FALSE NEIGHBOUR: 'it returns false'. Refute it at one input. -/
def mendBackWrong : ChangeSpec := { name := "mendBack", fn := fun _ => fun
  | [d1, d2] => { results := [.lit (.bool false)], args := [d1, d2] }
  | _ => none }
def MendBackWrongFalsely : Prop := mendBackRow.holds Try.pinned (OpenSpec.ofChange mendBackWrong)

/-- 'ceroplastlaw11.MendAlready': WHATEVER THE INPUT: true; the input reads as it did. -/
def mendAlreadySpec : ChangeSpec := { name := "mendAlready", fn := fun _ => fun
  | [d1, d2] => { results := [.lit (.bool true)], args := [d1, d2] }
  | _ => none }
def mendAlreadyRow : OpenClaim := { program := "ytmggofcaeolaiaa", sum := "3205e6c502bb4c5a9375baaf5965c93545dfded4cea44fb0ffaf2e8691c88a8c", func := "ceroplast/ceroplastlaw11.MendAlready", spec := "mendAlready", unfollowed := true, recurses := true, plainKeys := false, apart := false }
def MendAlreadySaid : Prop := mendAlreadyRow.holds Try.pinned (OpenSpec.ofChange mendAlreadySpec)

/-- ITS FALSE NEIGHBOUR: 'it returns false'. Refute it at one input. -/
def mendAlreadyWrong : ChangeSpec := { name := "mendAlready", fn := fun _ => fun
  | [d1, d2] => { results := [.lit (.bool false)], args := [d1, d2] }
  | _ => none }
def MendAlreadyWrongFalsely : Prop := mendAlreadyRow.holds Try.pinned (OpenSpec.ofChange mendAlreadyWrong)

/- THE SECOND FORM. 'bulk': how many values and letters a reading holds, each counted each time it is reached (what is shared counts as often as it is met; a slice's spare places count too). A statement '..UptoSaid' is the law's where the arguments, and the package variables that the reading takes, are together of bulk at most 1048576: NARROWER than '..Said'. Prove '..Said' where nothing that the law and all that it calls make is longer than what came in: it says more and counts as full. Else prove '..UptoSaid'. A law counts once. -/
mutual
def uptoBulk {H : Type} : DataW H → Nat
  | .lit (.string bytes) => bytes.length + 1
  | .lit _ => 1
  | .nil => 1
  | .ptr d => uptoBulk d + 1
  | .slice elems spare => uptoBulkAll elems + uptoBulkAll spare + 1
  | .agg parts => uptoBulkAll parts + 1
  | .iface _ d => uptoBulk d + 1
  | .map entries => uptoBulkEntries entries + 1
  | .held _ => 1
def uptoBulkAll {H : Type} : List (DataW H) → Nat
  | [] => 0
  | d :: r => uptoBulk d + uptoBulkAll r
def uptoBulkEntries {H : Type} : List (Lit × DataW H) → Nat
  | [] => 0
  | x :: r => uptoBulkEntry x + uptoBulkEntries r
def uptoBulkEntry {H : Type} : Lit × DataW H → Nat
  | (.string bytes, d) => bytes.length + uptoBulk d + 1
  | (_, d) => uptoBulk d + 1
 end
def uptoSmall : (H : Type) → List (DataW H) → Bool := fun _ ds => decide (uptoBulkAll ds ≤ 1048576)
def OpenSpec.upto (s : _root_.Go.ChangeSpec) : _root_.Go.OpenSpec := { _root_.Go.OpenSpec.ofChange s with cond := some uptoSmall }

/-- 'ceroplastlaw11.MendDone', WHERE WHAT IT READS IS OF BULK AT MOST 1048576: true; the input reads as it did. -/
def mendDoneUptoRow : OpenClaim := { program := "ytmggofcaeolaiaa", sum := "3205e6c502bb4c5a9375baaf5965c93545dfded4cea44fb0ffaf2e8691c88a8c", func := "ceroplast/ceroplastlaw11.MendDone", spec := "mendDone", unfollowed := true, recurses := true, plainKeys := false, apart := false, narrowed := true }
def MendDoneUptoSaid : Prop := mendDoneUptoRow.holds Try.pinned (OpenSpec.upto mendDoneSpec)

/-- 'ceroplastlaw11.MendFewest', WHERE WHAT IT READS IS OF BULK AT MOST 1048576: true; the input reads as it did. -/
def mendFewestUptoRow : OpenClaim := { program := "ytmggofcaeolaiaa", sum := "3205e6c502bb4c5a9375baaf5965c93545dfded4cea44fb0ffaf2e8691c88a8c", func := "ceroplast/ceroplastlaw11.MendFewest", spec := "mendFewest", unfollowed := true, recurses := true, plainKeys := false, apart := false, narrowed := true }
def MendFewestUptoSaid : Prop := mendFewestUptoRow.holds Try.pinned (OpenSpec.upto mendFewestSpec)

/-- 'ceroplastlaw11.MendReach', WHERE WHAT IT READS IS OF BULK AT MOST 1048576: true; the input reads as it did. -/
def mendReachUptoRow : OpenClaim := { program := "ytmggofcaeolaiaa", sum := "3205e6c502bb4c5a9375baaf5965c93545dfded4cea44fb0ffaf2e8691c88a8c", func := "ceroplast/ceroplastlaw11.MendReach", spec := "mendReach", unfollowed := true, recurses := true, plainKeys := false, apart := false, narrowed := true }
def MendReachUptoSaid : Prop := mendReachUptoRow.holds Try.pinned (OpenSpec.upto mendReachSpec)

/-- 'ceroplastlaw11.MendLoops', WHERE WHAT IT READS IS OF BULK AT MOST 1048576: true; the input reads as it did. -/
def mendLoopsUptoRow : OpenClaim := { program := "ytmggofcaeolaiaa", sum := "3205e6c502bb4c5a9375baaf5965c93545dfded4cea44fb0ffaf2e8691c88a8c", func := "ceroplast/ceroplastlaw11.MendLoops", spec := "mendLoops", unfollowed := true, recurses := true, plainKeys := false, apart := false, narrowed := true }
def MendLoopsUptoSaid : Prop := mendLoopsUptoRow.holds Try.pinned (OpenSpec.upto mendLoopsSpec)

/-- 'ceroplastlaw11.MendKnown', WHERE WHAT IT READS IS OF BULK AT MOST 1048576: true; the input reads as it did. -/
def mendKnownUptoRow : OpenClaim := { program := "ytmggofcaeolaiaa", sum := "3205e6c502bb4c5a9375baaf5965c93545dfded4cea44fb0ffaf2e8691c88a8c", func := "ceroplast/ceroplastlaw11.MendKnown", spec := "mendKnown", unfollowed := true, recurses := true, plainKeys := false, apart := false, narrowed := true }
def MendKnownUptoSaid : Prop := mendKnownUptoRow.holds Try.pinned (OpenSpec.upto mendKnownSpec)

/-- 'ceroplastlaw11.MendLeast', WHERE WHAT IT READS IS OF BULK AT MOST 1048576: true; the input reads as it did. -/
def mendLeastUptoRow : OpenClaim := { program := "ytmggofcaeolaiaa", sum := "3205e6c502bb4c5a9375baaf5965c93545dfded4cea44fb0ffaf2e8691c88a8c", func := "ceroplast/ceroplastlaw11.MendLeast", spec := "mendLeast", unfollowed := true, recurses := true, plainKeys := false, apart := false, narrowed := true }
def MendLeastUptoSaid : Prop := mendLeastUptoRow.holds Try.pinned (OpenSpec.upto mendLeastSpec)

/-- 'ceroplastlaw11.MendLoop', WHERE WHAT IT READS IS OF BULK AT MOST 1048576: true; the input reads as it did. -/
def mendLoopUptoRow : OpenClaim := { program := "ytmggofcaeolaiaa", sum := "3205e6c502bb4c5a9375baaf5965c93545dfded4cea44fb0ffaf2e8691c88a8c", func := "ceroplast/ceroplastlaw11.MendLoop", spec := "mendLoop", unfollowed := true, recurses := true, plainKeys := false, apart := false, narrowed := true }
def MendLoopUptoSaid : Prop := mendLoopUptoRow.holds Try.pinned (OpenSpec.upto mendLoopSpec)

/-- 'ceroplastlaw11.MendMost', WHERE WHAT IT READS IS OF BULK AT MOST 1048576: true; the input reads as it did. -/
def mendMostUptoRow : OpenClaim := { program := "ytmggofcaeolaiaa", sum := "3205e6c502bb4c5a9375baaf5965c93545dfded4cea44fb0ffaf2e8691c88a8c", func := "ceroplast/ceroplastlaw11.MendMost", spec := "mendMost", unfollowed := true, recurses := true, plainKeys := false, apart := false, narrowed := true }
def MendMostUptoSaid : Prop := mendMostUptoRow.holds Try.pinned (OpenSpec.upto mendMostSpec)

/-- 'ceroplastlaw11.MendStay', WHERE WHAT IT READS IS OF BULK AT MOST 1048576: true; the input reads as it did. -/
def mendStayUptoRow : OpenClaim := { program := "ytmggofcaeolaiaa", sum := "3205e6c502bb4c5a9375baaf5965c93545dfded4cea44fb0ffaf2e8691c88a8c", func := "ceroplast/ceroplastlaw11.MendStay", spec := "mendStay", unfollowed := true, recurses := true, plainKeys := false, apart := false, narrowed := true }
def MendStayUptoSaid : Prop := mendStayUptoRow.holds Try.pinned (OpenSpec.upto mendStaySpec)

/-- 'ceroplastlaw11.MendReached', WHERE WHAT IT READS IS OF BULK AT MOST 1048576: true; the input reads as it did. -/
def mendReachedUptoRow : OpenClaim := { program := "ytmggofcaeolaiaa", sum := "3205e6c502bb4c5a9375baaf5965c93545dfded4cea44fb0ffaf2e8691c88a8c", func := "ceroplast/ceroplastlaw11.MendReached", spec := "mendReached", unfollowed := true, recurses := true, plainKeys := false, apart := false, narrowed := true }
def MendReachedUptoSaid : Prop := mendReachedUptoRow.holds Try.pinned (OpenSpec.upto mendReachedSpec)

/-- 'ceroplastlaw11.MendSaved', WHERE WHAT IT READS IS OF BULK AT MOST 1048576: true; the input reads as it did. -/
def mendSavedUptoRow : OpenClaim := { program := "ytmggofcaeolaiaa", sum := "3205e6c502bb4c5a9375baaf5965c93545dfded4cea44fb0ffaf2e8691c88a8c", func := "ceroplast/ceroplastlaw11.MendSaved", spec := "mendSaved", unfollowed := true, recurses := true, plainKeys := false, apart := false, narrowed := true }
def MendSavedUptoSaid : Prop := mendSavedUptoRow.holds Try.pinned (OpenSpec.upto mendSavedSpec)

/-- 'ceroplastlaw11.MendBack', WHERE WHAT IT READS IS OF BULK AT MOST 1048576: true; the input reads as it did. -/
def mendBackUptoRow : OpenClaim := { program := "ytmggofcaeolaiaa", sum := "3205e6c502bb4c5a9375baaf5965c93545dfded4cea44fb0ffaf2e8691c88a8c", func := "ceroplast/ceroplastlaw11.MendBack", spec := "mendBack", unfollowed := true, recurses := true, plainKeys := false, apart := false, narrowed := true }
def MendBackUptoSaid : Prop := mendBackUptoRow.holds Try.pinned (OpenSpec.upto mendBackSpec)

/-- 'ceroplastlaw11.MendAlready', WHERE WHAT IT READS IS OF BULK AT MOST 1048576: true; the input reads as it did. -/
def mendAlreadyUptoRow : OpenClaim := { program := "ytmggofcaeolaiaa", sum := "3205e6c502bb4c5a9375baaf5965c93545dfded4cea44fb0ffaf2e8691c88a8c", func := "ceroplast/ceroplastlaw11.MendAlready", spec := "mendAlready", unfollowed := true, recurses := true, plainKeys := false, apart := false, narrowed := true }
def MendAlreadyUptoSaid : Prop := mendAlreadyUptoRow.holds Try.pinned (OpenSpec.upto mendAlreadySpec)

end Rows
end Go.Proofs.Ytmggofcaeolaiaa
