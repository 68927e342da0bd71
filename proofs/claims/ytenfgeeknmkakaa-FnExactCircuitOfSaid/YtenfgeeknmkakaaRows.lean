/-
  No cell of these rows narrows 'for every input' (looked for: loops, veiled, ifaces, maps, wideKeys, modest, calm, conditions, laid).
  DERIVED. THE GIVEN ROWS OF THIS SEAT. 12 by the template 'for every input the law returns true; each argument reads behind the call as it read before'; 0 by the template 'total and deterministic' (their statements: YtenfgeeknmkakaaTotals.lean).
  GIVEN WITH THE SEED: the statements are not yours to turn. If you find one false, say at which input.
  Laid BY PROGRAM, IN A SANDBOX (cutbox-rows.mjs): the forced cells as the released guide's own fill.sh prints them over the translation 91e08a935d7a2ce1… (all of the seat's roots in one cut). By AI agents, Wed Nov 11 2026. No macro, syntax, notation, axiom, sorry.
-/
import Derived.Test.YtenfgeeknmkakaaChecked
import GoSem.Claim
import GoSem.ClaimJoined
import GoSem.ClaimMapViews
import Derived.JoinedTies
import Derived.KernelRfl
namespace Go.Proofs.Ytenfgeeknmkakaa
/- THE CELL 'sum', in the pinned program and in every row, IS THE sha256 OF THE DUMP (.gsa) THAT YtenfgeeknmkakaaProg.lean LOADS. Nothing in Lean hashes anything: it is a label: what it is worth is what the hold of that sum in a sandbox is worth. -/
noncomputable def Try.pinned : Pinned := { name := "ytenfgeeknmkakaa", sum := "91e08a935d7a2ce156db75179e0619918adb98d333ee7e228d4c3dbe2e0e0840", checked := Try.checked }
namespace Rows
def none {H : Type} : Left H := { results := [], args := [] }

/-- 'laws.FnExactFirstFailure': WHATEVER THE INPUT: true; the input reads as it did. -/
def fnExactFirstFailureSpec : ChangeSpec := { name := "fnExactFirstFailure", fn := fun _ => fun
  | [d] => { results := [.lit (.bool true)], args := [d] }
  | _ => none }
def fnExactFirstFailureRow : OpenClaim := { program := "ytenfgeeknmkakaa", sum := "91e08a935d7a2ce156db75179e0619918adb98d333ee7e228d4c3dbe2e0e0840", func := "loop.example/g00593/laws.FnExactFirstFailure", spec := "fnExactFirstFailure", unfollowed := true, recurses := true, apart := false }
def FnExactFirstFailureSaid : Prop := fnExactFirstFailureRow.holds Try.pinned (OpenSpec.ofChange fnExactFirstFailureSpec)

/-- ITS FALSE NEIGHBOUR: 'it returns false'. Refute it at one input. -/
def fnExactFirstFailureWrong : ChangeSpec := { name := "fnExactFirstFailure", fn := fun _ => fun
  | [d] => { results := [.lit (.bool false)], args := [d] }
  | _ => none }
def FnExactFirstFailureWrongFalsely : Prop := fnExactFirstFailureRow.holds Try.pinned (OpenSpec.ofChange fnExactFirstFailureWrong)

/-- 'laws.FnExactIsMatroid': WHATEVER THE INPUT: true; the input reads as it did. -/
def fnExactIsMatroidSpec : ChangeSpec := { name := "fnExactIsMatroid", fn := fun _ => fun
  | [d] => { results := [.lit (.bool true)], args := [d] }
  | _ => none }
def fnExactIsMatroidRow : OpenClaim := { program := "ytenfgeeknmkakaa", sum := "91e08a935d7a2ce156db75179e0619918adb98d333ee7e228d4c3dbe2e0e0840", func := "loop.example/g00593/laws.FnExactIsMatroid", spec := "fnExactIsMatroid", unfollowed := true, recurses := true, apart := false }
def FnExactIsMatroidSaid : Prop := fnExactIsMatroidRow.holds Try.pinned (OpenSpec.ofChange fnExactIsMatroidSpec)

/-- ITS FALSE NEIGHBOUR: 'it returns false'. Refute it at one input. -/
def fnExactIsMatroidWrong : ChangeSpec := { name := "fnExactIsMatroid", fn := fun _ => fun
  | [d] => { results := [.lit (.bool false)], args := [d] }
  | _ => none }
def FnExactIsMatroidWrongFalsely : Prop := fnExactIsMatroidRow.holds Try.pinned (OpenSpec.ofChange fnExactIsMatroidWrong)

/-- 'laws.FnExactRankOfMatroid': WHATEVER THE INPUT: true; the input reads as it did. -/
def fnExactRankOfMatroidSpec : ChangeSpec := { name := "fnExactRankOfMatroid", fn := fun _ => fun
  | [d] => { results := [.lit (.bool true)], args := [d] }
  | _ => none }
def fnExactRankOfMatroidRow : OpenClaim := { program := "ytenfgeeknmkakaa", sum := "91e08a935d7a2ce156db75179e0619918adb98d333ee7e228d4c3dbe2e0e0840", func := "loop.example/g00593/laws.FnExactRankOfMatroid", spec := "fnExactRankOfMatroid", unfollowed := true, recurses := true, apart := false }
def FnExactRankOfMatroidSaid : Prop := fnExactRankOfMatroidRow.holds Try.pinned (OpenSpec.ofChange fnExactRankOfMatroidSpec)

/-- ITS FALSE NEIGHBOUR: 'it returns false'. Refute it at one input. -/
def fnExactRankOfMatroidWrong : ChangeSpec := { name := "fnExactRankOfMatroid", fn := fun _ => fun
  | [d] => { results := [.lit (.bool false)], args := [d] }
  | _ => none }
def FnExactRankOfMatroidWrongFalsely : Prop := fnExactRankOfMatroidRow.holds Try.pinned (OpenSpec.ofChange fnExactRankOfMatroidWrong)

/-- 'laws.FnExactUniform': WHATEVER THE INPUT: true; the input reads as it did. -/
def fnExactUniformSpec : ChangeSpec := { name := "fnExactUniform", fn := fun _ => fun
  | [d1, d2] => { results := [.lit (.bool true)], args := [d1, d2] }
  | _ => none }
def fnExactUniformRow : OpenClaim := { program := "ytenfgeeknmkakaa", sum := "91e08a935d7a2ce156db75179e0619918adb98d333ee7e228d4c3dbe2e0e0840", func := "loop.example/g00593/laws.FnExactUniform", spec := "fnExactUniform", unfollowed := true, recurses := true, apart := false }
def FnExactUniformSaid : Prop := fnExactUniformRow.holds Try.pinned (OpenSpec.ofChange fnExactUniformSpec)

/-- ITS FALSE NEIGHBOUR: 'it returns false'. Refute it at one input. -/
def fnExactUniformWrong : ChangeSpec := { name := "fnExactUniform", fn := fun _ => fun
  | [d1, d2] => { results := [.lit (.bool false)], args := [d1, d2] }
  | _ => none }
def FnExactUniformWrongFalsely : Prop := fnExactUniformRow.holds Try.pinned (OpenSpec.ofChange fnExactUniformWrong)

/-- 'laws.FnExactCircuitFailure': WHATEVER THE INPUT: true; the input reads as it did. -/
def fnExactCircuitFailureSpec : ChangeSpec := { name := "fnExactCircuitFailure", fn := fun _ => fun
  | [d1, d2] => { results := [.lit (.bool true)], args := [d1, d2] }
  | _ => none }
def fnExactCircuitFailureRow : OpenClaim := { program := "ytenfgeeknmkakaa", sum := "91e08a935d7a2ce156db75179e0619918adb98d333ee7e228d4c3dbe2e0e0840", func := "loop.example/g00593/laws.FnExactCircuitFailure", spec := "fnExactCircuitFailure", unfollowed := true, recurses := true, apart := false }
def FnExactCircuitFailureSaid : Prop := fnExactCircuitFailureRow.holds Try.pinned (OpenSpec.ofChange fnExactCircuitFailureSpec)

/-- ITS FALSE NEIGHBOUR: 'it returns false'. Refute it at one input. -/
def fnExactCircuitFailureWrong : ChangeSpec := { name := "fnExactCircuitFailure", fn := fun _ => fun
  | [d1, d2] => { results := [.lit (.bool false)], args := [d1, d2] }
  | _ => none }
def FnExactCircuitFailureWrongFalsely : Prop := fnExactCircuitFailureRow.holds Try.pinned (OpenSpec.ofChange fnExactCircuitFailureWrong)

/-- 'laws.FnExactCircuitOf': WHATEVER THE INPUT: true; the input reads as it did. -/
def fnExactCircuitOfSpec : ChangeSpec := { name := "fnExactCircuitOf", fn := fun _ => fun
  | [d1, d2, d3] => { results := [.lit (.bool true)], args := [d1, d2, d3] }
  | _ => none }
def fnExactCircuitOfRow : OpenClaim := { program := "ytenfgeeknmkakaa", sum := "91e08a935d7a2ce156db75179e0619918adb98d333ee7e228d4c3dbe2e0e0840", func := "loop.example/g00593/laws.FnExactCircuitOf", spec := "fnExactCircuitOf", unfollowed := true, recurses := true, apart := false }
def FnExactCircuitOfSaid : Prop := fnExactCircuitOfRow.holds Try.pinned (OpenSpec.ofChange fnExactCircuitOfSpec)

/-- ITS FALSE NEIGHBOUR: 'it returns false'. Refute it at one input. -/
def fnExactCircuitOfWrong : ChangeSpec := { name := "fnExactCircuitOf", fn := fun _ => fun
  | [d1, d2, d3] => { results := [.lit (.bool false)], args := [d1, d2, d3] }
  | _ => none }
def FnExactCircuitOfWrongFalsely : Prop := fnExactCircuitOfRow.holds Try.pinned (OpenSpec.ofChange fnExactCircuitOfWrong)

/-- 'laws.FnExactColoopsOf': WHATEVER THE INPUT: true; the input reads as it did. -/
def fnExactColoopsOfSpec : ChangeSpec := { name := "fnExactColoopsOf", fn := fun _ => fun
  | [d] => { results := [.lit (.bool true)], args := [d] }
  | _ => none }
def fnExactColoopsOfRow : OpenClaim := { program := "ytenfgeeknmkakaa", sum := "91e08a935d7a2ce156db75179e0619918adb98d333ee7e228d4c3dbe2e0e0840", func := "loop.example/g00593/laws.FnExactColoopsOf", spec := "fnExactColoopsOf", unfollowed := true, recurses := true, apart := false }
def FnExactColoopsOfSaid : Prop := fnExactColoopsOfRow.holds Try.pinned (OpenSpec.ofChange fnExactColoopsOfSpec)

/-- ITS FALSE NEIGHBOUR: 'it returns false'. Refute it at one input. -/
def fnExactColoopsOfWrong : ChangeSpec := { name := "fnExactColoopsOf", fn := fun _ => fun
  | [d] => { results := [.lit (.bool false)], args := [d] }
  | _ => none }
def FnExactColoopsOfWrongFalsely : Prop := fnExactColoopsOfRow.holds Try.pinned (OpenSpec.ofChange fnExactColoopsOfWrong)

/-- 'laws.FnExactLoopsOf': WHATEVER THE INPUT: true; the input reads as it did. -/
def fnExactLoopsOfSpec : ChangeSpec := { name := "fnExactLoopsOf", fn := fun _ => fun
  | [d] => { results := [.lit (.bool true)], args := [d] }
  | _ => none }
def fnExactLoopsOfRow : OpenClaim := { program := "ytenfgeeknmkakaa", sum := "91e08a935d7a2ce156db75179e0619918adb98d333ee7e228d4c3dbe2e0e0840", func := "loop.example/g00593/laws.FnExactLoopsOf", spec := "fnExactLoopsOf", unfollowed := true, recurses := true, apart := false }
def FnExactLoopsOfSaid : Prop := fnExactLoopsOfRow.holds Try.pinned (OpenSpec.ofChange fnExactLoopsOfSpec)

/-- ITS FALSE NEIGHBOUR: 'it returns false'. Refute it at one input. -/
def fnExactLoopsOfWrong : ChangeSpec := { name := "fnExactLoopsOf", fn := fun _ => fun
  | [d] => { results := [.lit (.bool false)], args := [d] }
  | _ => none }
def FnExactLoopsOfWrongFalsely : Prop := fnExactLoopsOfRow.holds Try.pinned (OpenSpec.ofChange fnExactLoopsOfWrong)

/-- 'laws.FnExactIsIndependent': WHATEVER THE INPUT: true; the input reads as it did. -/
def fnExactIsIndependentSpec : ChangeSpec := { name := "fnExactIsIndependent", fn := fun _ => fun
  | [d1, d2] => { results := [.lit (.bool true)], args := [d1, d2] }
  | _ => none }
def fnExactIsIndependentRow : OpenClaim := { program := "ytenfgeeknmkakaa", sum := "91e08a935d7a2ce156db75179e0619918adb98d333ee7e228d4c3dbe2e0e0840", func := "loop.example/g00593/laws.FnExactIsIndependent", spec := "fnExactIsIndependent", unfollowed := true, recurses := true, apart := false }
def FnExactIsIndependentSaid : Prop := fnExactIsIndependentRow.holds Try.pinned (OpenSpec.ofChange fnExactIsIndependentSpec)

/-- ITS FALSE NEIGHBOUR: 'it returns false'. Refute it at one input. -/
def fnExactIsIndependentWrong : ChangeSpec := { name := "fnExactIsIndependent", fn := fun _ => fun
  | [d1, d2] => { results := [.lit (.bool false)], args := [d1, d2] }
  | _ => none }
def FnExactIsIndependentWrongFalsely : Prop := fnExactIsIndependentRow.holds Try.pinned (OpenSpec.ofChange fnExactIsIndependentWrong)

/-- 'laws.FnExactRankOf': WHATEVER THE INPUT: true; the input reads as it did. -/
def fnExactRankOfSpec : ChangeSpec := { name := "fnExactRankOf", fn := fun _ => fun
  | [d1, d2] => { results := [.lit (.bool true)], args := [d1, d2] }
  | _ => none }
def fnExactRankOfRow : OpenClaim := { program := "ytenfgeeknmkakaa", sum := "91e08a935d7a2ce156db75179e0619918adb98d333ee7e228d4c3dbe2e0e0840", func := "loop.example/g00593/laws.FnExactRankOf", spec := "fnExactRankOf", unfollowed := true, recurses := true, apart := false }
def FnExactRankOfSaid : Prop := fnExactRankOfRow.holds Try.pinned (OpenSpec.ofChange fnExactRankOfSpec)

/-- ITS FALSE NEIGHBOUR: 'it returns false'. Refute it at one input. -/
def fnExactRankOfWrong : ChangeSpec := { name := "fnExactRankOf", fn := fun _ => fun
  | [d1, d2] => { results := [.lit (.bool false)], args := [d1, d2] }
  | _ => none }
def FnExactRankOfWrongFalsely : Prop := fnExactRankOfRow.holds Try.pinned (OpenSpec.ofChange fnExactRankOfWrong)

/-- 'laws.FnExactIsSpanning': WHATEVER THE INPUT: true; the input reads as it did. -/
def fnExactIsSpanningSpec : ChangeSpec := { name := "fnExactIsSpanning", fn := fun _ => fun
  | [d1, d2] => { results := [.lit (.bool true)], args := [d1, d2] }
  | _ => none }
def fnExactIsSpanningRow : OpenClaim := { program := "ytenfgeeknmkakaa", sum := "91e08a935d7a2ce156db75179e0619918adb98d333ee7e228d4c3dbe2e0e0840", func := "loop.example/g00593/laws.FnExactIsSpanning", spec := "fnExactIsSpanning", unfollowed := true, recurses := true, apart := false }
def FnExactIsSpanningSaid : Prop := fnExactIsSpanningRow.holds Try.pinned (OpenSpec.ofChange fnExactIsSpanningSpec)

/-- ITS FALSE NEIGHBOUR: 'it returns false'. Refute it at one input. -/
def fnExactIsSpanningWrong : ChangeSpec := { name := "fnExactIsSpanning", fn := fun _ => fun
  | [d1, d2] => { results := [.lit (.bool false)], args := [d1, d2] }
  | _ => none }
def FnExactIsSpanningWrongFalsely : Prop := fnExactIsSpanningRow.holds Try.pinned (OpenSpec.ofChange fnExactIsSpanningWrong)

/-- 'laws.FnExactClosureOf': WHATEVER THE INPUT: true; the input reads as it did. -/
def fnExactClosureOfSpec : ChangeSpec := { name := "fnExactClosureOf", fn := fun _ => fun
  | [d1, d2] => { results := [.lit (.bool true)], args := [d1, d2] }
  | _ => none }
def fnExactClosureOfRow : OpenClaim := { program := "ytenfgeeknmkakaa", sum := "91e08a935d7a2ce156db75179e0619918adb98d333ee7e228d4c3dbe2e0e0840", func := "loop.example/g00593/laws.FnExactClosureOf", spec := "fnExactClosureOf", unfollowed := true, recurses := true, apart := false }
def FnExactClosureOfSaid : Prop := fnExactClosureOfRow.holds Try.pinned (OpenSpec.ofChange fnExactClosureOfSpec)

/-- ITS FALSE NEIGHBOUR: 'it returns false'. Refute it at one input. -/
def fnExactClosureOfWrong : ChangeSpec := { name := "fnExactClosureOf", fn := fun _ => fun
  | [d1, d2] => { results := [.lit (.bool false)], args := [d1, d2] }
  | _ => none }
def FnExactClosureOfWrongFalsely : Prop := fnExactClosureOfRow.holds Try.pinned (OpenSpec.ofChange fnExactClosureOfWrong)

/- THE SECOND FORM. 'bulk': how many values and letters a reading holds, each counted each time it is reached (what is shared counts as often as it is met; a slice's spare places count too). A statement '..UptoSaid' is the law's where the arguments, and the package variables that the reading takes, are together of bulk at most 1048576: NARROWER than '..Said'. Prove '..Said' where nothing that the law and all that it calls make is longer than what came in: it says more and counts as full. Else prove '..UptoSaid'. A law counts once. -/
mutual
def uptoBulk {H : Type} : DataW H → Nat
  | .lit (.string bytes) => bytes.length + 1
  | .lit _ => 1
  | .nil => 1
  | .ptr d => uptoBulk d + 1
  | .slice elems spare => uptoBulkAll elems + uptoBulkAll spare + 1
  | .agg parts => uptoBulkAll parts + 1
  | .iface _ d => uptoBulk d + 1
  | .map entries => uptoBulkEntries entries + 1
  | .held _ => 1
def uptoBulkAll {H : Type} : List (DataW H) → Nat
  | [] => 0
  | d :: r => uptoBulk d + uptoBulkAll r
def uptoBulkEntries {H : Type} : List (Lit × DataW H) → Nat
  | [] => 0
  | x :: r => uptoBulkEntry x + uptoBulkEntries r
def uptoBulkEntry {H : Type} : Lit × DataW H → Nat
  | (.string bytes, d) => bytes.length + uptoBulk d + 1
  | (_, d) => uptoBulk d + 1
 end
def uptoSmall : (H : Type) → List (DataW H) → Bool := fun _ ds => decide (uptoBulkAll ds ≤ 1048576)
def OpenSpec.upto (s : _root_.Go.ChangeSpec) : _root_.Go.OpenSpec := { _root_.Go.OpenSpec.ofChange s with cond := some uptoSmall }

/-- 'laws.FnExactFirstFailure', WHERE WHAT IT READS IS OF BULK AT MOST 1048576: true; the input reads as it did. -/
def fnExactFirstFailureUptoRow : OpenClaim := { program := "ytenfgeeknmkakaa", sum := "91e08a935d7a2ce156db75179e0619918adb98d333ee7e228d4c3dbe2e0e0840", func := "loop.example/g00593/laws.FnExactFirstFailure", spec := "fnExactFirstFailure", unfollowed := true, recurses := true, apart := false, narrowed := true }
def FnExactFirstFailureUptoSaid : Prop := fnExactFirstFailureUptoRow.holds Try.pinned (OpenSpec.upto fnExactFirstFailureSpec)

/-- 'laws.FnExactIsMatroid', WHERE WHAT IT READS IS OF BULK AT MOST 1048576: true; the input reads as it did. -/
def fnExactIsMatroidUptoRow : OpenClaim := { program := "ytenfgeeknmkakaa", sum := "91e08a935d7a2ce156db75179e0619918adb98d333ee7e228d4c3dbe2e0e0840", func := "loop.example/g00593/laws.FnExactIsMatroid", spec := "fnExactIsMatroid", unfollowed := true, recurses := true, apart := false, narrowed := true }
def FnExactIsMatroidUptoSaid : Prop := fnExactIsMatroidUptoRow.holds Try.pinned (OpenSpec.upto fnExactIsMatroidSpec)

/-- 'laws.FnExactRankOfMatroid', WHERE WHAT IT READS IS OF BULK AT MOST 1048576: true; the input reads as it did. -/
def fnExactRankOfMatroidUptoRow : OpenClaim := { program := "ytenfgeeknmkakaa", sum := "91e08a935d7a2ce156db75179e0619918adb98d333ee7e228d4c3dbe2e0e0840", func := "loop.example/g00593/laws.FnExactRankOfMatroid", spec := "fnExactRankOfMatroid", unfollowed := true, recurses := true, apart := false, narrowed := true }
def FnExactRankOfMatroidUptoSaid : Prop := fnExactRankOfMatroidUptoRow.holds Try.pinned (OpenSpec.upto fnExactRankOfMatroidSpec)

/-- 'laws.FnExactUniform', WHERE WHAT IT READS IS OF BULK AT MOST 1048576: true; the input reads as it did. -/
def fnExactUniformUptoRow : OpenClaim := { program := "ytenfgeeknmkakaa", sum := "91e08a935d7a2ce156db75179e0619918adb98d333ee7e228d4c3dbe2e0e0840", func := "loop.example/g00593/laws.FnExactUniform", spec := "fnExactUniform", unfollowed := true, recurses := true, apart := false, narrowed := true }
def FnExactUniformUptoSaid : Prop := fnExactUniformUptoRow.holds Try.pinned (OpenSpec.upto fnExactUniformSpec)

/-- 'laws.FnExactCircuitFailure', WHERE WHAT IT READS IS OF BULK AT MOST 1048576: true; the input reads as it did. -/
def fnExactCircuitFailureUptoRow : OpenClaim := { program := "ytenfgeeknmkakaa", sum := "91e08a935d7a2ce156db75179e0619918adb98d333ee7e228d4c3dbe2e0e0840", func := "loop.example/g00593/laws.FnExactCircuitFailure", spec := "fnExactCircuitFailure", unfollowed := true, recurses := true, apart := false, narrowed := true }
def FnExactCircuitFailureUptoSaid : Prop := fnExactCircuitFailureUptoRow.holds Try.pinned (OpenSpec.upto fnExactCircuitFailureSpec)

/-- 'laws.FnExactCircuitOf', WHERE WHAT IT READS IS OF BULK AT MOST 1048576: true; the input reads as it did. -/
def fnExactCircuitOfUptoRow : OpenClaim := { program := "ytenfgeeknmkakaa", sum := "91e08a935d7a2ce156db75179e0619918adb98d333ee7e228d4c3dbe2e0e0840", func := "loop.example/g00593/laws.FnExactCircuitOf", spec := "fnExactCircuitOf", unfollowed := true, recurses := true, apart := false, narrowed := true }
def FnExactCircuitOfUptoSaid : Prop := fnExactCircuitOfUptoRow.holds Try.pinned (OpenSpec.upto fnExactCircuitOfSpec)

/-- 'laws.FnExactColoopsOf', WHERE WHAT IT READS IS OF BULK AT MOST 1048576: true; the input reads as it did. -/
def fnExactColoopsOfUptoRow : OpenClaim := { program := "ytenfgeeknmkakaa", sum := "91e08a935d7a2ce156db75179e0619918adb98d333ee7e228d4c3dbe2e0e0840", func := "loop.example/g00593/laws.FnExactColoopsOf", spec := "fnExactColoopsOf", unfollowed := true, recurses := true, apart := false, narrowed := true }
def FnExactColoopsOfUptoSaid : Prop := fnExactColoopsOfUptoRow.holds Try.pinned (OpenSpec.upto fnExactColoopsOfSpec)

/-- 'laws.FnExactLoopsOf', WHERE WHAT IT READS IS OF BULK AT MOST 1048576: true; the input reads as it did. -/
def fnExactLoopsOfUptoRow : OpenClaim := { program := "ytenfgeeknmkakaa", sum := "91e08a935d7a2ce156db75179e0619918adb98d333ee7e228d4c3dbe2e0e0840", func := "loop.example/g00593/laws.FnExactLoopsOf", spec := "fnExactLoopsOf", unfollowed := true, recurses := true, apart := false, narrowed := true }
def FnExactLoopsOfUptoSaid : Prop := fnExactLoopsOfUptoRow.holds Try.pinned (OpenSpec.upto fnExactLoopsOfSpec)

/-- 'laws.FnExactIsIndependent', WHERE WHAT IT READS IS OF BULK AT MOST 1048576: true; the input reads as it did. -/
def fnExactIsIndependentUptoRow : OpenClaim := { program := "ytenfgeeknmkakaa", sum := "91e08a935d7a2ce156db75179e0619918adb98d333ee7e228d4c3dbe2e0e0840", func := "loop.example/g00593/laws.FnExactIsIndependent", spec := "fnExactIsIndependent", unfollowed := true, recurses := true, apart := false, narrowed := true }
def FnExactIsIndependentUptoSaid : Prop := fnExactIsIndependentUptoRow.holds Try.pinned (OpenSpec.upto fnExactIsIndependentSpec)

/-- 'laws.FnExactRankOf', WHERE WHAT IT READS IS OF BULK AT MOST 1048576: true; the input reads as it did. -/
def fnExactRankOfUptoRow : OpenClaim := { program := "ytenfgeeknmkakaa", sum := "91e08a935d7a2ce156db75179e0619918adb98d333ee7e228d4c3dbe2e0e0840", func := "loop.example/g00593/laws.FnExactRankOf", spec := "fnExactRankOf", unfollowed := true, recurses := true, apart := false, narrowed := true }
def FnExactRankOfUptoSaid : Prop := fnExactRankOfUptoRow.holds Try.pinned (OpenSpec.upto fnExactRankOfSpec)

/-- 'laws.FnExactIsSpanning', WHERE WHAT IT READS IS OF BULK AT MOST 1048576: true; the input reads as it did. -/
def fnExactIsSpanningUptoRow : OpenClaim := { program := "ytenfgeeknmkakaa", sum := "91e08a935d7a2ce156db75179e0619918adb98d333ee7e228d4c3dbe2e0e0840", func := "loop.example/g00593/laws.FnExactIsSpanning", spec := "fnExactIsSpanning", unfollowed := true, recurses := true, apart := false, narrowed := true }
def FnExactIsSpanningUptoSaid : Prop := fnExactIsSpanningUptoRow.holds Try.pinned (OpenSpec.upto fnExactIsSpanningSpec)

/-- 'laws.FnExactClosureOf', WHERE WHAT IT READS IS OF BULK AT MOST 1048576: true; the input reads as it did. -/
def fnExactClosureOfUptoRow : OpenClaim := { program := "ytenfgeeknmkakaa", sum := "91e08a935d7a2ce156db75179e0619918adb98d333ee7e228d4c3dbe2e0e0840", func := "loop.example/g00593/laws.FnExactClosureOf", spec := "fnExactClosureOf", unfollowed := true, recurses := true, apart := false, narrowed := true }
def FnExactClosureOfUptoSaid : Prop := fnExactClosureOfUptoRow.holds Try.pinned (OpenSpec.upto fnExactClosureOfSpec)

end Rows
end Go.Proofs.Ytenfgeeknmkakaa
