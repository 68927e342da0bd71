/-
  No cell of these rows narrows 'for every input' (looked for: loops, veiled, ifaces, maps, wideKeys, modest, calm, conditions, laid).
  DERIVED. THE GIVEN ROWS OF THIS SEAT. 8 by the template 'for every input the law returns true; each argument reads behind the call as it read before'; 0 by the template 'total and deterministic' (their statements: YthpocifdejedpaaTotals.lean).
  GIVEN WITH THE SEED: the statements are not yours to turn. If you find one false, say at which input.
  Laid BY PROGRAM, IN A SANDBOX (cutbox-rows.mjs): the forced cells as the released guide's own fill.sh prints them over the translation 75eab9e9fb5e98c5… (all of the seat's roots in one cut). By AI agents, Wed Nov 11 2026. No macro, syntax, notation, axiom, sorry.
-/
import Derived.Test.YthpocifdejedpaaChecked
import GoSem.Claim
import GoSem.ClaimJoined
import GoSem.ClaimMapViews
import Derived.JoinedTies
import Derived.KernelRfl
namespace Go.Proofs.Ythpocifdejedpaa
/- THE CELL 'sum', in the pinned program and in every row, IS THE sha256 OF THE DUMP (.gsa) THAT YthpocifdejedpaaProg.lean LOADS. Nothing in Lean hashes anything: it is a label: what it is worth is what the hold of that sum in a sandbox is worth. -/
noncomputable def Try.pinned : Pinned := { name := "ythpocifdejedpaa", sum := "75eab9e9fb5e98c546b7dec9c4136620ac1348c4a3647852da90f7586de62384", checked := Try.checked }
namespace Rows
def none {H : Type} : Left H := { results := [], args := [] }

/-- 'laws.FnExactIndependentSets': WHATEVER THE INPUT: true; the input reads as it did. -/
def fnExactIndependentSetsSpec : ChangeSpec := { name := "fnExactIndependentSets", fn := fun _ => fun
  | [d] => { results := [.lit (.bool true)], args := [d] }
  | _ => none }
def fnExactIndependentSetsRow : OpenClaim := { program := "ythpocifdejedpaa", sum := "75eab9e9fb5e98c546b7dec9c4136620ac1348c4a3647852da90f7586de62384", func := "loop.example/g00593/laws.FnExactIndependentSets", spec := "fnExactIndependentSets", unfollowed := true, recurses := true, apart := false }
def FnExactIndependentSetsSaid : Prop := fnExactIndependentSetsRow.holds Try.pinned (OpenSpec.ofChange fnExactIndependentSetsSpec)

/-- ITS FALSE NEIGHBOUR: 'it returns false'. Refute it at one input. -/
def fnExactIndependentSetsWrong : ChangeSpec := { name := "fnExactIndependentSets", fn := fun _ => fun
  | [d] => { results := [.lit (.bool false)], args := [d] }
  | _ => none }
def FnExactIndependentSetsWrongFalsely : Prop := fnExactIndependentSetsRow.holds Try.pinned (OpenSpec.ofChange fnExactIndependentSetsWrong)

/-- 'laws.FnExactBasesOf': WHATEVER THE INPUT: true; the input reads as it did. -/
def fnExactBasesOfSpec : ChangeSpec := { name := "fnExactBasesOf", fn := fun _ => fun
  | [d1, d2] => { results := [.lit (.bool true)], args := [d1, d2] }
  | _ => none }
def fnExactBasesOfRow : OpenClaim := { program := "ythpocifdejedpaa", sum := "75eab9e9fb5e98c546b7dec9c4136620ac1348c4a3647852da90f7586de62384", func := "loop.example/g00593/laws.FnExactBasesOf", spec := "fnExactBasesOf", unfollowed := true, recurses := true, apart := false }
def FnExactBasesOfSaid : Prop := fnExactBasesOfRow.holds Try.pinned (OpenSpec.ofChange fnExactBasesOfSpec)

/-- ITS FALSE NEIGHBOUR: 'it returns false'. Refute it at one input. -/
def fnExactBasesOfWrong : ChangeSpec := { name := "fnExactBasesOf", fn := fun _ => fun
  | [d1, d2] => { results := [.lit (.bool false)], args := [d1, d2] }
  | _ => none }
def FnExactBasesOfWrongFalsely : Prop := fnExactBasesOfRow.holds Try.pinned (OpenSpec.ofChange fnExactBasesOfWrong)

/-- 'laws.FnExactSortSets': WHATEVER THE INPUT: true; the input reads as it did. -/
def fnExactSortSetsSpec : ChangeSpec := { name := "fnExactSortSets", fn := fun _ => fun
  | [d] => { results := [.lit (.bool true)], args := [d] }
  | _ => none }
def fnExactSortSetsRow : OpenClaim := { program := "ythpocifdejedpaa", sum := "75eab9e9fb5e98c546b7dec9c4136620ac1348c4a3647852da90f7586de62384", func := "loop.example/g00593/laws.FnExactSortSets", spec := "fnExactSortSets", recurses := true, apart := false }
def FnExactSortSetsSaid : Prop := fnExactSortSetsRow.holds Try.pinned (OpenSpec.ofChange fnExactSortSetsSpec)

/-- ITS FALSE NEIGHBOUR: 'it returns false'. Refute it at one input. -/
def fnExactSortSetsWrong : ChangeSpec := { name := "fnExactSortSets", fn := fun _ => fun
  | [d] => { results := [.lit (.bool false)], args := [d] }
  | _ => none }
def FnExactSortSetsWrongFalsely : Prop := fnExactSortSetsRow.holds Try.pinned (OpenSpec.ofChange fnExactSortSetsWrong)

/-- 'laws.FnExactMaximalSets': WHATEVER THE INPUT: true; the input reads as it did. -/
def fnExactMaximalSetsSpec : ChangeSpec := { name := "fnExactMaximalSets", fn := fun _ => fun
  | [d] => { results := [.lit (.bool true)], args := [d] }
  | _ => none }
def fnExactMaximalSetsRow : OpenClaim := { program := "ythpocifdejedpaa", sum := "75eab9e9fb5e98c546b7dec9c4136620ac1348c4a3647852da90f7586de62384", func := "loop.example/g00593/laws.FnExactMaximalSets", spec := "fnExactMaximalSets", unfollowed := true, recurses := true, apart := false }
def FnExactMaximalSetsSaid : Prop := fnExactMaximalSetsRow.holds Try.pinned (OpenSpec.ofChange fnExactMaximalSetsSpec)

/-- ITS FALSE NEIGHBOUR: 'it returns false'. Refute it at one input. -/
def fnExactMaximalSetsWrong : ChangeSpec := { name := "fnExactMaximalSets", fn := fun _ => fun
  | [d] => { results := [.lit (.bool false)], args := [d] }
  | _ => none }
def FnExactMaximalSetsWrongFalsely : Prop := fnExactMaximalSetsRow.holds Try.pinned (OpenSpec.ofChange fnExactMaximalSetsWrong)

/-- 'laws.FnExactMinimalSets': WHATEVER THE INPUT: true; the input reads as it did. -/
def fnExactMinimalSetsSpec : ChangeSpec := { name := "fnExactMinimalSets", fn := fun _ => fun
  | [d] => { results := [.lit (.bool true)], args := [d] }
  | _ => none }
def fnExactMinimalSetsRow : OpenClaim := { program := "ythpocifdejedpaa", sum := "75eab9e9fb5e98c546b7dec9c4136620ac1348c4a3647852da90f7586de62384", func := "loop.example/g00593/laws.FnExactMinimalSets", spec := "fnExactMinimalSets", unfollowed := true, recurses := true, apart := false }
def FnExactMinimalSetsSaid : Prop := fnExactMinimalSetsRow.holds Try.pinned (OpenSpec.ofChange fnExactMinimalSetsSpec)

/-- ITS FALSE NEIGHBOUR: 'it returns false'. Refute it at one input. -/
def fnExactMinimalSetsWrong : ChangeSpec := { name := "fnExactMinimalSets", fn := fun _ => fun
  | [d] => { results := [.lit (.bool false)], args := [d] }
  | _ => none }
def FnExactMinimalSetsWrongFalsely : Prop := fnExactMinimalSetsRow.holds Try.pinned (OpenSpec.ofChange fnExactMinimalSetsWrong)

/-- 'laws.FnExactCircuits': WHATEVER THE INPUT: true; the input reads as it did. -/
def fnExactCircuitsSpec : ChangeSpec := { name := "fnExactCircuits", fn := fun _ => fun
  | [d] => { results := [.lit (.bool true)], args := [d] }
  | _ => none }
def fnExactCircuitsRow : OpenClaim := { program := "ythpocifdejedpaa", sum := "75eab9e9fb5e98c546b7dec9c4136620ac1348c4a3647852da90f7586de62384", func := "loop.example/g00593/laws.FnExactCircuits", spec := "fnExactCircuits", unfollowed := true, recurses := true, apart := false }
def FnExactCircuitsSaid : Prop := fnExactCircuitsRow.holds Try.pinned (OpenSpec.ofChange fnExactCircuitsSpec)

/-- ITS FALSE NEIGHBOUR: 'it returns false'. Refute it at one input. -/
def fnExactCircuitsWrong : ChangeSpec := { name := "fnExactCircuits", fn := fun _ => fun
  | [d] => { results := [.lit (.bool false)], args := [d] }
  | _ => none }
def FnExactCircuitsWrongFalsely : Prop := fnExactCircuitsRow.holds Try.pinned (OpenSpec.ofChange fnExactCircuitsWrong)

/-- 'laws.FnExactFromCircuits': WHATEVER THE INPUT: true; the input reads as it did. -/
def fnExactFromCircuitsSpec : ChangeSpec := { name := "fnExactFromCircuits", fn := fun _ => fun
  | [d1, d2] => { results := [.lit (.bool true)], args := [d1, d2] }
  | _ => none }
def fnExactFromCircuitsRow : OpenClaim := { program := "ythpocifdejedpaa", sum := "75eab9e9fb5e98c546b7dec9c4136620ac1348c4a3647852da90f7586de62384", func := "loop.example/g00593/laws.FnExactFromCircuits", spec := "fnExactFromCircuits", unfollowed := true, recurses := true, apart := false }
def FnExactFromCircuitsSaid : Prop := fnExactFromCircuitsRow.holds Try.pinned (OpenSpec.ofChange fnExactFromCircuitsSpec)

/-- ITS FALSE NEIGHBOUR: 'it returns false'. Refute it at one input. -/
def fnExactFromCircuitsWrong : ChangeSpec := { name := "fnExactFromCircuits", fn := fun _ => fun
  | [d1, d2] => { results := [.lit (.bool false)], args := [d1, d2] }
  | _ => none }
def FnExactFromCircuitsWrongFalsely : Prop := fnExactFromCircuitsRow.holds Try.pinned (OpenSpec.ofChange fnExactFromCircuitsWrong)

/-- 'laws.FnExactGirthOf': WHATEVER THE INPUT: true; the input reads as it did. -/
def fnExactGirthOfSpec : ChangeSpec := { name := "fnExactGirthOf", fn := fun _ => fun
  | [d] => { results := [.lit (.bool true)], args := [d] }
  | _ => none }
def fnExactGirthOfRow : OpenClaim := { program := "ythpocifdejedpaa", sum := "75eab9e9fb5e98c546b7dec9c4136620ac1348c4a3647852da90f7586de62384", func := "loop.example/g00593/laws.FnExactGirthOf", spec := "fnExactGirthOf", unfollowed := true, recurses := true, apart := false }
def FnExactGirthOfSaid : Prop := fnExactGirthOfRow.holds Try.pinned (OpenSpec.ofChange fnExactGirthOfSpec)

/-- ITS FALSE NEIGHBOUR: 'it returns false'. Refute it at one input. -/
def fnExactGirthOfWrong : ChangeSpec := { name := "fnExactGirthOf", fn := fun _ => fun
  | [d] => { results := [.lit (.bool false)], args := [d] }
  | _ => none }
def FnExactGirthOfWrongFalsely : Prop := fnExactGirthOfRow.holds Try.pinned (OpenSpec.ofChange fnExactGirthOfWrong)

/- THE SECOND FORM. 'bulk': how many values and letters a reading holds, each counted each time it is reached (what is shared counts as often as it is met; a slice's spare places count too). A statement '..UptoSaid' is the law's where the arguments, and the package variables that the reading takes, are together of bulk at most 1048576: NARROWER than '..Said'. Prove '..Said' where nothing that the law and all that it calls make is longer than what came in: it says more and counts as full. Else prove '..UptoSaid'. A law counts once. -/
mutual
def uptoBulk {H : Type} : DataW H → Nat
  | .lit (.string bytes) => bytes.length + 1
  | .lit _ => 1
  | .nil => 1
  | .ptr d => uptoBulk d + 1
  | .slice elems spare => uptoBulkAll elems + uptoBulkAll spare + 1
  | .agg parts => uptoBulkAll parts + 1
  | .iface _ d => uptoBulk d + 1
  | .map entries => uptoBulkEntries entries + 1
  | .held _ => 1
def uptoBulkAll {H : Type} : List (DataW H) → Nat
  | [] => 0
  | d :: r => uptoBulk d + uptoBulkAll r
def uptoBulkEntries {H : Type} : List (Lit × DataW H) → Nat
  | [] => 0
  | x :: r => uptoBulkEntry x + uptoBulkEntries r
def uptoBulkEntry {H : Type} : Lit × DataW H → Nat
  | (.string bytes, d) => bytes.length + uptoBulk d + 1
  | (_, d) => uptoBulk d + 1
 end
def uptoSmall : (H : Type) → List (DataW H) → Bool := fun _ ds => decide (uptoBulkAll ds ≤ 1048576)
def OpenSpec.upto (s : _root_.Go.ChangeSpec) : _root_.Go.OpenSpec := { _root_.Go.OpenSpec.ofChange s with cond := some uptoSmall }

/-- 'laws.FnExactIndependentSets', WHERE WHAT IT READS IS OF BULK AT MOST 1048576: true; the input reads as it did. -/
def fnExactIndependentSetsUptoRow : OpenClaim := { program := "ythpocifdejedpaa", sum := "75eab9e9fb5e98c546b7dec9c4136620ac1348c4a3647852da90f7586de62384", func := "loop.example/g00593/laws.FnExactIndependentSets", spec := "fnExactIndependentSets", unfollowed := true, recurses := true, apart := false, narrowed := true }
def FnExactIndependentSetsUptoSaid : Prop := fnExactIndependentSetsUptoRow.holds Try.pinned (OpenSpec.upto fnExactIndependentSetsSpec)

/-- 'laws.FnExactBasesOf', WHERE WHAT IT READS IS OF BULK AT MOST 1048576: true; the input reads as it did. -/
def fnExactBasesOfUptoRow : OpenClaim := { program := "ythpocifdejedpaa", sum := "75eab9e9fb5e98c546b7dec9c4136620ac1348c4a3647852da90f7586de62384", func := "loop.example/g00593/laws.FnExactBasesOf", spec := "fnExactBasesOf", unfollowed := true, recurses := true, apart := false, narrowed := true }
def FnExactBasesOfUptoSaid : Prop := fnExactBasesOfUptoRow.holds Try.pinned (OpenSpec.upto fnExactBasesOfSpec)

/-- 'laws.FnExactSortSets', WHERE WHAT IT READS IS OF BULK AT MOST 1048576: true; the input reads as it did. -/
def fnExactSortSetsUptoRow : OpenClaim := { program := "ythpocifdejedpaa", sum := "75eab9e9fb5e98c546b7dec9c4136620ac1348c4a3647852da90f7586de62384", func := "loop.example/g00593/laws.FnExactSortSets", spec := "fnExactSortSets", recurses := true, apart := false, narrowed := true }
def FnExactSortSetsUptoSaid : Prop := fnExactSortSetsUptoRow.holds Try.pinned (OpenSpec.upto fnExactSortSetsSpec)

/-- 'laws.FnExactMaximalSets', WHERE WHAT IT READS IS OF BULK AT MOST 1048576: true; the input reads as it did. -/
def fnExactMaximalSetsUptoRow : OpenClaim := { program := "ythpocifdejedpaa", sum := "75eab9e9fb5e98c546b7dec9c4136620ac1348c4a3647852da90f7586de62384", func := "loop.example/g00593/laws.FnExactMaximalSets", spec := "fnExactMaximalSets", unfollowed := true, recurses := true, apart := false, narrowed := true }
def FnExactMaximalSetsUptoSaid : Prop := fnExactMaximalSetsUptoRow.holds Try.pinned (OpenSpec.upto fnExactMaximalSetsSpec)

/-- 'laws.FnExactMinimalSets', WHERE WHAT IT READS IS OF BULK AT MOST 1048576: true; the input reads as it did. -/
def fnExactMinimalSetsUptoRow : OpenClaim := { program := "ythpocifdejedpaa", sum := "75eab9e9fb5e98c546b7dec9c4136620ac1348c4a3647852da90f7586de62384", func := "loop.example/g00593/laws.FnExactMinimalSets", spec := "fnExactMinimalSets", unfollowed := true, recurses := true, apart := false, narrowed := true }
def FnExactMinimalSetsUptoSaid : Prop := fnExactMinimalSetsUptoRow.holds Try.pinned (OpenSpec.upto fnExactMinimalSetsSpec)

/-- 'laws.FnExactCircuits', WHERE WHAT IT READS IS OF BULK AT MOST 1048576: true; the input reads as it did. -/
def fnExactCircuitsUptoRow : OpenClaim := { program := "ythpocifdejedpaa", sum := "75eab9e9fb5e98c546b7dec9c4136620ac1348c4a3647852da90f7586de62384", func := "loop.example/g00593/laws.FnExactCircuits", spec := "fnExactCircuits", unfollowed := true, recurses := true, apart := false, narrowed := true }
def FnExactCircuitsUptoSaid : Prop := fnExactCircuitsUptoRow.holds Try.pinned (OpenSpec.upto fnExactCircuitsSpec)

/-- 'laws.FnExactFromCircuits', WHERE WHAT IT READS IS OF BULK AT MOST 1048576: true; the input reads as it did. -/
def fnExactFromCircuitsUptoRow : OpenClaim := { program := "ythpocifdejedpaa", sum := "75eab9e9fb5e98c546b7dec9c4136620ac1348c4a3647852da90f7586de62384", func := "loop.example/g00593/laws.FnExactFromCircuits", spec := "fnExactFromCircuits", unfollowed := true, recurses := true, apart := false, narrowed := true }
def FnExactFromCircuitsUptoSaid : Prop := fnExactFromCircuitsUptoRow.holds Try.pinned (OpenSpec.upto fnExactFromCircuitsSpec)

/-- 'laws.FnExactGirthOf', WHERE WHAT IT READS IS OF BULK AT MOST 1048576: true; the input reads as it did. -/
def fnExactGirthOfUptoRow : OpenClaim := { program := "ythpocifdejedpaa", sum := "75eab9e9fb5e98c546b7dec9c4136620ac1348c4a3647852da90f7586de62384", func := "loop.example/g00593/laws.FnExactGirthOf", spec := "fnExactGirthOf", unfollowed := true, recurses := true, apart := false, narrowed := true }
def FnExactGirthOfUptoSaid : Prop := fnExactGirthOfUptoRow.holds Try.pinned (OpenSpec.upto fnExactGirthOfSpec)

end Rows
end Go.Proofs.Ythpocifdejedpaa
