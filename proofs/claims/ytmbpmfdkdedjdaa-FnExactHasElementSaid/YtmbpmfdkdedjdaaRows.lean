/-
  No cell of these rows narrows 'for every input' (looked for: loops, veiled, ifaces, maps, wideKeys, modest, calm, conditions, laid).
  DERIVED. THE GIVEN ROWS OF THIS SEAT. 6 by the template 'for every input the law returns true; each argument reads behind the call as it read before'; 0 by the template 'total and deterministic' (their statements: YtmbpmfdkdedjdaaTotals.lean).
  GIVEN WITH THE SEED: the statements are not yours to turn. If you find one false, say at which input.
  Laid BY PROGRAM, IN A SANDBOX (cutbox-rows.mjs): the forced cells as the released guide's own fill.sh prints them over the translation 565d5b00f05e3de6… (all of the seat's roots in one cut). By AI agents, Wed Nov 11 2026. No macro, syntax, notation, axiom, sorry.
-/
import Derived.Test.YtmbpmfdkdedjdaaChecked
import GoSem.Claim
import GoSem.ClaimJoined
import GoSem.ClaimMapViews
import Derived.JoinedTies
import Derived.KernelRfl
namespace Go.Proofs.Ytmbpmfdkdedjdaa
/- THE CELL 'sum', in the pinned program and in every row, IS THE sha256 OF THE DUMP (.gsa) THAT YtmbpmfdkdedjdaaProg.lean LOADS. Nothing in Lean hashes anything: it is a label: what it is worth is what the hold of that sum in a sandbox is worth. -/
noncomputable def Try.pinned : Pinned := { name := "ytmbpmfdkdedjdaa", sum := "565d5b00f05e3de63fe5358897d7b36670a2a74ea1cf7da4271dc9ae75e34d7e", checked := Try.checked }
namespace Rows
def none {H : Type} : Left H := { results := [], args := [] }

/-- 'laws.FnExactConstants': WHATEVER THE INPUT: true; the input reads as it did. -/
def fnExactConstantsSpec : ChangeSpec := { name := "fnExactConstants", fn := fun _ => fun
  | [] => { results := [.lit (.bool true)], args := [] }
  | _ => none }
def fnExactConstantsRow : OpenClaim := { program := "ytmbpmfdkdedjdaa", sum := "565d5b00f05e3de63fe5358897d7b36670a2a74ea1cf7da4271dc9ae75e34d7e", func := "loop.example/g00593/laws.FnExactConstants", spec := "fnExactConstants", apart := false }
def FnExactConstantsSaid : Prop := fnExactConstantsRow.holds Try.pinned (OpenSpec.ofChange fnExactConstantsSpec)

/-- ITS FALSE NEIGHBOUR: 'it returns false'. Refute it at one input. -/
def fnExactConstantsWrong : ChangeSpec := { name := "fnExactConstants", fn := fun _ => fun
  | [] => { results := [.lit (.bool false)], args := [] }
  | _ => none }
def FnExactConstantsWrongFalsely : Prop := fnExactConstantsRow.holds Try.pinned (OpenSpec.ofChange fnExactConstantsWrong)

/-- 'laws.FnExactIsSet': WHATEVER THE INPUT: true; the input reads as it did. -/
def fnExactIsSetSpec : ChangeSpec := { name := "fnExactIsSet", fn := fun _ => fun
  | [d1, d2] => { results := [.lit (.bool true)], args := [d1, d2] }
  | _ => none }
def fnExactIsSetRow : OpenClaim := { program := "ytmbpmfdkdedjdaa", sum := "565d5b00f05e3de63fe5358897d7b36670a2a74ea1cf7da4271dc9ae75e34d7e", func := "loop.example/g00593/laws.FnExactIsSet", spec := "fnExactIsSet", apart := false }
def FnExactIsSetSaid : Prop := fnExactIsSetRow.holds Try.pinned (OpenSpec.ofChange fnExactIsSetSpec)

/-- ITS FALSE NEIGHBOUR: 'it returns false'. Refute it at one input. -/
def fnExactIsSetWrong : ChangeSpec := { name := "fnExactIsSet", fn := fun _ => fun
  | [d1, d2] => { results := [.lit (.bool false)], args := [d1, d2] }
  | _ => none }
def FnExactIsSetWrongFalsely : Prop := fnExactIsSetRow.holds Try.pinned (OpenSpec.ofChange fnExactIsSetWrong)

/-- 'laws.FnExactIsSubset': WHATEVER THE INPUT: true; the input reads as it did. -/
def fnExactIsSubsetSpec : ChangeSpec := { name := "fnExactIsSubset", fn := fun _ => fun
  | [d1, d2] => { results := [.lit (.bool true)], args := [d1, d2] }
  | _ => none }
def fnExactIsSubsetRow : OpenClaim := { program := "ytmbpmfdkdedjdaa", sum := "565d5b00f05e3de63fe5358897d7b36670a2a74ea1cf7da4271dc9ae75e34d7e", func := "loop.example/g00593/laws.FnExactIsSubset", spec := "fnExactIsSubset", apart := false }
def FnExactIsSubsetSaid : Prop := fnExactIsSubsetRow.holds Try.pinned (OpenSpec.ofChange fnExactIsSubsetSpec)

/-- ITS FALSE NEIGHBOUR: 'it returns false'. Refute it at one input. -/
def fnExactIsSubsetWrong : ChangeSpec := { name := "fnExactIsSubset", fn := fun _ => fun
  | [d1, d2] => { results := [.lit (.bool false)], args := [d1, d2] }
  | _ => none }
def FnExactIsSubsetWrongFalsely : Prop := fnExactIsSubsetRow.holds Try.pinned (OpenSpec.ofChange fnExactIsSubsetWrong)

/-- 'laws.FnExactHasElement': WHATEVER THE INPUT: true; the input reads as it did. -/
def fnExactHasElementSpec : ChangeSpec := { name := "fnExactHasElement", fn := fun _ => fun
  | [d1, d2] => { results := [.lit (.bool true)], args := [d1, d2] }
  | _ => none }
def fnExactHasElementRow : OpenClaim := { program := "ytmbpmfdkdedjdaa", sum := "565d5b00f05e3de63fe5358897d7b36670a2a74ea1cf7da4271dc9ae75e34d7e", func := "loop.example/g00593/laws.FnExactHasElement", spec := "fnExactHasElement", apart := false }
def FnExactHasElementSaid : Prop := fnExactHasElementRow.holds Try.pinned (OpenSpec.ofChange fnExactHasElementSpec)

/-- ITS FALSE NEIGHBOUR: 'it returns false'. Refute it at one input. -/
def fnExactHasElementWrong : ChangeSpec := { name := "fnExactHasElement", fn := fun _ => fun
  | [d1, d2] => { results := [.lit (.bool false)], args := [d1, d2] }
  | _ => none }
def FnExactHasElementWrongFalsely : Prop := fnExactHasElementRow.holds Try.pinned (OpenSpec.ofChange fnExactHasElementWrong)

/-- 'laws.FnExactFullSet': WHATEVER THE INPUT: true; the input reads as it did. -/
def fnExactFullSetSpec : ChangeSpec := { name := "fnExactFullSet", fn := fun _ => fun
  | [d] => { results := [.lit (.bool true)], args := [d] }
  | _ => none }
def fnExactFullSetRow : OpenClaim := { program := "ytmbpmfdkdedjdaa", sum := "565d5b00f05e3de63fe5358897d7b36670a2a74ea1cf7da4271dc9ae75e34d7e", func := "loop.example/g00593/laws.FnExactFullSet", spec := "fnExactFullSet", apart := false }
def FnExactFullSetSaid : Prop := fnExactFullSetRow.holds Try.pinned (OpenSpec.ofChange fnExactFullSetSpec)

/-- ITS FALSE NEIGHBOUR: 'it returns false'. Refute it at one input. -/
def fnExactFullSetWrong : ChangeSpec := { name := "fnExactFullSet", fn := fun _ => fun
  | [d] => { results := [.lit (.bool false)], args := [d] }
  | _ => none }
def FnExactFullSetWrongFalsely : Prop := fnExactFullSetRow.holds Try.pinned (OpenSpec.ofChange fnExactFullSetWrong)

/-- 'laws.FnExactWithElement': WHATEVER THE INPUT: true; the input reads as it did. -/
def fnExactWithElementSpec : ChangeSpec := { name := "fnExactWithElement", fn := fun _ => fun
  | [d1, d2] => { results := [.lit (.bool true)], args := [d1, d2] }
  | _ => none }
def fnExactWithElementRow : OpenClaim := { program := "ytmbpmfdkdedjdaa", sum := "565d5b00f05e3de63fe5358897d7b36670a2a74ea1cf7da4271dc9ae75e34d7e", func := "loop.example/g00593/laws.FnExactWithElement", spec := "fnExactWithElement", apart := false }
def FnExactWithElementSaid : Prop := fnExactWithElementRow.holds Try.pinned (OpenSpec.ofChange fnExactWithElementSpec)

/-- ITS FALSE NEIGHBOUR: 'it returns false'. Refute it at one input. -/
def fnExactWithElementWrong : ChangeSpec := { name := "fnExactWithElement", fn := fun _ => fun
  | [d1, d2] => { results := [.lit (.bool false)], args := [d1, d2] }
  | _ => none }
def FnExactWithElementWrongFalsely : Prop := fnExactWithElementRow.holds Try.pinned (OpenSpec.ofChange fnExactWithElementWrong)

/- THE SECOND FORM. 'bulk': how many values and letters a reading holds, each counted each time it is reached (what is shared counts as often as it is met; a slice's spare places count too). A statement '..UptoSaid' is the law's where the arguments, and the package variables that the reading takes, are together of bulk at most 1048576: NARROWER than '..Said'. Prove '..Said' where nothing that the law and all that it calls make is longer than what came in: it says more and counts as full. Else prove '..UptoSaid'. A law counts once. -/
mutual
def uptoBulk {H : Type} : DataW H → Nat
  | .lit (.string bytes) => bytes.length + 1
  | .lit _ => 1
  | .nil => 1
  | .ptr d => uptoBulk d + 1
  | .slice elems spare => uptoBulkAll elems + uptoBulkAll spare + 1
  | .agg parts => uptoBulkAll parts + 1
  | .iface _ d => uptoBulk d + 1
  | .map entries => uptoBulkEntries entries + 1
  | .held _ => 1
def uptoBulkAll {H : Type} : List (DataW H) → Nat
  | [] => 0
  | d :: r => uptoBulk d + uptoBulkAll r
def uptoBulkEntries {H : Type} : List (Lit × DataW H) → Nat
  | [] => 0
  | x :: r => uptoBulkEntry x + uptoBulkEntries r
def uptoBulkEntry {H : Type} : Lit × DataW H → Nat
  | (.string bytes, d) => bytes.length + uptoBulk d + 1
  | (_, d) => uptoBulk d + 1
 end
def uptoSmall : (H : Type) → List (DataW H) → Bool := fun _ ds => decide (uptoBulkAll ds ≤ 1048576)
def OpenSpec.upto (s : _root_.Go.ChangeSpec) : _root_.Go.OpenSpec := { _root_.Go.OpenSpec.ofChange s with cond := some uptoSmall }

/-- 'laws.FnExactConstants', WHERE WHAT IT READS IS OF BULK AT MOST 1048576: true; the input reads as it did. -/
def fnExactConstantsUptoRow : OpenClaim := { program := "ytmbpmfdkdedjdaa", sum := "565d5b00f05e3de63fe5358897d7b36670a2a74ea1cf7da4271dc9ae75e34d7e", func := "loop.example/g00593/laws.FnExactConstants", spec := "fnExactConstants", apart := false, narrowed := true }
def FnExactConstantsUptoSaid : Prop := fnExactConstantsUptoRow.holds Try.pinned (OpenSpec.upto fnExactConstantsSpec)

/-- 'laws.FnExactIsSet', WHERE WHAT IT READS IS OF BULK AT MOST 1048576: true; the input reads as it did. -/
def fnExactIsSetUptoRow : OpenClaim := { program := "ytmbpmfdkdedjdaa", sum := "565d5b00f05e3de63fe5358897d7b36670a2a74ea1cf7da4271dc9ae75e34d7e", func := "loop.example/g00593/laws.FnExactIsSet", spec := "fnExactIsSet", apart := false, narrowed := true }
def FnExactIsSetUptoSaid : Prop := fnExactIsSetUptoRow.holds Try.pinned (OpenSpec.upto fnExactIsSetSpec)

/-- 'laws.FnExactIsSubset', WHERE WHAT IT READS IS OF BULK AT MOST 1048576: true; the input reads as it did. -/
def fnExactIsSubsetUptoRow : OpenClaim := { program := "ytmbpmfdkdedjdaa", sum := "565d5b00f05e3de63fe5358897d7b36670a2a74ea1cf7da4271dc9ae75e34d7e", func := "loop.example/g00593/laws.FnExactIsSubset", spec := "fnExactIsSubset", apart := false, narrowed := true }
def FnExactIsSubsetUptoSaid : Prop := fnExactIsSubsetUptoRow.holds Try.pinned (OpenSpec.upto fnExactIsSubsetSpec)

/-- 'laws.FnExactHasElement', WHERE WHAT IT READS IS OF BULK AT MOST 1048576: true; the input reads as it did. -/
def fnExactHasElementUptoRow : OpenClaim := { program := "ytmbpmfdkdedjdaa", sum := "565d5b00f05e3de63fe5358897d7b36670a2a74ea1cf7da4271dc9ae75e34d7e", func := "loop.example/g00593/laws.FnExactHasElement", spec := "fnExactHasElement", apart := false, narrowed := true }
def FnExactHasElementUptoSaid : Prop := fnExactHasElementUptoRow.holds Try.pinned (OpenSpec.upto fnExactHasElementSpec)

/-- 'laws.FnExactFullSet', WHERE WHAT IT READS IS OF BULK AT MOST 1048576: true; the input reads as it did. -/
def fnExactFullSetUptoRow : OpenClaim := { program := "ytmbpmfdkdedjdaa", sum := "565d5b00f05e3de63fe5358897d7b36670a2a74ea1cf7da4271dc9ae75e34d7e", func := "loop.example/g00593/laws.FnExactFullSet", spec := "fnExactFullSet", apart := false, narrowed := true }
def FnExactFullSetUptoSaid : Prop := fnExactFullSetUptoRow.holds Try.pinned (OpenSpec.upto fnExactFullSetSpec)

/-- 'laws.FnExactWithElement', WHERE WHAT IT READS IS OF BULK AT MOST 1048576: true; the input reads as it did. -/
def fnExactWithElementUptoRow : OpenClaim := { program := "ytmbpmfdkdedjdaa", sum := "565d5b00f05e3de63fe5358897d7b36670a2a74ea1cf7da4271dc9ae75e34d7e", func := "loop.example/g00593/laws.FnExactWithElement", spec := "fnExactWithElement", apart := false, narrowed := true }
def FnExactWithElementUptoSaid : Prop := fnExactWithElementUptoRow.holds Try.pinned (OpenSpec.upto fnExactWithElementSpec)

end Rows
end Go.Proofs.Ytmbpmfdkdedjdaa
