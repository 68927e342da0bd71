/-
  No cell of these rows narrows 'for every input' (looked for: loops, veiled, ifaces, maps, wideKeys, modest, calm, conditions, laid).
  DERIVED. THE GIVEN ROWS OF THIS SEAT. 7 by the template 'for every input the law returns true; each argument reads behind the call as it read before'; 0 by the template 'total and deterministic' (their statements: YtaghnpjmjehgcaaTotals.lean).
  GIVEN WITH THE SEED: the statements are not yours to turn. If you find one false, say at which input.
  Laid BY PROGRAM, IN A SANDBOX (cutbox-rows.mjs): the forced cells as the released guide's own fill.sh prints them over the translation 50d8065b71c12d9f… (all of the seat's roots in one cut). By AI agents, Wed Nov 11 2026. No macro, syntax, notation, axiom, sorry.
-/
import Derived.Test.YtaghnpjmjehgcaaChecked
import GoSem.Claim
import GoSem.ClaimJoined
import GoSem.ClaimMapViews
import Derived.JoinedTies
import Derived.KernelRfl
namespace Go.Proofs.Ytaghnpjmjehgcaa
/- THE CELL 'sum', in the pinned program and in every row, IS THE sha256 OF THE DUMP (.gsa) THAT YtaghnpjmjehgcaaProg.lean LOADS. Nothing in Lean hashes anything: it is a label: what it is worth is what the hold of that sum in a sandbox is worth. -/
noncomputable def Try.pinned : Pinned := { name := "ytaghnpjmjehgcaa", sum := "50d8065b71c12d9f14a7c883df718bfa65db20101c8be46914bdcb64baabf74f", checked := Try.checked }
namespace Rows
def none {H : Type} : Left H := { results := [], args := [] }

/-- 'laws.FnExactWithoutElement': WHATEVER THE INPUT: true; the input reads as it did. -/
def fnExactWithoutElementSpec : ChangeSpec := { name := "fnExactWithoutElement", fn := fun _ => fun
  | [d1, d2] => { results := [.lit (.bool true)], args := [d1, d2] }
  | _ => none }
def fnExactWithoutElementRow : OpenClaim := { program := "ytaghnpjmjehgcaa", sum := "50d8065b71c12d9f14a7c883df718bfa65db20101c8be46914bdcb64baabf74f", func := "loop.example/g00593/laws.FnExactWithoutElement", spec := "fnExactWithoutElement", apart := false }
def FnExactWithoutElementSaid : Prop := fnExactWithoutElementRow.holds Try.pinned (OpenSpec.ofChange fnExactWithoutElementSpec)

/-- ITS FALSE NEIGHBOUR: 'it returns false'. Refute it at one input. -/
def fnExactWithoutElementWrong : ChangeSpec := { name := "fnExactWithoutElement", fn := fun _ => fun
  | [d1, d2] => { results := [.lit (.bool false)], args := [d1, d2] }
  | _ => none }
def FnExactWithoutElementWrongFalsely : Prop := fnExactWithoutElementRow.holds Try.pinned (OpenSpec.ofChange fnExactWithoutElementWrong)

/-- 'laws.FnExactHasSet': WHATEVER THE INPUT: true; the input reads as it did. -/
def fnExactHasSetSpec : ChangeSpec := { name := "fnExactHasSet", fn := fun _ => fun
  | [d1, d2] => { results := [.lit (.bool true)], args := [d1, d2] }
  | _ => none }
def fnExactHasSetRow : OpenClaim := { program := "ytaghnpjmjehgcaa", sum := "50d8065b71c12d9f14a7c883df718bfa65db20101c8be46914bdcb64baabf74f", func := "loop.example/g00593/laws.FnExactHasSet", spec := "fnExactHasSet", apart := false }
def FnExactHasSetSaid : Prop := fnExactHasSetRow.holds Try.pinned (OpenSpec.ofChange fnExactHasSetSpec)

/-- ITS FALSE NEIGHBOUR: 'it returns false'. Refute it at one input. -/
def fnExactHasSetWrong : ChangeSpec := { name := "fnExactHasSet", fn := fun _ => fun
  | [d1, d2] => { results := [.lit (.bool false)], args := [d1, d2] }
  | _ => none }
def FnExactHasSetWrongFalsely : Prop := fnExactHasSetRow.holds Try.pinned (OpenSpec.ofChange fnExactHasSetWrong)

/-- 'laws.FnExactSetText': WHATEVER THE INPUT: true; the input reads as it did. -/
def fnExactSetTextSpec : ChangeSpec := { name := "fnExactSetText", fn := fun _ => fun
  | [d] => { results := [.lit (.bool true)], args := [d] }
  | _ => none }
def fnExactSetTextRow : OpenClaim := { program := "ytaghnpjmjehgcaa", sum := "50d8065b71c12d9f14a7c883df718bfa65db20101c8be46914bdcb64baabf74f", func := "loop.example/g00593/laws.FnExactSetText", spec := "fnExactSetText", apart := false }
def FnExactSetTextSaid : Prop := fnExactSetTextRow.holds Try.pinned (OpenSpec.ofChange fnExactSetTextSpec)

/-- ITS FALSE NEIGHBOUR: 'it returns false'. Refute it at one input. -/
def fnExactSetTextWrong : ChangeSpec := { name := "fnExactSetText", fn := fun _ => fun
  | [d] => { results := [.lit (.bool false)], args := [d] }
  | _ => none }
def FnExactSetTextWrongFalsely : Prop := fnExactSetTextRow.holds Try.pinned (OpenSpec.ofChange fnExactSetTextWrong)

/-- 'laws.FnExactElementsOf': WHATEVER THE INPUT: true; the input reads as it did. -/
def fnExactElementsOfSpec : ChangeSpec := { name := "fnExactElementsOf", fn := fun _ => fun
  | [d] => { results := [.lit (.bool true)], args := [d] }
  | _ => none }
def fnExactElementsOfRow : OpenClaim := { program := "ytaghnpjmjehgcaa", sum := "50d8065b71c12d9f14a7c883df718bfa65db20101c8be46914bdcb64baabf74f", func := "loop.example/g00593/laws.FnExactElementsOf", spec := "fnExactElementsOf", apart := false }
def FnExactElementsOfSaid : Prop := fnExactElementsOfRow.holds Try.pinned (OpenSpec.ofChange fnExactElementsOfSpec)

/-- ITS FALSE NEIGHBOUR: 'it returns false'. Refute it at one input. -/
def fnExactElementsOfWrong : ChangeSpec := { name := "fnExactElementsOf", fn := fun _ => fun
  | [d] => { results := [.lit (.bool false)], args := [d] }
  | _ => none }
def FnExactElementsOfWrongFalsely : Prop := fnExactElementsOfRow.holds Try.pinned (OpenSpec.ofChange fnExactElementsOfWrong)

/-- 'laws.FnExactCountOf': WHATEVER THE INPUT: true; the input reads as it did. -/
def fnExactCountOfSpec : ChangeSpec := { name := "fnExactCountOf", fn := fun _ => fun
  | [d] => { results := [.lit (.bool true)], args := [d] }
  | _ => none }
def fnExactCountOfRow : OpenClaim := { program := "ytaghnpjmjehgcaa", sum := "50d8065b71c12d9f14a7c883df718bfa65db20101c8be46914bdcb64baabf74f", func := "loop.example/g00593/laws.FnExactCountOf", spec := "fnExactCountOf", apart := false }
def FnExactCountOfSaid : Prop := fnExactCountOfRow.holds Try.pinned (OpenSpec.ofChange fnExactCountOfSpec)

/-- ITS FALSE NEIGHBOUR: 'it returns false'. Refute it at one input. -/
def fnExactCountOfWrong : ChangeSpec := { name := "fnExactCountOf", fn := fun _ => fun
  | [d] => { results := [.lit (.bool false)], args := [d] }
  | _ => none }
def FnExactCountOfWrongFalsely : Prop := fnExactCountOfRow.holds Try.pinned (OpenSpec.ofChange fnExactCountOfWrong)

/-- 'laws.FnExactEqualMatroid': WHATEVER THE INPUT: true; the input reads as it did. -/
def fnExactEqualMatroidSpec : ChangeSpec := { name := "fnExactEqualMatroid", fn := fun _ => fun
  | [d1, d2] => { results := [.lit (.bool true)], args := [d1, d2] }
  | _ => none }
def fnExactEqualMatroidRow : OpenClaim := { program := "ytaghnpjmjehgcaa", sum := "50d8065b71c12d9f14a7c883df718bfa65db20101c8be46914bdcb64baabf74f", func := "loop.example/g00593/laws.FnExactEqualMatroid", spec := "fnExactEqualMatroid", apart := false }
def FnExactEqualMatroidSaid : Prop := fnExactEqualMatroidRow.holds Try.pinned (OpenSpec.ofChange fnExactEqualMatroidSpec)

/-- ITS FALSE NEIGHBOUR: 'it returns false'. Refute it at one input. -/
def fnExactEqualMatroidWrong : ChangeSpec := { name := "fnExactEqualMatroid", fn := fun _ => fun
  | [d1, d2] => { results := [.lit (.bool false)], args := [d1, d2] }
  | _ => none }
def FnExactEqualMatroidWrongFalsely : Prop := fnExactEqualMatroidRow.holds Try.pinned (OpenSpec.ofChange fnExactEqualMatroidWrong)

/-- 'laws.FnExactParseSet': WHATEVER THE INPUT: true; the input reads as it did. -/
def fnExactParseSetSpec : ChangeSpec := { name := "fnExactParseSet", fn := fun _ => fun
  | [d] => { results := [.lit (.bool true)], args := [d] }
  | _ => none }
def fnExactParseSetRow : OpenClaim := { program := "ytaghnpjmjehgcaa", sum := "50d8065b71c12d9f14a7c883df718bfa65db20101c8be46914bdcb64baabf74f", func := "loop.example/g00593/laws.FnExactParseSet", spec := "fnExactParseSet", apart := false }
def FnExactParseSetSaid : Prop := fnExactParseSetRow.holds Try.pinned (OpenSpec.ofChange fnExactParseSetSpec)

/-- ITS FALSE NEIGHBOUR: 'it returns false'. Refute it at one input. -/
def fnExactParseSetWrong : ChangeSpec := { name := "fnExactParseSet", fn := fun _ => fun
  | [d] => { results := [.lit (.bool false)], args := [d] }
  | _ => none }
def FnExactParseSetWrongFalsely : Prop := fnExactParseSetRow.holds Try.pinned (OpenSpec.ofChange fnExactParseSetWrong)

/- THE SECOND FORM. 'bulk': how many values and letters a reading holds, each counted each time it is reached (what is shared counts as often as it is met; a slice's spare places count too). A statement '..UptoSaid' is the law's where the arguments, and the package variables that the reading takes, are together of bulk at most 1048576: NARROWER than '..Said'. Prove '..Said' where nothing that the law and all that it calls make is longer than what came in: it says more and counts as full. Else prove '..UptoSaid'. A law counts once. -/
mutual
def uptoBulk {H : Type} : DataW H → Nat
  | .lit (.string bytes) => bytes.length + 1
  | .lit _ => 1
  | .nil => 1
  | .ptr d => uptoBulk d + 1
  | .slice elems spare => uptoBulkAll elems + uptoBulkAll spare + 1
  | .agg parts => uptoBulkAll parts + 1
  | .iface _ d => uptoBulk d + 1
  | .map entries => uptoBulkEntries entries + 1
  | .held _ => 1
def uptoBulkAll {H : Type} : List (DataW H) → Nat
  | [] => 0
  | d :: r => uptoBulk d + uptoBulkAll r
def uptoBulkEntries {H : Type} : List (Lit × DataW H) → Nat
  | [] => 0
  | x :: r => uptoBulkEntry x + uptoBulkEntries r
def uptoBulkEntry {H : Type} : Lit × DataW H → Nat
  | (.string bytes, d) => bytes.length + uptoBulk d + 1
  | (_, d) => uptoBulk d + 1
 end
def uptoSmall : (H : Type) → List (DataW H) → Bool := fun _ ds => decide (uptoBulkAll ds ≤ 1048576)
def OpenSpec.upto (s : _root_.Go.ChangeSpec) : _root_.Go.OpenSpec := { _root_.Go.OpenSpec.ofChange s with cond := some uptoSmall }

/-- 'laws.FnExactWithoutElement', WHERE WHAT IT READS IS OF BULK AT MOST 1048576: true; the input reads as it did. -/
def fnExactWithoutElementUptoRow : OpenClaim := { program := "ytaghnpjmjehgcaa", sum := "50d8065b71c12d9f14a7c883df718bfa65db20101c8be46914bdcb64baabf74f", func := "loop.example/g00593/laws.FnExactWithoutElement", spec := "fnExactWithoutElement", apart := false, narrowed := true }
def FnExactWithoutElementUptoSaid : Prop := fnExactWithoutElementUptoRow.holds Try.pinned (OpenSpec.upto fnExactWithoutElementSpec)

/-- 'laws.FnExactHasSet', WHERE WHAT IT READS IS OF BULK AT MOST 1048576: true; the input reads as it did. -/
def fnExactHasSetUptoRow : OpenClaim := { program := "ytaghnpjmjehgcaa", sum := "50d8065b71c12d9f14a7c883df718bfa65db20101c8be46914bdcb64baabf74f", func := "loop.example/g00593/laws.FnExactHasSet", spec := "fnExactHasSet", apart := false, narrowed := true }
def FnExactHasSetUptoSaid : Prop := fnExactHasSetUptoRow.holds Try.pinned (OpenSpec.upto fnExactHasSetSpec)

/-- 'laws.FnExactSetText', WHERE WHAT IT READS IS OF BULK AT MOST 1048576: true; the input reads as it did. -/
def fnExactSetTextUptoRow : OpenClaim := { program := "ytaghnpjmjehgcaa", sum := "50d8065b71c12d9f14a7c883df718bfa65db20101c8be46914bdcb64baabf74f", func := "loop.example/g00593/laws.FnExactSetText", spec := "fnExactSetText", apart := false, narrowed := true }
def FnExactSetTextUptoSaid : Prop := fnExactSetTextUptoRow.holds Try.pinned (OpenSpec.upto fnExactSetTextSpec)

/-- 'laws.FnExactElementsOf', WHERE WHAT IT READS IS OF BULK AT MOST 1048576: true; the input reads as it did. -/
def fnExactElementsOfUptoRow : OpenClaim := { program := "ytaghnpjmjehgcaa", sum := "50d8065b71c12d9f14a7c883df718bfa65db20101c8be46914bdcb64baabf74f", func := "loop.example/g00593/laws.FnExactElementsOf", spec := "fnExactElementsOf", apart := false, narrowed := true }
def FnExactElementsOfUptoSaid : Prop := fnExactElementsOfUptoRow.holds Try.pinned (OpenSpec.upto fnExactElementsOfSpec)

/-- 'laws.FnExactCountOf', WHERE WHAT IT READS IS OF BULK AT MOST 1048576: true; the input reads as it did. -/
def fnExactCountOfUptoRow : OpenClaim := { program := "ytaghnpjmjehgcaa", sum := "50d8065b71c12d9f14a7c883df718bfa65db20101c8be46914bdcb64baabf74f", func := "loop.example/g00593/laws.FnExactCountOf", spec := "fnExactCountOf", apart := false, narrowed := true }
def FnExactCountOfUptoSaid : Prop := fnExactCountOfUptoRow.holds Try.pinned (OpenSpec.upto fnExactCountOfSpec)

/-- 'laws.FnExactEqualMatroid', WHERE WHAT IT READS IS OF BULK AT MOST 1048576: true; the input reads as it did. -/
def fnExactEqualMatroidUptoRow : OpenClaim := { program := "ytaghnpjmjehgcaa", sum := "50d8065b71c12d9f14a7c883df718bfa65db20101c8be46914bdcb64baabf74f", func := "loop.example/g00593/laws.FnExactEqualMatroid", spec := "fnExactEqualMatroid", apart := false, narrowed := true }
def FnExactEqualMatroidUptoSaid : Prop := fnExactEqualMatroidUptoRow.holds Try.pinned (OpenSpec.upto fnExactEqualMatroidSpec)

/-- 'laws.FnExactParseSet', WHERE WHAT IT READS IS OF BULK AT MOST 1048576: true; the input reads as it did. -/
def fnExactParseSetUptoRow : OpenClaim := { program := "ytaghnpjmjehgcaa", sum := "50d8065b71c12d9f14a7c883df718bfa65db20101c8be46914bdcb64baabf74f", func := "loop.example/g00593/laws.FnExactParseSet", spec := "fnExactParseSet", apart := false, narrowed := true }
def FnExactParseSetUptoSaid : Prop := fnExactParseSetUptoRow.holds Try.pinned (OpenSpec.upto fnExactParseSetSpec)

end Rows
end Go.Proofs.Ytaghnpjmjehgcaa
