/-
  DERIVED. GIVEN WITH THE SEED: THE CARDS: each row of YtekegbacnagbcaaGreatDoorRows.lean that lists a variable, with what it lists TIED to the program's text (the seventh form; the later family's looks); each row that meets fmt, with fmt's text TOLD by the authors' own Lean function (tested against real Go, not proved from fmt's source: count such statements apart). THE CARD IS WHAT COUNTS. Prove the row's statement (the work); the ties are given (YtekegbacnagbcaaGreatDoorTie.lean); close each card by the builder's one call (the guide's Derived/Test/ToyasCard.lean, 'card_holds'). Laid BY PROGRAM, IN A SANDBOX (cutbox-door.mjs). By AI agents, Wed Nov 11 2026. No macro, syntax, notation, axiom, sorry.
-/
import Derived.Test.YtekegbacnagbcaaGreatDoorRows
import GoSem.ClaimSeven
namespace Go.Proofs.YtekegbacnagbcaaGreatDoor
namespace Rows

/-- THE TIED CARD OF 'laws.FnExactParseMatroid'. -/
def fnExactParseMatroidCard : Claim7 := { stood := { row := fnExactParseMatroidRow, standIns := [], harness := (true, "3ebd2af56ce17e0da8b926db3bcacc1ad132a15f14a119c2afd799196156a678"), looks := true }, kinds := [], alts := [], laidByText := true, laidKinds := [.data, .data, .data, .data, .sentinel, .sentinel, .pinned], laidTests := true, laidLooks := .later }
def FnExactParseMatroidCardSaid : Prop := Claim7.holds Tryz.pinned (.plain (OpenSpec.ofChange fnExactParseMatroidSpec)) fnExactParseMatroidCard

/-- THE TIED CARD OF 'laws.FnFamilies'. -/
def fnFamiliesCard : Claim7 := { stood := { row := fnFamiliesRow, standIns := [], harness := (true, "3ebd2af56ce17e0da8b926db3bcacc1ad132a15f14a119c2afd799196156a678"), looks := true }, kinds := [], alts := [], laidByText := true, laidKinds := [.data, .pinned], laidTests := true, laidLooks := .later }
def FnFamiliesCardSaid : Prop := Claim7.holds Tryz.pinned (.plain (OpenSpec.ofChange fnFamiliesSpec)) fnFamiliesCard

/-- THE TIED CARD OF 'laws.FnMatroids'. -/
def fnMatroidsCard : Claim7 := { stood := { row := fnMatroidsRow, standIns := [], harness := (true, "3ebd2af56ce17e0da8b926db3bcacc1ad132a15f14a119c2afd799196156a678"), looks := true }, kinds := [], alts := [], laidByText := true, laidKinds := [.data, .data, .data, .data, .sentinel, .sentinel, .pinned], laidTests := true, laidLooks := .later }
def FnMatroidsCardSaid : Prop := Claim7.holds Tryz.pinned (.plain (OpenSpec.ofChange fnMatroidsSpec)) fnMatroidsCard

/-- THE SECOND FORM's CARD OF 'laws.FnExactParseMatroid'. -/
def fnExactParseMatroidUptoCard : Claim7 := { stood := { row := fnExactParseMatroidUptoRow, standIns := [], harness := (true, "3ebd2af56ce17e0da8b926db3bcacc1ad132a15f14a119c2afd799196156a678"), looks := true }, kinds := [], alts := [], laidByText := true, laidKinds := [.data, .data, .data, .data, .sentinel, .sentinel, .pinned], laidTests := true, laidLooks := .later }
def FnExactParseMatroidUptoCardSaid : Prop := Claim7.holds Tryz.pinned (.plain (OpenSpec.upto fnExactParseMatroidSpec)) fnExactParseMatroidUptoCard

/-- THE SECOND FORM's CARD OF 'laws.FnFamilies'. -/
def fnFamiliesUptoCard : Claim7 := { stood := { row := fnFamiliesUptoRow, standIns := [], harness := (true, "3ebd2af56ce17e0da8b926db3bcacc1ad132a15f14a119c2afd799196156a678"), looks := true }, kinds := [], alts := [], laidByText := true, laidKinds := [.data, .pinned], laidTests := true, laidLooks := .later }
def FnFamiliesUptoCardSaid : Prop := Claim7.holds Tryz.pinned (.plain (OpenSpec.upto fnFamiliesSpec)) fnFamiliesUptoCard

/-- THE SECOND FORM's CARD OF 'laws.FnMatroids'. -/
def fnMatroidsUptoCard : Claim7 := { stood := { row := fnMatroidsUptoRow, standIns := [], harness := (true, "3ebd2af56ce17e0da8b926db3bcacc1ad132a15f14a119c2afd799196156a678"), looks := true }, kinds := [], alts := [], laidByText := true, laidKinds := [.data, .data, .data, .data, .sentinel, .sentinel, .pinned], laidTests := true, laidLooks := .later }
def FnMatroidsUptoCardSaid : Prop := Claim7.holds Tryz.pinned (.plain (OpenSpec.upto fnMatroidsSpec)) fnMatroidsUptoCard
end Rows
end Go.Proofs.YtekegbacnagbcaaGreatDoor
