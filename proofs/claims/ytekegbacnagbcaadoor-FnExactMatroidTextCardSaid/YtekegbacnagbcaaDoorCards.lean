/-
  DERIVED. GIVEN WITH THE SEED: THE CARDS: each row of YtekegbacnagbcaaDoorRows.lean that lists a variable, with what it lists TIED to the program's text (the seventh form; the later family's looks); each row that meets fmt, with fmt's text TOLD by the authors' own Lean function (tested against real Go, not proved from fmt's source: count such statements apart). THE CARD IS WHAT COUNTS. Prove the row's statement (the work); the ties are given (YtekegbacnagbcaaDoorTie.lean); close each card by the builder's one call (the guide's Derived/Test/ToyasCard.lean, 'card_holds'). Laid BY PROGRAM, IN A SANDBOX (cutbox-door.mjs). By AI agents, Wed Nov 11 2026. No macro, syntax, notation, axiom, sorry.
-/
import Derived.Test.YtekegbacnagbcaaDoorRows
import GoSem.ClaimSeven
namespace Go.Proofs.YtekegbacnagbcaaDoor
namespace Rows

/-- THE TIED CARD OF 'laws.FnExactMatroidText'. -/
def fnExactMatroidTextCard : Claim7 := { stood := { row := fnExactMatroidTextRow, standIns := [], harness := (true, "30cc9fcbbaee650389cf2795142fa426b9ad4e96c1be7fe579368c3e6898f89e"), looks := false }, kinds := [], alts := [], laidByText := true, laidKinds := [.data, .data, .data], laidTests := true, laidLooks := .later }
def FnExactMatroidTextCardSaid : Prop := Claim7.holds Tryd.pinned (.plain (OpenSpec.ofChange fnExactMatroidTextSpec)) fnExactMatroidTextCard

/-- THE SECOND FORM's CARD OF 'laws.FnExactMatroidText'. -/
def fnExactMatroidTextUptoCard : Claim7 := { stood := { row := fnExactMatroidTextUptoRow, standIns := [], harness := (true, "30cc9fcbbaee650389cf2795142fa426b9ad4e96c1be7fe579368c3e6898f89e"), looks := false }, kinds := [], alts := [], laidByText := true, laidKinds := [.data, .data, .data], laidTests := true, laidLooks := .later }
def FnExactMatroidTextUptoCardSaid : Prop := Claim7.holds Tryd.pinned (.plain (OpenSpec.upto fnExactMatroidTextSpec)) fnExactMatroidTextUptoCard
end Rows
end Go.Proofs.YtekegbacnagbcaaDoor
