/- The constants of the program have the reference's values. -/
import Derived.Test.YtmbpmfdkdedjdaaSets
namespace Go.Proofs.Ytmbpmfdkdedjdaa.Pure
open Go.RowKit Go.Proofs.Ytmbpmfdkdedjdaa.P Go.Proofs.Ytmbpmfdkdedjdaa.L Go.Proofs.YtmbpmfdkdedjdaaW.PrintWords Go.Proofs.YtmbpmfdkdedjdaaW.PrintLast

theorem FnExactConstants : laws_FnExactConstants.Pure := by
  rfl

end Go.Proofs.Ytmbpmfdkdedjdaa.Pure
