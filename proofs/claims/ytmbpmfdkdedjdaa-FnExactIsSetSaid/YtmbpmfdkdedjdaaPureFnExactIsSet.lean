/- The program's IsSet answers as the reference's at all whole numbers. -/
import Derived.Test.YtmbpmfdkdedjdaaSets
namespace Go.Proofs.Ytmbpmfdkdedjdaa.Pure
open Go.RowKit Go.Proofs.Ytmbpmfdkdedjdaa.P Go.Proofs.Ytmbpmfdkdedjdaa.L Go.Proofs.YtmbpmfdkdedjdaaW.PrintWords Go.Proofs.YtmbpmfdkdedjdaaW.PrintLast

theorem FnExactIsSet : laws_FnExactIsSet.Pure := by
  intro a0 a1 _ _; unfold laws_FnExactIsSet.f; rw [IsSet_spec, IsSet_impl]; simp

end Go.Proofs.Ytmbpmfdkdedjdaa.Pure
