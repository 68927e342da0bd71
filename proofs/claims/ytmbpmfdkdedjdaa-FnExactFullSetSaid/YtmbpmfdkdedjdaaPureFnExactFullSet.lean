/- The program's FullSet answers as the reference's at all whole numbers. -/
import Derived.Test.YtmbpmfdkdedjdaaSets
namespace Go.Proofs.Ytmbpmfdkdedjdaa.Pure
open Go.RowKit Go.Proofs.Ytmbpmfdkdedjdaa.P Go.Proofs.Ytmbpmfdkdedjdaa.L Go.Proofs.YtmbpmfdkdedjdaaW.PrintWords Go.Proofs.YtmbpmfdkdedjdaaW.PrintLast

theorem FnExactFullSet : laws_FnExactFullSet.Pure := by
  intro a0 _; unfold laws_FnExactFullSet.f; rw [FullSet_spec, FullSet_impl]; simp

end Go.Proofs.Ytmbpmfdkdedjdaa.Pure
