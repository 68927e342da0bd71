/- The program's HasElement answers as the reference's at all whole numbers. -/
import Derived.Test.YtmbpmfdkdedjdaaSets
namespace Go.Proofs.Ytmbpmfdkdedjdaa.Pure
open Go.RowKit Go.Proofs.Ytmbpmfdkdedjdaa.P Go.Proofs.Ytmbpmfdkdedjdaa.L Go.Proofs.YtmbpmfdkdedjdaaW.PrintWords Go.Proofs.YtmbpmfdkdedjdaaW.PrintLast

theorem FnExactHasElement : laws_FnExactHasElement.Pure := by
  intro a0 a1 _ _; unfold laws_FnExactHasElement.f; rw [HasElement_spec, HasElement_impl]; simp

end Go.Proofs.Ytmbpmfdkdedjdaa.Pure
