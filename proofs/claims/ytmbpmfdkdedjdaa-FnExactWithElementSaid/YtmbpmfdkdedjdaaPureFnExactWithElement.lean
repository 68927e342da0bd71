/- The program's WithElement answers as the reference's at all whole numbers. -/
import Derived.Test.YtmbpmfdkdedjdaaSets
namespace Go.Proofs.Ytmbpmfdkdedjdaa.Pure
open Go.RowKit Go.Proofs.Ytmbpmfdkdedjdaa.P Go.Proofs.Ytmbpmfdkdedjdaa.L Go.Proofs.YtmbpmfdkdedjdaaW.PrintWords Go.Proofs.YtmbpmfdkdedjdaaW.PrintLast

theorem FnExactWithElement : laws_FnExactWithElement.Pure := by
  intro a0 a1 _ _; unfold laws_FnExactWithElement.f; rw [WithElement_spec, WithElement_impl]; simp

end Go.Proofs.Ytmbpmfdkdedjdaa.Pure
