/- The program's WithoutElement answers as the reference's at all whole numbers. -/
import Derived.Test.YtaghnpjmjehgcaaElems
namespace Go.Proofs.Ytaghnpjmjehgcaa.Pure
open Go.RowKit Go.Proofs.Ytaghnpjmjehgcaa.P Go.Proofs.Ytaghnpjmjehgcaa.L Go.Proofs.YtaghnpjmjehgcaaW.PrintWords Go.Proofs.YtaghnpjmjehgcaaW.PrintLast
theorem FnExactWithoutElement : laws_FnExactWithoutElement.Pure := by
  intro a0 a1 _ _; unfold laws_FnExactWithoutElement.f; rw [WithoutElement_spec, WithoutElement_impl]; simp

end Go.Proofs.Ytaghnpjmjehgcaa.Pure
