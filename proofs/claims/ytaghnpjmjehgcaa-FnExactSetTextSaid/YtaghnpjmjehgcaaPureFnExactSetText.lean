/- The program's SetText answers as the reference's at all whole numbers. -/
import Derived.Test.YtaghnpjmjehgcaaText
namespace Go.Proofs.Ytaghnpjmjehgcaa.Pure
open Go.RowKit Go.Proofs.Ytaghnpjmjehgcaa.P Go.Proofs.Ytaghnpjmjehgcaa.L Go.Proofs.YtaghnpjmjehgcaaW.PrintWords Go.Proofs.YtaghnpjmjehgcaaW.PrintLast
theorem FnExactSetText : laws_FnExactSetText.Pure := by
  intro s _
  refine ⟨9, ?_⟩
  unfold laws_FnExactSetText.f
  rw [SetText_spec s 9 (by omega), SetText_impl s 9 (by omega)]; simp

end Go.Proofs.Ytaghnpjmjehgcaa.Pure
