/- The program's CountOf answers as the reference's at all whole numbers. -/
import Derived.Test.YtaghnpjmjehgcaaElems
namespace Go.Proofs.Ytaghnpjmjehgcaa.Pure
open Go.RowKit Go.Proofs.Ytaghnpjmjehgcaa.P Go.Proofs.Ytaghnpjmjehgcaa.L Go.Proofs.YtaghnpjmjehgcaaW.PrintWords Go.Proofs.YtaghnpjmjehgcaaW.PrintLast
theorem FnExactCountOf : laws_FnExactCountOf.Pure := by
  intro s _
  obtain ⟨k, hk⟩ : ∃ k, Big ≤ k := ⟨_, Nat.le_refl _⟩
  refine ⟨k, ?_⟩
  have hb := big_eq
  unfold laws_FnExactCountOf.f
  rw [CountOf_spec s k (by omega), CountOf_impl s]; simp

end Go.Proofs.Ytaghnpjmjehgcaa.Pure
