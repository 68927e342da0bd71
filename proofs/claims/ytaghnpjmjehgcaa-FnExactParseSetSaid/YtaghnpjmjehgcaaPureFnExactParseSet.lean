/- The program's ParseSet answers as the reference's at all texts. -/
import Derived.Test.YtaghnpjmjehgcaaText
namespace Go.Proofs.Ytaghnpjmjehgcaa.Pure
open Go.RowKit Go.Proofs.Ytaghnpjmjehgcaa.P Go.Proofs.Ytaghnpjmjehgcaa.L Go.Proofs.YtaghnpjmjehgcaaW.PrintWords Go.Proofs.YtaghnpjmjehgcaaW.PrintLast
theorem FnExactParseSet : laws_FnExactParseSet.Pure := by
  intro x _
  obtain ⟨k, hk⟩ : ∃ k, Big ≤ k := ⟨_, Nat.le_refl _⟩
  refine ⟨k, ?_⟩
  unfold laws_FnExactParseSet.f
  by_cases h : (x.size : Int) > 1048576
  · rw [if_pos h]
  · rw [if_neg h, ParseSet_spec x (by omega) k hk, ParseSet_impl x (by omega) k hk]; simp

end Go.Proofs.Ytaghnpjmjehgcaa.Pure
