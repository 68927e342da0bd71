/- The program's HasSet answers as the reference's at all lists. -/
import Derived.Test.YtaghnpjmjehgcaaElems
namespace Go.Proofs.Ytaghnpjmjehgcaa.Pure
open Go.RowKit Go.Proofs.Ytaghnpjmjehgcaa.P Go.Proofs.Ytaghnpjmjehgcaa.L Go.Proofs.YtaghnpjmjehgcaaW.PrintWords Go.Proofs.YtaghnpjmjehgcaaW.PrintLast
theorem FnExactHasSet : laws_FnExactHasSet.Pure := by
  intro xs s _ _ _ _
  obtain ⟨k, hk⟩ : ∃ k, Big ≤ k := ⟨_, Nat.le_refl _⟩
  refine ⟨k, ?_⟩
  unfold laws_FnExactHasSet.f
  by_cases h : (xs.length : Int) > 1048576
  · rw [if_pos h]
  · rw [if_neg h, toIntS_eq xs k (by omega) hk]; simp only [Option.bind_some]
    rw [HasSet_spec xs s k (by omega) hk, HasSet_impl xs s k (by omega) hk]; simp only [Option.bind_some]
    rw [if_neg (by simp), eqIntS_eq xs xs k (by omega) hk]; simp

end Go.Proofs.Ytaghnpjmjehgcaa.Pure
