/- The program's ElementsOf answers as the reference's at all whole numbers. -/
import Derived.Test.YtaghnpjmjehgcaaElems
namespace Go.Proofs.Ytaghnpjmjehgcaa.Pure
open Go.RowKit Go.Proofs.Ytaghnpjmjehgcaa.P Go.Proofs.Ytaghnpjmjehgcaa.L Go.Proofs.YtaghnpjmjehgcaaW.PrintWords Go.Proofs.YtaghnpjmjehgcaaW.PrintLast
theorem FnExactElementsOf : laws_FnExactElementsOf.Pure := by
  intro s _
  obtain ⟨k, hk⟩ : ∃ k, Big ≤ k := ⟨_, Nat.le_refl _⟩
  refine ⟨k, ?_⟩
  have hb := big_eq; have hl := elems_length s
  unfold laws_FnExactElementsOf.f
  rw [ElementsOf_spec s k (by omega), ElementsOf_impl s k (by omega)]; simp only [Option.bind_some]
  rw [eqIntS_eq _ _ k (by omega) hk]; simp only [Option.bind_some]
  rw [if_pos (by simp), markIntS_eq _ 1 k (by omega) hk (by omega) (by omega)]; simp only [Option.bind_some]
  rw [heldIntS_eq _ 1 k (by omega) hk (by omega) (by omega)]; simp only [Option.bind_some]
  rw [if_neg (by omega), if_pos trivial, if_pos (by simp), if_neg (by omega), if_pos trivial]

end Go.Proofs.Ytaghnpjmjehgcaa.Pure
