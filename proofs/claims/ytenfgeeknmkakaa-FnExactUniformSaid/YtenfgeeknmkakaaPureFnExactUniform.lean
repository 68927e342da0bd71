/- The program's Uniform answers as the reference's. -/
import Derived.Test.YtenfgeeknmkakaaVUniformUni
namespace Go.Proofs.Ytenfgeeknmkakaa.Pure
open Go.RowKit Go.Proofs.Ytenfgeeknmkakaa.P Go.Proofs.Ytenfgeeknmkakaa.L Go.Proofs.YtenfgeeknmkakaaW.PrintWords Go.Proofs.YtenfgeeknmkakaaW.PrintLast
theorem FnExactUniform : laws_FnExactUniform.Pure := by
  intro r n _ _
  obtain ⟨k, hk⟩ : ∃ k, Big ≤ k := ⟨_, Nat.le_refl _⟩
  have hB := big_eq
  have hl := uni_len r n
  refine ⟨k, ?_⟩
  unfold laws_FnExactUniform.f
  rw [Uniform_spec r n k (by omega), Uniform_impl r n k (by omega)]; simp only [Option.bind_some]
  rw [eqMatroid_eq _ _ _ _ k (by omega) hk]; simp only [Option.bind_some]
  rw [if_pos (by simp), markMatroid_eq _ _ 1 k (by omega) hk (by omega) (by omega)]; simp only [Option.bind_some]
  rw [heldMatroid_eq _ _ 1 k (by omega) hk (by omega) (by omega)]; simp only [Option.bind_some]
  rw [if_neg (by omega), if_pos trivial, if_pos (by simp), if_neg (by omega), if_pos trivial]
end Go.Proofs.Ytenfgeeknmkakaa.Pure
