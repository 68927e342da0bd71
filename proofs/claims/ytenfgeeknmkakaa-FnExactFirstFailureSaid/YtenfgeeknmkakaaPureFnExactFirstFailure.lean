/- The program's FirstFailure answers as the reference's. -/
import Derived.Test.YtenfgeeknmkakaaVFirstFailureMat
namespace Go.Proofs.Ytenfgeeknmkakaa.Pure
open Go.RowKit Go.Proofs.Ytenfgeeknmkakaa.P Go.Proofs.Ytenfgeeknmkakaa.L Go.Proofs.YtenfgeeknmkakaaW.PrintWords Go.Proofs.YtenfgeeknmkakaaW.PrintLast
theorem FnExactFirstFailure : laws_FnExactFirstFailure.Pure := by
  intro n xs _ hx _
  obtain ⟨k, hk⟩ : ∃ k, Big + 1 ≤ k := ⟨_, Nat.le_refl _⟩
  have hB := big_eq
  refine ⟨k, ?_⟩
  have hm : maxLen < 9223372036854775808 := by decide
  unfold laws_FnExactFirstFailure.f
  rw [szMatroid_eq n xs 1048576 (by omega) (by omega) (by omega)]; simp only [Option.bind_some]
  by_cases h : (1048576 : Int) < xs.length
  · rw [if_pos h]; rfl
  · rw [if_neg h, if_neg (by omega), toMatroid_eq n xs k (by omega) (by omega)]; simp only [Option.bind_some]
    rw [FirstFailure_spec n xs k (by omega) (by omega), FirstFailure_impl n xs k (by omega) (by omega)]; simp only [Option.bind_some]
    rw [eqFailure_self]; simp only [Option.bind_some]
    obtain ⟨k, rfl⟩ := pos (show 0 < k by omega)
    rw [if_pos trivial]; simp only [laws_FnExactFirstFailure.j0]
    rw [if_neg (by simp), toMatroid_eq n xs k (by omega) (by omega)]; simp only [Option.bind_some]
    rw [eqMatroid_eq n n xs xs k (by omega) (by omega)]; simp

end Go.Proofs.Ytenfgeeknmkakaa.Pure
