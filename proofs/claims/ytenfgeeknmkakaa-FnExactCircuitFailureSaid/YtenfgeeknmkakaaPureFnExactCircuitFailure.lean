/- The program's CircuitFailure answers as the reference's. -/
import Derived.Test.YtenfgeeknmkakaaVCircuitFailureCirc
namespace Go.Proofs.Ytenfgeeknmkakaa.Pure
open Go.RowKit Go.Proofs.Ytenfgeeknmkakaa.P Go.Proofs.Ytenfgeeknmkakaa.L Go.Proofs.YtenfgeeknmkakaaW.PrintWords Go.Proofs.YtenfgeeknmkakaaW.PrintLast
theorem FnExactCircuitFailure : laws_FnExactCircuitFailure.Pure := by
  intro n xs _ _ _ _
  obtain ⟨k, hk⟩ : ∃ k, Big + 1 ≤ k := ⟨_, Nat.le_refl _⟩
  have hB := big_eq
  refine ⟨k, ?_⟩
  unfold laws_FnExactCircuitFailure.f
  by_cases h : (xs.length : Int) > 1048576
  · rw [if_pos h]
  · rw [if_neg h, toIntS_eq xs k (by omega) (by omega)]; simp only [Option.bind_some]
    rw [CircuitFailure_spec n xs k (by omega) (by omega), CircuitFailure_impl n xs k (by omega) (by omega)]; simp only [Option.bind_some]
    rw [eqFailure_self]; simp only [Option.bind_some]
    obtain ⟨k, rfl⟩ := pos (show 0 < k by omega)
    rw [if_pos trivial]; simp only [laws_FnExactCircuitFailure.j0]
    rw [if_neg (by simp), toIntS_eq xs k (by omega) (by omega)]; simp only [Option.bind_some]
    rw [eqIntS_eq xs xs k (by omega) (by omega)]; simp
end Go.Proofs.Ytenfgeeknmkakaa.Pure
