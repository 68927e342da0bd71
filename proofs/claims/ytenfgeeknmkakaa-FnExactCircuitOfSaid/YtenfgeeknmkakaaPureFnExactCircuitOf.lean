/- The program's CircuitOf answers as the reference's. -/
import Derived.Test.YtenfgeeknmkakaaVCircuitOfMat
namespace Go.Proofs.Ytenfgeeknmkakaa.Pure
open Go.RowKit Go.Proofs.Ytenfgeeknmkakaa.P Go.Proofs.Ytenfgeeknmkakaa.L Go.Proofs.YtenfgeeknmkakaaW.PrintWords Go.Proofs.YtenfgeeknmkakaaW.PrintLast
theorem FnExactCircuitOf : laws_FnExactCircuitOf.Pure := by
  intro n xs a e _ hx _ _ _
  obtain ⟨k, hk⟩ : ∃ k, Big ≤ k := ⟨_, Nat.le_refl _⟩
  have hB := big_eq
  refine ⟨k, ?_⟩
  have hm : maxLen < 9223372036854775808 := by decide
  unfold laws_FnExactCircuitOf.f
  rw [szMatroid_eq n xs 1048576 (by omega) (by omega) (by omega)]; simp only [Option.bind_some]
  by_cases h : (1048576 : Int) < xs.length
  · rw [if_pos h]; rfl
  · rw [if_neg h, if_neg (by omega), toMatroid_eq n xs k (by omega) hk]; simp only [Option.bind_some]
    rw [CircuitOf_spec n xs a e k (by omega) (by omega), CircuitOf_impl n xs a e k (by omega) (by omega)]; simp only [Option.bind_some]
    rw [if_pos trivial, eqMatroid_eq n n xs xs k (by omega) hk]; simp

end Go.Proofs.Ytenfgeeknmkakaa.Pure
