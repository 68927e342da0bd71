/- The program's GirthOf answers as the reference's. -/
import Derived.Test.YthpocifdejedpaaVGirthOfCir
namespace Go.Proofs.Ythpocifdejedpaa.Pure
open Go.RowKit Go.Proofs.Ythpocifdejedpaa.P Go.Proofs.Ythpocifdejedpaa.L Go.Proofs.YthpocifdejedpaaW.PrintWords Go.Proofs.YthpocifdejedpaaW.PrintLast
theorem FnExactGirthOf : laws_FnExactGirthOf.Pure := by
  intro n xs _ hx _
  obtain ⟨k, hk0⟩ : ∃ k : Nat, 52776608465300 ≤ k := ⟨_, Nat.le_refl _⟩
  have hB := big_eq
  have hk : Big ≤ k := by omega
  refine ⟨k, ?_⟩
  have hm : maxLen < 9223372036854775808 := by decide
  unfold laws_FnExactGirthOf.f
  rw [szMatroid_eq n xs 1048576 (by omega) (by omega) (by omega)]; simp only [Option.bind_some]
  by_cases h : (1048576 : Int) < xs.length
  · rw [if_pos h]; rfl
  · rw [if_neg h, if_neg (by omega), toMatroid_eq n xs k (by omega) hk]; simp only [Option.bind_some]
    rw [GirthOf_spec n xs k (by omega) (by unfold Big3; omega), GirthOf_impl n xs k (by omega) (by omega)]; simp only [Option.bind_some]
    rw [if_pos trivial, eqMatroid_eq n n xs xs k (by omega) hk]; simp

end Go.Proofs.Ythpocifdejedpaa.Pure
