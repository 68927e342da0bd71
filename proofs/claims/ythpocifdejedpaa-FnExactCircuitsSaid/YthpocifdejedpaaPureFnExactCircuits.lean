/- The program's Circuits answers as the reference's. -/
import Derived.Test.YthpocifdejedpaaVCircuitsCir
namespace Go.Proofs.Ythpocifdejedpaa.Pure
open Go.RowKit Go.Proofs.Ythpocifdejedpaa.P Go.Proofs.Ythpocifdejedpaa.L Go.Proofs.YthpocifdejedpaaW.PrintWords Go.Proofs.YthpocifdejedpaaW.PrintLast
theorem FnExactCircuits : laws_FnExactCircuits.Pure := by
  intro n xs _ hx _
  obtain ⟨k, hk0⟩ : ∃ k : Nat, 52776608465300 ≤ k := ⟨_, Nat.le_refl _⟩
  obtain ⟨k, rfl⟩ := pos (show 0 < k by omega)
  have hB := big_eq
  have hk : Big ≤ k + 1 := by omega
  have hk' : Big ≤ k := by omega
  refine ⟨k + 1, ?_⟩
  have hm : maxLen < 9223372036854775808 := by decide
  unfold laws_FnExactCircuits.f
  rw [szMatroid_eq n xs 1048576 (by omega) (by omega) (by omega)]; simp only [Option.bind_some]
  by_cases h : (1048576 : Int) < xs.length
  · rw [if_pos h]; rfl
  · rw [if_neg h, if_neg (by omega), toMatroid_eq n xs (k + 1) (by omega) hk]; simp only [Option.bind_some]
    have hl := circS_len n xs
    rw [Circuits_spec n xs (k + 1) (by omega) (by unfold Big3; omega), Circuits_impl n xs (k + 1) (by omega) (by omega)]; simp only [Option.bind_some]
    rw [eqIntS_eq (circS n xs) (circS n xs) (k + 1) (by omega) hk]; simp only [Option.bind_some]
    rw [if_pos (by simp), eqMatroid_eq n n xs xs (k + 1) (by omega) hk]; simp only [Option.bind_some]
    rw [if_pos (by simp), markMatroid_eq n xs 1 (k + 1) (by omega) hk (by omega) (by omega)]; simp only [Option.bind_some]
    rw [if_neg (by omega), show (!decide True) = false from rfl]
    simp only [laws_FnExactCircuits.j0]
    rw [if_neg (by simp), markIntS_eq (circS n xs) 1 k (by omega) hk' (by omega) (by omega)]; simp only [Option.bind_some]
    rw [heldIntS_eq _ 1 k (by omega) hk' (by omega) (by omega)]; simp only [Option.bind_some]
    rw [if_neg (by omega), if_pos trivial, toMatroid_eq n xs k (by omega) hk']; simp only [Option.bind_some]
    rw [Circuits_impl n xs k (by omega) (by omega)]; simp only [Option.bind_some]
    rw [eqIntS_eq (circS n xs) (circS n xs) k (by omega) hk']; simp only [Option.bind_some]
    rw [if_pos (by simp), if_neg (by omega), if_pos trivial]

end Go.Proofs.Ythpocifdejedpaa.Pure
