/- The program's BasesOf answers as the reference's. -/
import Derived.Test.YthpocifdejedpaaVBasesOfBas
namespace Go.Proofs.Ythpocifdejedpaa.Pure
open Go.RowKit Go.Proofs.Ythpocifdejedpaa.P Go.Proofs.Ythpocifdejedpaa.L Go.Proofs.YthpocifdejedpaaW.PrintWords Go.Proofs.YthpocifdejedpaaW.PrintLast
theorem FnExactBasesOf : laws_FnExactBasesOf.Pure := by
  intro n xs s _ hx _ _
  obtain ⟨k, hk0⟩ : ∃ k : Nat, 52776608465300 ≤ k := ⟨_, Nat.le_refl _⟩
  obtain ⟨k, rfl⟩ := pos (show 0 < k by omega)
  have hB := big_eq
  have hk : Big ≤ k + 1 := by omega
  have hk' : Big ≤ k := by omega
  refine ⟨k + 1, ?_⟩
  have hm : maxLen < 9223372036854775808 := by decide
  unfold laws_FnExactBasesOf.f
  rw [szMatroid_eq n xs 1048576 (by omega) (by omega) (by omega)]; simp only [Option.bind_some]
  by_cases h : (1048576 : Int) < xs.length
  · rw [if_pos h]; rfl
  · rw [if_neg h, if_neg (by omega), toMatroid_eq n xs (k + 1) (by omega) hk]; simp only [Option.bind_some]
    have hl := basS_len n xs s
    rw [BasesOf_spec n xs s (k + 1) (by omega) (by omega), BasesOf_impl n xs s (k + 1) (by omega) (by omega)]; simp only [Option.bind_some]
    rw [eqIntS_eq (basS n xs s) (basS n xs s) (k + 1) (by omega) hk]; simp only [Option.bind_some]
    rw [if_pos (by simp), eqMatroid_eq n n xs xs (k + 1) (by omega) hk]; simp only [Option.bind_some]
    rw [if_pos (by simp), markMatroid_eq n xs 1 (k + 1) (by omega) hk (by omega) (by omega)]; simp only [Option.bind_some]
    rw [if_neg (by omega), show (!decide True) = false from rfl]
    simp only [laws_FnExactBasesOf.j0]
    rw [if_neg (by simp), markIntS_eq (basS n xs s) 1 k (by omega) hk' (by omega) (by omega)]; simp only [Option.bind_some]
    rw [heldIntS_eq _ 1 k (by omega) hk' (by omega) (by omega)]; simp only [Option.bind_some]
    rw [if_neg (by omega), if_pos trivial, toMatroid_eq n xs k (by omega) hk']; simp only [Option.bind_some]
    rw [BasesOf_impl n xs s k (by omega) (by omega)]; simp only [Option.bind_some]
    rw [eqIntS_eq (basS n xs s) (basS n xs s) k (by omega) hk']; simp only [Option.bind_some]
    rw [if_pos (by simp), if_neg (by omega), if_pos trivial]

end Go.Proofs.Ythpocifdejedpaa.Pure
