/- The program's MaximalSets answers as the reference's at all lists. -/
import Derived.Test.YthpocifdejedpaaVMaximalSetsMin
namespace Go.Proofs.Ythpocifdejedpaa.Pure
open Go.RowKit Go.Proofs.Ythpocifdejedpaa.P Go.Proofs.Ythpocifdejedpaa.L Go.Proofs.YthpocifdejedpaaW.PrintWords Go.Proofs.YthpocifdejedpaaW.PrintLast
theorem FnExactMaximalSets : laws_FnExactMaximalSets.Pure := by
  intro xs _ _ _
  obtain ⟨k, hk, hk2⟩ : ∃ k, Big ≤ k ∧ Big3 ≤ k := ⟨Big3, by decide, Nat.le_refl _⟩
  refine ⟨k, ?_⟩
  have hB := big_eq
  unfold laws_FnExactMaximalSets.f
  by_cases h : (xs.length : Int) > 1048576
  · rw [if_pos h]
  · have hl := maxS_len xs; have hb2 := big2 (show xs.length ≤ 4194304 by omega)
    obtain ⟨k, rfl⟩ := pos (show 0 < k by omega)
    have hk' : Big ≤ k := by unfold Big3 at hk2; omega
    rw [if_neg h, toIntS_eq xs (k + 1) (by omega) hk]; simp only [Option.bind_some]
    rw [MaximalSets_spec xs (k + 1) (by omega) (by unfold Big3 at hk2; unfold Big2 at *; omega), MaximalSets_impl xs (k + 1) (by omega) (by omega)]; simp only [Option.bind_some]
    rw [eqIntS_eq (maxS xs) (maxS xs) (k + 1) (by omega) hk]; simp only [Option.bind_some]
    rw [if_pos (by simp), eqIntS_eq xs xs (k + 1) (by omega) hk]; simp only [Option.bind_some]
    rw [if_pos (by simp), markIntS_eq xs 1 (k + 1) (by omega) hk (by omega) (by omega)]; simp only [Option.bind_some]
    rw [if_neg (by omega), show (!decide True) = false from rfl]
    simp only [laws_FnExactMaximalSets.j0]
    rw [if_neg (by simp), markIntS_eq (maxS xs) 1 k (by omega) hk' (by omega) (by omega)]; simp only [Option.bind_some]
    rw [heldIntS_eq _ 1 k (by omega) hk' (by omega) (by omega)]; simp only [Option.bind_some]
    rw [if_neg (by omega), if_pos trivial, toIntS_eq xs k (by omega) hk']; simp only [Option.bind_some]
    rw [MaximalSets_impl xs k (by omega) (by omega)]; simp only [Option.bind_some]
    rw [eqIntS_eq (maxS xs) (maxS xs) k (by omega) hk']; simp only [Option.bind_some]
    rw [if_pos (by simp), if_neg (by omega), if_pos trivial]

end Go.Proofs.Ythpocifdejedpaa.Pure
