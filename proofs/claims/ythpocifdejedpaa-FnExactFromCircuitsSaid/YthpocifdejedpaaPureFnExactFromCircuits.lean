/- The program's FromCircuits answers as the reference's. -/
import Derived.Test.YthpocifdejedpaaVFromCircuitsFrom
namespace Go.Proofs.Ythpocifdejedpaa.Pure
open Go.RowKit Go.Proofs.Ythpocifdejedpaa.P Go.Proofs.Ythpocifdejedpaa.L Go.Proofs.YthpocifdejedpaaW.PrintWords Go.Proofs.YthpocifdejedpaaW.PrintLast
theorem FnExactFromCircuits : laws_FnExactFromCircuits.Pure := by
  intro n xs _ _ _ _
  obtain ⟨k, hk0⟩ : ∃ k : Nat, 52776608465300 ≤ k := ⟨_, Nat.le_refl _⟩
  have hB := big_eq
  have hb : Big ≤ k := by omega
  refine ⟨k + 1 + 1 + 1, ?_⟩
  unfold laws_FnExactFromCircuits.f
  by_cases h : (xs.length : Int) > 1048576
  · rw [if_pos h]
  · rw [if_neg h, toIntS_eq xs (k + 1 + 1 + 1) (by omega) (by omega)]; simp only [Option.bind_some]
    rw [FromCircuits_spec n xs (k + 1 + 1 + 1) (by omega) (by unfold Big3; omega), FromCircuits_impl n xs (k + 1 + 1 + 1) (by omega) (by omega)]; simp only [Option.bind_some]
    generalize hR : frm n xs = R
    obtain ⟨r1, r2, r3⟩ := R
    have hl : r2.length ≤ 256 := by have := frm_len n xs; rw [hR] at this; exact this
    have hne : (r3 != r3) = false := by simp
    simp only [hne]
    rw [eqMatroid_eq r1 r1 r2 r2 (k + 1 + 1 + 1) (by omega) (by omega)]; simp only [Option.bind_some]
    rw [if_pos (by simp)]
    simp only [laws_FnExactFromCircuits.j0]
    rw [if_neg (by simp), toIntS_eq xs (k + 1 + 1) (by omega) (by omega)]; simp only [Option.bind_some]
    rw [eqIntS_eq xs xs (k + 1 + 1) (by omega) (by omega)]; simp only [Option.bind_some]
    rw [if_pos (by simp), markIntS_eq xs 1 (k + 1 + 1) (by omega) (by omega) (by omega) (by omega)]; simp only [Option.bind_some]
    rw [if_neg (by omega), eqMatroid_eq r1 r1 r2 r2 (k + 1 + 1) (by omega) (by omega)]; simp only [Option.bind_some, hne]
    rw [if_pos (by simp)]
    simp only [laws_FnExactFromCircuits.j1]
    rw [if_neg (by simp), markMatroid_eq r1 r2 1 (k + 1) (by omega) (by omega) (by omega) (by omega)]; simp only [Option.bind_some]
    rw [heldMatroid_eq r1 r2.length 1 (k + 1) (by omega) (by omega) (by omega) (by omega)]; simp only [Option.bind_some]
    rw [if_neg (by omega), if_pos trivial, toIntS_eq xs (k + 1) (by omega) (by omega)]; simp only [Option.bind_some]
    rw [FromCircuits_impl n xs (k + 1) (by omega) (by omega), hR]; simp only [Option.bind_some, hne]
    rw [eqMatroid_eq r1 r1 r2 r2 (k + 1) (by omega) (by omega)]; simp only [Option.bind_some]
    rw [if_pos (by simp)]
    simp only [laws_FnExactFromCircuits.j2]
    rw [if_neg (by simp), heldMatroid_eq r1 r2.length 1 k (by omega) (by omega) (by omega) (by omega)]; simp only [Option.bind_some]
    rw [if_neg (by omega), if_pos trivial]

end Go.Proofs.Ythpocifdejedpaa.Pure
