/- The program's FamilyText answers as the reference's at all lists. -/
import Derived.Test.YthncmojfpdojoaaVFamilyTextFamT
namespace Go.Proofs.Ythncmojfpdojoaa.Pure
open Go.RowKit Go.Proofs.Ythncmojfpdojoaa.P Go.Proofs.Ythncmojfpdojoaa.L Go.Proofs.YthncmojfpdojoaaW.PrintWords Go.Proofs.YthncmojfpdojoaaW.PrintLast
theorem FnExactFamilyText : laws_FnExactFamilyText.Pure := by
  intro xs _ _ _
  obtain ⟨k, hk⟩ : ∃ k, Big ≤ k := ⟨_, Nat.le_refl _⟩
  have hB := big_eq
  refine ⟨k, ?_⟩
  unfold laws_FnExactFamilyText.f
  by_cases h : (xs.length : Int) > 1048576
  · rw [if_pos h]
  · rw [if_neg h, toIntS_eq xs k (by omega) hk]; simp only [Option.bind_some]
    rw [FamilyText_spec xs k (by omega) (by omega), FamilyText_impl xs k (by omega) (by omega)]; simp only [Option.bind_some]
    rw [if_pos trivial, eqIntS_eq xs xs k (by omega) hk]; simp

end Go.Proofs.Ythncmojfpdojoaa.Pure
