/- The program's EqualMatroid answers as the reference's at all matroids. -/
import Derived.Test.YtaghnpjmjehgcaaElems
namespace Go.Proofs.Ytaghnpjmjehgcaa.Pure
open Go.RowKit Go.Proofs.Ytaghnpjmjehgcaa.P Go.Proofs.Ytaghnpjmjehgcaa.L Go.Proofs.YtaghnpjmjehgcaaW.PrintWords Go.Proofs.YtaghnpjmjehgcaaW.PrintLast
theorem FnExactEqualMatroid : laws_FnExactEqualMatroid.Pure := by
  intro a xs b ys _ hx _ _ hy _
  obtain ⟨k, hk⟩ : ∃ k, Big ≤ k := ⟨_, Nat.le_refl _⟩
  refine ⟨k, ?_⟩
  have hm : maxLen < 9223372036854775808 := by decide
  unfold laws_FnExactEqualMatroid.f
  rw [szMatroid_eq a xs 1048576 (by omega) (by omega) (by omega)]; simp only [Option.bind_some]
  by_cases h : (1048576 : Int) < xs.length
  · rw [if_pos h]; rfl
  · rw [if_neg h, if_neg (by omega), szMatroid_eq b ys _ (by omega) (by omega) (by omega)]; simp only [Option.bind_some]
    by_cases h2 : (1048576 : Int) - xs.length < ys.length
    · rw [if_pos h2]; rfl
    · rw [if_neg h2, if_neg (by omega), toMatroid_eq a xs k (by omega) hk, toMatroid_eq b ys k (by omega) hk]; simp only [Option.bind_some]
      rw [EqualMatroid_spec a b xs ys k (by omega) hk, EqualMatroid_impl a b xs ys k (by omega) hk]; simp only [Option.bind_some]
      rw [if_neg (by simp), eqMatroid_eq a a xs xs k (by omega) hk, eqMatroid_eq b b ys ys k (by omega) hk]; simp

end Go.Proofs.Ytaghnpjmjehgcaa.Pure
