/- The program's MatroidText answers as the reference's. -/
import Derived.Test.YtekegbacnagbcaaDoorVMatroidTextMtext
namespace Go.Proofs.YtekegbacnagbcaaDoor.Pure
open Go.RowKit Go.Proofs.YtekegbacnagbcaaDoor.P Go.Proofs.YtekegbacnagbcaaDoor.L Go.Proofs.YtekegbacnagbcaaDoor.Mx Go.Proofs.YtekegbacnagbcaaDoorW.PrintWords Go.Proofs.YtekegbacnagbcaaDoorW.PrintLast
theorem FnExactMatroidText : laws_FnExactMatroidText.Pure := by
  intro n xs _ hx _
  obtain ⟨k, hk⟩ : ∃ k, 5000000 ≤ k := ⟨_, Nat.le_refl _⟩
  have hB := big_eq
  refine ⟨k, ?_⟩
  have hm : maxLen < 9223372036854775808 := by decide
  unfold laws_FnExactMatroidText.f
  rw [szMatroid_eq n xs 1048576 (by omega) (by omega) (by omega), bsome]
  by_cases h : (1048576 : Int) < xs.length
  · rw [if_pos h]; rfl
  · rw [if_neg h, if_neg (by omega), toMatroid_eq n xs k (by omega) (by omega), bsome]
    simp only []
    rw [MatroidText_spec n xs k (by omega) hk, bsome, bsome]
    simp only []
    rw [MatroidText_impl n xs k (by omega) hk, bsome, if_pos rfl, bsome]
    simp only []
    rw [eqMatroid_eq n n xs xs k (by omega) (by omega), bsome]; simp

end Go.Proofs.YtekegbacnagbcaaDoor.Pure
