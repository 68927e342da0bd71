/- The program's ParseMatroid answers as the reference's at all texts. -/
import Derived.Test.YtekegbacnagbcaaGreatDoorVParseMatroidAll
namespace Go.Proofs.YtekegbacnagbcaaGreatDoor.Pure
open Go.RowKit Go.Proofs.YtekegbacnagbcaaGreatDoor.P Go.Proofs.YtekegbacnagbcaaGreatDoor.L Go.Proofs.YtekegbacnagbcaaGreatDoorW.PrintWords Go.Proofs.YtekegbacnagbcaaGreatDoorW.PrintLast
open Go.Proofs.YtekegbacnagbcaaGreatDoor.Pm (parM parM_len ParseMatroid_spec ParseMatroid_impl bsome)
theorem FnExactParseMatroid : laws_FnExactParseMatroid.Pure := by
  intro a _
  obtain ⟨k, hk⟩ : ∃ k, 10000000 ≤ k := ⟨_, Nat.le_refl _⟩
  have hB := big_eq
  refine ⟨k + 2, ?_⟩
  unfold laws_FnExactParseMatroid.f
  by_cases h : (a.size : Int) > 1048576
  · rw [if_pos h]
  · have hl := parM_len a (by omega)
    rw [if_neg h, ParseMatroid_spec a (by omega) (k + 2) (by omega), bsome, ParseMatroid_impl a (by omega) (k + 2) (by omega), bsome]
    try simp only []
    rw [eqMatroid_eq _ _ _ _ (k + 2) (by omega) (by omega), bsome, if_pos (by simp), show ((parM a).2.2 != (parM a).2.2) = false by simp]
    simp only [laws_FnExactParseMatroid.j0]
    rw [if_neg (by simp), markMatroid_eq _ _ 1 (k + 1) (by omega) (by omega) (by omega) (by omega), bsome]
    try simp only []
    rw [heldMatroid_eq _ _ 1 (k + 1) (by omega) (by omega) (by omega) (by omega), bsome, if_neg (by omega), if_pos rfl, ParseMatroid_impl a (by omega) (k + 1) (by omega), bsome]
    try simp only []
    rw [eqMatroid_eq _ _ _ _ (k + 1) (by omega) (by omega), bsome, if_pos (by simp), show ((parM a).2.2 != (parM a).2.2) = false by simp]
    simp only [laws_FnExactParseMatroid.j1]
    rw [if_neg (by simp), heldMatroid_eq _ _ 1 k (by omega) (by omega) (by omega) (by omega), bsome, if_neg (by omega), if_pos rfl]

end Go.Proofs.YtekegbacnagbcaaGreatDoor.Pure
