/- The program's ParseFamily answers as the reference's at all texts. -/
import Derived.Test.YthncmojfpdojoaaDoorVParseFamilyPfam
namespace Go.Proofs.YthncmojfpdojoaaDoor.Pure
open Go.RowKit Go.Proofs.YthncmojfpdojoaaDoor.P Go.Proofs.YthncmojfpdojoaaDoor.L Go.Proofs.YthncmojfpdojoaaDoor.Pf Go.Proofs.YthncmojfpdojoaaDoorW.PrintWords Go.Proofs.YthncmojfpdojoaaDoorW.PrintLast
theorem FnExactParseFamily : laws_FnExactParseFamily.Pure := by
  intro n a _ _
  obtain ⟨k, hk⟩ : ∃ k, 10000000 ≤ k := ⟨_, Nat.le_refl _⟩
  have hB := big_eq
  refine ⟨k + 2, ?_⟩
  unfold laws_FnExactParseFamily.f
  by_cases h : (a.size : Int) > 1048576
  · rw [if_pos h]
  · have hl := parF_len n a
    rw [if_neg h, ParseFamily_spec n a (by omega) (k + 2) (by omega), bsome, ParseFamily_impl n a (by omega) (k + 2) (by omega), bsome]
    try simp only []
    rw [eqIntS_eq _ _ (k + 2) (by omega) (by omega), bsome, if_pos (by simp), show ((parF n a).2 != (parF n a).2) = false by simp]
    simp only [laws_FnExactParseFamily.j0]
    rw [if_neg (by simp), markIntS_eq _ 1 (k + 1) (by omega) (by omega) (by omega) (by omega), bsome]
    try simp only []
    rw [heldIntS_eq _ 1 (k + 1) (by omega) (by omega) (by omega) (by omega), bsome, if_neg (by omega), if_pos rfl, ParseFamily_impl n a (by omega) (k + 1) (by omega), bsome]
    try simp only []
    rw [eqIntS_eq _ _ (k + 1) (by omega) (by omega), bsome, if_pos (by simp), show ((parF n a).2 != (parF n a).2) = false by simp]
    simp only [laws_FnExactParseFamily.j1]
    rw [if_neg (by simp), heldIntS_eq _ 1 k (by omega) (by omega) (by omega) (by omega), bsome, if_neg (by omega), if_pos rfl]

end Go.Proofs.YthncmojfpdojoaaDoor.Pure
