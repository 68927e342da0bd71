/- The text of a matroid: what the printed functions come to. -/
import Derived.Test.YtekegbacnagbcaaDoorVMatroidTextFmt
import Derived.Test.YtekegbacnagbcaaDoorVMatroidTextFamT
import Derived.Test.YtekegbacnagbcaaDoorVMatroidTextFam
namespace Go.Proofs.YtekegbacnagbcaaDoor.Mx
open Go.RowKit Go.Proofs.YtekegbacnagbcaaDoorW.PrintWords Go.Proofs.YtekegbacnagbcaaDoorW.PrintMore Go.Proofs.YtekegbacnagbcaaDoor.P Go.Proofs.YtekegbacnagbcaaDoor.B Go.Proofs.YtekegbacnagbcaaDoor.F Go.Proofs.YtekegbacnagbcaaDoor.L
theorem bsome {α β : Type} (a : α) (f : α → Option β) : (some a).bind f = f a := (Option.bind_some a f).trans rfl
def matT (n : Int) (xs : List Int) : ByteArray := if mat n xs = true then ((⟨(Lib.itoa n).toArray⟩ : ByteArray) ++ (⟨#[32]⟩ : ByteArray)) ++ famT xs else ⟨#[]⟩
theorem mat_fam {n : Int} {xs : List Int} (h : mat n xs = true) : fam n xs = true := by
  unfold mat at h
  cases hf : fam n xs with
  | true => rfl
  | false => rw [hf] at h; simp at h
theorem mat_size {n : Int} {xs : List Int} (h : mat n xs = true) : 0 ≤ n ∧ n ≤ 8 := by
  have := (fam_iff n xs).mp (mat_fam h)
  exact ⟨this.n0, this.n8⟩
theorem itoa_small {n : Int} (h : 0 ≤ n ∧ n ≤ 8) : (Lib.itoa n).length = 1 := by
  obtain ⟨m, rfl⟩ : ∃ m : Nat, n = m := ⟨n.toNat, by omega⟩
  have : m = 0 ∨ m = 1 ∨ m = 2 ∨ m = 3 ∨ m = 4 ∨ m = 5 ∨ m = 6 ∨ m = 7 ∨ m = 8 := by omega
  rcases this with rfl | rfl | rfl | rfl | rfl | rfl | rfl | rfl | rfl <;> decide +kernel
theorem famT_size (xs : List Int) : (famT xs).size ≤ 9 * xs.length + 4 := by
  unfold famT
  split
  · show 4 ≤ _; omega
  · split
    · have := texts_len xs
      unfold joinB; rw [sz]; omega
    · exact Nat.zero_le _
theorem MatroidText_spec (n : Int) (xs : List Int) (k : Nat) (hn : xs.length < 2000000) (hk : 5000000 ≤ k) : spec_MatroidText.f k n xs = some (matT n xs) := by
  have hs := famT_size xs
  unfold spec_MatroidText.f matT; rw [IsMatroid_spec n xs k hn (by omega), bsome]
  by_cases h : mat n xs = true
  · have hn8 := mat_size h
    have h1 := itoa_small hn8
    rw [if_pos h, if_pos h, FormatInt_spec n (by omega) (by omega) k (by omega), bsome, sz, h1, if_pos (by omega), FamilyText_spec xs k (by omega) (by omega), bsome, if_pos (by rw [ByteArray.size_append, sz, h1, show (⟨#[32]⟩ : ByteArray).size = 1 from rfl]; omega)]
  · rw [if_neg h, if_neg h]
theorem MatroidText_impl (n : Int) (xs : List Int) (k : Nat) (hn : xs.length < 2000000) (hk : 5000000 ≤ k) : impl_MatroidText.f k n xs = some (matT n xs) := by
  have hs := famT_size xs
  unfold impl_MatroidText.f matT; rw [IsMatroid_impl n xs k hn (by omega), bsome]
  by_cases h : mat n xs = true
  · have hn8 := mat_size h
    have h1 := itoa_small hn8
    rw [if_pos h, if_pos h, FormatInt_impl n (by omega) (by omega), bsome, sz, h1, if_pos (by omega), FamilyText_impl xs k (by omega) (by omega), bsome, if_pos (by rw [ByteArray.size_append, sz, h1, show (⟨#[32]⟩ : ByteArray).size = 1 from rfl]; omega)]
  · rw [if_neg h, if_neg h]
end Go.Proofs.YtekegbacnagbcaaDoor.Mx
