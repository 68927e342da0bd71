/- The text of a family: what the printed functions come to. -/
import Derived.Test.YtekegbacnagbcaaDoorVMatroidTextJoin
import Derived.Test.YtekegbacnagbcaaDoorVMatroidTextText
import Derived.Test.YtekegbacnagbcaaDoorVMatroidTextMin
namespace Go.Proofs.YtekegbacnagbcaaDoor.L
open Go.RowKit Go.Proofs.YtekegbacnagbcaaDoorW.PrintWords Go.Proofs.YtekegbacnagbcaaDoorW.PrintMore Go.Proofs.YtekegbacnagbcaaDoor.P Go.Proofs.YtekegbacnagbcaaDoor.B
def comma : ByteArray := ⟨#[44]⟩
def famT (xs : List Int) : ByteArray := if xs = [] then ⟨#[110, 111, 110, 101]⟩ else if areB xs = true then joinB (xs.map textB) comma else ⟨#[]⟩
theorem textB_small (s : Int) : (textB s).size ≤ 8 := by
  rw [size_list, textB_list]; unfold textL
  split
  · split
    · simp
    · rw [List.length_map]; exact elems_length s
  · simp
theorem texts_sizes (xs : List Int) : sizes (xs.map textB) ≤ 8 * xs.length := by
  induction xs with
  | nil => simp [sizes]
  | cons x xs ih =>
    have := textB_small x
    have e : sizes ((x :: xs).map textB) = (textB x).size + sizes (xs.map textB) := by unfold sizes; rw [List.map_cons, List.map_cons, List.sum_cons]
    rw [e, List.length_cons]; omega
theorem texts_len (xs : List Int) : (joinL (xs.map textB) comma).length ≤ 9 * xs.length := by
  have h1 := join_len (xs.map textB) comma; have h2 := texts_sizes xs
  rw [List.length_map, show comma.size = 1 from rfl] at h1; omega
theorem FamilyText_spec_l0 (xs : List Int) (hn : xs.length < 4194304) : ∀ d k i : Nat, ∀ acc : List ByteArray, i + d = xs.length → acc.length ≤ i → acc = (xs.take i).map textB → d + xs.length + 10 < k → spec_FamilyText.l0 k xs acc (i : Int) = some (joinB (xs.map textB) comma) := by
  intro d
  induction d with
  | zero =>
    intro k i acc h ho ha hk; obtain ⟨k, rfl⟩ := pos (show 0 < k by omega)
    have hl := texts_len xs
    rw [List.take_of_length_le (by omega)] at ha; subst ha
    simp only [spec_FamilyText.l0]; rw [if_neg (by omega), Join_spec (xs.map textB) ⟨#[44]⟩ k (by rw [List.length_map]; omega) (by rw [List.length_map]; omega) (by have : (joinL (xs.map textB) ⟨#[44]⟩).length = (joinL (xs.map textB) comma).length := rfl; omega)]; rfl
  | succ d ih =>
    intro k i acc h ho ha hk; obtain ⟨k, rfl⟩ := pos (show 0 < k by omega)
    have hi : i < xs.length := by omega
    simp only [spec_FamilyText.l0]; rw [if_pos (by omega), if_pos (by omega), SetText_spec _ k (by omega), w1 (by omega)]; simp only [Option.bind_some]
    rw [if_pos (by omega), ih k (i + 1) _ (by omega) (by rw [List.length_append, List.length_singleton]; omega) ?_ (by omega)]
    rw [ha, List.take_succ_eq_append_getElem hi, List.map_append, rd_get hi]; rfl
theorem FamilyText_spec (xs : List Int) (k : Nat) (hn : xs.length < 4194304) (hk : 2 * xs.length + 20 < k) : spec_FamilyText.f k xs = some (famT xs) := by
  unfold spec_FamilyText.f famT; rw [l3Sets_eq xs k hn (by omega)]; simp only [Option.bind_some]
  by_cases h0 : xs = []
  · subst h0; rw [if_pos (by rfl), if_pos (by rfl), if_pos rfl]
  · have hp : 0 < xs.length := List.length_pos_iff.mpr h0
    rw [if_neg h0]
    by_cases h : areB xs = true
    · rw [if_pos h, if_neg (by omega), if_pos h]
      exact FamilyText_spec_l0 xs hn xs.length k 0 [] (Nat.zero_add _) (Nat.le_refl _) (by simp) (by omega)
    · rw [if_neg h, if_neg h]
theorem FamilyText_impl_l0 (xs : List Int) (hn : xs.length < 4194304) : ∀ d k i : Nat, ∀ acc : List ByteArray, i + d = xs.length → acc.length ≤ i → acc = (xs.take i).map textB → d + 10 < k → impl_FamilyText.l0 k acc xs (xs.length : Int) (i : Int) = some (joinB (xs.map textB) comma) := by
  intro d
  induction d with
  | zero =>
    intro k i acc h ho ha hk; obtain ⟨k, rfl⟩ := pos (show 0 < k by omega)
    have hl := texts_len xs
    rw [List.take_of_length_le (by omega)] at ha; subst ha
    simp only [impl_FamilyText.l0]; rw [if_neg (by omega), Join_impl (xs.map textB) ⟨#[44]⟩ (by rw [List.length_map]; omega) (by have : (joinL (xs.map textB) ⟨#[44]⟩).length = (joinL (xs.map textB) comma).length := rfl; omega)]; rfl
  | succ d ih =>
    intro k i acc h ho ha hk; obtain ⟨k, rfl⟩ := pos (show 0 < k by omega)
    have hi : i < xs.length := by omega
    simp only [impl_FamilyText.l0]; rw [if_pos (by omega), if_pos (by omega), if_pos (by omega), SetText_impl _ k (by omega), w1 (by omega)]; simp only [Option.bind_some]
    rw [if_pos (by omega), ih k (i + 1) _ (by omega) (by rw [List.length_append, List.length_singleton]; omega) ?_ (by omega)]
    rw [ha, List.take_succ_eq_append_getElem hi, List.map_append, rd_get hi]; rfl
theorem FamilyText_impl (xs : List Int) (k : Nat) (hn : xs.length < 4194304) (hk : 2 * xs.length + 20 < k) : impl_FamilyText.f k xs = some (famT xs) := by
  unfold impl_FamilyText.f famT
  by_cases h0 : xs = []
  · subst h0; rw [if_pos (by rfl), if_pos rfl]
  · have hp : 0 < xs.length := List.length_pos_iff.mpr h0
    rw [if_neg (by omega), if_neg h0, areSets_eq xs k hn (by omega)]; simp only [Option.bind_some]
    by_cases h : areB xs = true
    · rw [if_pos h, if_pos h]
      exact FamilyText_impl_l0 xs hn xs.length k 0 [] (Nat.zero_add _) (Nat.le_refl _) (by simp) (by omega)
    · rw [if_neg h, if_neg h]
end Go.Proofs.YtekegbacnagbcaaDoor.L
