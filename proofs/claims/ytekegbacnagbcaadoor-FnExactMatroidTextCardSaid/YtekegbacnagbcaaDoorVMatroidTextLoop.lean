/- What the printed loops over lists of whole numbers come to, and the small functions above them, as plain functions of lists. -/
import Derived.Test.YtekegbacnagbcaaDoorPVMatroidTextx
import Derived.Test.YtekegbacnagbcaaDoorVMatroidTextSets
namespace Go.Proofs.YtekegbacnagbcaaDoor.L
open Go.RowKit Go.Proofs.YtekegbacnagbcaaDoorW.PrintWords Go.Proofs.YtekegbacnagbcaaDoorW.PrintMore Go.Proofs.YtekegbacnagbcaaDoor.P Go.Proofs.YtekegbacnagbcaaDoor.B
/-- How many rounds are enough for all that is done here. -/
def Big : Nat := 4194304
theorem big_eq : Big = 4194304 := rfl
theorem rd_nat (xs : List Int) (i : Nat) : rd xs (i : Int) = xs.getD i 0 := by simp [rd]
theorem drop_rd {xs : List Int} {i : Nat} (h : i < xs.length) : xs.drop i = rd xs (i : Int) :: xs.drop (i + 1) := by
  rw [rd_nat, List.drop_eq_getElem_cons h]; simp [List.getD, h]
theorem rd_mem {xs : List Int} {i : Nat} (h : i < xs.length) : rd xs (i : Int) ∈ xs := by
  rw [rd_nat]; simp [List.getD, h]
theorem w1 {i : Nat} (h : i < 4611686018427387904) : wrap64 ((i : Int) + 1) = ((i + 1 : Nat) : Int) := by
  rw [w64 _ (by omega) (by omega)]; rfl
theorem pos {k : Nat} (h : 0 < k) : ∃ m, k = m + 1 := ⟨k - 1, by omega⟩
theorem HasSet_spec_l0 (xs : List Int) (s : Int) (hn : xs.length < 4611686018427387904) : ∀ d k i : Nat, i + d = xs.length → d < k → spec_HasSet.l0 k xs s (i : Int) = some (decide (s ∈ xs.drop i)) := by
  intro d
  induction d with
  | zero =>
    intro k i h hk; obtain ⟨k, rfl⟩ := pos (show 0 < k by omega)
    simp only [spec_HasSet.l0]; rw [if_neg (by omega), List.drop_eq_nil_of_le (by omega)]; simp
  | succ d ih =>
    intro k i h hk; obtain ⟨k, rfl⟩ := pos (show 0 < k by omega)
    have hi : i < xs.length := by omega
    simp only [spec_HasSet.l0]; rw [if_pos (by omega), if_pos (by omega), drop_rd hi]
    by_cases e : rd xs (i : Int) = s
    · rw [if_pos e]; simp [e]
    · rw [if_neg e, w1 (by omega), ih k (i + 1) (by omega) (by omega)]
      congr 1; rw [decide_eq_decide, List.mem_cons]; exact ⟨.inr, fun h => h.resolve_left (fun q => e q.symm)⟩
theorem HasSet_spec (xs : List Int) (s : Int) (k : Nat) (hn : xs.length < 4194000) (hk : Big ≤ k) : spec_HasSet.f k xs s = some (decide (s ∈ xs)) := by
  have := big_eq; unfold spec_HasSet.f; exact HasSet_spec_l0 xs s (by omega) xs.length k 0 (by omega) (by omega)
theorem Index_l0 (xs : List Int) (s : Int) (hn : xs.length < 4611686018427387904) : ∀ d k i : Nat, i + d = xs.length → d < k → ∃ r, slices_Index_int_int.l0 k xs s (xs.length : Int) (i : Int) = some r ∧ decide (r ≥ 0) = decide (s ∈ xs.drop i) := by
  intro d
  induction d with
  | zero =>
    intro k i h hk; obtain ⟨k, rfl⟩ := pos (show 0 < k by omega)
    refine ⟨-1, ?_, ?_⟩
    · simp only [slices_Index_int_int.l0]; rw [if_neg (by omega)]
    · rw [List.drop_eq_nil_of_le (by omega)]; simp
  | succ d ih =>
    intro k i h hk; obtain ⟨k, rfl⟩ := pos (show 0 < k by omega)
    have hi : i < xs.length := by omega
    by_cases e : s = rd xs (i : Int)
    · refine ⟨(i : Int), ?_, ?_⟩
      · simp only [slices_Index_int_int.l0]; rw [if_pos (by omega), if_pos (by omega), if_pos (by omega), if_pos e]
      · rw [drop_rd hi]; simp [e]
    · obtain ⟨r, h1, h2⟩ := ih k (i + 1) (by omega) (by omega)
      refine ⟨r, ?_, ?_⟩
      · simp only [slices_Index_int_int.l0]; rw [if_pos (by omega), if_pos (by omega), if_pos (by omega), if_neg e, w1 (by omega), h1]
      · rw [h2, drop_rd hi, decide_eq_decide, List.mem_cons]; exact ⟨.inr, fun h => h.resolve_left e⟩
theorem HasSet_impl (xs : List Int) (s : Int) (k : Nat) (hn : xs.length < 4194000) (hk : Big ≤ k) : impl_HasSet.f k xs s = some (decide (s ∈ xs)) := by
  have := big_eq; obtain ⟨r, h1, h2⟩ := Index_l0 xs s (by omega) xs.length k 0 (by omega) (by omega)
  unfold impl_HasSet.f slices_Contains_int_int.f slices_Index_int_int.f
  rw [show (0 : Int) = ((0 : Nat) : Int) from rfl, h1]; simp only [Option.bind_some]; exact congrArg some h2
theorem toIntS_l0 (xs : List Int) (hn : xs.length < 4611686018427387904) : ∀ d k i : Nat, i + d = xs.length → d < k → ∀ ys : List Int, ys.length = xs.length → (∀ j, j < i → ys[j]? = xs[j]?) → laws_toIntS.l0 k xs ys (i : Int) = some xs := by
  intro d
  induction d with
  | zero =>
    intro k i h hk ys hl he; obtain ⟨k, rfl⟩ := pos (show 0 < k by omega)
    simp only [laws_toIntS.l0]; rw [if_neg (by omega)]; congr 1
    exact List.ext_getElem? fun j => by
      by_cases hj : j < i
      · exact he j hj
      · rw [List.getElem?_eq_none (by omega), List.getElem?_eq_none (by omega)]
  | succ d ih =>
    intro k i h hk ys hl he; obtain ⟨k, rfl⟩ := pos (show 0 < k by omega)
    have hi : i < xs.length := by omega
    simp only [laws_toIntS.l0]; rw [if_pos (by omega), if_pos (by omega), if_pos (by omega), w1 (by omega)]
    refine ih k (i + 1) (by omega) (by omega) _ (by rw [List.length_set]; exact hl) (fun j hj => ?_)
    rw [Int.toNat_natCast, List.getElem?_set]
    by_cases hji : i = j
    · subst hji; rw [if_pos rfl, if_pos (by omega), rd_nat]; simp [List.getD, hi]
    · rw [if_neg hji]; exact he j (by omega)
theorem toIntS_eq (xs : List Int) (k : Nat) (hn : xs.length < 4194000) (hk : Big ≤ k) : laws_toIntS.f k xs = some xs := by
  have := big_eq; unfold laws_toIntS.f; rw [if_pos (by omega), if_pos (by omega)]
  exact toIntS_l0 xs (by omega) xs.length k 0 (by omega) (by omega) _ (by simp) (fun j hj => absurd hj (by omega))
theorem eqIntS_l0 (xs ys : List Int) (hl : xs.length = ys.length) (hn : xs.length < 4611686018427387904) : ∀ d k i : Nat, i + d = xs.length → d < k → laws_eqIntS.l0 k xs ys (i : Int) = some (decide (xs.drop i = ys.drop i)) := by
  intro d
  induction d with
  | zero =>
    intro k i h hk; obtain ⟨k, rfl⟩ := pos (show 0 < k by omega)
    simp only [laws_eqIntS.l0]; rw [if_neg (by omega), List.drop_eq_nil_of_le (by omega), List.drop_eq_nil_of_le (by omega)]; simp
  | succ d ih =>
    intro k i h hk; obtain ⟨k, rfl⟩ := pos (show 0 < k by omega)
    have hi : i < xs.length := by omega
    simp only [laws_eqIntS.l0]; rw [if_pos (by omega), if_pos (by omega), if_pos (by omega), drop_rd hi, drop_rd (show i < ys.length by omega)]
    by_cases e : rd xs (i : Int) = rd ys (i : Int)
    · rw [if_pos e, w1 (by omega), ih k (i + 1) (by omega) (by omega), e]; congr 1; rw [decide_eq_decide]; simp
    · rw [if_neg e]; congr 1; exact (decide_eq_false (fun h => e (List.cons.inj h).1)).symm
theorem eqIntS_eq (xs ys : List Int) (k : Nat) (hn : xs.length < 4194000) (hk : Big ≤ k) : laws_eqIntS.f k xs ys = some (decide (xs = ys)) := by
  have := big_eq; unfold laws_eqIntS.f
  by_cases hl : xs.length = ys.length
  · rw [if_pos (by omega)]; exact eqIntS_l0 xs ys hl (by omega) xs.length k 0 (by omega) (by omega)
  · rw [if_neg (by omega)]; congr 1; exact (decide_eq_false (fun h => hl (congrArg _ h))).symm
/-- m, m + 1, .. -/
def marks (m : Int) : Nat → List Int
  | 0 => []
  | n + 1 => m :: marks (m + 1) n
theorem marks_length (n : Nat) : ∀ m, (marks m n).length = n := by
  induction n with
  | zero => intro m; rfl
  | succ n ih => intro m; simp [marks, ih]
theorem szIntS_eq (xs : List Int) (m : Int) (hn : xs.length < 9223372036854775808) (h0 : 0 ≤ m) (hm : m ≤ 1048576) : laws_szIntS.f xs m = some (if m < xs.length then -1 else m - xs.length) := by
  unfold laws_szIntS.f
  by_cases h : m < (xs.length : Int)
  · rw [if_pos h, if_pos (by unfold wrap64; omega)]
  · rw [if_neg h, w64 _ (by omega) (by omega), if_neg (by omega)]
theorem szMatroid_eq (a : Int) (xs : List Int) (m : Int) (hn : xs.length < 9223372036854775808) (h0 : 0 ≤ m) (hm : m ≤ 1048576) : laws_szMatroid.f a xs m = some (if m < xs.length then -1 else m - xs.length) := by
  unfold laws_szMatroid.f; rw [szIntS_eq xs m hn h0 hm]; simp only [Option.bind_some]
  by_cases h : m < (xs.length : Int)
  · simp [h]
  · simp [h]; omega
theorem toMatroid_eq (a : Int) (xs : List Int) (k : Nat) (hn : xs.length < 4194000) (hk : Big ≤ k) : laws_toMatroid.f k a xs = some (a, xs) := by
  unfold laws_toMatroid.f; rw [toIntS_eq xs k hn hk]; rfl
theorem eqMatroid_eq (a b : Int) (xs ys : List Int) (k : Nat) (hn : xs.length < 4194000) (hk : Big ≤ k) : laws_eqMatroid.f k a xs b ys = some (decide (a = b ∧ xs = ys)) := by
  unfold laws_eqMatroid.f; rw [eqIntS_eq xs ys k hn hk]; simp only [Option.bind_some]
  by_cases h : a = b
  · rw [if_pos h]; by_cases e : xs = ys <;> simp [h, e]
  · rw [if_neg h]; simp [h]
end Go.Proofs.YtekegbacnagbcaaDoor.L
