/- Elements of a set, their count, and sets without one: what the printed functions come to. -/
import Derived.Test.YtekegbacnagbcaaDoorVMatroidTextLoop
namespace Go.Proofs.YtekegbacnagbcaaDoor.L
open Go.RowKit Go.Proofs.YtekegbacnagbcaaDoorW.PrintWords Go.Proofs.YtekegbacnagbcaaDoorW.PrintMore Go.Proofs.YtekegbacnagbcaaDoor.P Go.Proofs.YtekegbacnagbcaaDoor.B
theorem del_256 : ∀ x, x < 256 → ∀ y, y < 8 → x.testBit y = true → Mt.del x y + 2 ^ y = x := by decide +kernel
theorem hasE_nat (x y : Nat) (hx : x < 256) (hy : y < 8) : hasE (x : Int) (y : Int) = x.testBit y := by
  unfold hasE; rw [decide_eq_true (by omega), Bool.true_and, Int.toNat_natCast, Int.toNat_natCast]
theorem hasE_some {s e : Int} (h : hasE s e = true) : 0 ≤ s ∧ s < 256 ∧ 0 ≤ e ∧ e < 8 := by
  unfold hasE at h; simp only [Bool.and_eq_true, decide_eq_true_eq] at h; exact h.1
theorem del_none {x y : Nat} (h : x.testBit y = false) : Mt.del x y = x := by
  refine Mt.ext fun i => ?_
  rw [Mt.in_del]; refine ⟨fun k => k.1, fun k => ⟨k, fun e => ?_⟩⟩
  subst e; unfold Mt.In at k; rw [h] at k; cases k
/-- The elements i, .., i + d - 1 of s -/
def elemsFrom (s : Int) (i : Nat) : Nat → List Int
  | 0 => []
  | d + 1 => if hasE s (i : Int) = true then (i : Int) :: elemsFrom s (i + 1) d else elemsFrom s (i + 1) d
def elems (s : Int) : List Int := elemsFrom s 0 8
theorem elemsFrom_mem (s x : Int) : ∀ d i, x ∈ elemsFrom s i d ↔ (i : Int) ≤ x ∧ x < i + d ∧ hasE s x = true := by
  intro d
  induction d with
  | zero => intro i; simp only [elemsFrom, List.not_mem_nil, false_iff]; omega
  | succ d ih =>
    intro i; simp only [elemsFrom]
    by_cases h : hasE s (i : Int) = true
    · rw [if_pos h, List.mem_cons, ih]
      constructor
      · rintro (rfl | h2)
        · exact ⟨by omega, by omega, h⟩
        · exact ⟨by omega, by omega, h2.2.2⟩
      · intro h2
        by_cases hx : x = i
        · exact .inl hx
        · exact .inr ⟨by omega, by omega, h2.2.2⟩
    · rw [if_neg h, ih]
      constructor
      · intro h2; exact ⟨by omega, by omega, h2.2.2⟩
      · intro h2
        have : x ≠ i := fun q => h (q ▸ h2.2.2)
        exact ⟨by omega, by omega, h2.2.2⟩
theorem mem_elems (s x : Int) : x ∈ elems s ↔ hasE s x = true := by
  unfold elems; rw [elemsFrom_mem]; exact ⟨fun h => h.2.2, fun h => ⟨by have := hasE_some h; omega, by have := hasE_some h; omega, h⟩⟩
theorem elemsFrom_length (s : Int) : ∀ d i, (elemsFrom s i d).length ≤ d := by
  intro d
  induction d with
  | zero => intro i; simp [elemsFrom]
  | succ d ih =>
    intro i; simp only [elemsFrom]; have := ih (i + 1)
    split
    · simp only [List.length_cons]; omega
    · omega
theorem elems_length (s : Int) : (elems s).length ≤ 8 := elemsFrom_length s 8 0
theorem elems_range {s e : Int} (h : e ∈ elems s) : 0 ≤ e ∧ e < 8 := by have := hasE_some ((mem_elems s e).mp h); omega
theorem ElementsOf_spec_l0 (s : Int) : ∀ d k i : Nat, ∀ acc : List Int, i + d = 8 → d < k → acc.length ≤ i → spec_ElementsOf.l0 k s acc (i : Int) = some (acc ++ elemsFrom s i d) := by
  intro d
  induction d with
  | zero =>
    intro k i acc h hk hl; obtain ⟨k, rfl⟩ := pos (show 0 < k by omega)
    simp only [spec_ElementsOf.l0]; rw [if_neg (by omega)]; simp [elemsFrom]
  | succ d ih =>
    intro k i acc h hk hl; obtain ⟨k, rfl⟩ := pos (show 0 < k by omega)
    simp only [spec_ElementsOf.l0]; rw [if_pos (by omega), HasElement_spec, w1 (by omega)]; simp only [Option.bind_some, elemsFrom]
    by_cases hh : hasE s (i : Int) = true
    · rw [if_pos hh, if_pos hh, if_pos (by omega), ih k (i + 1) _ (by omega) (by omega) (by rw [List.length_append, List.length_singleton]; omega)]; simp
    · rw [if_neg hh, if_neg hh, ih k (i + 1) _ (by omega) (by omega) (by omega)]
theorem ElementsOf_spec (s : Int) (k : Nat) (hk : 8 < k) : spec_ElementsOf.f k s = some (elems s) := by
  unfold spec_ElementsOf.f; exact ElementsOf_spec_l0 s 8 k 0 [] (by omega) hk (by simp)
theorem ElementsOf_impl_l0 (s : Int) : ∀ d k i : Nat, ∀ acc : List Int, i + d = 8 → d < k → acc.length ≤ i → impl_ElementsOf.l0 k s acc (i : Int) = some (acc ++ elemsFrom s i d) := by
  intro d
  induction d with
  | zero =>
    intro k i acc h hk hl; obtain ⟨k, rfl⟩ := pos (show 0 < k by omega)
    simp only [impl_ElementsOf.l0]; rw [if_neg (by omega)]; simp [elemsFrom]
  | succ d ih =>
    intro k i acc h hk hl; obtain ⟨k, rfl⟩ := pos (show 0 < k by omega)
    simp only [impl_ElementsOf.l0]; rw [if_pos (by omega), HasElement_impl, w1 (by omega)]; simp only [Option.bind_some, elemsFrom]
    by_cases hh : hasE s (i : Int) = true
    · rw [if_pos hh, if_pos hh, if_pos (by omega), ih k (i + 1) _ (by omega) (by omega) (by rw [List.length_append, List.length_singleton]; omega)]; simp
    · rw [if_neg hh, if_neg hh, ih k (i + 1) _ (by omega) (by omega) (by omega)]
theorem ElementsOf_impl (s : Int) (k : Nat) (hk : 8 < k) : impl_ElementsOf.f k s = some (elems s) := by
  unfold impl_ElementsOf.f; exact ElementsOf_impl_l0 s 8 k 0 [] (by omega) hk (by simp)
/-- How many elements: 0 of what is no set. -/
def cnt (s : Int) : Int := if any s = true then ((Mt.card s.toNat : Nat) : Int) else 0
end Go.Proofs.YtekegbacnagbcaaDoor.L
