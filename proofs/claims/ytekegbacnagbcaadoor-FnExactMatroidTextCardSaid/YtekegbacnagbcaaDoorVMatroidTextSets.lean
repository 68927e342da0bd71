/- What the small functions on sets of elements come to: the printed functions as plain functions of whole numbers. -/
import Derived.Test.YtekegbacnagbcaaDoorPVMatroidTextx
import Derived.Test.YtekegbacnagbcaaDoorBits
namespace Go.Proofs.YtekegbacnagbcaaDoor.L
open Go.RowKit Go.Proofs.YtekegbacnagbcaaDoorW.PrintWords Go.Proofs.YtekegbacnagbcaaDoorW.PrintMore Go.Proofs.YtekegbacnagbcaaDoor.P Go.Proofs.YtekegbacnagbcaaDoor.B
theorem bnd {a : Int} (h : (Lit.int .i64 a).wf = true) : -9223372036854775808 ≤ a ∧ a < 9223372036854775808 := by
  simp only [Lit.wf, IntKind.min, IntKind.max, IntKind.signed, IntKind.bits, Bool.and_eq_true, decide_eq_true_eq] at h
  simp at h; omega
def any (s : Int) : Bool := decide (0 ≤ s ∧ s < 256)
def isSet (n s : Int) : Bool := decide (0 ≤ n ∧ n ≤ 8 ∧ 0 ≤ s ∧ s < 2 ^ n.toNat)
def hasE (s e : Int) : Bool := decide (0 ≤ s ∧ s < 256 ∧ 0 ≤ e ∧ e < 8) && s.toNat.testBit e.toNat
def fullSet (n : Int) : Int := if 0 ≤ n ∧ n ≤ 8 then 2 ^ n.toNat - 1 else 0
def withE (s e : Int) : Int := if 0 ≤ s ∧ s < 256 ∧ 0 ≤ e ∧ e < 8 then ((Mt.ins s.toNat e.toNat : Nat) : Int) else s
def woE (s e : Int) : Int := if 0 ≤ s ∧ s < 256 ∧ 0 ≤ e ∧ e < 8 then ((Mt.del s.toNat e.toNat : Nat) : Int) else s
def subB (s t : Int) : Bool := decide (0 ≤ s ∧ s < 256 ∧ 0 ≤ t ∧ t < 256) && (s.toNat &&& t.toNat == s.toNat)
theorem pow_cast (m : Nat) : (2 : Int) ^ m = ((2 ^ m : Nat) : Int) := by norm_cast
theorem pow_le8 {m : Nat} (h : m ≤ 8) : 0 < 2 ^ m ∧ 2 ^ m ≤ 256 := by
  have := Nat.pow_le_pow_right (show 0 < 2 by decide) h; exact ⟨Nat.two_pow_pos m, by omega⟩
theorem nat_of {s : Int} (h : 0 ≤ s) : ∃ n : Nat, s = n := ⟨s.toNat, by omega⟩
theorem isSet_8 (s : Int) : isSet 8 s = any s := by unfold isSet any; rw [decide_eq_decide]; simp
theorem l1In_eq (a b c : Int) : spec_l1In.f a b c = some (decide (b ≤ a ∧ a ≤ c)) := by
  unfold spec_l1In.f; by_cases h : a ≥ b
  · rw [if_pos h]; congr 1; exact decide_eq_decide.mpr ⟨fun k => ⟨h, k⟩, fun k => k.2⟩
  · rw [if_neg h]; congr 1; exact (decide_eq_false (fun k => h k.1)).symm
theorem isSize_eq (n : Int) : impl_isSize.f n = some (decide (0 ≤ n ∧ n ≤ 8)) := by
  unfold impl_isSize.f; by_cases h : n ≥ 0
  · rw [if_pos h]; congr 1; exact decide_eq_decide.mpr ⟨fun k => ⟨h, k⟩, fun k => k.2⟩
  · rw [if_neg h]; congr 1; exact (decide_eq_false (fun k => h k.1)).symm
theorem isAny_eq (s : Int) : impl_isAny.f s = some (any s) := by
  unfold impl_isAny.f any; by_cases h : s ≥ 0
  · rw [if_pos h]; congr 1; exact decide_eq_decide.mpr ⟨fun k => ⟨h, k⟩, fun k => k.2⟩
  · rw [if_neg h]; congr 1; exact (decide_eq_false (fun k => h k.1)).symm
theorem IsSet_spec (n s : Int) : spec_IsSet.f n s = some (isSet n s) := by
  unfold spec_IsSet.f; rw [l1In_eq]; simp only [Option.bind_some]
  by_cases h : 0 ≤ n ∧ n ≤ 8
  · obtain ⟨m, rfl⟩ := nat_of h.1
    have hm : m ≤ 8 := by omega
    have hp := pow_le8 hm
    rw [if_pos (decide_eq_true h), u64_nat (m : Int) (by omega) (by omega), if_pos (by omega), shl_one m (by omega), w64 _ (by omega) (by omega), l1In_eq]
    simp only [Option.bind_some]; congr 1; unfold isSet; rw [decide_eq_decide, Int.toNat_natCast, pow_cast]; omega
  · rw [if_neg (by simpa using h)]; congr 1; unfold isSet; exact (decide_eq_false (fun k => h ⟨k.1, k.2.1⟩)).symm
theorem IsSet_impl (n s : Int) : impl_IsSet.f n s = some (isSet n s) := by
  unfold impl_IsSet.f; rw [isSize_eq]; simp only [Option.bind_some]
  by_cases h : 0 ≤ n ∧ n ≤ 8
  · obtain ⟨m, rfl⟩ := nat_of h.1
    rw [if_pos (decide_eq_true h)]
    by_cases hs : s ≥ 0
    · rw [if_pos hs, if_pos h.1, shl_one m (by omega)]; congr 1; unfold isSet; rw [decide_eq_decide, Int.toNat_natCast, pow_cast]; omega
    · rw [if_neg hs]; congr 1; unfold isSet; exact (decide_eq_false (by omega)).symm
  · rw [if_neg (by simpa using h)]; congr 1; unfold isSet; exact (decide_eq_false (fun k => h ⟨k.1, k.2.1⟩)).symm
theorem l2Has_eq (s e : Nat) (hs : s < 9223372036854775808) (he : e < 64) : spec_l2Has.f s e = some (s.testBit e) := by
  unfold spec_l2Has.f
  rw [u64_nat (e : Int) (by omega) (by omega), if_pos (by omega), tb s e hs he]
theorem HasElement_spec (s e : Int) : spec_HasElement.f s e = some (hasE s e) := by
  unfold spec_HasElement.f hasE; rw [IsSet_spec, isSet_8]; simp only [Option.bind_some]
  by_cases h : 0 ≤ s ∧ s < 256
  · rw [if_pos (by unfold any; exact decide_eq_true h), l1In_eq]; simp only [Option.bind_some]
    by_cases he : 0 ≤ e ∧ e ≤ 7
    · obtain ⟨x, rfl⟩ := nat_of h.1; obtain ⟨y, rfl⟩ := nat_of he.1
      rw [if_pos (decide_eq_true he), l2Has_eq x y (by omega) (by omega), decide_eq_true (show 0 ≤ (x : Int) ∧ (x : Int) < 256 ∧ 0 ≤ (y : Int) ∧ (y : Int) < 8 by omega)]; simp
    · rw [if_neg (by simpa using he), decide_eq_false (by omega)]; rfl
  · rw [if_neg (by unfold any; simpa using h), decide_eq_false (by omega)]; rfl
theorem HasElement_impl (s e : Int) : impl_HasElement.f s e = some (hasE s e) := by
  unfold impl_HasElement.f hasE; rw [isAny_eq]; simp only [Option.bind_some]
  by_cases h : 0 ≤ s ∧ s < 256
  · rw [if_pos (by unfold any; exact decide_eq_true h)]
    by_cases he : e ≥ 0
    · rw [if_pos he]
      by_cases he' : e < 8
      · obtain ⟨x, rfl⟩ := nat_of h.1; obtain ⟨y, rfl⟩ := nat_of he
        rw [if_pos he', if_pos he, tb x y (by omega) (by omega), decide_eq_true (show 0 ≤ (x : Int) ∧ (x : Int) < 256 ∧ 0 ≤ (y : Int) ∧ (y : Int) < 8 by omega)]; simp
      · rw [if_neg he', decide_eq_false (by omega)]; rfl
    · rw [if_neg he, decide_eq_false (by omega)]; rfl
  · rw [if_neg (by unfold any; simpa using h), decide_eq_false (by omega)]; rfl
theorem pow_small {y : Nat} (h : y < 8) : 2 ^ y < 9223372036854775808 := by have := pow_le8 (Nat.le_of_lt h); omega
theorem diff_zero (x y : Nat) : Mt.diff x y = 0 ↔ x &&& y = x := by
  constructor
  · intro h; refine Mt.ext fun i => ?_
    rw [Mt.in_and]; refine ⟨fun k => k.1, fun k => ⟨k, Classical.byContradiction fun hn => ?_⟩⟩
    have : Mt.In i (Mt.diff x y) := (Mt.in_diff x y i).mpr ⟨k, hn⟩
    rw [h] at this; exact Mt.not_in_zero i this
  · intro h; refine Mt.ext fun i => ?_
    rw [Mt.in_diff]; refine ⟨fun k => ?_, fun k => absurd k (Mt.not_in_zero i)⟩
    rw [← h] at k; exact absurd ((Mt.in_and x y i).mp k.1).2 k.2
end Go.Proofs.YtekegbacnagbcaaDoor.L
