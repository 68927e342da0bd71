/- The smallest and the greatest sets of a list: what the printed functions come to. -/
import Derived.Test.YtekegbacnagbcaaDoorVMatroidTextSort
namespace Go.Proofs.YtekegbacnagbcaaDoor.L
open Go.RowKit Go.Proofs.YtekegbacnagbcaaDoorW.PrintWords Go.Proofs.YtekegbacnagbcaaDoorW.PrintMore Go.Proofs.YtekegbacnagbcaaDoor.P Go.Proofs.YtekegbacnagbcaaDoor.B
def Big3 : Nat := 52776608464908
def areB (xs : List Int) : Bool := xs.all any
theorem any_iff (s : Int) : any s = true ↔ 0 ≤ s ∧ s < 256 := by unfold any; exact decide_eq_true_iff
theorem areB_iff (xs : List Int) : areB xs = true ↔ ∀ x ∈ xs, 0 ≤ x ∧ x < 256 := by
  unfold areB; rw [List.all_eq_true]
  exact ⟨fun h x hx => (any_iff x).mp (h x hx), fun h x hx => (any_iff x).mpr (h x hx)⟩
theorem areSets_l0 (xs : List Int) (hn : xs.length < 4611686018427387904) : ∀ d k i : Nat, i + d = xs.length → d < k → impl_areSets.l0 k xs (xs.length : Int) (i : Int) = some (areB (xs.drop i)) := by
  intro d
  induction d with
  | zero =>
    intro k i h hk; obtain ⟨k, rfl⟩ := pos (show 0 < k by omega)
    simp only [impl_areSets.l0]; rw [if_neg (by omega), List.drop_eq_nil_of_le (by omega)]; rfl
  | succ d ih =>
    intro k i h hk; obtain ⟨k, rfl⟩ := pos (show 0 < k by omega)
    have hi : i < xs.length := by omega
    simp only [impl_areSets.l0]; rw [if_pos (by omega), if_pos (by omega), if_pos (by omega), isAny_eq, drop_rd hi, w1 (by omega)]; simp only [Option.bind_some]
    unfold areB; rw [List.all_cons]
    cases h1 : any (rd xs (i : Int))
    · rw [if_neg (by simp)]; rfl
    · rw [if_pos rfl, ih k (i + 1) (by omega) (by omega)]; rfl
theorem areSets_eq (xs : List Int) (k : Nat) (hn : xs.length < 4194304) (hk : xs.length < k) : impl_areSets.f k xs = some (areB xs) := by
  unfold impl_areSets.f; exact areSets_l0 xs (by omega) xs.length k 0 (Nat.zero_add _) hk
theorem l3Sets_l0 (xs : List Int) (hn : xs.length < 4611686018427387904) : ∀ d k i : Nat, i + d = xs.length → d < k → spec_l3Sets.l0 k 8 xs (i : Int) = some (areB (xs.drop i)) := by
  intro d
  induction d with
  | zero =>
    intro k i h hk; obtain ⟨k, rfl⟩ := pos (show 0 < k by omega)
    simp only [spec_l3Sets.l0]; rw [if_neg (by omega), List.drop_eq_nil_of_le (by omega)]; rfl
  | succ d ih =>
    intro k i h hk; obtain ⟨k, rfl⟩ := pos (show 0 < k by omega)
    have hi : i < xs.length := by omega
    simp only [spec_l3Sets.l0]; rw [if_pos (by omega), if_pos (by omega), IsSet_spec, isSet_8, drop_rd hi, w1 (by omega)]; simp only [Option.bind_some]
    unfold areB; rw [List.all_cons]
    cases h1 : any (rd xs (i : Int))
    · rw [if_neg (by simp)]; rfl
    · rw [if_pos rfl, ih k (i + 1) (by omega) (by omega)]; rfl
theorem l3Sets_eq (xs : List Int) (k : Nat) (hn : xs.length < 4194304) (hk : xs.length < k) : spec_l3Sets.f k 8 xs = some (areB xs) := by
  unfold spec_l3Sets.f; exact l3Sets_l0 xs (by omega) xs.length k 0 (Nat.zero_add _) hk
theorem and_ne {t s : Int} (ht : 0 ≤ t ∧ t < 256) (hs : 0 ≤ s ∧ s < 256) : (Go.bits .and .i64 t s != t) = !(subB t s) ∧ (Go.bits .and .i64 t s != s) = !(subB s t) := by
  obtain ⟨x, rfl⟩ := nat_of ht.1; obtain ⟨y, rfl⟩ := nat_of hs.1
  rw [and_nat x y (by omega) (by omega)]
  unfold subB
  rw [decide_eq_true (by omega), decide_eq_true (by omega), Int.toNat_natCast, Int.toNat_natCast, Bool.true_and, Bool.true_and, Nat.and_comm y x]
  constructor
  · show (!(((x &&& y : Nat) : Int) == (x : Int))) = _
    congr 1; rw [Bool.eq_iff_iff, beq_iff_eq, beq_iff_eq]; omega
  · show (!(((x &&& y : Nat) : Int) == (y : Int))) = _
    congr 1; rw [Bool.eq_iff_iff, beq_iff_eq, beq_iff_eq]; omega
theorem srt_filter (xs : List Int) (p : Int → Bool) : (srt xs).filter p = srt (xs.filter p) :=
  srt_eq ((srt_inc xs).filter p) fun x => by rw [List.mem_filter, List.mem_filter, srt_mem]

/-- Whether no set of the list lies within s. -/
def minQ (s t : Int) : Bool := if t = s then false else subB t s
def minB (xs : List Int) (s : Int) : Bool := !(xs.any (minQ s))
def minS (xs : List Int) : List Int := if areB xs = true then (srt xs).filter (minB xs) else []
theorem minS_mem {xs : List Int} (h : areB xs = true) (x : Int) : x ∈ minS xs ↔ x ∈ xs ∧ ∀ t ∈ xs, t ≠ x → subB t x = false := by
  unfold minS; rw [if_pos h, List.mem_filter, srt_mem]
  refine and_congr_right fun _ => ?_
  unfold minB; rw [Bool.not_eq_true', List.any_eq_false]
  constructor
  · intro q t ht hne
    have := q t ht; unfold minQ at this; rw [if_neg hne] at this; exact bnot_false this
  · intro q t ht hc
    unfold minQ at hc
    by_cases e : t = x
    · rw [if_pos e] at hc; cases hc
    · rw [if_neg e, q t ht e] at hc; cases hc
theorem minS_inc (xs : List Int) : (minS xs).Pairwise (· < ·) := by
  unfold minS; split
  · exact (srt_inc xs).filter _
  · exact List.Pairwise.nil
theorem minS_len (xs : List Int) : (minS xs).length ≤ xs.length := by
  unfold minS; split
  · exact Nat.le_trans (List.length_filter_le _ _) (srt_len xs)
  · exact Nat.zero_le _

/-- Whether no set of the list lies about s. -/
def maxQ (s t : Int) : Bool := if t = s then false else subB s t
def maxB (xs : List Int) (s : Int) : Bool := !(xs.any (maxQ s))
def maxS (xs : List Int) : List Int := if areB xs = true then (srt xs).filter (maxB xs) else []
theorem maxS_mem {xs : List Int} (h : areB xs = true) (x : Int) : x ∈ maxS xs ↔ x ∈ xs ∧ ∀ t ∈ xs, t ≠ x → subB x t = false := by
  unfold maxS; rw [if_pos h, List.mem_filter, srt_mem]
  refine and_congr_right fun _ => ?_
  unfold maxB; rw [Bool.not_eq_true', List.any_eq_false]
  constructor
  · intro q t ht hne
    have := q t ht; unfold maxQ at this; rw [if_neg hne] at this; exact bnot_false this
  · intro q t ht hc
    unfold maxQ at hc
    by_cases e : t = x
    · rw [if_pos e] at hc; cases hc
    · rw [if_neg e, q t ht e] at hc; cases hc
theorem maxS_inc (xs : List Int) : (maxS xs).Pairwise (· < ·) := by
  unfold maxS; split
  · exact (srt_inc xs).filter _
  · exact List.Pairwise.nil
theorem maxS_len (xs : List Int) : (maxS xs).length ≤ xs.length := by
  unfold maxS; split
  · exact Nat.le_trans (List.length_filter_le _ _) (srt_len xs)
  · exact Nat.zero_le _
end Go.Proofs.YtekegbacnagbcaaDoor.L
