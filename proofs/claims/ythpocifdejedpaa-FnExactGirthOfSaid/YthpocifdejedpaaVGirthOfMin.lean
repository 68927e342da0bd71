/- The smallest and the greatest sets of a list: what the printed functions come to. -/
import Derived.Test.YthpocifdejedpaaVGirthOfSort
namespace Go.Proofs.Ythpocifdejedpaa.L
open Go.RowKit Go.Proofs.YthpocifdejedpaaW.PrintWords Go.Proofs.YthpocifdejedpaaW.PrintMore Go.Proofs.Ythpocifdejedpaa.P Go.Proofs.Ythpocifdejedpaa.B
def Big3 : Nat := 52776608464908
def areB (xs : List Int) : Bool := xs.all any
theorem any_iff (s : Int) : any s = true ↔ 0 ≤ s ∧ s < 256 := by unfold any; exact decide_eq_true_iff
theorem areB_iff (xs : List Int) : areB xs = true ↔ ∀ x ∈ xs, 0 ≤ x ∧ x < 256 := by
  unfold areB; rw [List.all_eq_true]
  exact ⟨fun h x hx => (any_iff x).mp (h x hx), fun h x hx => (any_iff x).mpr (h x hx)⟩
theorem areSets_l0 (xs : List Int) (hn : xs.length < 4611686018427387904) : ∀ d k i : Nat, i + d = xs.length → d < k → impl_areSets.l0 k xs (xs.length : Int) (i : Int) = some (areB (xs.drop i)) := by
  intro d
  induction d with
  | zero =>
    intro k i h hk; obtain ⟨k, rfl⟩ := pos (show 0 < k by omega)
    simp only [impl_areSets.l0]; rw [if_neg (by omega), List.drop_eq_nil_of_le (by omega)]; rfl
  | succ d ih =>
    intro k i h hk; obtain ⟨k, rfl⟩ := pos (show 0 < k by omega)
    have hi : i < xs.length := by omega
    simp only [impl_areSets.l0]; rw [if_pos (by omega), if_pos (by omega), if_pos (by omega), isAny_eq, drop_rd hi, w1 (by omega)]; simp only [Option.bind_some]
    unfold areB; rw [List.all_cons]
    cases h1 : any (rd xs (i : Int))
    · rw [if_neg (by simp)]; rfl
    · rw [if_pos rfl, ih k (i + 1) (by omega) (by omega)]; rfl
theorem areSets_eq (xs : List Int) (k : Nat) (hn : xs.length < 4194304) (hk : xs.length < k) : impl_areSets.f k xs = some (areB xs) := by
  unfold impl_areSets.f; exact areSets_l0 xs (by omega) xs.length k 0 (Nat.zero_add _) hk
theorem l3Sets_l0 (xs : List Int) (hn : xs.length < 4611686018427387904) : ∀ d k i : Nat, i + d = xs.length → d < k → spec_l3Sets.l0 k 8 xs (i : Int) = some (areB (xs.drop i)) := by
  intro d
  induction d with
  | zero =>
    intro k i h hk; obtain ⟨k, rfl⟩ := pos (show 0 < k by omega)
    simp only [spec_l3Sets.l0]; rw [if_neg (by omega), List.drop_eq_nil_of_le (by omega)]; rfl
  | succ d ih =>
    intro k i h hk; obtain ⟨k, rfl⟩ := pos (show 0 < k by omega)
    have hi : i < xs.length := by omega
    simp only [spec_l3Sets.l0]; rw [if_pos (by omega), if_pos (by omega), IsSet_spec, isSet_8, drop_rd hi, w1 (by omega)]; simp only [Option.bind_some]
    unfold areB; rw [List.all_cons]
    cases h1 : any (rd xs (i : Int))
    · rw [if_neg (by simp)]; rfl
    · rw [if_pos rfl, ih k (i + 1) (by omega) (by omega)]; rfl
theorem l3Sets_eq (xs : List Int) (k : Nat) (hn : xs.length < 4194304) (hk : xs.length < k) : spec_l3Sets.f k 8 xs = some (areB xs) := by
  unfold spec_l3Sets.f; exact l3Sets_l0 xs (by omega) xs.length k 0 (Nat.zero_add _) hk
theorem and_ne {t s : Int} (ht : 0 ≤ t ∧ t < 256) (hs : 0 ≤ s ∧ s < 256) : (Go.bits .and .i64 t s != t) = !(subB t s) ∧ (Go.bits .and .i64 t s != s) = !(subB s t) := by
  obtain ⟨x, rfl⟩ := nat_of ht.1; obtain ⟨y, rfl⟩ := nat_of hs.1
  rw [and_nat x y (by omega) (by omega)]
  unfold subB
  rw [decide_eq_true (by omega), decide_eq_true (by omega), Int.toNat_natCast, Int.toNat_natCast, Bool.true_and, Bool.true_and, Nat.and_comm y x]
  constructor
  · show (!(((x &&& y : Nat) : Int) == (x : Int))) = _
    congr 1; rw [Bool.eq_iff_iff, beq_iff_eq, beq_iff_eq]; omega
  · show (!(((x &&& y : Nat) : Int) == (y : Int))) = _
    congr 1; rw [Bool.eq_iff_iff, beq_iff_eq, beq_iff_eq]; omega
theorem srt_filter (xs : List Int) (p : Int → Bool) : (srt xs).filter p = srt (xs.filter p) :=
  srt_eq ((srt_inc xs).filter p) fun x => by rw [List.mem_filter, List.mem_filter, srt_mem]

/-- Whether no set of the list lies within s. -/
def minQ (s t : Int) : Bool := if t = s then false else subB t s
def minB (xs : List Int) (s : Int) : Bool := !(xs.any (minQ s))
def minS (xs : List Int) : List Int := if areB xs = true then (srt xs).filter (minB xs) else []
theorem minS_mem {xs : List Int} (h : areB xs = true) (x : Int) : x ∈ minS xs ↔ x ∈ xs ∧ ∀ t ∈ xs, t ≠ x → subB t x = false := by
  unfold minS; rw [if_pos h, List.mem_filter, srt_mem]
  refine and_congr_right fun _ => ?_
  unfold minB; rw [Bool.not_eq_true', List.any_eq_false]
  constructor
  · intro q t ht hne
    have := q t ht; unfold minQ at this; rw [if_neg hne] at this; exact bnot_false this
  · intro q t ht hc
    unfold minQ at hc
    by_cases e : t = x
    · rw [if_pos e] at hc; cases hc
    · rw [if_neg e, q t ht e] at hc; cases hc
theorem minS_inc (xs : List Int) : (minS xs).Pairwise (· < ·) := by
  unfold minS; split
  · exact (srt_inc xs).filter _
  · exact List.Pairwise.nil
theorem minS_len (xs : List Int) : (minS xs).length ≤ xs.length := by
  unfold minS; split
  · exact Nat.le_trans (List.length_filter_le _ _) (srt_len xs)
  · exact Nat.zero_le _
theorem on_MinimalSets_1 (xs : List Int) (s : Int) (k : Nat) (hn : xs.length < 4194000) (hk : xs.length < k) : on_impl_MinimalSets_1.f k xs s = some (xs.any (minQ s)) := by
  unfold on_impl_MinimalSets_1.f
  exact anyL_eq (impl_MinimalSets_1.f s) (minQ s) xs hn (fun y _ => by
    unfold impl_MinimalSets_1.f minQ
    by_cases e : y = s
    · rw [if_pos e, if_pos e]
    · rw [if_neg e, if_neg e]; exact IsSubset_impl _ _) xs.length k 0 (Nat.zero_add _) hk
theorem MinimalSets_impl_l0 (xs ys : List Int) (hn : xs.length < 4194000) (hy : ys.length < 4194304) : ∀ d k i : Nat, ∀ out : List Int, i + d = ys.length → out.length ≤ i → d + xs.length + 1 < k →
    impl_MinimalSets.l0 k xs out ys (ys.length : Int) (i : Int) = some (out ++ (ys.drop i).filter (minB xs)) := by
  intro d
  induction d with
  | zero =>
    intro k i out h ho hk; obtain ⟨k, rfl⟩ := pos (show 0 < k by omega)
    simp only [impl_MinimalSets.l0]; rw [if_neg (by omega), List.drop_eq_nil_of_le (by omega)]; simp
  | succ d ih =>
    intro k i out h ho hk; obtain ⟨k, rfl⟩ := pos (show 0 < k by omega)
    have hi : i < ys.length := by omega
    simp only [impl_MinimalSets.l0]
    rw [if_pos (by omega), if_pos (by omega), if_pos (by omega), on_MinimalSets_1 xs _ k hn (by omega), drop_rd hi, w1 (by omega)]; simp only [Option.bind_some]
    cases h1 : xs.any (minQ (rd ys (i : Int)))
    · rw [if_neg (by simp), if_pos (by omega), ih k (i + 1) _ (by omega) (by simp; omega) (by omega), List.filter_cons, if_pos (by unfold minB; rw [h1]; rfl), List.append_assoc]; rfl
    · rw [if_pos rfl, ih k (i + 1) _ (by omega) (by omega) (by omega), List.filter_cons, if_neg (by unfold minB; rw [h1]; simp)]
theorem MinimalSets_impl (xs : List Int) (k : Nat) (hn : xs.length < 4194000) (hk : 2 * xs.length + 4 ≤ k) : impl_MinimalSets.f k xs = some (minS xs) := by
  unfold impl_MinimalSets.f minS
  rw [areSets_eq xs k (by omega) (by omega)]; simp only [Option.bind_some]
  by_cases h : areB xs = true
  · have hl := srt_len xs
    rw [if_pos h, if_pos h, SortSets_impl xs (by omega)]; simp only [Option.bind_some]
    exact MinimalSets_impl_l0 xs (srt xs) hn (by omega) (srt xs).length k 0 [] (Nat.zero_add _) (Nat.le_refl _) (by omega)
  · rw [if_neg h, if_neg h]
theorem MinimalSets_spec_l1 (xs out : List Int) (hs : ∀ x ∈ xs, 0 ≤ x ∧ x < 256) (i : Nat) (hi : i < xs.length) (hn : xs.length ≤ 4194000) (ho : out.length ≤ 4194000) (C : Nat) (r : List Int) :
    ∀ d k j : Nat, ∀ fine : Bool, j + d = xs.length → C + d + 1 ≤ k → (∀ k, C ≤ k → spec_MinimalSets.l0 k xs (if (fine && !((xs.drop j).any (minQ (rd xs (i : Int))))) = true then out ++ [rd xs (i : Int)] else out) ((i + 1 : Nat) : Int) = some r) →
    spec_MinimalSets.l1 k xs out (i : Int) fine (j : Int) = some r := by
  intro d
  induction d with
  | zero =>
    intro k j fine h hk hn'; obtain ⟨k, rfl⟩ := pos (show 0 < k by omega)
    have q := hn' k (by omega)
    rw [List.drop_eq_nil_of_le (by omega)] at q
    simp only [spec_MinimalSets.l1]
    rw [if_neg (by omega), w1 (by omega)]
    cases fine
    · rw [if_neg (by simp)]; rw [if_neg (by simp)] at q; exact q
    · rw [if_pos rfl, if_pos (by omega), if_pos (by omega), if_pos (by omega)]; rw [if_pos (by simp)] at q; exact q
  | succ d ih =>
    intro k j fine h hk hn'; obtain ⟨k, rfl⟩ := pos (show 0 < k by omega)
    have hj : j < xs.length := by omega
    rw [drop_rd hj] at hn'
    simp only [spec_MinimalSets.l1]
    rw [if_pos (by omega), w1 (by omega)]
    cases fine
    · rw [if_neg (by simp)]
      refine ih k (j + 1) false (by omega) (by omega) fun k' hk' => ?_
      have q := hn' k' hk'
      rw [Bool.false_and] at q ⊢; exact q
    · rw [if_pos rfl, if_pos (by omega), if_pos (by omega), if_pos (by omega)]
      by_cases e : rd xs (j : Int) = rd xs (i : Int)
      · rw [if_pos e]
        refine ih k (j + 1) true (by omega) (by omega) fun k' hk' => ?_
        have q := hn' k' hk'
        rw [List.any_cons, show minQ (rd xs (i : Int)) (rd xs (j : Int)) = false by unfold minQ; rw [if_pos e], Bool.false_or] at q
        exact q
      · rw [if_neg e]
        refine ih k (j + 1) _ (by omega) (by omega) fun k' hk' => ?_
        have q := hn' k' hk'
        rw [List.any_cons, show minQ (rd xs (i : Int)) (rd xs (j : Int)) = subB (rd xs (j : Int)) (rd xs (i : Int)) by unfold minQ; rw [if_neg e]] at q
        rw [(and_ne (hs _ (rd_mem hj)) (hs _ (rd_mem hi))).1]
        rw [Bool.true_and, Bool.not_or] at q
        exact q
theorem MinimalSets_spec_l0 (xs : List Int) (hs : ∀ x ∈ xs, 0 ≤ x ∧ x < 256) (hn : xs.length ≤ 4194000) : ∀ d k i : Nat, ∀ out : List Int, i + d = xs.length → out.length ≤ i → d * (xs.length + 4) + Big2 + 1 ≤ k →
    spec_MinimalSets.l0 k xs out (i : Int) = some (srt (out ++ (xs.drop i).filter (minB xs))) := by
  intro d
  induction d with
  | zero =>
    intro k i out h ho hk; obtain ⟨k, rfl⟩ := pos (show 0 < k by omega)
    have hb := big2 (show out.length ≤ 4194304 by omega)
    simp only [spec_MinimalSets.l0]; rw [if_neg (by omega), SortSets_spec out k (by omega) (by omega), List.drop_eq_nil_of_le (by omega)]; simp
  | succ d ih =>
    intro k i out h ho hk
    rw [Nat.succ_mul] at hk
    obtain ⟨k, rfl⟩ := pos (show 0 < k by omega)
    have hi : i < xs.length := by omega
    simp only [spec_MinimalSets.l0]; rw [if_pos (by omega)]
    refine MinimalSets_spec_l1 xs out hs i hi hn (by omega) (d * (xs.length + 4) + Big2 + 1) _ xs.length k 0 true (Nat.zero_add _) (by omega) fun k' hk' => ?_
    rw [Bool.true_and, List.drop_zero, drop_rd hi, List.filter_cons]
    cases h1 : minB xs (rd xs (i : Int))
    · rw [if_neg (by unfold minB at h1; rw [h1]; simp), if_neg (by simp)]
      exact ih k' (i + 1) out (by omega) (by omega) hk'
    · rw [if_pos (by unfold minB at h1; exact h1), if_pos rfl, ih k' (i + 1) _ (by omega) (by simp; omega) hk', List.append_assoc]; rfl
theorem MinimalSets_spec (xs : List Int) (k : Nat) (hn : xs.length ≤ 4194000) (hk : xs.length * (xs.length + 4) + Big2 + 1 ≤ k) : spec_MinimalSets.f k xs = some (minS xs) := by
  unfold spec_MinimalSets.f minS
  simp only [Option.bind_some]
  have hb : xs.length < k := Nat.lt_of_le_of_lt (Nat.le_trans (Nat.le_mul_of_pos_right _ (by omega)) (Nat.le_add_right (xs.length * (xs.length + 4)) Big2)) (by omega)
  rw [l3Sets_eq xs k (by omega) hb]; simp only [Option.bind_some]
  by_cases h : areB xs = true
  · rw [if_pos h, if_pos h, srt_filter]
    exact MinimalSets_spec_l0 xs ((areB_iff xs).mp h) hn xs.length k 0 [] (Nat.zero_add _) (Nat.le_refl _) hk
  · rw [if_neg h, if_neg h]

/-- Whether no set of the list lies about s. -/
def maxQ (s t : Int) : Bool := if t = s then false else subB s t
def maxB (xs : List Int) (s : Int) : Bool := !(xs.any (maxQ s))
def maxS (xs : List Int) : List Int := if areB xs = true then (srt xs).filter (maxB xs) else []
theorem maxS_mem {xs : List Int} (h : areB xs = true) (x : Int) : x ∈ maxS xs ↔ x ∈ xs ∧ ∀ t ∈ xs, t ≠ x → subB x t = false := by
  unfold maxS; rw [if_pos h, List.mem_filter, srt_mem]
  refine and_congr_right fun _ => ?_
  unfold maxB; rw [Bool.not_eq_true', List.any_eq_false]
  constructor
  · intro q t ht hne
    have := q t ht; unfold maxQ at this; rw [if_neg hne] at this; exact bnot_false this
  · intro q t ht hc
    unfold maxQ at hc
    by_cases e : t = x
    · rw [if_pos e] at hc; cases hc
    · rw [if_neg e, q t ht e] at hc; cases hc
theorem maxS_inc (xs : List Int) : (maxS xs).Pairwise (· < ·) := by
  unfold maxS; split
  · exact (srt_inc xs).filter _
  · exact List.Pairwise.nil
theorem maxS_len (xs : List Int) : (maxS xs).length ≤ xs.length := by
  unfold maxS; split
  · exact Nat.le_trans (List.length_filter_le _ _) (srt_len xs)
  · exact Nat.zero_le _
end Go.Proofs.Ythpocifdejedpaa.L
