/- The sets of n elements of which something holds: what the printed loops come to. -/
import Derived.Test.YthpocifdejedpaaVCircuitsMat
namespace Go.Proofs.Ythpocifdejedpaa.L
open Go.RowKit Go.Proofs.YthpocifdejedpaaW.PrintWords Go.Proofs.YthpocifdejedpaaW.PrintMore Go.Proofs.Ythpocifdejedpaa.P Go.Proofs.Ythpocifdejedpaa.B
/-- Of i, i + 1, .. (d of them) those of which q holds. -/
def setsFrom (q : Nat → Bool) : Nat → Nat → List Int
  | _, 0 => []
  | i, d + 1 => if q i = true then (i : Int) :: setsFrom q (i + 1) d else setsFrom q (i + 1) d
theorem setsFrom_len (q : Nat → Bool) : ∀ d i, (setsFrom q i d).length ≤ d := by
  intro d
  induction d with
  | zero => intro i; exact Nat.le_refl _
  | succ d ih =>
    intro i; simp only [setsFrom]; have := ih (i + 1)
    split
    · simp only [List.length_cons]; omega
    · omega
theorem setsFrom_mem (q : Nat → Bool) (x : Int) : ∀ d i, x ∈ setsFrom q i d ↔ ∃ j : Nat, x = j ∧ i ≤ j ∧ j < i + d ∧ q j = true := by
  intro d
  induction d with
  | zero => intro i; simp only [setsFrom, List.not_mem_nil, false_iff]; rintro ⟨j, _, a, b, _⟩; omega
  | succ d ih =>
    intro i; simp only [setsFrom]
    by_cases h : q i = true
    · rw [if_pos h, List.mem_cons, ih]
      constructor
      · rintro (e | ⟨j, e, a, b, c⟩)
        · exact ⟨i, e, Nat.le_refl _, by omega, h⟩
        · exact ⟨j, e, by omega, by omega, c⟩
      · rintro ⟨j, e, a, b, c⟩
        by_cases z : j = i
        · subst z; exact .inl e
        · exact .inr ⟨j, e, by omega, by omega, c⟩
    · rw [if_neg h, ih]
      constructor
      · rintro ⟨j, e, a, b, c⟩; exact ⟨j, e, by omega, by omega, c⟩
      · rintro ⟨j, e, a, b, c⟩
        have : j ≠ i := fun z => h (z ▸ c)
        exact ⟨j, e, by omega, by omega, c⟩
theorem setsFrom_congr {p q : Nat → Bool} : ∀ d i, (∀ j, i ≤ j → j < i + d → p j = q j) → setsFrom p i d = setsFrom q i d := by
  intro d
  induction d with
  | zero => intro i h; rfl
  | succ d ih => intro i h; simp only [setsFrom]; rw [h i (Nat.le_refl _) (by omega), ih (i + 1) (fun j a b => h j (by omega) (by omega))]
theorem setsFrom_inc (q : Nat → Bool) : ∀ d i, (setsFrom q i d).Pairwise (· < ·) := by
  intro d
  induction d with
  | zero => intro i; exact List.Pairwise.nil
  | succ d ih =>
    intro i; simp only [setsFrom]
    split
    · refine List.pairwise_cons.mpr ⟨fun y hy => ?_, ih (i + 1)⟩
      obtain ⟨j, rfl, a, _, _⟩ := (setsFrom_mem q y d (i + 1)).mp hy; omega
    · exact ih (i + 1)
/-- The sets of n elements of which q holds. -/
def sets (n : Int) (q : Nat → Bool) : List Int := setsFrom q 0 (2 ^ n.toNat)
theorem sets_len {n : Int} (h0 : 0 ≤ n) (h8 : n ≤ 8) (q : Nat → Bool) : (sets n q).length ≤ 256 := by
  have := setsFrom_len q (2 ^ n.toNat) 0; have := pow_le8 (show n.toNat ≤ 8 by omega); unfold sets; omega
theorem setsL_eq {n : Int} (h0 : 0 ≤ n) (h8 : n ≤ 8) (p : Int → Option Bool) (q : Nat → Bool) (hp : ∀ j : Nat, j < 2 ^ n.toNat → p (j : Int) = some (q j)) : ∀ d k i : Nat, ∀ out : List Int, i + d = 2 ^ n.toNat → d < k → out.length ≤ i → setsL n p k out (i : Int) = some (out ++ setsFrom q i d) := by
  have hw := pow_le8 (show n.toNat ≤ 8 by omega)
  intro d
  induction d with
  | zero =>
    intro k i out h hk ho; obtain ⟨k, rfl⟩ := pos (show 0 < k by omega)
    simp only [setsL]; rw [FullSet_impl, fullSet_nat h0 h8]; simp only [Option.bind_some]; rw [if_neg (by omega)]; simp [setsFrom]
  | succ d ih =>
    intro k i out h hk ho; obtain ⟨k, rfl⟩ := pos (show 0 < k by omega)
    simp only [setsL]; rw [FullSet_impl, fullSet_nat h0 h8, hp i (by omega)]; simp only [Option.bind_some, setsFrom]; rw [if_pos (by omega), w1 (by omega)]
    by_cases hq : q i = true
    · rw [if_pos hq, if_pos hq, if_pos (by omega), ih k (i + 1) _ (by omega) (by omega) (by rw [List.length_append, List.length_singleton]; omega)]; simp
    · rw [if_neg hq, if_neg hq, ih k (i + 1) _ (by omega) (by omega) (by omega)]
theorem setsL_sets {n : Int} (h0 : 0 ≤ n) (h8 : n ≤ 8) (p : Int → Option Bool) (q : Nat → Bool) (hp : ∀ j : Nat, j < 2 ^ n.toNat → p (j : Int) = some (q j)) (k : Nat) (hk : 257 ≤ k) : setsL n p k [] 0 = some (sets n q) := by
  have hw := pow_le8 (show n.toNat ≤ 8 by omega)
  exact setsL_eq h0 h8 p q hp (2 ^ n.toNat) k 0 [] (Nat.zero_add _) (by omega) (Nat.zero_le _)
/-- The uniform matroid, as answered. -/
def uni (r n : Int) : Int × List Int := if (0 ≤ n ∧ n ≤ 8) ∧ 0 ≤ r ∧ r ≤ n then (n, sets n fun s => decide (((Mt.card s : Nat) : Int) = r)) else (0, [])
theorem uni_len (r n : Int) : (uni r n).2.length ≤ 256 := by
  unfold uni; split
  · rename_i h; exact sets_len h.1.1 h.1.2 _
  · exact Nat.zero_le _
theorem markMatroid_eq (a : Int) (xs : List Int) (m : Int) (k : Nat) (hn : xs.length < 4194000) (hk : Big ≤ k) (h0 : 0 ≤ m) (hm : m < 4194304000) : laws_markMatroid.f k a xs m = some (m + xs.length, marks m xs.length) := by
  unfold laws_markMatroid.f; rw [markIntS_eq xs m k hn hk h0 hm]; rfl
end Go.Proofs.Ythpocifdejedpaa.L
