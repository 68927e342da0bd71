/- The program's Join answers as the reference's at all lists of strings. -/
import Derived.Test.YthncmojfpdojoaaVJoinJoin
namespace Go.Proofs.Ythncmojfpdojoaa.Pure
open Go.RowKit Go.Proofs.Ythncmojfpdojoaa.P Go.Proofs.Ythncmojfpdojoaa.L Go.Proofs.YthncmojfpdojoaaW.PrintWords Go.Proofs.YthncmojfpdojoaaW.PrintLast
theorem FnExactJoin : laws_FnExactJoin.Pure := by
  intro xs sep hx hw _
  obtain ⟨k, hk⟩ : ∃ k, Big ≤ k ∧ xs.length < k := ⟨max Big (xs.length + 1), Nat.le_max_left _ _, Nat.lt_of_lt_of_le (Nat.lt_succ_self _) (Nat.le_max_right _ _)⟩
  have hB := big_eq
  refine ⟨k, ?_⟩
  have hm : maxLen = 9223372036854775807 := by decide
  unfold laws_FnExactJoin.f
  by_cases h : (sep.size : Int) > 1048576
  · rw [if_pos h]
  · rw [if_neg h]
    unfold laws_szStringS.f
    rw [show wrap64 ((1048576 : Int) - (xs.length : Int)) = (1048576 : Int) - (xs.length : Int) by unfold wrap64; omega]
    by_cases h1 : (1048576 : Int) - (xs.length : Int) < 0
    · rw [if_pos h1]; rfl
    · have hw' : ∀ s ∈ xs, s.size ≤ 9223372036854775807 := fun s hs => by have := hw s hs; omega
      have hz := szStringS_l0 xs hw' (by omega) xs.length k 0 ((1048576 : Int) - (xs.length : Int)) (Nat.zero_add _) hk.2 (by omega) (by omega)
      rw [if_neg h1, show (0 : Int) = ((0 : Nat) : Int) from rfl, hz, List.drop_zero]; simp only [Option.bind_some]
      by_cases h2 : (1048576 : Int) - (xs.length : Int) < (sizes xs : Int)
      · rw [if_pos h2]; rfl
      · have hj := join_len xs sep
        have hmul : xs.length * sep.size ≤ 1048576 * 1048576 := Nat.mul_le_mul (by omega) (by omega)
        rw [if_neg h2, if_neg (by omega), toStringS_eq xs k (by omega) hk.1]; simp only [Option.bind_some]
        rw [Join_spec xs sep k (by omega) (by omega) (by omega), Join_impl xs sep (by omega) (by omega)]; simp only [Option.bind_some]
        rw [if_pos trivial, eqStringS_eq xs k (by omega) hk.1]; rfl

end Go.Proofs.Ythncmojfpdojoaa.Pure
