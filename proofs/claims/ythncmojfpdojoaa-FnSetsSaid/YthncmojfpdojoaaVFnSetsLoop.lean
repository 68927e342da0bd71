/- What the printed loops over lists of whole numbers come to, and the small functions above them, as plain functions of lists. -/
import Derived.Test.YthncmojfpdojoaaPVFnSetsx
import Derived.Test.YthncmojfpdojoaaVFnSetsSets
namespace Go.Proofs.Ythncmojfpdojoaa.L
open Go.RowKit Go.Proofs.YthncmojfpdojoaaW.PrintWords Go.Proofs.YthncmojfpdojoaaW.PrintMore Go.Proofs.Ythncmojfpdojoaa.P Go.Proofs.Ythncmojfpdojoaa.B
/-- How many rounds are enough for all that is done here. -/
def Big : Nat := 4194304
theorem big_eq : Big = 4194304 := rfl
theorem rd_nat (xs : List Int) (i : Nat) : rd xs (i : Int) = xs.getD i 0 := by simp [rd]
theorem drop_rd {xs : List Int} {i : Nat} (h : i < xs.length) : xs.drop i = rd xs (i : Int) :: xs.drop (i + 1) := by
  rw [rd_nat, List.drop_eq_getElem_cons h]; simp [List.getD, h]
theorem rd_mem {xs : List Int} {i : Nat} (h : i < xs.length) : rd xs (i : Int) ∈ xs := by
  rw [rd_nat]; simp [List.getD, h]
theorem w1 {i : Nat} (h : i < 4611686018427387904) : wrap64 ((i : Int) + 1) = ((i + 1 : Nat) : Int) := by
  rw [w64 _ (by omega) (by omega)]; rfl
theorem pos {k : Nat} (h : 0 < k) : ∃ m, k = m + 1 := ⟨k - 1, by omega⟩
theorem sameInts_l0 (xs ys : List Int) (hl : xs.length = ys.length) (hn : xs.length < 4611686018427387904) : ∀ d k i : Nat, i + d = xs.length → d < k → laws_sameInts.l0 k xs ys (i : Int) = some (decide (xs.drop i = ys.drop i)) := by
  intro d
  induction d with
  | zero =>
    intro k i h hk; obtain ⟨k, rfl⟩ := pos (show 0 < k by omega)
    simp only [laws_sameInts.l0]; rw [if_neg (by omega), List.drop_eq_nil_of_le (by omega), List.drop_eq_nil_of_le (by omega)]; simp
  | succ d ih =>
    intro k i h hk; obtain ⟨k, rfl⟩ := pos (show 0 < k by omega)
    have hi : i < xs.length := by omega
    simp only [laws_sameInts.l0]; rw [if_pos (by omega), if_pos (by omega), if_pos (by omega), drop_rd hi, drop_rd (show i < ys.length by omega)]
    by_cases e : rd xs (i : Int) = rd ys (i : Int)
    · rw [if_pos e, w1 (by omega), ih k (i + 1) (by omega) (by omega), e]; congr 1; rw [decide_eq_decide]; simp
    · rw [if_neg e]; congr 1; exact (decide_eq_false (fun h => e (List.cons.inj h).1)).symm
theorem sameInts_eq (xs ys : List Int) (k : Nat) (hn : xs.length < 4194000) (hk : Big ≤ k) : laws_sameInts.f k xs ys = some (decide (xs = ys)) := by
  have := big_eq; unfold laws_sameInts.f
  by_cases hl : xs.length = ys.length
  · rw [if_pos (by omega)]; exact sameInts_l0 xs ys hl (by omega) xs.length k 0 (by omega) (by omega)
  · rw [if_neg (by omega)]; congr 1; exact (decide_eq_false (fun h => hl (congrArg _ h))).symm
/-- m, m + 1, .. -/
def marks (m : Int) : Nat → List Int
  | 0 => []
  | n + 1 => m :: marks (m + 1) n
theorem marks_length (n : Nat) : ∀ m, (marks m n).length = n := by
  induction n with
  | zero => intro m; rfl
  | succ n ih => intro m; simp [marks, ih]
end Go.Proofs.Ythncmojfpdojoaa.L
