/- What the printed loops over lists of whole numbers come to, and the small functions above them, as plain functions of lists. -/
import Derived.Test.YthncmojfpdojoaaDoorPVParseFamilyx
import Derived.Test.YthncmojfpdojoaaDoorVParseFamilySets
namespace Go.Proofs.YthncmojfpdojoaaDoor.L
open Go.RowKit Go.Proofs.YthncmojfpdojoaaDoorW.PrintWords Go.Proofs.YthncmojfpdojoaaDoorW.PrintMore Go.Proofs.YthncmojfpdojoaaDoor.P Go.Proofs.YthncmojfpdojoaaDoor.B
/-- How many rounds are enough for all that is done here. -/
def Big : Nat := 4194304
theorem big_eq : Big = 4194304 := rfl
theorem rd_nat (xs : List Int) (i : Nat) : rd xs (i : Int) = xs.getD i 0 := by simp [rd]
theorem drop_rd {xs : List Int} {i : Nat} (h : i < xs.length) : xs.drop i = rd xs (i : Int) :: xs.drop (i + 1) := by
  rw [rd_nat, List.drop_eq_getElem_cons h]; simp [List.getD, h]
theorem rd_mem {xs : List Int} {i : Nat} (h : i < xs.length) : rd xs (i : Int) ∈ xs := by
  rw [rd_nat]; simp [List.getD, h]
theorem w1 {i : Nat} (h : i < 4611686018427387904) : wrap64 ((i : Int) + 1) = ((i + 1 : Nat) : Int) := by
  rw [w64 _ (by omega) (by omega)]; rfl
theorem pos {k : Nat} (h : 0 < k) : ∃ m, k = m + 1 := ⟨k - 1, by omega⟩
theorem eqIntS_l0 (xs ys : List Int) (hl : xs.length = ys.length) (hn : xs.length < 4611686018427387904) : ∀ d k i : Nat, i + d = xs.length → d < k → laws_eqIntS.l0 k xs ys (i : Int) = some (decide (xs.drop i = ys.drop i)) := by
  intro d
  induction d with
  | zero =>
    intro k i h hk; obtain ⟨k, rfl⟩ := pos (show 0 < k by omega)
    simp only [laws_eqIntS.l0]; rw [if_neg (by omega), List.drop_eq_nil_of_le (by omega), List.drop_eq_nil_of_le (by omega)]; simp
  | succ d ih =>
    intro k i h hk; obtain ⟨k, rfl⟩ := pos (show 0 < k by omega)
    have hi : i < xs.length := by omega
    simp only [laws_eqIntS.l0]; rw [if_pos (by omega), if_pos (by omega), if_pos (by omega), drop_rd hi, drop_rd (show i < ys.length by omega)]
    by_cases e : rd xs (i : Int) = rd ys (i : Int)
    · rw [if_pos e, w1 (by omega), ih k (i + 1) (by omega) (by omega), e]; congr 1; rw [decide_eq_decide]; simp
    · rw [if_neg e]; congr 1; exact (decide_eq_false (fun h => e (List.cons.inj h).1)).symm
theorem eqIntS_eq (xs ys : List Int) (k : Nat) (hn : xs.length < 4194000) (hk : Big ≤ k) : laws_eqIntS.f k xs ys = some (decide (xs = ys)) := by
  have := big_eq; unfold laws_eqIntS.f
  by_cases hl : xs.length = ys.length
  · rw [if_pos (by omega)]; exact eqIntS_l0 xs ys hl (by omega) xs.length k 0 (by omega) (by omega)
  · rw [if_neg (by omega)]; congr 1; exact (decide_eq_false (fun h => hl (congrArg _ h))).symm
/-- m, m + 1, .. -/
def marks (m : Int) : Nat → List Int
  | 0 => []
  | n + 1 => m :: marks (m + 1) n
theorem marks_length (n : Nat) : ∀ m, (marks m n).length = n := by
  induction n with
  | zero => intro m; rfl
  | succ n ih => intro m; simp [marks, ih]
theorem markIntS_l0 : ∀ d k i : Nat, ∀ xs pre : List Int, ∀ m : Int, xs.length = i + d → xs.take i = pre → pre.length = i → d < k → 0 ≤ m → m + d < 4611686018427387904 → xs.length < 4611686018427387904 → laws_markIntS.l0 k xs m (i : Int) = some (m + d, pre ++ marks m d) := by
  intro d
  induction d with
  | zero =>
    intro k i xs pre m h hp hpl hk h0 hm hx; obtain ⟨k, rfl⟩ := pos (show 0 < k by omega)
    simp only [laws_markIntS.l0]; rw [if_neg (by omega)]
    rw [List.take_of_length_le (by omega)] at hp; subst hp; simp [marks]
  | succ d ih =>
    intro k i xs pre m h hp hpl hk h0 hm hx; obtain ⟨k, rfl⟩ := pos (show 0 < k by omega)
    simp only [laws_markIntS.l0]; rw [if_pos (by omega), if_pos (by omega), w1 (by omega), w64 (m + 1) (by omega) (by omega), Int.toNat_natCast]
    have hi : i < xs.length := by omega
    rw [ih k (i + 1) (xs.set i m) (pre ++ [m]) (m + 1) (by rw [List.length_set]; omega) ?_ (by simp [hpl]) (by omega) (by omega) (by omega) (by rw [List.length_set]; omega)]
    · simp [marks]; omega
    · rw [← hp, List.set_eq_take_append_cons_drop, if_pos hi, List.take_append, List.take_take, List.length_take]
      have e1 : i + 1 - min i xs.length = 1 := by omega
      rw [e1, Nat.min_eq_right (by omega)]; simp
theorem markIntS_eq (xs : List Int) (m : Int) (k : Nat) (hn : xs.length < 4194000) (hk : Big ≤ k) (h0 : 0 ≤ m) (hm : m < 4194304000) : laws_markIntS.f k xs m = some (m + xs.length, marks m xs.length) := by
  have := big_eq; unfold laws_markIntS.f
  have := markIntS_l0 xs.length k 0 xs [] m (by omega) rfl rfl (by omega) h0 (by omega) (by omega)
  exact this
theorem heldIntS_l0 : ∀ d k i : Nat, ∀ xs : List Int, ∀ m : Int, xs.length = i + d → xs.drop i = marks m d → d < k → 0 ≤ m → m + d < 4611686018427387904 → xs.length < 4611686018427387904 → laws_heldIntS.l0 k xs m (i : Int) = some (m + d) := by
  intro d
  induction d with
  | zero =>
    intro k i xs m h hp hk h0 hm hx; obtain ⟨k, rfl⟩ := pos (show 0 < k by omega)
    simp only [laws_heldIntS.l0]; rw [if_neg (by omega)]; simp
  | succ d ih =>
    intro k i xs m h hp hk h0 hm hx; obtain ⟨k, rfl⟩ := pos (show 0 < k by omega)
    have hi : i < xs.length := by omega
    rw [drop_rd hi] at hp
    simp only [marks] at hp
    obtain ⟨e1, e2⟩ := List.cons.inj hp
    simp only [laws_heldIntS.l0]; rw [if_pos (by omega), if_pos (by omega), if_pos e1, w1 (by omega), w64 (m + 1) (by omega) (by omega), ih k (i + 1) xs (m + 1) (by omega) e2 (by omega) (by omega) (by omega) hx]
    congr 1; omega
theorem heldIntS_eq (n : Nat) (m : Int) (k : Nat) (hn : n < 4194000) (hk : Big ≤ k) (h0 : 0 ≤ m) (hm : m < 4194304000) : laws_heldIntS.f k (marks m n) m = some (m + n) := by
  have := big_eq; unfold laws_heldIntS.f
  exact heldIntS_l0 n k 0 (marks m n) m (by rw [marks_length]; omega) rfl (by omega) h0 (by omega) (by rw [marks_length]; omega)
end Go.Proofs.YthncmojfpdojoaaDoor.L
