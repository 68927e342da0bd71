/- Cutting a list of bytes at a byte. Plain Lean over the library's own words; no program. -/
import Derived.Lib.SplitLaws
import Derived.Lib.Join
namespace Go.Proofs.YthncmojfpdojoaaDoor.Sp
open Go Go.Lib
def consH (b : UInt8) : List (List UInt8) → List (List UInt8)
  | [] => [[b]]
  | h :: t => (b :: h) :: t
/-- The pieces of a list between the places where c stands. -/
def splitL (c : UInt8) : List UInt8 → List (List UInt8)
  | [] => [[]]
  | b :: l => if b = c then [] :: splitL c l else consH b (splitL c l)
theorem split_L (c : UInt8) : ∀ s : List UInt8, splitK [c] 0 (count s [c]) s = splitL c s := by
  intro s
  induction s with
  | nil => rw [count_miss (by simp [index])]; rfl
  | cons b l ih =>
    simp only [splitL]
    by_cases h : b = c
    · subst h
      have hix : index (b :: l) [b] = 0 := by rw [index]; simp [List.isPrefixOf]
      rw [if_pos rfl, count_cons_eq, Nat.add_comm, splitK, hix, if_neg (by decide), ← ih]; rfl
    · have hp : ([c] : List UInt8).isPrefixOf (b :: l) = false := by simp [List.isPrefixOf, Ne.symm h]
      have hix : index (b :: l) [c] = if index l [c] == -1 then -1 else index l [c] + 1 := by rw [index, hp]; simp
      rw [if_neg h, count_cons_ne b c l h, ← ih]
      by_cases hm : index l [c] = -1
      · rw [count_miss hm]; rfl
      · have hge := index_ge l [c]
        obtain ⟨j, hj⟩ : ∃ j : Nat, index l [c] = j := ⟨(index l [c]).toNat, by omega⟩
        have hj1 : index (b :: l) [c] = ((j + 1 : Nat) : Int) := by rw [hix, if_neg (fun e => hm (beq_iff_eq.1 e)), hj]; omega
        rw [count_hit (by simp) hj, Nat.add_comm]
        simp only [splitK]
        rw [hj, hj1, if_neg (by simp <;> omega), if_neg (by simp <;> omega)]
        simp [consH]
theorem splitL_ne (c : UInt8) : ∀ s, splitL c s ≠ [] := by
  intro s
  cases s with
  | nil => simp [splitL]
  | cons b l =>
    simp only [splitL]; split
    · simp
    · cases splitL c l <;> simp [consH]
/-- No piece holds the byte. -/
theorem splitL_free (c : UInt8) : ∀ s, ∀ p ∈ splitL c s, c ∉ p := by
  intro s
  induction s with
  | nil => intro p hp; simp only [splitL, List.mem_singleton] at hp; subst hp; simp
  | cons b l ih =>
    intro p hp
    simp only [splitL] at hp
    by_cases h : b = c
    · rw [if_pos h, List.mem_cons] at hp
      rcases hp with rfl | hp
      · simp
      · exact ih p hp
    · rw [if_neg h] at hp
      cases hq : splitL c l with
      | nil => exact absurd hq (splitL_ne c l)
      | cons x t =>
        rw [hq] at hp ih
        simp only [consH, List.mem_cons] at hp
        rcases hp with rfl | hp
        · intro q
          rcases List.mem_cons.mp q with q | q
          · exact h q.symm
          · exact ih x List.mem_cons_self q
        · exact ih p (List.mem_cons_of_mem _ hp)
/-- A list without the byte is one piece. -/
theorem splitL_one (c : UInt8) : ∀ s, c ∉ s → splitL c s = [s] := by
  intro s
  induction s with
  | nil => intro _; rfl
  | cons b l ih =>
    intro h
    simp only [splitL]
    rw [if_neg (fun (e : b = c) => h (e ▸ List.mem_cons_self)), ih (fun q => h (List.mem_cons_of_mem _ q))]; rfl
/-- Joined, the pieces are the list again. -/
theorem join_splitL (c : UInt8) : ∀ s, join (splitL c s) [c] = s := by
  intro s
  induction s with
  | nil => rfl
  | cons b l ih =>
    simp only [splitL]
    cases hq : splitL c l with
    | nil => exact absurd hq (splitL_ne c l)
    | cons x t =>
      rw [hq, join_cons] at ih
      by_cases h : b = c
      · rw [if_pos h, join_cons]; subst h; simp only [joinTail, List.map_cons, List.flatten_cons, List.nil_append] at ih ⊢; rw [List.append_assoc, ih]; rfl
      · rw [if_neg h]; simp only [consH]; rw [join_cons]; simp only [List.cons_append]; rw [ih]
end Go.Proofs.YthncmojfpdojoaaDoor.Sp
