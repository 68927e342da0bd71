/- Decimal numerals and the numbers that they spell. Plain Lean over the library's own words (itoa, atoiAll); no program. -/
import Derived.Lib.ItoaNum
import Derived.Lib.AtoiAll
namespace Go.Proofs.YtekegbacnagbcaaDoor.Dg
open Go Go.Lib
theorem dig_nat {d : Nat} (h : d < 10) : (UInt8.ofNat (48 + d)).toNat = 48 + d := by
  rw [UInt8.toNat_ofNat']; omega
theorem dec_small {u : Nat} (h : u < 10) : decDigits u = [UInt8.ofNat (48 + u)] := by rw [decDigits, dif_pos h]
theorem dec_big {u : Nat} (h : ¬ u < 10) : decDigits u = decDigits (u / 10) ++ [UInt8.ofNat (48 + u % 10)] := by rw [decDigits, dif_neg h]
theorem parse_append : ∀ (a b : List UInt8) (acc : Nat), parseUint10 acc (a ++ b) = match parseUint10 acc a with
    | .ok v => parseUint10 v b
    | e => e
  | [], b, acc => rfl
  | c :: r, b, acc => by
    simp only [List.cons_append, parseUint10]
    split
    · split
      · rfl
      · split
        · rfl
        · exact parse_append r b _
    · rfl
theorem parse_dec : ∀ n u : Nat, u < n → u < 18446744073709551616 → parseUint10 0 (decDigits u) = .ok u := by
  intro n
  induction n with
  | zero => intro u h; omega
  | succ n ih =>
    intro u h hu
    by_cases h10 : u < 10
    · rw [dec_small h10]; simp only [parseUint10]
      rw [dig_nat h10, if_pos ⟨by omega, by omega⟩, if_neg (by omega), if_neg (by omega)]
      congr 1; omega
    · rw [dec_big h10, parse_append, ih (u / 10) (by omega) (by omega)]
      simp only [parseUint10]
      rw [dig_nat (show u % 10 < 10 by omega), if_pos ⟨by omega, by omega⟩, if_neg (by omega), if_neg (by omega)]
      congr 1; omega
theorem dec_ne : ∀ u, decDigits u ≠ [] := by
  intro u
  by_cases h : u < 10
  · rw [dec_small h]; simp
  · rw [dec_big h]; simp
/-- Every byte of a numeral is a digit. -/
theorem dec_digit : ∀ n u : Nat, u < n → ∀ c ∈ decDigits u, 48 ≤ c.toNat ∧ c.toNat ≤ 57 := by
  intro n
  induction n with
  | zero => intro u h; omega
  | succ n ih =>
    intro u h c hc
    by_cases h10 : u < 10
    · rw [dec_small h10, List.mem_singleton] at hc; subst hc; rw [dig_nat h10]; omega
    · rw [dec_big h10, List.mem_append, List.mem_singleton] at hc
      rcases hc with hc | rfl
      · exact ih (u / 10) (by omega) c hc
      · rw [dig_nat (by omega)]; omega
theorem mag_dec {u : Nat} (h : u < 18446744073709551616) : parseMag (decDigits u) = .ok u := by
  unfold parseMag; rw [if_neg (dec_ne u)]; exact parse_dec (u + 1) u (by omega) h
theorem dec_cons (u : Nat) : ∃ c r, decDigits u = c :: r ∧ 48 ≤ c.toNat ∧ c.toNat ≤ 57 := by
  cases h : decDigits u with
  | nil => exact absurd h (dec_ne u)
  | cons c r => exact ⟨c, r, rfl, dec_digit (u + 1) u (by omega) c (by rw [h]; exact List.mem_cons_self)⟩
/-- Reading a number's numeral gives the number back. -/
theorem atoi_itoa (n : Int) (h0 : -9223372036854775808 ≤ n) (h1 : n ≤ 9223372036854775807) : atoiAll (itoa n) = .ok n := by
  unfold itoa
  by_cases hn : n < 0
  · rw [if_pos hn]; unfold atoiAll
    simp only
    rw [if_pos (.inr (by decide)), mag_dec (by omega)]
    simp only
    rw [if_neg (fun q => q.1 (by decide)), if_neg (by omega), if_pos (by decide)]
    congr 1; omega
  · rw [if_neg hn]
    obtain ⟨c, r, e, h48, h57⟩ := dec_cons n.toNat
    have hm := mag_dec (u := n.toNat) (by omega)
    rw [e] at hm ⊢
    unfold atoiAll
    simp only
    rw [if_neg (by omega), hm]
    simp only
    rw [if_neg (by omega), if_neg (by omega), if_neg (by omega)]
    congr 1; omega
theorem itoa_inj {m n : Int} (h0 : -9223372036854775808 ≤ m) (h1 : m ≤ 9223372036854775807) (g0 : -9223372036854775808 ≤ n) (g1 : n ≤ 9223372036854775807) (h : itoa m = itoa n) : m = n := by
  have a := atoi_itoa m h0 h1; have b := atoi_itoa n g0 g1; rw [h, b] at a; cases a; rfl
/-- How many digits. -/
theorem dec_len : ∀ m u : Nat, (decDigits u).length ≤ m + 1 ↔ u < 10 ^ (m + 1) := by
  intro m
  induction m with
  | zero =>
    intro u
    by_cases h : u < 10
    · rw [dec_small h]; simp; omega
    · rw [dec_big h, List.length_append, List.length_singleton]
      have : 0 < (decDigits (u / 10)).length := List.length_pos_iff.mpr (dec_ne _)
      constructor
      · intro q; omega
      · intro q; omega
  | succ m ih =>
    intro u
    by_cases h : u < 10
    · rw [dec_small h]
      have : 10 ≤ 10 ^ (m + 1 + 1) := by rw [Nat.pow_succ]; have := Nat.pow_pos (n := m + 1) (show 0 < 10 by omega); omega
      simp; omega
    · rw [dec_big h, List.length_append, List.length_singleton]
      have e : 10 ^ (m + 1 + 1) = 10 ^ (m + 1) * 10 := Nat.pow_succ ..
      have := ih (u / 10)
      constructor
      · intro q; have := this.mp (by omega); omega
      · intro q; have := this.mpr (by omega); omega
end Go.Proofs.YtekegbacnagbcaaDoor.Dg
