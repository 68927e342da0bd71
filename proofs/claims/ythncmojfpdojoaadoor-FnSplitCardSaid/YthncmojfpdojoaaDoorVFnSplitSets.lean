/- What the small functions on sets of elements come to: the printed functions as plain functions of whole numbers. -/
import Derived.Test.YthncmojfpdojoaaDoorPVFnSplitx
import Derived.Test.YthncmojfpdojoaaDoorBits
namespace Go.Proofs.YthncmojfpdojoaaDoor.L
open Go.RowKit Go.Proofs.YthncmojfpdojoaaDoorW.PrintWords Go.Proofs.YthncmojfpdojoaaDoorW.PrintMore Go.Proofs.YthncmojfpdojoaaDoor.P Go.Proofs.YthncmojfpdojoaaDoor.B
theorem bnd {a : Int} (h : (Lit.int .i64 a).wf = true) : -9223372036854775808 ≤ a ∧ a < 9223372036854775808 := by
  simp only [Lit.wf, IntKind.min, IntKind.max, IntKind.signed, IntKind.bits, Bool.and_eq_true, decide_eq_true_eq] at h
  simp at h; omega
def any (s : Int) : Bool := decide (0 ≤ s ∧ s < 256)
def isSet (n s : Int) : Bool := decide (0 ≤ n ∧ n ≤ 8 ∧ 0 ≤ s ∧ s < 2 ^ n.toNat)
def hasE (s e : Int) : Bool := decide (0 ≤ s ∧ s < 256 ∧ 0 ≤ e ∧ e < 8) && s.toNat.testBit e.toNat
def fullSet (n : Int) : Int := if 0 ≤ n ∧ n ≤ 8 then 2 ^ n.toNat - 1 else 0
def withE (s e : Int) : Int := if 0 ≤ s ∧ s < 256 ∧ 0 ≤ e ∧ e < 8 then ((Mt.ins s.toNat e.toNat : Nat) : Int) else s
def woE (s e : Int) : Int := if 0 ≤ s ∧ s < 256 ∧ 0 ≤ e ∧ e < 8 then ((Mt.del s.toNat e.toNat : Nat) : Int) else s
def subB (s t : Int) : Bool := decide (0 ≤ s ∧ s < 256 ∧ 0 ≤ t ∧ t < 256) && (s.toNat &&& t.toNat == s.toNat)
theorem pow_cast (m : Nat) : (2 : Int) ^ m = ((2 ^ m : Nat) : Int) := by norm_cast
theorem pow_le8 {m : Nat} (h : m ≤ 8) : 0 < 2 ^ m ∧ 2 ^ m ≤ 256 := by
  have := Nat.pow_le_pow_right (show 0 < 2 by decide) h; exact ⟨Nat.two_pow_pos m, by omega⟩
theorem nat_of {s : Int} (h : 0 ≤ s) : ∃ n : Nat, s = n := ⟨s.toNat, by omega⟩
theorem isSet_8 (s : Int) : isSet 8 s = any s := by unfold isSet any; rw [decide_eq_decide]; simp
theorem pow_small {y : Nat} (h : y < 8) : 2 ^ y < 9223372036854775808 := by have := pow_le8 (Nat.le_of_lt h); omega
theorem diff_zero (x y : Nat) : Mt.diff x y = 0 ↔ x &&& y = x := by
  constructor
  · intro h; refine Mt.ext fun i => ?_
    rw [Mt.in_and]; refine ⟨fun k => k.1, fun k => ⟨k, Classical.byContradiction fun hn => ?_⟩⟩
    have : Mt.In i (Mt.diff x y) := (Mt.in_diff x y i).mpr ⟨k, hn⟩
    rw [h] at this; exact Mt.not_in_zero i this
  · intro h; refine Mt.ext fun i => ?_
    rw [Mt.in_diff]; refine ⟨fun k => ?_, fun k => absurd k (Mt.not_in_zero i)⟩
    rw [← h] at k; exact absurd ((Mt.in_and x y i).mp k.1).2 k.2
end Go.Proofs.YthncmojfpdojoaaDoor.L
