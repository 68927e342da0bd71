/- FormatInt: what the printed functions come to. -/
import Derived.Test.YthncmojfpdojoaaDoorPVParseFamilyx
import Derived.Test.YthncmojfpdojoaaDoorBits
import Derived.Test.YthncmojfpdojoaaDoorVParseFamilyNum
namespace Go.Proofs.YthncmojfpdojoaaDoor.F
open Go.RowKit Go.Proofs.YthncmojfpdojoaaDoorW.PrintWords Go.Proofs.YthncmojfpdojoaaDoorW.PrintMore Go.Proofs.YthncmojfpdojoaaDoor.P Go.Proofs.YthncmojfpdojoaaDoor.B Go.Proofs.YthncmojfpdojoaaDoor.Dg
theorem ap (a b : List UInt8) : (⟨a.toArray⟩ : ByteArray) ++ ⟨b.toArray⟩ = ⟨(a ++ b).toArray⟩ := by
  apply ByteArray.ext; rw [ByteArray.data_append]; simp
theorem sz (a : List UInt8) : (⟨a.toArray⟩ : ByteArray).size = a.length := by simp [ByteArray.size]
theorem ls (x : ByteArray) : (⟨x.data.toList.toArray⟩ : ByteArray) = x := by cases x; simp
theorem tl (x : ByteArray) : x.toList = x.data.toList := ByteArray.toList_eq x
def dg (u : Nat) : List UInt8 := if u = 0 then [] else Lib.decDigits u
theorem dg_step {u : Nat} (h : u ≠ 0) : dg u = dg (u / 10) ++ [UInt8.ofNat (48 + u % 10)] := by
  unfold dg; rw [if_neg h]
  by_cases q : u < 10
  · rw [if_pos (by omega), dec_small q, Nat.mod_eq_of_lt q]; rfl
  · rw [if_neg (by omega), dec_big q]
theorem rem_div {x : Int} {u : Nat} (h : x.natAbs = u) : (0 ≤ x ∧ Int.tmod x 10 = ((u % 10 : Nat) : Int) ∧ Int.tdiv x 10 = ((u / 10 : Nat) : Int)) ∨ (x < 0 ∧ Int.tmod x 10 = -((u % 10 : Nat) : Int) ∧ Int.tdiv x 10 = -((u / 10 : Nat) : Int)) := by
  rcases Int.lt_or_le x 0 with q | q
  · obtain rfl : x = -(u : Int) := by omega
    exact .inr ⟨q, by rw [Int.neg_tmod, Int.ofNat_tmod]; rfl, by rw [Int.neg_tdiv, Int.ofNat_tdiv]; rfl⟩
  · obtain rfl : x = (u : Int) := by omega
    exact .inl ⟨q, by rw [Int.ofNat_tmod]; rfl, by rw [Int.ofNat_tdiv]; rfl⟩
end Go.Proofs.YthncmojfpdojoaaDoor.F
