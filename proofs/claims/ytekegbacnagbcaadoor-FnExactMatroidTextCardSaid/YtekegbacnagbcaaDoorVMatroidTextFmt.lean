/- FormatInt: what the printed functions come to. -/
import Derived.Test.YtekegbacnagbcaaDoorPVMatroidTextx
import Derived.Test.YtekegbacnagbcaaDoorBits
import Derived.Test.YtekegbacnagbcaaDoorVMatroidTextNum
namespace Go.Proofs.YtekegbacnagbcaaDoor.F
open Go.RowKit Go.Proofs.YtekegbacnagbcaaDoorW.PrintWords Go.Proofs.YtekegbacnagbcaaDoorW.PrintMore Go.Proofs.YtekegbacnagbcaaDoor.P Go.Proofs.YtekegbacnagbcaaDoor.B Go.Proofs.YtekegbacnagbcaaDoor.Dg
theorem ap (a b : List UInt8) : (⟨a.toArray⟩ : ByteArray) ++ ⟨b.toArray⟩ = ⟨(a ++ b).toArray⟩ := by
  apply ByteArray.ext; rw [ByteArray.data_append]; simp
theorem sz (a : List UInt8) : (⟨a.toArray⟩ : ByteArray).size = a.length := by simp [ByteArray.size]
theorem ls (x : ByteArray) : (⟨x.data.toList.toArray⟩ : ByteArray) = x := by cases x; simp
theorem tl (x : ByteArray) : x.toList = x.data.toList := ByteArray.toList_eq x
def dg (u : Nat) : List UInt8 := if u = 0 then [] else Lib.decDigits u
theorem dg_step {u : Nat} (h : u ≠ 0) : dg u = dg (u / 10) ++ [UInt8.ofNat (48 + u % 10)] := by
  unfold dg; rw [if_neg h]
  by_cases q : u < 10
  · rw [if_pos (by omega), dec_small q, Nat.mod_eq_of_lt q]; rfl
  · rw [if_neg (by omega), dec_big q]
theorem rem_div {x : Int} {u : Nat} (h : x.natAbs = u) : (0 ≤ x ∧ Int.tmod x 10 = ((u % 10 : Nat) : Int) ∧ Int.tdiv x 10 = ((u / 10 : Nat) : Int)) ∨ (x < 0 ∧ Int.tmod x 10 = -((u % 10 : Nat) : Int) ∧ Int.tdiv x 10 = -((u / 10 : Nat) : Int)) := by
  rcases Int.lt_or_le x 0 with q | q
  · obtain rfl : x = -(u : Int) := by omega
    exact .inr ⟨q, by rw [Int.neg_tmod, Int.ofNat_tmod]; rfl, by rw [Int.neg_tdiv, Int.ofNat_tdiv]; rfl⟩
  · obtain rfl : x = (u : Int) := by omega
    exact .inl ⟨q, by rw [Int.ofNat_tmod]; rfl, by rw [Int.ofNat_tdiv]; rfl⟩
theorem FormatInt_l0 (b : Bool) : ∀ d k u : Nat, ∀ x : Int, ∀ acc : List UInt8, x.natAbs = u → u < 10 ^ d → u < 9223372036854775809 → d < k → acc.length + d ≤ 100 →
    spec_FormatInt.l0 k x b ⟨acc.toArray⟩ = some ⟨((if b = true then [45] else []) ++ (dg u ++ acc)).toArray⟩ := by
  intro d
  induction d with
  | zero =>
    intro k u x acc hx hu hb hk hl; obtain ⟨k, rfl⟩ : ∃ q, k = q + 1 := ⟨k - 1, by omega⟩
    simp only [spec_FormatInt.l0]
    obtain rfl : u = 0 := by simpa using hu
    rw [if_pos (by omega), sz]
    cases b with
    | true => rw [if_pos rfl, if_pos (by omega), ap [45] acc]; rfl
    | false => rw [if_neg (by simp)]; rfl
  | succ d ih =>
    intro k u x acc hx hu hb hk hl; obtain ⟨k, rfl⟩ : ∃ q, k = q + 1 := ⟨k - 1, by omega⟩
    by_cases h0 : u = 0
    · simp only [spec_FormatInt.l0]
      subst h0
      rw [if_pos (by omega), sz]
      cases b with
      | true => rw [if_pos rfl, if_pos (by omega), ap [45] acc]; rfl
      | false => rw [if_neg (by simp)]; rfl
    · have hd : u / 10 < 10 ^ d := by rw [Nat.pow_succ] at hu; omega
      have key : ∀ q : Int, q.natAbs = u / 10 → ((some ([((48 : Int) + ((u % 10 : Nat) : Int)) % 256] : List Int)).bind fun y101 => (if (strOfNums y101).size + (⟨acc.toArray⟩ : ByteArray).size ≤ 9223372036854775807 then (spec_FormatInt.l0 k q b ((strOfNums y101) ++ ⟨acc.toArray⟩)) else (none))) = some ⟨((if b = true then [45] else []) ++ (dg u ++ acc)).toArray⟩ := by
        intro q hq
        have e : strOfNums [((48 : Int) + ((u % 10 : Nat) : Int)) % 256] = ⟨[UInt8.ofNat (48 + u % 10)].toArray⟩ := by
          rw [show ((48 : Int) + ((u % 10 : Nat) : Int)) % 256 = ((48 + u % 10 : Nat) : Int) by omega]; rfl
        simp only [Option.bind_some]; rw [e, sz, sz, if_pos (by simp; omega), ap, ih k (u / 10) q _ hq hd (by omega) (by omega) (by simp; omega), dg_step h0]; simp
      simp only [spec_FormatInt.l0]; rw [if_neg (by omega)]
      rcases rem_div hx with ⟨g, e1, e2⟩ | ⟨g, e1, e2⟩
      · rw [e1, e2, if_neg (by omega), w64 _ (by omega) (by omega), w64 _ (by omega) (by omega)]
        exact key _ (by omega)
      · rw [e1, e2]
        by_cases z : u % 10 = 0
        · rw [z, if_neg (by omega), w64 _ (by omega) (by omega), w64 _ (by omega) (by omega)]
          have := key (-((u / 10 : Nat) : Int)) (by omega)
          rw [z] at this; exact this
        · rw [if_pos (by omega), w64 (-(-((u % 10 : Nat) : Int))) (by omega) (by omega), w64 _ (by omega) (by omega), w64 _ (by omega) (by omega), Int.neg_neg]
          exact key _ (by omega)
theorem FormatInt_spec (x : Int) (h0 : -9223372036854775808 ≤ x) (h1 : x ≤ 9223372036854775807) (k : Nat) (hk : 20 < k) : spec_FormatInt.f k x = some ⟨(Lib.itoa x).toArray⟩ := by
  unfold spec_FormatInt.f
  by_cases h : x = 0
  · rw [if_pos h, h]; decide +kernel
  · rw [if_neg h]
    have := FormatInt_l0 (decide (x < 0)) 20 k x.natAbs x [] rfl (by omega) (by omega) hk (by simp)
    rw [show (⟨#[]⟩ : ByteArray) = ⟨([] : List UInt8).toArray⟩ from rfl, this]
    unfold Lib.itoa dg
    rw [if_neg (show ¬ x.natAbs = 0 by omega)]
    by_cases g : x < 0
    · rw [if_pos g, if_pos (decide_eq_true g)]; simp
    · rw [if_neg g, if_neg (by simp [g]), show x.toNat = x.natAbs by omega]; simp
theorem FormatInt_impl (x : Int) (h0 : -9223372036854775808 ≤ x) (h1 : x ≤ 9223372036854775807) : impl_FormatInt.f x = some ⟨(Lib.itoa x).toArray⟩ := by
  unfold impl_FormatInt.f strconv_Itoa.f; rw [if_pos ⟨h0, h1⟩]; rfl
end Go.Proofs.YtekegbacnagbcaaDoor.F
