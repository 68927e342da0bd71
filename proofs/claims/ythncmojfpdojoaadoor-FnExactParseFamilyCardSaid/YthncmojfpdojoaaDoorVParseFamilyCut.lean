/- Strings cut at a byte, and the marks written into lists of strings: what the printed functions come to. -/
import Derived.Test.YthncmojfpdojoaaDoorVParseFamilyFmt
import Derived.Test.YthncmojfpdojoaaDoorVParseFamilyJoin
import Derived.Test.YthncmojfpdojoaaDoorVParseFamilySplit
namespace Go.Proofs.YthncmojfpdojoaaDoor.F
open Go.RowKit Go.Proofs.YthncmojfpdojoaaDoorW.PrintWords Go.Proofs.YthncmojfpdojoaaDoorW.PrintMore Go.Proofs.YthncmojfpdojoaaDoor.P Go.Proofs.YthncmojfpdojoaaDoor.B Go.Proofs.YthncmojfpdojoaaDoor.Dg Go.Proofs.YthncmojfpdojoaaDoor.L Go.Proofs.YthncmojfpdojoaaDoor.Sp
def mkB (l : List UInt8) : ByteArray := ⟨l.toArray⟩
theorem mkB_data (l : List UInt8) : (mkB l).data.toList = l := by simp [mkB]
theorem mkB_of (x : ByteArray) : mkB x.data.toList = x := ls x
theorem cut_get (x : ByteArray) (i : Nat) (h : i < x.data.toList.length) : bt x (i : Int) = ((x.data.toList[i]).toNat : Int) := by
  have hz : i < x.size := by rw [Lib.size_eq]; exact h
  unfold bt; rw [Int.toNat_natCast, dif_pos hz]; simp; rfl
def addH (cur : List UInt8) : List (List UInt8) → List (List UInt8)
  | [] => [cur]
  | h :: t => (cur ++ h) :: t
theorem addH_nil (c : UInt8) (s : List UInt8) : addH [] (splitL c s) = splitL c s := by
  cases h : splitL c s with
  | nil => exact absurd h (splitL_ne c s)
  | cons x t => rfl
theorem addH_consH (cur : List UInt8) (b : UInt8) (l : List (List UInt8)) : addH cur (consH b l) = addH (cur ++ [b]) l := by
  cases l with
  | nil => rfl
  | cons x t => simp [addH, consH]
/-- The pieces of a string between the places where the byte stands. -/
def cutB (a : ByteArray) (c : UInt8) : List ByteArray := (splitL c a.data.toList).map mkB
theorem splitL_len (c : UInt8) : ∀ s, (splitL c s).length ≤ s.length + 1
  | [] => by simp [splitL]
  | b :: l => by
    have := splitL_len c l
    simp only [splitL]; split
    · simp; omega
    · cases h : splitL c l with
      | nil => simp [consH]
      | cons x t => rw [h] at this; simp [consH] at this ⊢; omega
theorem cutB_len (a : ByteArray) (c : UInt8) : (cutB a c).length ≤ a.size + 1 := by
  unfold cutB; rw [List.length_map, Lib.size_eq]; exact splitL_len c _
theorem byte_one {x : Int} (h0 : 0 ≤ x) (h1 : x ≤ 255) : strOfNums [x] = mkB [UInt8.ofNat x.toNat] := by
  have : x.toNat % 256 = x.toNat := by omega
  rfl
theorem map_mkB (l : List ByteArray) : (l.map (·.data.toList)).map mkB = l := by
  rw [List.map_map]; conv => rhs; rw [← List.map_id l]
  exact List.map_congr_left fun x _ => mkB_of x
theorem cut_join (a : ByteArray) (c : UInt8) : Lib.join ((cutB a c).map (·.data.toList)) [c] = a.data.toList := by
  unfold cutB; rw [List.map_map]
  have : ((fun x : ByteArray => x.data.toList) ∘ mkB) = id := funext fun l => mkB_data l
  rw [this, List.map_id]; exact join_splitL c _
theorem cut_one {a p : ByteArray} {c : UInt8} (h : p ∈ cutB a c) : (cutB p c).length = 1 := by
  unfold cutB at h
  obtain ⟨l, hl, rfl⟩ := List.mem_map.mp h
  unfold cutB; rw [mkB_data, splitL_one c l (splitL_free c _ l hl)]; rfl
theorem cut_size {a p : ByteArray} {c : UInt8} (h : p ∈ cutB a c) : p.size ≤ a.size := by
  have : ∀ s : List UInt8, ∀ l ∈ splitL c s, l.length ≤ s.length := by
    intro s
    induction s with
    | nil => intro l hl; simp only [splitL, List.mem_singleton] at hl; subst hl; simp
    | cons b s ih =>
      intro l hl
      simp only [splitL] at hl
      split at hl
      · rcases List.mem_cons.mp hl with rfl | hl
        · simp
        · have := ih l hl; simp; omega
      · cases hq : splitL c s with
        | nil => rw [hq] at hl; simp only [consH, List.mem_singleton] at hl; subst hl; simp
        | cons x t =>
          rw [hq] at hl ih
          simp only [consH, List.mem_cons] at hl
          rcases hl with rfl | hl
          · have := ih x List.mem_cons_self; simp; omega
          · have := ih l (List.mem_cons_of_mem _ hl); simp; omega
  unfold cutB at h
  obtain ⟨l, hl, rfl⟩ := List.mem_map.mp h
  rw [Lib.size_eq, mkB_data, Lib.size_eq a]; exact this _ l hl
/-- Pieces without the byte, joined by it, are cut into themselves. -/
theorem split_addH (c : UInt8) : ∀ x r : List UInt8, c ∉ x → splitL c (x ++ r) = addH x (splitL c r)
  | [], r, _ => (addH_nil c r).symm
  | b :: x, r, h => by
    have hb : ¬ b = c := fun e => h (e ▸ List.mem_cons_self)
    rw [List.cons_append]; simp only [splitL]
    rw [if_neg hb, split_addH c x r (fun q => h (List.mem_cons_of_mem _ q))]
    cases splitL c r with
    | nil => rfl
    | cons y t => rfl
theorem split_tail (c : UInt8) : ∀ (r : List (List UInt8)) (x : List UInt8), c ∉ x → (∀ p ∈ r, c ∉ p) → splitL c (x ++ Lib.joinTail [c] r) = x :: r
  | [], x, hx, _ => by
    have : Lib.joinTail [c] ([] : List (List UInt8)) = [] := rfl
    rw [this, List.append_nil]; exact splitL_one c x hx
  | y :: r, x, hx, hr => by
    rw [tail_cons, split_addH c x _ hx, List.append_assoc, List.singleton_append]
    simp only [splitL, if_true]
    rw [split_tail c r y (hr y List.mem_cons_self) (fun p hp => hr p (List.mem_cons_of_mem _ hp))]
    simp [addH]
theorem split_join (c : UInt8) (x : List UInt8) (r : List (List UInt8)) (h : ∀ p ∈ x :: r, c ∉ p) : splitL c (Lib.join (x :: r) [c]) = x :: r := by
  rw [Lib.join_cons]; exact split_tail c r x (h x List.mem_cons_self) (fun p hp => h p (List.mem_cons_of_mem _ hp))
theorem SplitByte_impl (a : ByteArray) (by_ : Int) (ha : a.size ≤ 4194304) (h0 : 0 ≤ by_) (h1 : by_ ≤ 255) : impl_SplitByte.f a by_ = some (cutB a (UInt8.ofNat by_.toNat)) := by
  unfold impl_SplitByte.f strings_Split.f
  rw [byte_one h0 h1, if_pos ⟨by omega, by rw [Lib.size_eq, mkB_data]; simp⟩]; simp only [Option.bind_some]
  congr 1
  rw [← map_mkB (Lib.splitB _ _ _ _), Lib.splitB_data, mkB_data]
  have e : Lib.countB a (mkB [UInt8.ofNat by_.toNat]) = Lib.count a.data.toList [UInt8.ofNat by_.toNat] := by unfold Lib.countB; rw [mkB_data]
  rw [e, split_L]; rfl
theorem SplitByte_l0 (a : ByteArray) (ha : a.size ≤ 4194304) (by_ : Int) (h0 : 0 ≤ by_) (h1 : by_ ≤ 255) : ∀ d k i from_ : Nat, ∀ out : List ByteArray, i + d = a.size → from_ ≤ i → out.length ≤ i → d + 1 < k →
    spec_SplitByte.l0 k a by_ out (from_ : Int) (i : Int) = some (out ++ (addH ((a.data.toList.drop from_).take (i - from_)) (splitL (UInt8.ofNat by_.toNat) (a.data.toList.drop i))).map mkB) := by
  have hz := Lib.size_eq a
  have ex : ∀ x y : Nat, a.extract x y = mkB ((a.data.toList.drop x).take (y - x)) := fun x y => by rw [← mkB_of (a.extract x y), Lib.extract_data]
  intro d
  induction d with
  | zero =>
    intro k i from_ out hi hf ho hk; obtain ⟨k, rfl⟩ : ∃ q, k = q + 2 := ⟨k - 2, by omega⟩
    simp only [spec_SplitByte.l0]
    rw [if_pos (by omega), if_pos (by omega), if_pos (by omega), if_pos (by omega), if_pos (by omega), w64 ((i : Int) + 1) (by omega) (by omega), if_neg (by omega), Int.toNat_natCast, Int.toNat_natCast, ex, List.drop_eq_nil_of_le (show a.data.toList.length ≤ i by omega)]
    simp [splitL, addH]
  | succ d ih =>
    intro k i from_ out hi hf ho hk; obtain ⟨k, rfl⟩ : ∃ q, k = q + 1 := ⟨k - 1, by omega⟩
    have hj : i < a.data.toList.length := by omega
    have hc : (a.data.toList[i]).toNat < 256 := UInt8.toNat_lt _
    have w : wrap64 ((i : Int) + 1) = ((i + 1 : Nat) : Int) := by rw [w64 _ (by omega) (by omega)]; omega
    simp only [spec_SplitByte.l0]
    rw [if_pos (by omega), if_neg (by omega), if_pos (by omega), if_pos (by omega), cut_get a i hj, w]
    rw [List.drop_eq_getElem_cons hj]
    simp only [splitL]
    by_cases q : (((a.data.toList[i]).toNat : Nat) : Int) = by_
    · have e : a.data.toList[i] = UInt8.ofNat by_.toNat := by
        apply UInt8.toNat_inj.1; rw [UInt8.toNat_ofNat']; omega
      rw [if_pos q, if_pos (by omega), if_pos (by omega), if_pos (by omega), if_pos e, Int.toNat_natCast, Int.toNat_natCast, ex, ih k (i + 1) (i + 1) _ (by omega) (Nat.le_refl _) (by rw [List.length_append, List.length_singleton]; omega) (by omega)]
      rw [Nat.sub_self, List.take_zero, addH_nil]
      simp [addH]
    · have e : ¬ a.data.toList[i] = UInt8.ofNat by_.toNat := fun e => q (by rw [e, UInt8.toNat_ofNat']; omega)
      rw [if_neg q, if_neg e, ih k (i + 1) from_ out (by omega) (by omega) (by omega) (by omega), addH_consH]
      congr 5
      rw [show i + 1 - from_ = (i - from_) + 1 by omega, List.take_add_one, List.getElem?_drop, show from_ + (i - from_) = i by omega, List.getElem?_eq_getElem hj]; rfl
theorem SplitByte_spec (a : ByteArray) (ha : a.size ≤ 4194304) (by_ : Int) (h0 : 0 ≤ by_) (h1 : by_ ≤ 255) (k : Nat) (hk : a.size + 1 < k) : spec_SplitByte.f k a by_ = some (cutB a (UInt8.ofNat by_.toNat)) := by
  unfold spec_SplitByte.f
  have := SplitByte_l0 a ha by_ h0 h1 a.size k 0 0 [] (by omega) (by omega) (by simp) hk
  rw [show ((0 : Nat) : Int) = 0 from rfl] at this
  rw [this, Nat.sub_self, List.take_zero, List.drop_zero, addH_nil]; rfl
end Go.Proofs.YthncmojfpdojoaaDoor.F
