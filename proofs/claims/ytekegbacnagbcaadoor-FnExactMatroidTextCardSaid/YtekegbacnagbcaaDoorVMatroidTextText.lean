/- The text of a set, and its reading: what the printed functions come to. -/
import Derived.Test.YtekegbacnagbcaaDoorVMatroidTextElems
import Derived.Laws.Strings
import Derived.Laws.BytesArg
namespace Go.Proofs.YtekegbacnagbcaaDoor.L
open Go.RowKit Go.Proofs.YtekegbacnagbcaaDoorW.PrintWords Go.Proofs.YtekegbacnagbcaaDoorW.PrintMore Go.Proofs.YtekegbacnagbcaaDoor.P Go.Proofs.YtekegbacnagbcaaDoor.B
/-- The letter of an element. -/
def tbyte (e : Int) : UInt8 := UInt8.ofNat (97 + e).toNat
/-- The bytes of a set's text. -/
def textL (s : Int) : List UInt8 := if any s = true then if s = 0 then [45] else (elems s).map tbyte else []
def textB (s : Int) : ByteArray := ⟨(textL s).toArray⟩
theorem textB_list (s : Int) : (textB s).toList = textL s := by unfold textB; rw [ByteArray.toList_mk]
theorem tbyte_nat {e : Int} (h0 : 0 ≤ e) (h1 : e < 8) : (tbyte e).toNat = 97 + e.toNat := by
  unfold tbyte; rw [UInt8.toNat_ofNat']; omega
theorem tbyte_cases {e : Int} (h0 : 0 ≤ e) (h1 : e < 8) : (⟨#[97, 98, 99, 100, 101, 102, 103, 104]⟩ : ByteArray).extract e.toNat (wrap64 (e + 1)).toNat = ⟨#[tbyte e]⟩ := by
  obtain rfl | rfl | rfl | rfl | rfl | rfl | rfl | rfl : e = 0 ∨ e = 1 ∨ e = 2 ∨ e = 3 ∨ e = 4 ∨ e = 5 ∨ e = 6 ∨ e = 7 := by omega
  all_goals decide +kernel
theorem mk_append (a b : List UInt8) : (⟨a.toArray⟩ : ByteArray) ++ ⟨b.toArray⟩ = ⟨(a ++ b).toArray⟩ := by
  apply ByteArray.ext; rw [ByteArray.data_append]; simp
theorem SetText_spec_l0 (es : List Int) (he : ∀ e ∈ es, 0 ≤ e ∧ e < 8) (hn : es.length ≤ 8) : ∀ d k i : Nat, ∀ acc : List UInt8, i + d = es.length → d < k → acc.length ≤ i → spec_SetText.l0 k ⟨acc.toArray⟩ es (i : Int) = some ⟨(acc ++ (es.drop i).map tbyte).toArray⟩ := by
  intro d
  induction d with
  | zero =>
    intro k i acc h hk hl; obtain ⟨k, rfl⟩ := pos (show 0 < k by omega)
    simp only [spec_SetText.l0]; rw [if_neg (by omega), List.drop_eq_nil_of_le (by omega)]; simp
  | succ d ih =>
    intro k i acc h hk hl; obtain ⟨k, rfl⟩ := pos (show 0 < k by omega)
    have hi : i < es.length := by omega
    have hr := he _ (rd_mem hi)
    simp only [spec_SetText.l0]; rw [tbyte_cases hr.1 hr.2, drop_rd hi, w64 (rd es (i : Int) + 1) (by omega) (by omega), if_pos (by omega), if_pos (by omega), if_pos (by omega), if_pos (by omega), if_pos (by omega)]
    have e1 : (⟨acc.toArray⟩ : ByteArray).size = acc.length := by simp [ByteArray.size]
    have e2 : (⟨#[tbyte (rd es (i : Int))]⟩ : ByteArray).size = 1 := rfl
    rw [if_pos (by rw [e1, e2]; omega), mk_append acc [tbyte (rd es (i : Int))], w1 (by omega), ih k (i + 1) _ (by omega) (by omega) (by rw [List.length_append, List.length_singleton]; omega)]; simp
theorem SetText_spec (s : Int) (k : Nat) (hk : 8 < k) : spec_SetText.f k s = some (textB s) := by
  unfold spec_SetText.f textB textL; rw [IsSet_spec, isSet_8]; simp only [Option.bind_some]
  by_cases h : any s = true
  · rw [if_pos h, if_pos h]
    by_cases h0 : s = 0
    · rw [if_pos h0, if_pos h0]
    · rw [if_neg h0, if_neg h0, ElementsOf_spec s k hk]; simp only [Option.bind_some]
      exact SetText_spec_l0 (elems s) (fun e he => elems_range he) (elems_length s) _ k 0 [] (Nat.zero_add _) (by have := elems_length s; omega) (by simp)
  · rw [if_neg h, if_neg h]
theorem SetText_impl_l0 (es : List Int) (he : ∀ e ∈ es, 0 ≤ e ∧ e < 8) (hn : es.length ≤ 8) : ∀ d k i : Nat, ∀ acc : List Int, i + d = es.length → d < k → acc.length ≤ i → impl_SetText.l0 k acc es (es.length : Int) (i : Int) = some (strOfNums (acc ++ (es.drop i).map fun e => 97 + e)) := by
  intro d
  induction d with
  | zero =>
    intro k i acc h hk hl; obtain ⟨k, rfl⟩ := pos (show 0 < k by omega)
    simp only [impl_SetText.l0]; rw [if_neg (by omega), List.drop_eq_nil_of_le (by omega)]; simp
  | succ d ih =>
    intro k i acc h hk hl; obtain ⟨k, rfl⟩ := pos (show 0 < k by omega)
    have hi : i < es.length := by omega
    have hr := he _ (rd_mem hi)
    simp only [impl_SetText.l0]; rw [drop_rd hi, if_pos (by omega), if_pos (by omega), if_pos (by omega), if_pos (by omega), w64 (97 + rd es (i : Int)) (by omega) (by omega), Int.emod_eq_of_lt (by omega) (by omega), w1 (by omega), ih k (i + 1) _ (by omega) (by omega) (by rw [List.length_append, List.length_singleton]; omega)]; simp
theorem SetText_impl (s : Int) (k : Nat) (hk : 8 < k) : impl_SetText.f k s = some (textB s) := by
  unfold impl_SetText.f textB textL; rw [isAny_eq]; simp only [Option.bind_some]
  by_cases h : any s = true
  · rw [if_pos h, if_pos h]
    by_cases h0 : s = 0
    · rw [if_pos h0, if_pos h0]
    · rw [if_neg h0, if_neg h0, ElementsOf_impl s k hk]; simp only [Option.bind_some]
      have := SetText_impl_l0 (elems s) (fun e he => elems_range he) (elems_length s) _ k 0 [] (Nat.zero_add _) (by have := elems_length s; omega) (by simp)
      refine this.trans ?_; unfold strOfNums tbyte; simp [Function.comp_def]
  · rw [if_neg h, if_neg h]
theorem some_ite {α : Type} {p : Prop} [Decidable p] (a b : α) : (if p then some a else some b) = some (if p then a else b) := by split <;> rfl
/-- The set of the letters from place i on, added to s. -/
def foldS (x : ByteArray) : Nat → Nat → Nat → Nat
  | 0, _, s => s
  | d + 1, i, s => foldS x d (i + 1) (if 97 ≤ bt x (i : Int) ∧ bt x (i : Int) ≤ 104 then Mt.ins s (bt x (i : Int) - 97).toNat else s)
theorem foldS_small (x : ByteArray) : ∀ d i s, s < 256 → foldS x d i s < 256 := by
  intro d
  induction d with
  | zero => intro i s h; exact h
  | succ d ih =>
    intro i s h; simp only [foldS]; refine ih _ _ ?_
    split
    · exact Mt.small_ins h (by omega)
    · exact h
/-- What is read where the set found is f. -/
def goodR (x : ByteArray) (f : Nat) : Int × Bool := if textL (f : Int) = x.toList then ((f : Int), true) else (0, false)
def parseR (x : ByteArray) (f : Nat) : Int × Bool := if x.toList = ([] : List UInt8) then (0, false) else goodR x f
theorem withE_nat (s y : Nat) (hs : s < 256) (hy : y < 8) : withE (s : Int) (y : Int) = ((Mt.ins s y : Nat) : Int) := by
  unfold withE; rw [if_pos (by omega), Int.toNat_natCast, Int.toNat_natCast]
theorem bt_mem {x : ByteArray} {j : Nat} (h : j < x.size) : ∃ b : UInt8, b ∈ x.toList ∧ bt x (j : Int) = (b.toNat : Int) := by
  have hj : ((j : Int)).toNat < x.size := by rw [Int.toNat_natCast]; exact h
  refine ⟨x[((j : Int)).toNat]'hj, ?_, ?_⟩
  · rw [ByteArray.toList_eq]; cases x with
    | mk d => exact Array.mem_toList_iff.mpr (Array.getElem_mem _)
  · unfold bt; rw [dif_pos hj]
theorem size_list (x : ByteArray) : x.size = x.toList.length := by rw [ByteArray.toList_eq]; cases x; rfl
/-- A text with a byte that is no letter a .. h, other than "-", is no set's. -/
theorem text_bad {x : ByteArray} (hx : x.toList ≠ [45]) {j : Nat} (hj : j < x.size) (hb : ¬ (97 ≤ bt x (j : Int) ∧ bt x (j : Int) ≤ 104)) (s : Int) : textL s ≠ x.toList := by
  intro h
  unfold textL at h
  by_cases ha : any s = true
  · rw [if_pos ha] at h
    by_cases h0 : s = 0
    · rw [if_pos h0] at h; exact hx h.symm
    · rw [if_neg h0] at h
      obtain ⟨b, hm, e⟩ := bt_mem hj
      rw [← h] at hm
      obtain ⟨y, hy, rfl⟩ := List.mem_map.mp hm
      have := elems_range hy
      rw [tbyte_nat this.1 this.2] at e; omega
  · rw [if_neg ha] at h
    have := size_list x; rw [← h, List.length_nil] at this; omega
/-- What reading a set's text gives. -/
def parseS (x : ByteArray) : Int × Bool := parseR x (foldS x x.size 0 0)
end Go.Proofs.YtekegbacnagbcaaDoor.L
