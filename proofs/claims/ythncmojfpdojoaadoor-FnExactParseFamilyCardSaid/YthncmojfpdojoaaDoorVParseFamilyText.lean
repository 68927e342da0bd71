/- The text of a set, and its reading: what the printed functions come to. -/
import Derived.Test.YthncmojfpdojoaaDoorVParseFamilyElems
import Derived.Laws.Strings
import Derived.Laws.BytesArg
namespace Go.Proofs.YthncmojfpdojoaaDoor.L
open Go.RowKit Go.Proofs.YthncmojfpdojoaaDoorW.PrintWords Go.Proofs.YthncmojfpdojoaaDoorW.PrintMore Go.Proofs.YthncmojfpdojoaaDoor.P Go.Proofs.YthncmojfpdojoaaDoor.B
/-- The letter of an element. -/
def tbyte (e : Int) : UInt8 := UInt8.ofNat (97 + e).toNat
/-- The bytes of a set's text. -/
def textL (s : Int) : List UInt8 := if any s = true then if s = 0 then [45] else (elems s).map tbyte else []
def textB (s : Int) : ByteArray := ⟨(textL s).toArray⟩
theorem textB_list (s : Int) : (textB s).toList = textL s := by unfold textB; rw [ByteArray.toList_mk]
theorem tbyte_nat {e : Int} (h0 : 0 ≤ e) (h1 : e < 8) : (tbyte e).toNat = 97 + e.toNat := by
  unfold tbyte; rw [UInt8.toNat_ofNat']; omega
theorem tbyte_cases {e : Int} (h0 : 0 ≤ e) (h1 : e < 8) : (⟨#[97, 98, 99, 100, 101, 102, 103, 104]⟩ : ByteArray).extract e.toNat (wrap64 (e + 1)).toNat = ⟨#[tbyte e]⟩ := by
  obtain rfl | rfl | rfl | rfl | rfl | rfl | rfl | rfl : e = 0 ∨ e = 1 ∨ e = 2 ∨ e = 3 ∨ e = 4 ∨ e = 5 ∨ e = 6 ∨ e = 7 := by omega
  all_goals decide +kernel
theorem mk_append (a b : List UInt8) : (⟨a.toArray⟩ : ByteArray) ++ ⟨b.toArray⟩ = ⟨(a ++ b).toArray⟩ := by
  apply ByteArray.ext; rw [ByteArray.data_append]; simp
theorem SetText_spec_l0 (es : List Int) (he : ∀ e ∈ es, 0 ≤ e ∧ e < 8) (hn : es.length ≤ 8) : ∀ d k i : Nat, ∀ acc : List UInt8, i + d = es.length → d < k → acc.length ≤ i → spec_SetText.l0 k ⟨acc.toArray⟩ es (i : Int) = some ⟨(acc ++ (es.drop i).map tbyte).toArray⟩ := by
  intro d
  induction d with
  | zero =>
    intro k i acc h hk hl; obtain ⟨k, rfl⟩ := pos (show 0 < k by omega)
    simp only [spec_SetText.l0]; rw [if_neg (by omega), List.drop_eq_nil_of_le (by omega)]; simp
  | succ d ih =>
    intro k i acc h hk hl; obtain ⟨k, rfl⟩ := pos (show 0 < k by omega)
    have hi : i < es.length := by omega
    have hr := he _ (rd_mem hi)
    simp only [spec_SetText.l0]; rw [tbyte_cases hr.1 hr.2, drop_rd hi, w64 (rd es (i : Int) + 1) (by omega) (by omega), if_pos (by omega), if_pos (by omega), if_pos (by omega), if_pos (by omega), if_pos (by omega)]
    have e1 : (⟨acc.toArray⟩ : ByteArray).size = acc.length := by simp [ByteArray.size]
    have e2 : (⟨#[tbyte (rd es (i : Int))]⟩ : ByteArray).size = 1 := rfl
    rw [if_pos (by rw [e1, e2]; omega), mk_append acc [tbyte (rd es (i : Int))], w1 (by omega), ih k (i + 1) _ (by omega) (by omega) (by rw [List.length_append, List.length_singleton]; omega)]; simp
theorem SetText_spec (s : Int) (k : Nat) (hk : 8 < k) : spec_SetText.f k s = some (textB s) := by
  unfold spec_SetText.f textB textL; rw [IsSet_spec, isSet_8]; simp only [Option.bind_some]
  by_cases h : any s = true
  · rw [if_pos h, if_pos h]
    by_cases h0 : s = 0
    · rw [if_pos h0, if_pos h0]
    · rw [if_neg h0, if_neg h0, ElementsOf_spec s k hk]; simp only [Option.bind_some]
      exact SetText_spec_l0 (elems s) (fun e he => elems_range he) (elems_length s) _ k 0 [] (Nat.zero_add _) (by have := elems_length s; omega) (by simp)
  · rw [if_neg h, if_neg h]
theorem SetText_impl_l0 (es : List Int) (he : ∀ e ∈ es, 0 ≤ e ∧ e < 8) (hn : es.length ≤ 8) : ∀ d k i : Nat, ∀ acc : List Int, i + d = es.length → d < k → acc.length ≤ i → impl_SetText.l0 k acc es (es.length : Int) (i : Int) = some (strOfNums (acc ++ (es.drop i).map fun e => 97 + e)) := by
  intro d
  induction d with
  | zero =>
    intro k i acc h hk hl; obtain ⟨k, rfl⟩ := pos (show 0 < k by omega)
    simp only [impl_SetText.l0]; rw [if_neg (by omega), List.drop_eq_nil_of_le (by omega)]; simp
  | succ d ih =>
    intro k i acc h hk hl; obtain ⟨k, rfl⟩ := pos (show 0 < k by omega)
    have hi : i < es.length := by omega
    have hr := he _ (rd_mem hi)
    simp only [impl_SetText.l0]; rw [drop_rd hi, if_pos (by omega), if_pos (by omega), if_pos (by omega), if_pos (by omega), w64 (97 + rd es (i : Int)) (by omega) (by omega), Int.emod_eq_of_lt (by omega) (by omega), w1 (by omega), ih k (i + 1) _ (by omega) (by omega) (by rw [List.length_append, List.length_singleton]; omega)]; simp
theorem SetText_impl (s : Int) (k : Nat) (hk : 8 < k) : impl_SetText.f k s = some (textB s) := by
  unfold impl_SetText.f textB textL; rw [isAny_eq]; simp only [Option.bind_some]
  by_cases h : any s = true
  · rw [if_pos h, if_pos h]
    by_cases h0 : s = 0
    · rw [if_pos h0, if_pos h0]
    · rw [if_neg h0, if_neg h0, ElementsOf_impl s k hk]; simp only [Option.bind_some]
      have := SetText_impl_l0 (elems s) (fun e he => elems_range he) (elems_length s) _ k 0 [] (Nat.zero_add _) (by have := elems_length s; omega) (by simp)
      refine this.trans ?_; unfold strOfNums tbyte; simp [Function.comp_def]
  · rw [if_neg h, if_neg h]
theorem some_ite {α : Type} {p : Prop} [Decidable p] (a b : α) : (if p then some a else some b) = some (if p then a else b) := by split <;> rfl
/-- The set of the letters from place i on, added to s. -/
def foldS (x : ByteArray) : Nat → Nat → Nat → Nat
  | 0, _, s => s
  | d + 1, i, s => foldS x d (i + 1) (if 97 ≤ bt x (i : Int) ∧ bt x (i : Int) ≤ 104 then Mt.ins s (bt x (i : Int) - 97).toNat else s)
theorem foldS_small (x : ByteArray) : ∀ d i s, s < 256 → foldS x d i s < 256 := by
  intro d
  induction d with
  | zero => intro i s h; exact h
  | succ d ih =>
    intro i s h; simp only [foldS]; refine ih _ _ ?_
    split
    · exact Mt.small_ins h (by omega)
    · exact h
/-- What is read where the set found is f. -/
def goodR (x : ByteArray) (f : Nat) : Int × Bool := if textL (f : Int) = x.toList then ((f : Int), true) else (0, false)
def parseR (x : ByteArray) (f : Nat) : Int × Bool := if x.toList = ([] : List UInt8) then (0, false) else goodR x f
theorem withE_nat (s y : Nat) (hs : s < 256) (hy : y < 8) : withE (s : Int) (y : Int) = ((Mt.ins s y : Nat) : Int) := by
  unfold withE; rw [if_pos (by omega), Int.toNat_natCast, Int.toNat_natCast]
theorem ParseSet_spec_good (x : ByteArray) (hx : (x.toList != ([45] : List UInt8)) = true) (hn : x.size ≤ 1048576) : ∀ d k i s : Nat, i + d = x.size → 2 * d + 10 < k → s < 256 → (∀ j, i ≤ j → j < x.size → 97 ≤ bt x (j : Int) ∧ bt x (j : Int) ≤ 104) →
    spec_ParseSet.l0 k x (s : Int) (i : Int) = some (goodR x (foldS x d i s)) := by
  intro d
  induction d with
  | zero =>
    intro k i s h hk hs hg; obtain ⟨k, rfl⟩ := pos (show 0 < k by omega); obtain ⟨k, rfl⟩ := pos (show 0 < k by omega)
    simp only [spec_ParseSet.l0]; rw [if_neg (by omega)]; simp only [spec_ParseSet.j1]
    rw [if_neg (by simp), SetText_spec _ k (by omega)]; simp only [Option.bind_some, textB_list, foldS]
    unfold goodR; exact some_ite _ _
  | succ d ih =>
    intro k i s h hk hs hg; obtain ⟨k, rfl⟩ := pos (show 0 < k by omega); obtain ⟨k, rfl⟩ := pos (show 0 < k by omega)
    have hc := hg i (Nat.le_refl _) (by omega)
    have hmod : (bt x (i : Int) - 97) % 256 = bt x (i : Int) - 97 := Int.emod_eq_of_lt (by omega) (by omega)
    obtain ⟨c, hce⟩ := nat_of (show 0 ≤ bt x (i : Int) - 97 by omega)
    simp only [spec_ParseSet.l0, foldS]; rw [if_pos (by omega)]; simp only [spec_ParseSet.j1]
    rw [if_pos hx, if_pos (by omega), if_pos (by omega), if_neg (by omega), if_neg (by omega), hmod, WithElement_spec, hce, withE_nat s c hs (by omega)]; simp only [Option.bind_some]
    rw [w1 (by omega), if_pos hc, Int.toNat_natCast]
    exact ih k (i + 1) _ (by omega) (by omega) (Mt.small_ins hs (by omega)) (fun j h1 h2 => hg j (by omega) h2)
theorem ParseSet_spec_bad (x : ByteArray) (hx : (x.toList != ([45] : List UInt8)) = true) (hn : x.size ≤ 1048576) : ∀ d k i s : Nat, i + d = x.size → 2 * d + 10 < k → s < 256 → (∃ j, i ≤ j ∧ j < x.size ∧ ¬ (97 ≤ bt x (j : Int) ∧ bt x (j : Int) ≤ 104)) →
    spec_ParseSet.l0 k x (s : Int) (i : Int) = some (0, false) := by
  intro d
  induction d with
  | zero => intro k i s h hk hs ⟨j, h1, h2, _⟩; omega
  | succ d ih =>
    intro k i s h hk hs ⟨j, h1, h2, h3⟩; obtain ⟨k, rfl⟩ := pos (show 0 < k by omega); obtain ⟨k, rfl⟩ := pos (show 0 < k by omega)
    simp only [spec_ParseSet.l0]; rw [if_pos (by omega)]; simp only [spec_ParseSet.j1]
    rw [if_pos hx, if_pos (by omega), if_pos (by omega)]
    by_cases hc : bt x (i : Int) < 97
    · rw [if_pos hc]
    · by_cases hc2 : bt x (i : Int) > 104
      · rw [if_neg hc, if_pos hc2]
      · have hij : j ≠ i := fun q => h3 (q ▸ ⟨by omega, by omega⟩)
        obtain ⟨c, hce⟩ := nat_of (show 0 ≤ bt x (i : Int) - 97 by omega)
        rw [if_neg hc, if_neg hc2, Int.emod_eq_of_lt (by omega) (by omega), WithElement_spec, hce, withE_nat s c hs (by omega)]; simp only [Option.bind_some]
        rw [w1 (by omega)]
        exact ih k (i + 1) _ (by omega) (by omega) (Mt.small_ins hs (by omega)) ⟨j, by omega, h2, h3⟩
theorem ParseSet_spec_dash (x : ByteArray) (hx : x.toList = [45] ∨ x.size = 0) (k : Nat) (hk : 20 < k) : spec_ParseSet.f k x = some (goodR x 0) := by
  unfold spec_ParseSet.f; obtain ⟨k, rfl⟩ := pos (show 0 < k by omega); obtain ⟨k, rfl⟩ := pos (show 0 < k by omega)
  have : spec_ParseSet.l0 (k + 1 + 1) x 0 0 = spec_ParseSet.j1 (k + 1) x 0 0 false := by
    simp only [spec_ParseSet.l0]
    rcases hx with hx | hx
    · rw [hx]; split <;> rfl
    · rw [if_neg (by omega)]
  rw [this]; simp only [spec_ParseSet.j1]; rw [if_neg (by simp), SetText_spec _ k (by omega)]; simp only [Option.bind_some, textB_list]
  unfold goodR; exact some_ite _ _
theorem ParseSet_impl_l0 (x : ByteArray) (hn : x.size ≤ 1048576) : ∀ d k i s : Nat, i + d = x.size → d + 10 < k → s < 256 →
    impl_ParseSet.l0 k x (s : Int) (i : Int) = some (parseR x (foldS x d i s)) := by
  intro d
  induction d with
  | zero =>
    intro k i s h hk hs; obtain ⟨k, rfl⟩ := pos (show 0 < k by omega)
    simp only [impl_ParseSet.l0]; rw [if_neg (by omega), SetText_impl _ k (by omega)]; simp only [Option.bind_some, textB_list, foldS]
    unfold parseR goodR; rw [some_ite, some_ite]
  | succ d ih =>
    intro k i s h hk hs; obtain ⟨k, rfl⟩ := pos (show 0 < k by omega)
    simp only [impl_ParseSet.l0, foldS]; rw [if_pos (by omega), if_pos (by omega), w1 (by omega)]
    by_cases hc : bt x (i : Int) ≥ 97
    · by_cases hc2 : bt x (i : Int) < 105
      · obtain ⟨c, hce⟩ := nat_of (show 0 ≤ bt x (i : Int) - 97 by omega)
        rw [if_pos hc, if_pos hc2, Int.emod_eq_of_lt (by omega) (by omega), if_pos (by omega), if_pos (by omega), hce, shl_one c (by omega), or_nat s (2 ^ c) (by omega) (pow_small (by omega)), Int.toNat_natCast]
        exact ih k (i + 1) _ (by omega) (by omega) (Mt.small_ins hs (by omega))
      · rw [if_pos hc, if_neg hc2, if_neg (by omega)]; exact ih k (i + 1) _ (by omega) (by omega) hs
    · rw [if_neg hc, if_neg (by omega)]; exact ih k (i + 1) _ (by omega) (by omega) hs
theorem ParseSet_impl_f (x : ByteArray) (hn : x.size ≤ 1048576) (k : Nat) (hk : Big ≤ k) :
    impl_ParseSet.f k x = some (parseR x (foldS x x.size 0 0)) := by
  have := big_eq; unfold impl_ParseSet.f
  exact ParseSet_impl_l0 x hn x.size k 0 0 (Nat.zero_add _) (by omega) (by omega)
theorem bt_mem {x : ByteArray} {j : Nat} (h : j < x.size) : ∃ b : UInt8, b ∈ x.toList ∧ bt x (j : Int) = (b.toNat : Int) := by
  have hj : ((j : Int)).toNat < x.size := by rw [Int.toNat_natCast]; exact h
  refine ⟨x[((j : Int)).toNat]'hj, ?_, ?_⟩
  · rw [ByteArray.toList_eq]; cases x with
    | mk d => exact Array.mem_toList_iff.mpr (Array.getElem_mem _)
  · unfold bt; rw [dif_pos hj]
theorem size_list (x : ByteArray) : x.size = x.toList.length := by rw [ByteArray.toList_eq]; cases x; rfl
/-- A text with a byte that is no letter a .. h, other than "-", is no set's. -/
theorem text_bad {x : ByteArray} (hx : x.toList ≠ [45]) {j : Nat} (hj : j < x.size) (hb : ¬ (97 ≤ bt x (j : Int) ∧ bt x (j : Int) ≤ 104)) (s : Int) : textL s ≠ x.toList := by
  intro h
  unfold textL at h
  by_cases ha : any s = true
  · rw [if_pos ha] at h
    by_cases h0 : s = 0
    · rw [if_pos h0] at h; exact hx h.symm
    · rw [if_neg h0] at h
      obtain ⟨b, hm, e⟩ := bt_mem hj
      rw [← h] at hm
      obtain ⟨y, hy, rfl⟩ := List.mem_map.mp hm
      have := elems_range hy
      rw [tbyte_nat this.1 this.2] at e; omega
  · rw [if_neg ha] at h
    have := size_list x; rw [← h, List.length_nil] at this; omega
/-- What reading a set's text gives. -/
def parseS (x : ByteArray) : Int × Bool := parseR x (foldS x x.size 0 0)
theorem ParseSet_impl (x : ByteArray) (hn : x.size ≤ 1048576) (k : Nat) (hk : Big ≤ k) : impl_ParseSet.f k x = some (parseS x) := ParseSet_impl_f x hn k hk
theorem ParseSet_spec (x : ByteArray) (hn : x.size ≤ 1048576) (k : Nat) (hk : Big ≤ k) : spec_ParseSet.f k x = some (parseS x) := by
  have hB := big_eq
  unfold parseS parseR
  by_cases he : x.toList = ([] : List UInt8)
  · have h0 : x.size = 0 := by rw [size_list, he]; rfl
    rw [ParseSet_spec_dash x (.inr h0) k (by omega), if_pos he]; unfold goodR; rw [he]; rfl
  · rw [if_neg he]
    by_cases hd : x.toList = [45]
    · rw [ParseSet_spec_dash x (.inl hd) k (by omega)]
      have h1 : x.size = 1 := by rw [size_list, hd]; rfl
      have hb : bt x ((0 : Nat) : Int) = 45 := by
        obtain ⟨b, hm, e⟩ := bt_mem (show 0 < x.size by omega)
        rw [hd] at hm; rw [e, List.mem_singleton.mp hm]; rfl
      have hf : foldS x x.size 0 0 = 0 := by
        rw [h1]; simp only [foldS]; rw [if_neg (by omega)]
      rw [hf]
    · have hx : (x.toList != ([45] : List UInt8)) = true := by simpa using hd
      unfold spec_ParseSet.f
      by_cases hg : ∀ j, 0 ≤ j → j < x.size → 97 ≤ bt x (j : Int) ∧ bt x (j : Int) ≤ 104
      · exact ParseSet_spec_good x hx hn x.size k 0 0 (Nat.zero_add _) (by omega) (by omega) hg
      · obtain ⟨j, h1, h2, h3⟩ : ∃ j, 0 ≤ j ∧ j < x.size ∧ ¬ (97 ≤ bt x (j : Int) ∧ bt x (j : Int) ≤ 104) :=
          Classical.byContradiction fun q => hg fun j a b => Classical.byContradiction fun r => q ⟨j, a, b, r⟩
        unfold goodR; rw [if_neg (text_bad hd h2 h3 _)]
        exact ParseSet_spec_bad x hx hn x.size k 0 0 (Nat.zero_add _) (by omega) (by omega) ⟨j, h1, h2, h3⟩
end Go.Proofs.YthncmojfpdojoaaDoor.L
