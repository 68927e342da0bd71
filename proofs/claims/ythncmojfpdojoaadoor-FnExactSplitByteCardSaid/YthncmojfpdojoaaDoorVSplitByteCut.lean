/- Strings cut at a byte, and the marks written into lists of strings: what the printed functions come to. -/
import Derived.Test.YthncmojfpdojoaaDoorVSplitByteFmt
import Derived.Test.YthncmojfpdojoaaDoorVSplitByteJoin
import Derived.Test.YthncmojfpdojoaaDoorVSplitByteSplit
namespace Go.Proofs.YthncmojfpdojoaaDoor.F
open Go.RowKit Go.Proofs.YthncmojfpdojoaaDoorW.PrintWords Go.Proofs.YthncmojfpdojoaaDoorW.PrintMore Go.Proofs.YthncmojfpdojoaaDoor.P Go.Proofs.YthncmojfpdojoaaDoor.B Go.Proofs.YthncmojfpdojoaaDoor.Dg Go.Proofs.YthncmojfpdojoaaDoor.L Go.Proofs.YthncmojfpdojoaaDoor.Sp
def mkB (l : List UInt8) : ByteArray := ⟨l.toArray⟩
theorem mkB_data (l : List UInt8) : (mkB l).data.toList = l := by simp [mkB]
theorem mkB_of (x : ByteArray) : mkB x.data.toList = x := ls x
theorem cut_get (x : ByteArray) (i : Nat) (h : i < x.data.toList.length) : bt x (i : Int) = ((x.data.toList[i]).toNat : Int) := by
  have hz : i < x.size := by rw [Lib.size_eq]; exact h
  unfold bt; rw [Int.toNat_natCast, dif_pos hz]; simp; rfl
def addH (cur : List UInt8) : List (List UInt8) → List (List UInt8)
  | [] => [cur]
  | h :: t => (cur ++ h) :: t
theorem addH_nil (c : UInt8) (s : List UInt8) : addH [] (splitL c s) = splitL c s := by
  cases h : splitL c s with
  | nil => exact absurd h (splitL_ne c s)
  | cons x t => rfl
theorem addH_consH (cur : List UInt8) (b : UInt8) (l : List (List UInt8)) : addH cur (consH b l) = addH (cur ++ [b]) l := by
  cases l with
  | nil => rfl
  | cons x t => simp [addH, consH]
/-- The pieces of a string between the places where the byte stands. -/
def cutB (a : ByteArray) (c : UInt8) : List ByteArray := (splitL c a.data.toList).map mkB
theorem splitL_len (c : UInt8) : ∀ s, (splitL c s).length ≤ s.length + 1
  | [] => by simp [splitL]
  | b :: l => by
    have := splitL_len c l
    simp only [splitL]; split
    · simp; omega
    · cases h : splitL c l with
      | nil => simp [consH]
      | cons x t => rw [h] at this; simp [consH] at this ⊢; omega
theorem cutB_len (a : ByteArray) (c : UInt8) : (cutB a c).length ≤ a.size + 1 := by
  unfold cutB; rw [List.length_map, Lib.size_eq]; exact splitL_len c _
theorem byte_one {x : Int} (h0 : 0 ≤ x) (h1 : x ≤ 255) : strOfNums [x] = mkB [UInt8.ofNat x.toNat] := by
  have : x.toNat % 256 = x.toNat := by omega
  rfl
theorem map_mkB (l : List ByteArray) : (l.map (·.data.toList)).map mkB = l := by
  rw [List.map_map]; conv => rhs; rw [← List.map_id l]
  exact List.map_congr_left fun x _ => mkB_of x
theorem cut_join (a : ByteArray) (c : UInt8) : Lib.join ((cutB a c).map (·.data.toList)) [c] = a.data.toList := by
  unfold cutB; rw [List.map_map]
  have : ((fun x : ByteArray => x.data.toList) ∘ mkB) = id := funext fun l => mkB_data l
  rw [this, List.map_id]; exact join_splitL c _
theorem cut_one {a p : ByteArray} {c : UInt8} (h : p ∈ cutB a c) : (cutB p c).length = 1 := by
  unfold cutB at h
  obtain ⟨l, hl, rfl⟩ := List.mem_map.mp h
  unfold cutB; rw [mkB_data, splitL_one c l (splitL_free c _ l hl)]; rfl
theorem cut_size {a p : ByteArray} {c : UInt8} (h : p ∈ cutB a c) : p.size ≤ a.size := by
  have : ∀ s : List UInt8, ∀ l ∈ splitL c s, l.length ≤ s.length := by
    intro s
    induction s with
    | nil => intro l hl; simp only [splitL, List.mem_singleton] at hl; subst hl; simp
    | cons b s ih =>
      intro l hl
      simp only [splitL] at hl
      split at hl
      · rcases List.mem_cons.mp hl with rfl | hl
        · simp
        · have := ih l hl; simp; omega
      · cases hq : splitL c s with
        | nil => rw [hq] at hl; simp only [consH, List.mem_singleton] at hl; subst hl; simp
        | cons x t =>
          rw [hq] at hl ih
          simp only [consH, List.mem_cons] at hl
          rcases hl with rfl | hl
          · have := ih x List.mem_cons_self; simp; omega
          · have := ih l (List.mem_cons_of_mem _ hl); simp; omega
  unfold cutB at h
  obtain ⟨l, hl, rfl⟩ := List.mem_map.mp h
  rw [Lib.size_eq, mkB_data, Lib.size_eq a]; exact this _ l hl
/-- Pieces without the byte, joined by it, are cut into themselves. -/
theorem split_addH (c : UInt8) : ∀ x r : List UInt8, c ∉ x → splitL c (x ++ r) = addH x (splitL c r)
  | [], r, _ => (addH_nil c r).symm
  | b :: x, r, h => by
    have hb : ¬ b = c := fun e => h (e ▸ List.mem_cons_self)
    rw [List.cons_append]; simp only [splitL]
    rw [if_neg hb, split_addH c x r (fun q => h (List.mem_cons_of_mem _ q))]
    cases splitL c r with
    | nil => rfl
    | cons y t => rfl
theorem split_tail (c : UInt8) : ∀ (r : List (List UInt8)) (x : List UInt8), c ∉ x → (∀ p ∈ r, c ∉ p) → splitL c (x ++ Lib.joinTail [c] r) = x :: r
  | [], x, hx, _ => by
    have : Lib.joinTail [c] ([] : List (List UInt8)) = [] := rfl
    rw [this, List.append_nil]; exact splitL_one c x hx
  | y :: r, x, hx, hr => by
    rw [tail_cons, split_addH c x _ hx, List.append_assoc, List.singleton_append]
    simp only [splitL, if_true]
    rw [split_tail c r y (hr y List.mem_cons_self) (fun p hp => hr p (List.mem_cons_of_mem _ hp))]
    simp [addH]
theorem split_join (c : UInt8) (x : List UInt8) (r : List (List UInt8)) (h : ∀ p ∈ x :: r, c ∉ p) : splitL c (Lib.join (x :: r) [c]) = x :: r := by
  rw [Lib.join_cons]; exact split_tail c r x (h x List.mem_cons_self) (fun p hp => h p (List.mem_cons_of_mem _ hp))
theorem SplitByte_impl (a : ByteArray) (by_ : Int) (ha : a.size ≤ 4194304) (h0 : 0 ≤ by_) (h1 : by_ ≤ 255) : impl_SplitByte.f a by_ = some (cutB a (UInt8.ofNat by_.toNat)) := by
  unfold impl_SplitByte.f strings_Split.f
  rw [byte_one h0 h1, if_pos ⟨by omega, by rw [Lib.size_eq, mkB_data]; simp⟩]; simp only [Option.bind_some]
  congr 1
  rw [← map_mkB (Lib.splitB _ _ _ _), Lib.splitB_data, mkB_data]
  have e : Lib.countB a (mkB [UInt8.ofNat by_.toNat]) = Lib.count a.data.toList [UInt8.ofNat by_.toNat] := by unfold Lib.countB; rw [mkB_data]
  rw [e, split_L]; rfl
theorem SplitByte_l0 (a : ByteArray) (ha : a.size ≤ 4194304) (by_ : Int) (h0 : 0 ≤ by_) (h1 : by_ ≤ 255) : ∀ d k i from_ : Nat, ∀ out : List ByteArray, i + d = a.size → from_ ≤ i → out.length ≤ i → d + 1 < k →
    spec_SplitByte.l0 k a by_ out (from_ : Int) (i : Int) = some (out ++ (addH ((a.data.toList.drop from_).take (i - from_)) (splitL (UInt8.ofNat by_.toNat) (a.data.toList.drop i))).map mkB) := by
  have hz := Lib.size_eq a
  have ex : ∀ x y : Nat, a.extract x y = mkB ((a.data.toList.drop x).take (y - x)) := fun x y => by rw [← mkB_of (a.extract x y), Lib.extract_data]
  intro d
  induction d with
  | zero =>
    intro k i from_ out hi hf ho hk; obtain ⟨k, rfl⟩ : ∃ q, k = q + 2 := ⟨k - 2, by omega⟩
    simp only [spec_SplitByte.l0]
    rw [if_pos (by omega), if_pos (by omega), if_pos (by omega), if_pos (by omega), if_pos (by omega), w64 ((i : Int) + 1) (by omega) (by omega), if_neg (by omega), Int.toNat_natCast, Int.toNat_natCast, ex, List.drop_eq_nil_of_le (show a.data.toList.length ≤ i by omega)]
    simp [splitL, addH]
  | succ d ih =>
    intro k i from_ out hi hf ho hk; obtain ⟨k, rfl⟩ : ∃ q, k = q + 1 := ⟨k - 1, by omega⟩
    have hj : i < a.data.toList.length := by omega
    have hc : (a.data.toList[i]).toNat < 256 := UInt8.toNat_lt _
    have w : wrap64 ((i : Int) + 1) = ((i + 1 : Nat) : Int) := by rw [w64 _ (by omega) (by omega)]; omega
    simp only [spec_SplitByte.l0]
    rw [if_pos (by omega), if_neg (by omega), if_pos (by omega), if_pos (by omega), cut_get a i hj, w]
    rw [List.drop_eq_getElem_cons hj]
    simp only [splitL]
    by_cases q : (((a.data.toList[i]).toNat : Nat) : Int) = by_
    · have e : a.data.toList[i] = UInt8.ofNat by_.toNat := by
        apply UInt8.toNat_inj.1; rw [UInt8.toNat_ofNat']; omega
      rw [if_pos q, if_pos (by omega), if_pos (by omega), if_pos (by omega), if_pos e, Int.toNat_natCast, Int.toNat_natCast, ex, ih k (i + 1) (i + 1) _ (by omega) (Nat.le_refl _) (by rw [List.length_append, List.length_singleton]; omega) (by omega)]
      rw [Nat.sub_self, List.take_zero, addH_nil]
      simp [addH]
    · have e : ¬ a.data.toList[i] = UInt8.ofNat by_.toNat := fun e => q (by rw [e, UInt8.toNat_ofNat']; omega)
      rw [if_neg q, if_neg e, ih k (i + 1) from_ out (by omega) (by omega) (by omega) (by omega), addH_consH]
      congr 5
      rw [show i + 1 - from_ = (i - from_) + 1 by omega, List.take_add_one, List.getElem?_drop, show from_ + (i - from_) = i by omega, List.getElem?_eq_getElem hj]; rfl
theorem SplitByte_spec (a : ByteArray) (ha : a.size ≤ 4194304) (by_ : Int) (h0 : 0 ≤ by_) (h1 : by_ ≤ 255) (k : Nat) (hk : a.size + 1 < k) : spec_SplitByte.f k a by_ = some (cutB a (UInt8.ofNat by_.toNat)) := by
  unfold spec_SplitByte.f
  have := SplitByte_l0 a ha by_ h0 h1 a.size k 0 0 [] (by omega) (by omega) (by simp) hk
  rw [show ((0 : Nat) : Int) = 0 from rfl] at this
  rw [this, Nat.sub_self, List.take_zero, List.drop_zero, addH_nil]; rfl
def mtx (x : Int) : ByteArray := if x ≤ 0 then ⟨#[109, 48]⟩ else mkB (109 :: dg x.toNat)
theorem markText_l0 : ∀ d k u : Nat, ∀ acc : List UInt8, u < 10 ^ d → u < 4611686018427387904 → d < k → acc.length + d ≤ 100 →
    laws_markText.l0 k (u : Int) (mkB acc) = some (mkB (109 :: (dg u ++ acc))) := by
  intro d
  induction d with
  | zero =>
    intro k u acc hu hb hk hl; obtain ⟨k, rfl⟩ : ∃ q, k = q + 1 := ⟨k - 1, by omega⟩
    obtain rfl : u = 0 := by simpa using hu
    simp only [laws_markText.l0]
    rw [if_neg (by omega), if_pos (by unfold mkB; rw [sz]; omega)]; unfold mkB; rw [ap [109] acc]; rfl
  | succ d ih =>
    intro k u acc hu hb hk hl; obtain ⟨k, rfl⟩ : ∃ q, k = q + 1 := ⟨k - 1, by omega⟩
    by_cases h0 : u = 0
    · subst h0
      simp only [laws_markText.l0]
      rw [if_neg (by omega), if_pos (by unfold mkB; rw [sz]; omega)]; unfold mkB; rw [ap [109] acc]; rfl
    · have hd : u / 10 < 10 ^ d := by rw [Nat.pow_succ] at hu; omega
      simp only [laws_markText.l0]; rw [if_pos (by omega)]
      obtain ⟨_, e1, e2⟩ | ⟨g, _, _⟩ := rem_div (x := (u : Int)) (u := u) (by omega)
      · have e : strOfNums [((48 : Int) + ((u % 10 : Nat) : Int)) % 256] = mkB [UInt8.ofNat (48 + u % 10)] := by
          rw [show ((48 : Int) + ((u % 10 : Nat) : Int)) % 256 = ((48 + u % 10 : Nat) : Int) by omega]; rfl
        rw [e1, e2, w64 _ (by omega) (by omega), w64 _ (by omega) (by omega)]
        simp only [Option.bind_some]; rw [e]; unfold mkB; rw [sz, sz, if_pos (by simp; omega), ap]
        have := ih k (u / 10) ([UInt8.ofNat (48 + u % 10)] ++ acc) hd (by omega) (by omega) (by simp; omega)
        unfold mkB at this; rw [this, dg_step h0]; simp
      · omega
theorem markText_eq (x : Int) (hx : x < 4611686018427387904) (k : Nat) (hk : 20 < k) : laws_markText.f k x = some (mtx x) := by
  unfold laws_markText.f mtx
  by_cases h : x ≤ 0
  · rw [if_pos h, if_pos h]
  · rw [if_neg h, if_neg h]
    have := markText_l0 20 k x.toNat [] (by omega) (by omega) hk (by simp)
    rw [show ((x.toNat : Nat) : Int) = x by omega, List.append_nil] at this
    exact this
def mtxs (m : Int) : Nat → List ByteArray
  | 0 => []
  | n + 1 => mtx m :: mtxs (m + 1) n
theorem mtxs_length (n : Nat) : ∀ m, (mtxs m n).length = n := by
  induction n with
  | zero => intro m; rfl
  | succ n ih => intro m; simp [mtxs, ih]
theorem markStringS_l0 : ∀ d k i : Nat, ∀ xs pre : List ByteArray, ∀ m : Int, xs.length = i + d → xs.take i = pre → pre.length = i → d + 30 < k → 0 ≤ m → m + d < 4611686018427387904 → xs.length < 4611686018427387904 → laws_markStringS.l0 k xs m (i : Int) = some (m + d, pre ++ mtxs m d) := by
  intro d
  induction d with
  | zero =>
    intro k i xs pre m h hp hpl hk h0 hm hx; obtain ⟨k, rfl⟩ := pos (show 0 < k by omega)
    simp only [laws_markStringS.l0]; rw [if_neg (by omega)]
    rw [List.take_of_length_le (by omega)] at hp; subst hp; simp [mtxs]
  | succ d ih =>
    intro k i xs pre m h hp hpl hk h0 hm hx; obtain ⟨k, rfl⟩ := pos (show 0 < k by omega)
    simp only [laws_markStringS.l0]; rw [if_pos (by omega), markText_eq m (by omega) k (by omega)]; simp only [Option.bind_some]
    rw [if_pos (by omega), w1 (by omega), w64 (m + 1) (by omega) (by omega), Int.toNat_natCast]
    have hi : i < xs.length := by omega
    rw [ih k (i + 1) (xs.set i (mtx m)) (pre ++ [mtx m]) (m + 1) (by rw [List.length_set]; omega) ?_ (by simp [hpl]) (by omega) (by omega) (by omega) (by rw [List.length_set]; omega)]
    · simp [mtxs]; omega
    · rw [← hp, List.set_eq_take_append_cons_drop, if_pos hi, List.take_append, List.take_take, List.length_take]
      have e1 : i + 1 - min i xs.length = 1 := by omega
      rw [e1, Nat.min_eq_right (by omega)]; simp
theorem markStringS_eq (xs : List ByteArray) (m : Int) (k : Nat) (hn : xs.length < 4194000) (hk : Big ≤ k) (h0 : 0 ≤ m) (hm : m < 4194304000) : laws_markStringS.f k xs m = some (m + xs.length, mtxs m xs.length) := by
  have := big_eq; unfold laws_markStringS.f
  have := markStringS_l0 xs.length k 0 xs [] m (by omega) rfl rfl (by omega) h0 (by omega) (by omega)
  exact this
theorem heldStringS_l0 : ∀ d k i : Nat, ∀ xs : List ByteArray, ∀ m : Int, xs.length = i + d → xs.drop i = mtxs m d → d + 30 < k → 0 ≤ m → m + d < 4611686018427387904 → xs.length < 4611686018427387904 → laws_heldStringS.l0 k xs m (i : Int) = some (m + d) := by
  intro d
  induction d with
  | zero =>
    intro k i xs m h hp hk h0 hm hx; obtain ⟨k, rfl⟩ := pos (show 0 < k by omega)
    simp only [laws_heldStringS.l0]; rw [if_neg (by omega)]; simp
  | succ d ih =>
    intro k i xs m h hp hk h0 hm hx; obtain ⟨k, rfl⟩ := pos (show 0 < k by omega)
    have hi : i < xs.length := by omega
    rw [drop_rdOf hi] at hp
    simp only [mtxs] at hp
    obtain ⟨e1, e2⟩ := List.cons.inj hp
    simp only [laws_heldStringS.l0]; rw [if_pos (by omega), if_pos (by omega), markText_eq m (by omega) k (by omega)]; simp only [Option.bind_some]
    rw [if_pos (by rw [e1]), w1 (by omega), w64 (m + 1) (by omega) (by omega), ih k (i + 1) xs (m + 1) (by omega) e2 (by omega) (by omega) (by omega) hx]
    congr 1; omega
theorem heldStringS_eq (n : Nat) (m : Int) (k : Nat) (hn : n < 4194000) (hk : Big ≤ k) (h0 : 0 ≤ m) (hm : m < 4194304000) : laws_heldStringS.f k (mtxs m n) m = some (m + n) := by
  have := big_eq; unfold laws_heldStringS.f
  exact heldStringS_l0 n k 0 (mtxs m n) m (by rw [mtxs_length]; omega) rfl (by omega) h0 (by omega) (by rw [mtxs_length]; omega)
end Go.Proofs.YthncmojfpdojoaaDoor.F
