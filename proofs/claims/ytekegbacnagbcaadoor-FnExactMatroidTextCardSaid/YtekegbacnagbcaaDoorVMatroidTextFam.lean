/- Families of sets and the exchange: what the printed functions come to. -/
import Derived.Test.YtekegbacnagbcaaDoorVMatroidTextElems
namespace Go.Proofs.YtekegbacnagbcaaDoor.L
open Go.RowKit Go.Proofs.YtekegbacnagbcaaDoorW.PrintWords Go.Proofs.YtekegbacnagbcaaDoorW.PrintMore Go.Proofs.YtekegbacnagbcaaDoor.P Go.Proofs.YtekegbacnagbcaaDoor.B
/-- The first answer of p from i on, d times. -/
def scan {α : Type} (p : Nat → Option α) : Nat → Nat → Option α
  | _, 0 => none
  | i, d + 1 => match p i with
    | some r => some r
    | none => scan p (i + 1) d
theorem scan_getD {α : Type} (p : Nat → Option α) (i d : Nat) (r : α) : (scan p i (d + 1)).getD r = (p i).getD ((scan p (i + 1) d).getD r) := by
  simp only [scan]; cases p i <;> rfl
theorem scan_congr {α : Type} {p q : Nat → Option α} : ∀ d i, (∀ j, i ≤ j → j < i + d → p j = q j) → scan p i d = scan q i d := by
  intro d
  induction d with
  | zero => intro i h; rfl
  | succ d ih => intro i h; simp only [scan]; rw [h i (Nat.le_refl _) (by omega), ih (i + 1) (fun j a b => h j (by omega) (by omega))]
theorem scan_none {α : Type} {p : Nat → Option α} : ∀ d i, (∀ j, i ≤ j → j < i + d → p j = none) → scan p i d = none := by
  intro d
  induction d with
  | zero => intro i h; rfl
  | succ d ih => intro i h; simp only [scan]; rw [h i (Nat.le_refl _) (by omega)]; exact ih (i + 1) (fun j a b => h j (by omega) (by omega))
theorem scan_none_iff {α : Type} {p : Nat → Option α} : ∀ d i, scan p i d = none ↔ ∀ j, i ≤ j → j < i + d → p j = none := by
  intro d
  induction d with
  | zero => intro i; exact ⟨fun _ j a b => by omega, fun _ => rfl⟩
  | succ d ih =>
    intro i; simp only [scan]
    cases hp : p i with
    | some r => exact ⟨fun h => (by cases h), fun h => by rw [h i (Nat.le_refl _) (by omega)] at hp; cases hp⟩
    | none =>
      refine (ih (i + 1)).trans ⟨fun h j a b => ?_, fun h j a b => h j (by omega) (by omega)⟩
      by_cases e : j = i
      · rw [e]; exact hp
      · exact h j (by omega) (by omega)
theorem scan_some {α : Type} {p : Nat → Option α} {r : α} : ∀ d i, scan p i d = some r → ∃ j, i ≤ j ∧ j < i + d ∧ p j = some r := by
  intro d
  induction d with
  | zero => intro i h; cases h
  | succ d ih =>
    intro i h; simp only [scan] at h
    cases hp : p i with
    | some q => rw [hp] at h; exact ⟨i, Nat.le_refl _, by omega, by rw [hp]; exact h⟩
    | none => rw [hp] at h; obtain ⟨j, a, b, c⟩ := ih (i + 1) h; exact ⟨j, by omega, by omega, c⟩
theorem scan_more {α : Type} {p : Nat → Option α} (m : Nat) : ∀ d i, (∀ j, i + d ≤ j → p j = none) → scan p i (d + m) = scan p i d := by
  intro d
  induction d with
  | zero => intro i h; rw [Nat.zero_add]; exact scan_none m i (fun j a _ => h j (by omega))
  | succ d ih => intro i h; rw [show d + 1 + m = (d + m) + 1 by omega]; simp only [scan]; rw [ih (i + 1) (fun j a => h j (by omega))]
def scanL {α : Type} (q : Int → Option α) : List Int → Option α
  | [] => none
  | y :: ys => match q y with
    | some r => some r
    | none => scanL q ys
theorem scanL_elems {α : Type} (q : Int → Option α) (s : Int) : ∀ d i, scanL q (elemsFrom s i d) = scan (fun e => if hasE s (e : Int) = true then q (e : Int) else none) i d := by
  intro d
  induction d with
  | zero => intro i; rfl
  | succ d ih =>
    intro i; simp only [elemsFrom, scan]
    by_cases h : hasE s (i : Int) = true
    · rw [if_pos h, if_pos h]; simp only [scanL]; rw [ih]
    · rw [if_neg h, if_neg h, ih]
def anyFrom (p : Nat → Bool) : Nat → Nat → Bool
  | _, 0 => false
  | i, d + 1 => p i || anyFrom p (i + 1) d
theorem anyFrom_iff (p : Nat → Bool) : ∀ d i, anyFrom p i d = true ↔ ∃ j, i ≤ j ∧ j < i + d ∧ p j = true := by
  intro d
  induction d with
  | zero => intro i; simp only [anyFrom]; exact ⟨fun h => (by cases h), fun ⟨j, a, b, _⟩ => by omega⟩
  | succ d ih =>
    intro i; simp only [anyFrom, Bool.or_eq_true]; rw [ih]
    constructor
    · rintro (h | ⟨j, a, b, c⟩)
      · exact ⟨i, Nat.le_refl _, by omega, h⟩
      · exact ⟨j, by omega, by omega, c⟩
    · rintro ⟨j, a, b, c⟩
      by_cases e : j = i
      · subst e; exact .inl c
      · exact .inr ⟨j, by omega, by omega, c⟩
/-- A family on n elements: sets, in rising order. -/
structure Fam (n : Int) (xs : List Int) : Prop where
  n0 : 0 ≤ n
  n8 : n ≤ 8
  set : ∀ x ∈ xs, 0 ≤ x ∧ x < 2 ^ n.toNat
  inc : xs.Pairwise (· < ·)
def famFrom (n : Int) (xs : List Int) : Nat → Nat → Bool
  | _, 0 => decide (0 ≤ n ∧ n ≤ 8)
  | i, d + 1 => isSet n (rd xs (i : Int)) && (decide (i = 0) || decide (rd xs ((i - 1 : Nat) : Int) < rd xs (i : Int))) && famFrom n xs (i + 1) d
def fam (n : Int) (xs : List Int) : Bool := famFrom n xs 0 xs.length
theorem isSet_true {n s : Int} (h : isSet n s = true) : 0 ≤ n ∧ n ≤ 8 ∧ 0 ≤ s ∧ s < 2 ^ n.toNat := of_decide_eq_true h
theorem famFrom_iff (n : Int) (xs : List Int) : ∀ d i, i + d = xs.length → (famFrom n xs i d = true ↔ 0 ≤ n ∧ n ≤ 8 ∧ (∀ j, i ≤ j → j < xs.length → 0 ≤ rd xs (j : Int) ∧ rd xs (j : Int) < 2 ^ n.toNat) ∧ (∀ j, i ≤ j → j < xs.length → j ≠ 0 → rd xs ((j - 1 : Nat) : Int) < rd xs (j : Int))) := by
  intro d
  induction d with
  | zero =>
    intro i h; simp only [famFrom, decide_eq_true_eq]
    exact ⟨fun q => ⟨q.1, q.2, fun j a b => by omega, fun j a b => by omega⟩, fun q => ⟨q.1, q.2.1⟩⟩
  | succ d ih =>
    intro i h; simp only [famFrom, Bool.and_eq_true, Bool.or_eq_true, decide_eq_true_eq]; rw [ih (i + 1) (by omega)]
    constructor
    · rintro ⟨⟨h1, h2⟩, h3, h4, h5, h6⟩
      have h1' := isSet_true h1
      refine ⟨h3, h4, fun j a b => ?_, fun j a b c => ?_⟩
      · by_cases e : j = i
        · subst e; exact h1'.2.2
        · exact h5 j (by omega) b
      · by_cases e : j = i
        · subst e; rcases h2 with h2 | h2
          · exact absurd h2 c
          · exact h2
        · exact h6 j (by omega) b c
    · rintro ⟨h3, h4, h5, h6⟩
      refine ⟨⟨?_, ?_⟩, h3, h4, fun j a b => h5 j (by omega) b, fun j a b => h6 j (by omega) b⟩
      · have := h5 i (Nat.le_refl _) (by omega); exact decide_eq_true ⟨h3, h4, this.1, this.2⟩
      · by_cases e : i = 0
        · exact .inl e
        · exact .inr (h6 i (Nat.le_refl _) (by omega) e)
theorem rd_get {xs : List Int} {j : Nat} (h : j < xs.length) : rd xs (j : Int) = xs[j] := by rw [rd_nat]; simp [List.getD, h]
theorem mem_rd {xs : List Int} {x : Int} (h : x ∈ xs) : ∃ j, j < xs.length ∧ rd xs (j : Int) = x := by
  obtain ⟨j, hj, e⟩ := List.getElem_of_mem h; exact ⟨j, hj, by rw [rd_get hj]; exact e⟩
theorem inc_of_step {xs : List Int} (h : ∀ j, 0 ≤ j → j < xs.length → j ≠ 0 → rd xs ((j - 1 : Nat) : Int) < rd xs (j : Int)) : xs.Pairwise (· < ·) := by
  rw [List.pairwise_iff_getElem]
  have key : ∀ m i, i + m + 1 < xs.length → rd xs (i : Int) < rd xs ((i + m + 1 : Nat) : Int) := by
    intro m
    induction m with
    | zero => intro i q; have := h (i + 0 + 1) (Nat.zero_le _) q (by omega); exact this
    | succ m ih =>
      intro i q; have h1 := ih i (by omega); have h2 := h (i + (m + 1) + 1) (Nat.zero_le _) q (by omega)
      rw [show i + (m + 1) + 1 - 1 = i + m + 1 by omega] at h2; omega
  intro i j hi hj hij
  have := key (j - i - 1) i (by omega)
  rw [show i + (j - i - 1) + 1 = j by omega, rd_get hi, rd_get hj] at this; exact this
theorem fam_iff (n : Int) (xs : List Int) : fam n xs = true ↔ Fam n xs := by
  unfold fam; rw [famFrom_iff n xs xs.length 0 (Nat.zero_add _)]
  constructor
  · rintro ⟨h1, h2, h3, h4⟩
    refine ⟨h1, h2, fun x hx => ?_, inc_of_step h4⟩
    obtain ⟨j, hj, rfl⟩ := mem_rd hx; exact h3 j (Nat.zero_le _) hj
  · rintro ⟨h1, h2, h3, h4⟩
    refine ⟨h1, h2, fun j _ hj => h3 _ (rd_mem hj), fun j _ hj h0 => ?_⟩
    rw [List.pairwise_iff_getElem] at h4
    have := h4 (j - 1) j (by omega) hj (by omega)
    rw [rd_get hj, rd_get (by omega)]; exact this
theorem Fam.small {n : Int} {xs : List Int} (h : Fam n xs) {x : Int} (hx : x ∈ xs) : 0 ≤ x ∧ x < 256 := by
  have h1 := h.set x hx; have h2 := pow_le8 (show n.toNat ≤ 8 by have := h.n0; have := h.n8; omega); have h3 := pow_cast n.toNat; omega
theorem rd_out {xs : List Int} {j : Nat} (h : xs.length ≤ j) : rd xs (j : Int) = 0 := by rw [rd_nat]; simp [List.getD, h]
/-- The set at place i, as a natural number. -/
def X (xs : List Int) (i : Nat) : Nat := (rd xs (i : Int)).toNat
theorem Fam.X {n : Int} {xs : List Int} (h : Fam n xs) (i : Nat) : rd xs (i : Int) = ((L.X xs i : Nat) : Int) ∧ L.X xs i < 2 ^ n.toNat ∧ L.X xs i < 256 := by
  by_cases hi : i < xs.length
  · have h1 := h.set _ (rd_mem hi); have h2 := h.small (rd_mem hi); have h3 := pow_cast n.toNat; unfold L.X; omega
  · have h1 := rd_out (show xs.length ≤ i by omega); have h2 := pow_le8 (show n.toNat ≤ 8 by have := h.n0; have := h.n8; omega); unfold L.X; rw [h1]; exact ⟨rfl, h2.1, by decide⟩
theorem inc_len {xs : List Int} (h : xs.Pairwise (· < ·)) (lo hi : Int) (hb : ∀ x ∈ xs, lo ≤ x ∧ x < hi) : lo ≤ hi → (xs.length : Int) ≤ hi - lo := by
  induction xs generalizing lo with
  | nil => intro h; simp; omega
  | cons x xs ih =>
    intro _; rw [List.pairwise_cons] at h
    have hx := hb x List.mem_cons_self
    have := ih h.2 (x + 1) (fun y hy => ⟨by have := h.1 y hy; omega, (hb y (List.mem_cons_of_mem _ hy)).2⟩) (by omega)
    simp only [List.length_cons]; omega
theorem Fam.len {n : Int} {xs : List Int} (h : Fam n xs) : xs.length ≤ 256 := by
  have := inc_len h.inc 0 256 (fun x hx => h.small hx) (by omega); omega
theorem Fam.le8 {n : Int} {xs : List Int} (h : Fam n xs) : n.toNat ≤ 8 := by have := h.n0; have := h.n8; omega
theorem Fam.nn {n : Int} {xs : List Int} (h : Fam n xs) : n = (n.toNat : Int) := by have := h.n0; omega
theorem bit_lt {m a e : Nat} (h : a < 2 ^ m) (he : a.testBit e = true) : e < m := by
  refine Classical.byContradiction fun hn => ?_
  have := Nat.testBit_lt_two_pow (x := a) (i := e) (Nat.lt_of_lt_of_le h (Nat.pow_le_pow_right (by omega) (by omega)))
  rw [this] at he; cases he
theorem bnot_false {b : Bool} (h : ¬ b = true) : b = false := by cases b <;> simp_all
theorem IsFamily_spec_l0 (n : Int) (xs : List Int) (hn : xs.length < 4611686018427387904) : ∀ d k i : Nat, i + d = xs.length → d < k → spec_IsFamily.l0 k n xs (i : Int) = some (famFrom n xs i d) := by
  intro d
  induction d with
  | zero =>
    intro k i h hk; obtain ⟨k, rfl⟩ := pos (show 0 < k by omega)
    simp only [spec_IsFamily.l0]; rw [if_neg (by omega), l1In_eq]; rfl
  | succ d ih =>
    intro k i h hk; obtain ⟨k, rfl⟩ := pos (show 0 < k by omega)
    simp only [spec_IsFamily.l0, famFrom]; rw [if_pos (by omega), if_pos (by omega), IsSet_spec, w1 (by omega)]; simp only [Option.bind_some]
    by_cases hs : isSet n (rd xs (i : Int)) = true
    · rw [if_pos hs, hs, Bool.true_and]
      by_cases h0 : i = 0
      · subst h0; rw [if_neg (by omega), ih k 1 (by omega) (by omega)]; simp
      · have e : wrap64 ((i : Int) - 1) = ((i - 1 : Nat) : Int) := by rw [w64 _ (by omega) (by omega)]; omega
        rw [if_pos (by omega), e, if_pos (by omega), if_pos (by omega), ih k (i + 1) (by omega) (by omega), decide_eq_false h0, Bool.false_or]
        by_cases hl : rd xs ((i - 1 : Nat) : Int) < rd xs (i : Int)
        · rw [if_neg (by omega), decide_eq_true hl, Bool.true_and]
        · rw [if_pos (by omega), decide_eq_false hl, Bool.false_and]
    · rw [if_neg hs, bnot_false hs]; rfl
theorem IsFamily_spec (n : Int) (xs : List Int) (k : Nat) (hn : xs.length < 4194000) (hk : xs.length < k) : spec_IsFamily.f k n xs = some (fam n xs) := by
  unfold spec_IsFamily.f; exact IsFamily_spec_l0 n xs (by omega) xs.length k 0 (Nat.zero_add _) hk
theorem IsFamily_impl_l0 (n : Int) (xs : List Int) (hn : xs.length < 4611686018427387904) : ∀ d k i : Nat, i + d = xs.length → d < k → impl_IsFamily.l0 k n xs xs (xs.length : Int) (i : Int) = some (famFrom n xs i d) := by
  intro d
  induction d with
  | zero =>
    intro k i h hk; obtain ⟨k, rfl⟩ := pos (show 0 < k by omega)
    simp only [impl_IsFamily.l0]; rw [if_neg (by omega), isSize_eq]; rfl
  | succ d ih =>
    intro k i h hk; obtain ⟨k, rfl⟩ := pos (show 0 < k by omega)
    simp only [impl_IsFamily.l0, famFrom]; rw [if_pos (by omega), if_pos (by omega), if_pos (by omega), IsSet_impl, w1 (by omega)]; simp only [Option.bind_some]
    by_cases hs : isSet n (rd xs (i : Int)) = true
    · rw [if_pos hs, hs, Bool.true_and]
      by_cases h0 : i = 0
      · subst h0; rw [if_neg (by omega), ih k 1 (by omega) (by omega)]; simp
      · have e : wrap64 ((i : Int) - 1) = ((i - 1 : Nat) : Int) := by rw [w64 _ (by omega) (by omega)]; omega
        rw [if_pos (by omega), e, if_pos (by omega), if_pos (by omega), ih k (i + 1) (by omega) (by omega), decide_eq_false h0, Bool.false_or]
        by_cases hl : rd xs ((i - 1 : Nat) : Int) < rd xs (i : Int)
        · rw [if_neg (by omega), decide_eq_true hl, Bool.true_and]
        · rw [if_pos (by omega), decide_eq_false hl, Bool.false_and]
    · rw [if_neg hs, bnot_false hs]; rfl
theorem IsFamily_impl (n : Int) (xs : List Int) (k : Nat) (hn : xs.length < 4194000) (hk : xs.length < k) : impl_IsFamily.f k n xs = some (fam n xs) := by
  unfold impl_IsFamily.f; exact IsFamily_impl_l0 n xs (by omega) xs.length k 0 (Nat.zero_add _) hk
theorem HasSet_spec_k (xs : List Int) (s : Int) (k : Nat) (hn : xs.length < 4194000) (hk : xs.length < k) : spec_HasSet.f k xs s = some (decide (s ∈ xs)) := by
  unfold spec_HasSet.f; exact HasSet_spec_l0 xs s (by omega) xs.length k 0 (by omega) (by omega)
theorem HasSet_impl_k (xs : List Int) (s : Int) (k : Nat) (hn : xs.length < 4194000) (hk : xs.length < k) : impl_HasSet.f k xs s = some (decide (s ∈ xs)) := by
  obtain ⟨r, h1, h2⟩ := Index_l0 xs s (by omega) xs.length k 0 (by omega) (by omega)
  unfold impl_HasSet.f slices_Contains_int_int.f slices_Index_int_int.f
  rw [show (0 : Int) = ((0 : Nat) : Int) from rfl, h1]; simp only [Option.bind_some]; exact congrArg some h2
/-- Whether a, without e, takes some element of b instead. -/
def exB (xs : List Int) (a b e : Nat) : Bool := anyFrom (fun f => b.testBit f && !a.testBit f && decide (((Mt.ins (Mt.del a e) f : Nat) : Int) ∈ xs)) 0 8
theorem ins_add {x f : Nat} (hx : x < 256) (hf : f < 8) (h : x.testBit f = false) : Mt.ins x f = x + 2 ^ f := by
  have h1 := del_256 (Mt.ins x f) (Mt.small_ins hx hf) f hf (Mt.in_ins_self x f)
  have h2 : Mt.del (Mt.ins x f) f = x := Mt.ext fun i => by
    rw [Mt.in_del, Mt.in_ins]
    refine ⟨fun h => h.1.elim id (fun q => absurd q h.2), fun k => ⟨.inl k, fun q => ?_⟩⟩
    subst q; unfold Mt.In at k; rw [h] at k; cases k
  omega
theorem del_small {x e : Nat} (hx : x < 256) : Mt.del x e < 256 := Mt.small_sub (Mt.sub_del x e) hx
theorem del_bit {x e f : Nat} (h : x.testBit f = false) : (Mt.del x e).testBit f = false := by
  refine bnot_false fun q => ?_
  have := ((Mt.in_del x e f).mp q).1; unfold Mt.In at this; rw [h] at this; cases this
theorem swap_eq {a e f : Nat} (ha : a < 256) (he : e < 8) (hf : f < 8) (h1 : a.testBit e = true) (h2 : a.testBit f = false) :
    wrap64 (wrap64 ((a : Int) - ((2 ^ e : Nat) : Int)) + ((2 ^ f : Nat) : Int)) = ((Mt.ins (Mt.del a e) f : Nat) : Int) := by
  have e1 := del_256 a ha e he h1
  have e2 := ins_add (del_small ha (e := e)) hf (del_bit h2)
  have p1 := pow_le8 (Nat.le_of_lt hf); have p2 := del_small ha (e := e)
  generalize Mt.del a e = z at *; generalize Mt.ins z f = y at *; generalize 2 ^ e = p at *; generalize 2 ^ f = q at *
  rw [w64 ((a : Int) - p) (by omega) (by omega), w64 _ (by omega) (by omega)]; omega
theorem u64e {e : Nat} (h : e < 64) : IntKind.u64.wrap (e : Int) = (e : Int) := u64_nat _ (by omega) (by omega)
theorem l4Exchange_l0 {n : Int} {xs : List Int} (F : Fam n xs) (a b e : Nat) (ha : a < 256) (hb : b < 256) (he : e < 8) (hae : a.testBit e = true) : ∀ d k f : Nat, f + d = n.toNat → d + xs.length + 1 < k →
    spec_l4Exchange.l0 k (a : Int) (b : Int) (e : Int) (f : Int) n xs = some (anyFrom (fun f => b.testBit f && !a.testBit f && decide (((Mt.ins (Mt.del a e) f : Nat) : Int) ∈ xs)) f d) := by
  have hl := F.len; have hn := F.nn; have hn8 := F.le8
  intro d
  induction d with
  | zero =>
    intro k f h hk; obtain ⟨k, rfl⟩ := pos (show 0 < k by omega)
    simp only [spec_l4Exchange.l0, anyFrom]; rw [if_neg (by omega)]
  | succ d ih =>
    intro k f h hk; obtain ⟨k, rfl⟩ := pos (show 0 < k by omega)
    simp only [spec_l4Exchange.l0, anyFrom]; rw [if_pos (by omega), l2Has_eq b f (by omega) (by omega), l2Has_eq a f (by omega) (by omega), w1 (by omega), u64e (show e < 64 by omega), u64e (show f < 64 by omega)]; simp only [Option.bind_some]
    rw [ih k (f + 1) (by omega) (by omega)]
    cases hbf : b.testBit f
    · rw [if_neg (by simp)]; simp
    · cases haf : a.testBit f
      · rw [if_pos rfl, if_neg (by simp), if_pos (by omega), if_pos (by omega), shl_one e (by omega), shl_one f (by omega), swap_eq ha he (by omega) hae haf, HasSet_spec_k _ _ k (by omega) (by omega)]; simp only [Option.bind_some]
        by_cases hm : ((Mt.ins (Mt.del a e) f : Nat) : Int) ∈ xs
        · rw [if_pos (decide_eq_true hm)]; simp [hm]
        · rw [if_neg (by simpa using hm)]; simp [hm]
      · rw [if_pos rfl, if_pos rfl]; simp
theorem l4Exchange_eq {n : Int} {xs : List Int} (F : Fam n xs) (a b e k : Nat) (ha : a < 256) (hb : b < 2 ^ n.toNat) (he : e < 8) (hae : a.testBit e = true) (hk : xs.length + 10 < k) :
    spec_l4Exchange.f k n xs (a : Int) (b : Int) (e : Int) = some (exB xs a b e) := by
  have hn8 := F.le8; have hb8 := pow_le8 hn8
  unfold spec_l4Exchange.f exB
  refine (l4Exchange_l0 F a b e ha (by omega) he hae n.toNat k 0 (Nat.zero_add _) (by omega)).trans ?_
  congr 1; rw [Bool.eq_iff_iff, anyFrom_iff, anyFrom_iff]
  constructor
  · rintro ⟨j, h1, h2, h3⟩; exact ⟨j, h1, by omega, h3⟩
  · rintro ⟨j, h1, h2, h3⟩
    refine ⟨j, h1, ?_, h3⟩
    simp only [Bool.and_eq_true] at h3
    have := bit_lt hb h3.1.1; omega
/-- What a found failure, or none, is answered with. -/
def noFail : Int × Int × Int × Bool := (0, 0, 0, false)
def failE (xs : List Int) (a b e : Nat) : Option (Int × Int × Int × Bool) := if a.testBit e = true ∧ b.testBit e = false ∧ exB xs a b e = false then some ((a : Int), (b : Int), (e : Int), true) else none
def failB (n : Int) (xs : List Int) (i j : Nat) : Option (Int × Int × Int × Bool) := scan (failE xs (X xs i) (X xs j)) 0 n.toNat
def failA (n : Int) (xs : List Int) (i : Nat) : Option (Int × Int × Int × Bool) := scan (failB n xs i) 0 xs.length
def fail (n : Int) (xs : List Int) : Int × Int × Int × Bool := if fam n xs = true then (scan (failA n xs) 0 xs.length).getD noFail else noFail
theorem failE_none {xs : List Int} {a b e : Nat} (h : ¬ (a.testBit e = true ∧ b.testBit e = false ∧ exB xs a b e = false)) : failE xs a b e = none := by unfold failE; rw [if_neg h]
theorem FirstFailure_spec_l2 {n : Int} {xs : List Int} (F : Fam n xs) (i j : Nat) (hi : i < xs.length) (hj : j < xs.length) (C : Nat) (hC : xs.length + 10 < C) (r : Int × Int × Int × Bool)
    (next : ∀ k, C ≤ k → spec_FirstFailure.l1 k (i : Int) ((j + 1 : Nat) : Int) n xs = some r) :
    ∀ d k e : Nat, e + d = n.toNat → C + d + 1 ≤ k → spec_FirstFailure.l2 k (i : Int) (j : Int) (e : Int) n xs = some ((scan (failE xs (X xs i) (X xs j)) e d).getD r) := by
  have hl := F.len; have hn := F.nn; have hn8 := F.le8; have h1 := F.X i; have h2 := F.X j
  intro d
  induction d with
  | zero =>
    intro k e h hk; obtain ⟨k, rfl⟩ := pos (show 0 < k by omega)
    simp only [spec_FirstFailure.l2]; rw [if_neg (by omega), w1 (by omega), next k (by omega)]; rfl
  | succ d ih =>
    intro k e h hk; obtain ⟨k, rfl⟩ := pos (show 0 < k by omega)
    simp only [spec_FirstFailure.l2]
    rw [scan_getD, if_pos (by omega), if_pos (by omega), if_pos (by omega), if_pos (by omega), if_pos (by omega), h1.1, h2.1, l2Has_eq (X xs i) e (by omega) (by omega), l2Has_eq (X xs j) e (by omega) (by omega), w1 (by omega)]; simp only [Option.bind_some]
    rw [ih k (e + 1) (by omega) (by omega)]
    cases hb1 : (X xs i).testBit e
    · rw [if_neg (by simp), failE_none (by simp [hb1])]; rfl
    · cases hb2 : (X xs j).testBit e
      · rw [if_pos rfl, if_neg (by simp), l4Exchange_eq F (X xs i) (X xs j) e k h1.2.2 h2.2.1 (by omega) hb1 (by omega)]; simp only [Option.bind_some]
        cases hx : exB xs (X xs i) (X xs j) e
        · rw [if_neg (by simp)]; unfold failE; rw [if_pos ⟨hb1, hb2, hx⟩]; rfl
        · rw [if_pos rfl, failE_none (by simp [hx])]; rfl
      · rw [if_pos rfl, if_pos rfl, failE_none (by simp [hb2])]; rfl
theorem FirstFailure_spec_l1 {n : Int} {xs : List Int} (F : Fam n xs) (i : Nat) (hi : i < xs.length) (C : Nat) (hC : xs.length + 10 < C) (r : Int × Int × Int × Bool)
    (next : ∀ k, C ≤ k → spec_FirstFailure.l0 k ((i + 1 : Nat) : Int) n xs = some r) :
    ∀ d k j : Nat, j + d = xs.length → C + d * 10 + 1 ≤ k → spec_FirstFailure.l1 k (i : Int) (j : Int) n xs = some ((scan (failB n xs i) j d).getD r) := by
  have hl := F.len; have hn8 := F.le8
  intro d
  induction d with
  | zero =>
    intro k j h hk; obtain ⟨k, rfl⟩ := pos (show 0 < k by omega)
    simp only [spec_FirstFailure.l1]; rw [if_neg (by omega), w1 (by omega), next k (by omega)]; rfl
  | succ d ih =>
    intro k j h hk; obtain ⟨k, rfl⟩ := pos (show 0 < k by omega)
    simp only [spec_FirstFailure.l1]
    rw [scan_getD, if_pos (by omega)]
    exact FirstFailure_spec_l2 F i j hi (by omega) (C + d * 10 + 1) (by omega) _ (fun k' hk' => ih k' (j + 1) (by omega) hk') n.toNat k 0 (Nat.zero_add _) (by omega)
theorem FirstFailure_spec_l0 {n : Int} {xs : List Int} (F : Fam n xs) :
    ∀ d k i : Nat, i + d = xs.length → d * 2562 + 300 ≤ k → spec_FirstFailure.l0 k (i : Int) n xs = some ((scan (failA n xs) i d).getD noFail) := by
  have hl := F.len
  intro d
  induction d with
  | zero =>
    intro k i h hk; obtain ⟨k, rfl⟩ := pos (show 0 < k by omega)
    simp only [spec_FirstFailure.l0]; rw [if_neg (by omega)]; rfl
  | succ d ih =>
    intro k i h hk; obtain ⟨k, rfl⟩ := pos (show 0 < k by omega)
    simp only [spec_FirstFailure.l0]
    rw [scan_getD, if_pos (by omega)]
    exact FirstFailure_spec_l1 F i (by omega) (d * 2562 + 300) (by omega) _ (fun k' hk' => ih k' (i + 1) (by omega) hk') xs.length k 0 (Nat.zero_add _) (by omega)
theorem FirstFailure_spec (n : Int) (xs : List Int) (k : Nat) (hn : xs.length < 2000000) (hk : 2000000 ≤ k) : spec_FirstFailure.f k n xs = some (fail n xs) := by
  unfold spec_FirstFailure.f fail; rw [IsFamily_spec n xs k (by omega) (by omega)]; simp only [Option.bind_some]
  by_cases h : fam n xs = true
  · have F := (fam_iff n xs).mp h; have hl := F.len
    rw [if_pos h, if_pos h]; exact FirstFailure_spec_l0 F xs.length k 0 (Nat.zero_add _) (by omega)
  · rw [if_neg h, if_neg h]; rfl
theorem anyL_eq (p : Int → Option Bool) (q : Int → Bool) (l : List Int) (hl : l.length < 4194000) (hp : ∀ y ∈ l, p y = some (q y)) : ∀ d k i : Nat, i + d = l.length → d < k → anyL p l k (i : Int) = some ((l.drop i).any q) := by
  intro d
  induction d with
  | zero =>
    intro k i h hk; obtain ⟨k, rfl⟩ := pos (show 0 < k by omega)
    simp only [anyL]; rw [if_neg (by omega), List.drop_eq_nil_of_le (by omega)]; rfl
  | succ d ih =>
    intro k i h hk; obtain ⟨k, rfl⟩ := pos (show 0 < k by omega)
    have hi : i < l.length := by omega
    simp only [anyL]; rw [if_pos (by omega), if_pos (by omega), hp _ (rd_mem hi), drop_rd hi, w1 (by omega)]; simp only [Option.bind_some, List.any_cons]
    cases hq : q (rd l (i : Int))
    · rw [if_neg (by simp), ih k (i + 1) (by omega) (by omega)]; simp
    · rw [if_pos rfl]; rfl
theorem on_FirstFailure_1 {n : Int} {xs : List Int} (F : Fam n xs) (a b e k : Nat) (ha : a < 256) (hb : b < 256) (he : e < 8) (hk : xs.length + 10 < k) :
    on_impl_FirstFailure_1.f k (elems ((Mt.diff b a : Nat) : Int)) n xs (a : Int) (e : Int) = some (exB xs a b e) := by
  have hl := F.len; have hel := elems_length ((Mt.diff b a : Nat) : Int)
  unfold on_impl_FirstFailure_1.f
  have := anyL_eq (impl_FirstFailure_1.f k n xs (a : Int) (e : Int)) (fun y => decide (((Mt.ins (Mt.del a e) y.toNat : Nat) : Int) ∈ xs)) (elems ((Mt.diff b a : Nat) : Int)) (by omega) (fun y hy => by
    have hr := elems_range hy; obtain ⟨f, rfl⟩ := nat_of hr.1
    unfold impl_FirstFailure_1.f
    rw [if_pos (by omega), if_pos (by omega), shl_one e (by omega), shl_one f (by omega), andNot_nat a (2 ^ e) (by omega) (pow_small he), or_nat _ (2 ^ f) (by have := del_small ha (e := e); exact Nat.lt_of_lt_of_le this (by omega)) (pow_small (by omega)), HasSet_impl_k _ _ k (by omega) (by omega), Int.toNat_natCast]
    rfl) (elems ((Mt.diff b a : Nat) : Int)).length k 0 (Nat.zero_add _) (by omega)
  rw [show (0 : Int) = ((0 : Nat) : Int) from rfl, this]
  refine congrArg some ?_; unfold exB; rw [Bool.eq_iff_iff, anyFrom_iff, List.drop_zero, List.any_eq_true]
  have hd : Mt.diff b a < 256 := Mt.small_sub (fun i hi => ((Mt.in_diff b a i).mp hi).1) hb
  constructor
  · rintro ⟨y, hy, hm⟩
    have hr := elems_range hy; obtain ⟨f, rfl⟩ := nat_of hr.1
    rw [mem_elems, hasE_nat _ _ hd (by omega)] at hy
    have hy' := (Mt.in_diff b a f).mp hy
    rw [Int.toNat_natCast] at hm
    refine ⟨f, by omega, by omega, ?_⟩
    rw [show b.testBit f = true from hy'.1, show a.testBit f = false from bnot_false hy'.2, hm]; rfl
  · rintro ⟨f, _, hf, hm⟩
    simp only [Bool.and_eq_true, Bool.not_eq_true'] at hm
    refine ⟨(f : Int), ?_, by rw [Int.toNat_natCast]; exact hm.2⟩
    rw [mem_elems, hasE_nat _ _ hd (by omega)]
    refine (Mt.in_diff b a f).mpr ⟨hm.1.1, fun q => ?_⟩
    unfold Mt.In at q; rw [hm.1.2] at q; cases q
theorem FirstFailure_impl_l2 {n : Int} {xs : List Int} (F : Fam n xs) (i j : Nat) (C : Nat) (hC : xs.length + 10 < C) (r : Int × Int × Int × Bool) (es : List Int) (hes : ∀ e ∈ es, 0 ≤ e ∧ e < 8) (hel : es.length ≤ 8)
    (hj : j < xs.length)
    (next : ∀ k, C ≤ k → impl_FirstFailure.l1 k xs (xs.length : Int) (i : Int) xs (xs.length : Int) ((j + 1 : Nat) : Int) n xs ((X xs i : Nat) : Int) = some r) :
    ∀ d k t : Nat, t + d = es.length → C + d + 1 ≤ k → impl_FirstFailure.l2 k ((X xs j : Nat) : Int) xs (xs.length : Int) (i : Int) xs (xs.length : Int) (j : Int) es (es.length : Int) (t : Int) n xs ((X xs i : Nat) : Int) =
      some ((scanL (fun e => if exB xs (X xs i) (X xs j) e.toNat = true then none else some (((X xs i : Nat) : Int), ((X xs j : Nat) : Int), e, true)) (es.drop t)).getD r) := by
  have hl := F.len; have h1 := F.X i; have h2 := F.X j
  intro d
  induction d with
  | zero =>
    intro k t h hk; obtain ⟨k, rfl⟩ := pos (show 0 < k by omega)
    simp only [impl_FirstFailure.l2]; rw [if_neg (by omega), w1 (by omega), next k (by omega), List.drop_eq_nil_of_le (by omega)]; rfl
  | succ d ih =>
    intro k t h hk; obtain ⟨k, rfl⟩ := pos (show 0 < k by omega)
    have ht : t < es.length := by omega
    have hr := hes _ (rd_mem ht)
    obtain ⟨e, he⟩ := nat_of hr.1
    simp only [impl_FirstFailure.l2]
    rw [if_pos (by omega), if_pos (by omega), if_pos (by omega), andNot_nat _ _ (by omega) (by omega), ElementsOf_impl _ k (by omega), drop_rd ht, he]; simp only [Option.bind_some]
    rw [on_FirstFailure_1 F (X xs i) (X xs j) e k (by omega) (by omega) (by omega) (by omega), w1 (by omega)]; simp only [Option.bind_some, scanL]
    rw [ih k (t + 1) (by omega) (by omega), Int.toNat_natCast]
    cases hx : exB xs (X xs i) (X xs j) e
    · rw [if_neg (by simp), if_neg (by simp)]; rfl
    · rw [if_pos rfl, if_pos rfl]
theorem failB_scanL {n : Int} {xs : List Int} (F : Fam n xs) (i j : Nat) : scanL (fun e => if exB xs (X xs i) (X xs j) e.toNat = true then none else some (((X xs i : Nat) : Int), ((X xs j : Nat) : Int), e, true)) (elems ((Mt.diff (X xs i) (X xs j) : Nat) : Int)) = failB n xs i j := by
  have h1 := F.X i; have h2 := F.X j; have hn8 := F.le8
  have hd : Mt.diff (X xs i) (X xs j) < 256 := Mt.small_sub (fun i hi => ((Mt.in_diff _ _ i).mp hi).1) h1.2.2
  unfold elems failB; rw [scanL_elems]
  have hm := scan_more (p := failE xs (X xs i) (X xs j)) (8 - n.toNat) n.toNat 0 (fun e he => failE_none (fun q => by have := bit_lt h1.2.1 q.1; omega))
  rw [show n.toNat + (8 - n.toNat) = 8 by omega] at hm
  rw [← hm]
  refine scan_congr 8 0 fun e _ he => ?_
  rw [hasE_nat _ _ hd (by omega), Int.toNat_natCast]
  unfold failE
  by_cases hin : Mt.In e (Mt.diff (X xs i) (X xs j))
  · have q := (Mt.in_diff _ _ e).mp hin
    rw [if_pos (show (Mt.diff (X xs i) (X xs j)).testBit e = true from hin)]
    cases hx : exB xs (X xs i) (X xs j) e
    · rw [if_neg (by simp), if_pos ⟨q.1, bnot_false q.2, rfl⟩]
    · rw [if_pos rfl, if_neg (by simp)]
  · rw [if_neg (show ¬ (Mt.diff (X xs i) (X xs j)).testBit e = true from hin), if_neg]
    rintro ⟨q1, q2, _⟩
    exact hin ((Mt.in_diff _ _ e).mpr ⟨q1, fun q => by unfold Mt.In at q; rw [q2] at q; cases q⟩)
theorem FirstFailure_impl_l1 {n : Int} {xs : List Int} (F : Fam n xs) (i : Nat) (hi : i < xs.length) (C : Nat) (hC : xs.length + 10 < C) (r : Int × Int × Int × Bool)
    (next : ∀ k, C ≤ k → impl_FirstFailure.l0 k xs (xs.length : Int) ((i + 1 : Nat) : Int) n xs = some r) :
    ∀ d k j : Nat, j + d = xs.length → C + d * 10 + 1 ≤ k → impl_FirstFailure.l1 k xs (xs.length : Int) (i : Int) xs (xs.length : Int) (j : Int) n xs ((X xs i : Nat) : Int) = some ((scan (failB n xs i) j d).getD r) := by
  have hl := F.len; have hn8 := F.le8; have h1 := F.X i
  intro d
  induction d with
  | zero =>
    intro k j h hk; obtain ⟨k, rfl⟩ := pos (show 0 < k by omega)
    simp only [impl_FirstFailure.l1]; rw [if_neg (by omega), w1 (by omega), next k (by omega)]; rfl
  | succ d ih =>
    intro k j h hk; obtain ⟨k, rfl⟩ := pos (show 0 < k by omega)
    have h2 := F.X j
    simp only [impl_FirstFailure.l1]
    rw [scan_getD, if_pos (by omega), if_pos (by omega), if_pos (by omega), h2.1, andNot_nat _ _ (by omega) (by omega), ElementsOf_impl _ k (by omega)]; simp only [Option.bind_some]
    have hel := elems_length ((Mt.diff (X xs i) (X xs j) : Nat) : Int)
    rw [← failB_scanL F i j]
    have key := FirstFailure_impl_l2 F i j (C + d * 10 + 1) (by omega) _ (elems ((Mt.diff (X xs i) (X xs j) : Nat) : Int)) (fun e he => elems_range he) hel (by omega) (fun k' hk' => ih k' (j + 1) (by omega) hk') _ k 0 (Nat.zero_add _) (by omega)
    rw [List.drop_zero] at key
    exact key
theorem FirstFailure_impl_l0 {n : Int} {xs : List Int} (F : Fam n xs) :
    ∀ d k i : Nat, i + d = xs.length → d * 2562 + 300 ≤ k → impl_FirstFailure.l0 k xs (xs.length : Int) (i : Int) n xs = some ((scan (failA n xs) i d).getD noFail) := by
  have hl := F.len
  intro d
  induction d with
  | zero =>
    intro k i h hk; obtain ⟨k, rfl⟩ := pos (show 0 < k by omega)
    simp only [impl_FirstFailure.l0]; rw [if_neg (by omega)]; rfl
  | succ d ih =>
    intro k i h hk; obtain ⟨k, rfl⟩ := pos (show 0 < k by omega)
    have h1 := F.X i
    simp only [impl_FirstFailure.l0]
    rw [scan_getD, if_pos (by omega), if_pos (by omega), if_pos (by omega), h1.1]
    exact FirstFailure_impl_l1 F i (by omega) (d * 2562 + 300) (by omega) _ (fun k' hk' => ih k' (i + 1) (by omega) hk') xs.length k 0 (Nat.zero_add _) (by omega)
theorem FirstFailure_impl (n : Int) (xs : List Int) (k : Nat) (hn : xs.length < 2000000) (hk : 2000000 ≤ k) : impl_FirstFailure.f k n xs = some (fail n xs) := by
  unfold impl_FirstFailure.f fail; rw [IsFamily_impl n xs k (by omega) (by omega)]; simp only [Option.bind_some]
  by_cases h : fam n xs = true
  · have F := (fam_iff n xs).mp h; have hl := F.len
    rw [if_pos h, if_pos h]; exact FirstFailure_impl_l0 F xs.length k 0 (Nat.zero_add _) (by omega)
  · rw [if_neg h, if_neg h]; rfl
/-- Whether n and xs are a matroid. -/
def mat (n : Int) (xs : List Int) : Bool := fam n xs && (decide (0 < xs.length) && !(fail n xs).2.2.2)
theorem IsMatroid_spec (n : Int) (xs : List Int) (k : Nat) (hn : xs.length < 2000000) (hk : 2000000 ≤ k) : spec_IsMatroid.f k n xs = some (mat n xs) := by
  unfold spec_IsMatroid.f mat; rw [FirstFailure_spec n xs k hn hk, IsFamily_spec n xs k (by omega) (by omega)]; simp only [Option.bind_some]
  cases hf : fam n xs
  · rfl
  · rw [if_pos rfl]
    by_cases h0 : 0 < xs.length
    · rw [if_pos (by omega), decide_eq_true h0]; rfl
    · rw [if_neg (by omega), decide_eq_false h0]; rfl
theorem IsMatroid_impl (n : Int) (xs : List Int) (k : Nat) (hn : xs.length < 2000000) (hk : 2000000 ≤ k) : impl_IsMatroid.f k n xs = some (mat n xs) := by
  unfold impl_IsMatroid.f mat; rw [FirstFailure_impl n xs k hn hk, IsFamily_impl n xs k (by omega) (by omega)]; simp only [Option.bind_some]
  cases hf : fam n xs
  · rfl
  · rw [if_pos rfl]
    by_cases h0 : 0 < xs.length
    · rw [if_pos (by omega), decide_eq_true h0]; rfl
    · rw [if_neg (by omega), decide_eq_false h0]; rfl
end Go.Proofs.YtekegbacnagbcaaDoor.L
