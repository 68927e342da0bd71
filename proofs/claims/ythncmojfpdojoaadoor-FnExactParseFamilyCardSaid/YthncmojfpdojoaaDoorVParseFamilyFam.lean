/- Families of sets and the exchange: what the printed functions come to. -/
import Derived.Test.YthncmojfpdojoaaDoorVParseFamilyElems
namespace Go.Proofs.YthncmojfpdojoaaDoor.L
open Go.RowKit Go.Proofs.YthncmojfpdojoaaDoorW.PrintWords Go.Proofs.YthncmojfpdojoaaDoorW.PrintMore Go.Proofs.YthncmojfpdojoaaDoor.P Go.Proofs.YthncmojfpdojoaaDoor.B
/-- The first answer of p from i on, d times. -/
def scan {α : Type} (p : Nat → Option α) : Nat → Nat → Option α
  | _, 0 => none
  | i, d + 1 => match p i with
    | some r => some r
    | none => scan p (i + 1) d
theorem scan_getD {α : Type} (p : Nat → Option α) (i d : Nat) (r : α) : (scan p i (d + 1)).getD r = (p i).getD ((scan p (i + 1) d).getD r) := by
  simp only [scan]; cases p i <;> rfl
theorem scan_congr {α : Type} {p q : Nat → Option α} : ∀ d i, (∀ j, i ≤ j → j < i + d → p j = q j) → scan p i d = scan q i d := by
  intro d
  induction d with
  | zero => intro i h; rfl
  | succ d ih => intro i h; simp only [scan]; rw [h i (Nat.le_refl _) (by omega), ih (i + 1) (fun j a b => h j (by omega) (by omega))]
theorem scan_none {α : Type} {p : Nat → Option α} : ∀ d i, (∀ j, i ≤ j → j < i + d → p j = none) → scan p i d = none := by
  intro d
  induction d with
  | zero => intro i h; rfl
  | succ d ih => intro i h; simp only [scan]; rw [h i (Nat.le_refl _) (by omega)]; exact ih (i + 1) (fun j a b => h j (by omega) (by omega))
theorem scan_none_iff {α : Type} {p : Nat → Option α} : ∀ d i, scan p i d = none ↔ ∀ j, i ≤ j → j < i + d → p j = none := by
  intro d
  induction d with
  | zero => intro i; exact ⟨fun _ j a b => by omega, fun _ => rfl⟩
  | succ d ih =>
    intro i; simp only [scan]
    cases hp : p i with
    | some r => exact ⟨fun h => (by cases h), fun h => by rw [h i (Nat.le_refl _) (by omega)] at hp; cases hp⟩
    | none =>
      refine (ih (i + 1)).trans ⟨fun h j a b => ?_, fun h j a b => h j (by omega) (by omega)⟩
      by_cases e : j = i
      · rw [e]; exact hp
      · exact h j (by omega) (by omega)
theorem scan_some {α : Type} {p : Nat → Option α} {r : α} : ∀ d i, scan p i d = some r → ∃ j, i ≤ j ∧ j < i + d ∧ p j = some r := by
  intro d
  induction d with
  | zero => intro i h; cases h
  | succ d ih =>
    intro i h; simp only [scan] at h
    cases hp : p i with
    | some q => rw [hp] at h; exact ⟨i, Nat.le_refl _, by omega, by rw [hp]; exact h⟩
    | none => rw [hp] at h; obtain ⟨j, a, b, c⟩ := ih (i + 1) h; exact ⟨j, by omega, by omega, c⟩
theorem scan_more {α : Type} {p : Nat → Option α} (m : Nat) : ∀ d i, (∀ j, i + d ≤ j → p j = none) → scan p i (d + m) = scan p i d := by
  intro d
  induction d with
  | zero => intro i h; rw [Nat.zero_add]; exact scan_none m i (fun j a _ => h j (by omega))
  | succ d ih => intro i h; rw [show d + 1 + m = (d + m) + 1 by omega]; simp only [scan]; rw [ih (i + 1) (fun j a => h j (by omega))]
def scanL {α : Type} (q : Int → Option α) : List Int → Option α
  | [] => none
  | y :: ys => match q y with
    | some r => some r
    | none => scanL q ys
theorem scanL_elems {α : Type} (q : Int → Option α) (s : Int) : ∀ d i, scanL q (elemsFrom s i d) = scan (fun e => if hasE s (e : Int) = true then q (e : Int) else none) i d := by
  intro d
  induction d with
  | zero => intro i; rfl
  | succ d ih =>
    intro i; simp only [elemsFrom, scan]
    by_cases h : hasE s (i : Int) = true
    · rw [if_pos h, if_pos h]; simp only [scanL]; rw [ih]
    · rw [if_neg h, if_neg h, ih]
def anyFrom (p : Nat → Bool) : Nat → Nat → Bool
  | _, 0 => false
  | i, d + 1 => p i || anyFrom p (i + 1) d
theorem anyFrom_iff (p : Nat → Bool) : ∀ d i, anyFrom p i d = true ↔ ∃ j, i ≤ j ∧ j < i + d ∧ p j = true := by
  intro d
  induction d with
  | zero => intro i; simp only [anyFrom]; exact ⟨fun h => (by cases h), fun ⟨j, a, b, _⟩ => by omega⟩
  | succ d ih =>
    intro i; simp only [anyFrom, Bool.or_eq_true]; rw [ih]
    constructor
    · rintro (h | ⟨j, a, b, c⟩)
      · exact ⟨i, Nat.le_refl _, by omega, h⟩
      · exact ⟨j, by omega, by omega, c⟩
    · rintro ⟨j, a, b, c⟩
      by_cases e : j = i
      · subst e; exact .inl c
      · exact .inr ⟨j, by omega, by omega, c⟩
/-- A family on n elements: sets, in rising order. -/
structure Fam (n : Int) (xs : List Int) : Prop where
  n0 : 0 ≤ n
  n8 : n ≤ 8
  set : ∀ x ∈ xs, 0 ≤ x ∧ x < 2 ^ n.toNat
  inc : xs.Pairwise (· < ·)
def famFrom (n : Int) (xs : List Int) : Nat → Nat → Bool
  | _, 0 => decide (0 ≤ n ∧ n ≤ 8)
  | i, d + 1 => isSet n (rd xs (i : Int)) && (decide (i = 0) || decide (rd xs ((i - 1 : Nat) : Int) < rd xs (i : Int))) && famFrom n xs (i + 1) d
def fam (n : Int) (xs : List Int) : Bool := famFrom n xs 0 xs.length
theorem isSet_true {n s : Int} (h : isSet n s = true) : 0 ≤ n ∧ n ≤ 8 ∧ 0 ≤ s ∧ s < 2 ^ n.toNat := of_decide_eq_true h
theorem famFrom_iff (n : Int) (xs : List Int) : ∀ d i, i + d = xs.length → (famFrom n xs i d = true ↔ 0 ≤ n ∧ n ≤ 8 ∧ (∀ j, i ≤ j → j < xs.length → 0 ≤ rd xs (j : Int) ∧ rd xs (j : Int) < 2 ^ n.toNat) ∧ (∀ j, i ≤ j → j < xs.length → j ≠ 0 → rd xs ((j - 1 : Nat) : Int) < rd xs (j : Int))) := by
  intro d
  induction d with
  | zero =>
    intro i h; simp only [famFrom, decide_eq_true_eq]
    exact ⟨fun q => ⟨q.1, q.2, fun j a b => by omega, fun j a b => by omega⟩, fun q => ⟨q.1, q.2.1⟩⟩
  | succ d ih =>
    intro i h; simp only [famFrom, Bool.and_eq_true, Bool.or_eq_true, decide_eq_true_eq]; rw [ih (i + 1) (by omega)]
    constructor
    · rintro ⟨⟨h1, h2⟩, h3, h4, h5, h6⟩
      have h1' := isSet_true h1
      refine ⟨h3, h4, fun j a b => ?_, fun j a b c => ?_⟩
      · by_cases e : j = i
        · subst e; exact h1'.2.2
        · exact h5 j (by omega) b
      · by_cases e : j = i
        · subst e; rcases h2 with h2 | h2
          · exact absurd h2 c
          · exact h2
        · exact h6 j (by omega) b c
    · rintro ⟨h3, h4, h5, h6⟩
      refine ⟨⟨?_, ?_⟩, h3, h4, fun j a b => h5 j (by omega) b, fun j a b => h6 j (by omega) b⟩
      · have := h5 i (Nat.le_refl _) (by omega); exact decide_eq_true ⟨h3, h4, this.1, this.2⟩
      · by_cases e : i = 0
        · exact .inl e
        · exact .inr (h6 i (Nat.le_refl _) (by omega) e)
theorem rd_get {xs : List Int} {j : Nat} (h : j < xs.length) : rd xs (j : Int) = xs[j] := by rw [rd_nat]; simp [List.getD, h]
theorem mem_rd {xs : List Int} {x : Int} (h : x ∈ xs) : ∃ j, j < xs.length ∧ rd xs (j : Int) = x := by
  obtain ⟨j, hj, e⟩ := List.getElem_of_mem h; exact ⟨j, hj, by rw [rd_get hj]; exact e⟩
theorem inc_of_step {xs : List Int} (h : ∀ j, 0 ≤ j → j < xs.length → j ≠ 0 → rd xs ((j - 1 : Nat) : Int) < rd xs (j : Int)) : xs.Pairwise (· < ·) := by
  rw [List.pairwise_iff_getElem]
  have key : ∀ m i, i + m + 1 < xs.length → rd xs (i : Int) < rd xs ((i + m + 1 : Nat) : Int) := by
    intro m
    induction m with
    | zero => intro i q; have := h (i + 0 + 1) (Nat.zero_le _) q (by omega); exact this
    | succ m ih =>
      intro i q; have h1 := ih i (by omega); have h2 := h (i + (m + 1) + 1) (Nat.zero_le _) q (by omega)
      rw [show i + (m + 1) + 1 - 1 = i + m + 1 by omega] at h2; omega
  intro i j hi hj hij
  have := key (j - i - 1) i (by omega)
  rw [show i + (j - i - 1) + 1 = j by omega, rd_get hi, rd_get hj] at this; exact this
theorem fam_iff (n : Int) (xs : List Int) : fam n xs = true ↔ Fam n xs := by
  unfold fam; rw [famFrom_iff n xs xs.length 0 (Nat.zero_add _)]
  constructor
  · rintro ⟨h1, h2, h3, h4⟩
    refine ⟨h1, h2, fun x hx => ?_, inc_of_step h4⟩
    obtain ⟨j, hj, rfl⟩ := mem_rd hx; exact h3 j (Nat.zero_le _) hj
  · rintro ⟨h1, h2, h3, h4⟩
    refine ⟨h1, h2, fun j _ hj => h3 _ (rd_mem hj), fun j _ hj h0 => ?_⟩
    rw [List.pairwise_iff_getElem] at h4
    have := h4 (j - 1) j (by omega) hj (by omega)
    rw [rd_get hj, rd_get (by omega)]; exact this
theorem Fam.small {n : Int} {xs : List Int} (h : Fam n xs) {x : Int} (hx : x ∈ xs) : 0 ≤ x ∧ x < 256 := by
  have h1 := h.set x hx; have h2 := pow_le8 (show n.toNat ≤ 8 by have := h.n0; have := h.n8; omega); have h3 := pow_cast n.toNat; omega
theorem rd_out {xs : List Int} {j : Nat} (h : xs.length ≤ j) : rd xs (j : Int) = 0 := by rw [rd_nat]; simp [List.getD, h]
/-- The set at place i, as a natural number. -/
def X (xs : List Int) (i : Nat) : Nat := (rd xs (i : Int)).toNat
theorem Fam.X {n : Int} {xs : List Int} (h : Fam n xs) (i : Nat) : rd xs (i : Int) = ((L.X xs i : Nat) : Int) ∧ L.X xs i < 2 ^ n.toNat ∧ L.X xs i < 256 := by
  by_cases hi : i < xs.length
  · have h1 := h.set _ (rd_mem hi); have h2 := h.small (rd_mem hi); have h3 := pow_cast n.toNat; unfold L.X; omega
  · have h1 := rd_out (show xs.length ≤ i by omega); have h2 := pow_le8 (show n.toNat ≤ 8 by have := h.n0; have := h.n8; omega); unfold L.X; rw [h1]; exact ⟨rfl, h2.1, by decide⟩
theorem inc_len {xs : List Int} (h : xs.Pairwise (· < ·)) (lo hi : Int) (hb : ∀ x ∈ xs, lo ≤ x ∧ x < hi) : lo ≤ hi → (xs.length : Int) ≤ hi - lo := by
  induction xs generalizing lo with
  | nil => intro h; simp; omega
  | cons x xs ih =>
    intro _; rw [List.pairwise_cons] at h
    have hx := hb x List.mem_cons_self
    have := ih h.2 (x + 1) (fun y hy => ⟨by have := h.1 y hy; omega, (hb y (List.mem_cons_of_mem _ hy)).2⟩) (by omega)
    simp only [List.length_cons]; omega
theorem Fam.len {n : Int} {xs : List Int} (h : Fam n xs) : xs.length ≤ 256 := by
  have := inc_len h.inc 0 256 (fun x hx => h.small hx) (by omega); omega
theorem Fam.le8 {n : Int} {xs : List Int} (h : Fam n xs) : n.toNat ≤ 8 := by have := h.n0; have := h.n8; omega
theorem Fam.nn {n : Int} {xs : List Int} (h : Fam n xs) : n = (n.toNat : Int) := by have := h.n0; omega
theorem bit_lt {m a e : Nat} (h : a < 2 ^ m) (he : a.testBit e = true) : e < m := by
  refine Classical.byContradiction fun hn => ?_
  have := Nat.testBit_lt_two_pow (x := a) (i := e) (Nat.lt_of_lt_of_le h (Nat.pow_le_pow_right (by omega) (by omega)))
  rw [this] at he; cases he
theorem bnot_false {b : Bool} (h : ¬ b = true) : b = false := by cases b <;> simp_all
theorem IsFamily_spec_l0 (n : Int) (xs : List Int) (hn : xs.length < 4611686018427387904) : ∀ d k i : Nat, i + d = xs.length → d < k → spec_IsFamily.l0 k n xs (i : Int) = some (famFrom n xs i d) := by
  intro d
  induction d with
  | zero =>
    intro k i h hk; obtain ⟨k, rfl⟩ := pos (show 0 < k by omega)
    simp only [spec_IsFamily.l0]; rw [if_neg (by omega), l1In_eq]; rfl
  | succ d ih =>
    intro k i h hk; obtain ⟨k, rfl⟩ := pos (show 0 < k by omega)
    simp only [spec_IsFamily.l0, famFrom]; rw [if_pos (by omega), if_pos (by omega), IsSet_spec, w1 (by omega)]; simp only [Option.bind_some]
    by_cases hs : isSet n (rd xs (i : Int)) = true
    · rw [if_pos hs, hs, Bool.true_and]
      by_cases h0 : i = 0
      · subst h0; rw [if_neg (by omega), ih k 1 (by omega) (by omega)]; simp
      · have e : wrap64 ((i : Int) - 1) = ((i - 1 : Nat) : Int) := by rw [w64 _ (by omega) (by omega)]; omega
        rw [if_pos (by omega), e, if_pos (by omega), if_pos (by omega), ih k (i + 1) (by omega) (by omega), decide_eq_false h0, Bool.false_or]
        by_cases hl : rd xs ((i - 1 : Nat) : Int) < rd xs (i : Int)
        · rw [if_neg (by omega), decide_eq_true hl, Bool.true_and]
        · rw [if_pos (by omega), decide_eq_false hl, Bool.false_and]
    · rw [if_neg hs, bnot_false hs]; rfl
theorem IsFamily_spec (n : Int) (xs : List Int) (k : Nat) (hn : xs.length < 4194000) (hk : xs.length < k) : spec_IsFamily.f k n xs = some (fam n xs) := by
  unfold spec_IsFamily.f; exact IsFamily_spec_l0 n xs (by omega) xs.length k 0 (Nat.zero_add _) hk
theorem IsFamily_impl_l0 (n : Int) (xs : List Int) (hn : xs.length < 4611686018427387904) : ∀ d k i : Nat, i + d = xs.length → d < k → impl_IsFamily.l0 k n xs xs (xs.length : Int) (i : Int) = some (famFrom n xs i d) := by
  intro d
  induction d with
  | zero =>
    intro k i h hk; obtain ⟨k, rfl⟩ := pos (show 0 < k by omega)
    simp only [impl_IsFamily.l0]; rw [if_neg (by omega), isSize_eq]; rfl
  | succ d ih =>
    intro k i h hk; obtain ⟨k, rfl⟩ := pos (show 0 < k by omega)
    simp only [impl_IsFamily.l0, famFrom]; rw [if_pos (by omega), if_pos (by omega), if_pos (by omega), IsSet_impl, w1 (by omega)]; simp only [Option.bind_some]
    by_cases hs : isSet n (rd xs (i : Int)) = true
    · rw [if_pos hs, hs, Bool.true_and]
      by_cases h0 : i = 0
      · subst h0; rw [if_neg (by omega), ih k 1 (by omega) (by omega)]; simp
      · have e : wrap64 ((i : Int) - 1) = ((i - 1 : Nat) : Int) := by rw [w64 _ (by omega) (by omega)]; omega
        rw [if_pos (by omega), e, if_pos (by omega), if_pos (by omega), ih k (i + 1) (by omega) (by omega), decide_eq_false h0, Bool.false_or]
        by_cases hl : rd xs ((i - 1 : Nat) : Int) < rd xs (i : Int)
        · rw [if_neg (by omega), decide_eq_true hl, Bool.true_and]
        · rw [if_pos (by omega), decide_eq_false hl, Bool.false_and]
    · rw [if_neg hs, bnot_false hs]; rfl
theorem IsFamily_impl (n : Int) (xs : List Int) (k : Nat) (hn : xs.length < 4194000) (hk : xs.length < k) : impl_IsFamily.f k n xs = some (fam n xs) := by
  unfold impl_IsFamily.f; exact IsFamily_impl_l0 n xs (by omega) xs.length k 0 (Nat.zero_add _) hk
/-- Whether a, without e, takes some element of b instead. -/
def exB (xs : List Int) (a b e : Nat) : Bool := anyFrom (fun f => b.testBit f && !a.testBit f && decide (((Mt.ins (Mt.del a e) f : Nat) : Int) ∈ xs)) 0 8
theorem ins_add {x f : Nat} (hx : x < 256) (hf : f < 8) (h : x.testBit f = false) : Mt.ins x f = x + 2 ^ f := by
  have h1 := del_256 (Mt.ins x f) (Mt.small_ins hx hf) f hf (Mt.in_ins_self x f)
  have h2 : Mt.del (Mt.ins x f) f = x := Mt.ext fun i => by
    rw [Mt.in_del, Mt.in_ins]
    refine ⟨fun h => h.1.elim id (fun q => absurd q h.2), fun k => ⟨.inl k, fun q => ?_⟩⟩
    subst q; unfold Mt.In at k; rw [h] at k; cases k
  omega
theorem del_small {x e : Nat} (hx : x < 256) : Mt.del x e < 256 := Mt.small_sub (Mt.sub_del x e) hx
theorem del_bit {x e f : Nat} (h : x.testBit f = false) : (Mt.del x e).testBit f = false := by
  refine bnot_false fun q => ?_
  have := ((Mt.in_del x e f).mp q).1; unfold Mt.In at this; rw [h] at this; cases this
theorem swap_eq {a e f : Nat} (ha : a < 256) (he : e < 8) (hf : f < 8) (h1 : a.testBit e = true) (h2 : a.testBit f = false) :
    wrap64 (wrap64 ((a : Int) - ((2 ^ e : Nat) : Int)) + ((2 ^ f : Nat) : Int)) = ((Mt.ins (Mt.del a e) f : Nat) : Int) := by
  have e1 := del_256 a ha e he h1
  have e2 := ins_add (del_small ha (e := e)) hf (del_bit h2)
  have p1 := pow_le8 (Nat.le_of_lt hf); have p2 := del_small ha (e := e)
  generalize Mt.del a e = z at *; generalize Mt.ins z f = y at *; generalize 2 ^ e = p at *; generalize 2 ^ f = q at *
  rw [w64 ((a : Int) - p) (by omega) (by omega), w64 _ (by omega) (by omega)]; omega
theorem u64e {e : Nat} (h : e < 64) : IntKind.u64.wrap (e : Int) = (e : Int) := u64_nat _ (by omega) (by omega)
/-- What a found failure, or none, is answered with. -/
def noFail : Int × Int × Int × Bool := (0, 0, 0, false)
def failE (xs : List Int) (a b e : Nat) : Option (Int × Int × Int × Bool) := if a.testBit e = true ∧ b.testBit e = false ∧ exB xs a b e = false then some ((a : Int), (b : Int), (e : Int), true) else none
def failB (n : Int) (xs : List Int) (i j : Nat) : Option (Int × Int × Int × Bool) := scan (failE xs (X xs i) (X xs j)) 0 n.toNat
def failA (n : Int) (xs : List Int) (i : Nat) : Option (Int × Int × Int × Bool) := scan (failB n xs i) 0 xs.length
def fail (n : Int) (xs : List Int) : Int × Int × Int × Bool := if fam n xs = true then (scan (failA n xs) 0 xs.length).getD noFail else noFail
theorem failE_none {xs : List Int} {a b e : Nat} (h : ¬ (a.testBit e = true ∧ b.testBit e = false ∧ exB xs a b e = false)) : failE xs a b e = none := by unfold failE; rw [if_neg h]
/-- Whether n and xs are a matroid. -/
def mat (n : Int) (xs : List Int) : Bool := fam n xs && (decide (0 < xs.length) && !(fail n xs).2.2.2)
end Go.Proofs.YthncmojfpdojoaaDoor.L
