/- What is asked of a matroid: what the printed functions come to. -/
import Derived.Test.YthpocifdejedpaaVBasesOfFam
namespace Go.Proofs.Ythpocifdejedpaa.L
open Go.RowKit Go.Proofs.YthpocifdejedpaaW.PrintWords Go.Proofs.YthpocifdejedpaaW.PrintMore Go.Proofs.Ythpocifdejedpaa.P Go.Proofs.Ythpocifdejedpaa.B
theorem mat_fam {n : Int} {xs : List Int} (h : mat n xs = true) : Fam n xs ∧ 0 < xs.length ∧ (fail n xs).2.2.2 = false := by
  unfold mat at h; simp only [Bool.and_eq_true, decide_eq_true_eq, Bool.not_eq_true'] at h
  exact ⟨(fam_iff n xs).mp h.1, h.2.1, h.2.2⟩
theorem cnt_nat {x : Nat} (h : x < 256) : cnt (x : Int) = ((Mt.card x : Nat) : Int) := by
  unfold cnt; rw [if_pos (by unfold any; exact decide_eq_true (by omega)), Int.toNat_natCast]
theorem fullSet_nat {n : Int} (h0 : 0 ≤ n) (h8 : n ≤ 8) : fullSet n = ((2 ^ n.toNat - 1 : Nat) : Int) := by
  unfold fullSet; rw [if_pos ⟨h0, h8⟩]; have := pow_le8 (show n.toNat ≤ 8 by omega); have := pow_cast n.toNat; omega
theorem isSet_nat {n s : Int} (h : isSet n s = true) : s = ((s.toNat : Nat) : Int) ∧ s.toNat < 2 ^ n.toNat ∧ s.toNat < 256 ∧ n.toNat ≤ 8 := by
  have h1 := isSet_true h; have h2 := pow_le8 (show n.toNat ≤ 8 by omega); have h3 := pow_cast n.toNat; omega
theorem land_small {x y : Nat} (h : x < 256) : x &&& y < 256 := Mt.small_sub (Mt.sub_and_left x y) h
def rkM (n : Int) (xs : List Int) : Int := if mat n xs = true then cnt (rd xs 0) else -1
/-- s without what some set from place i on lacks | without what some set has. -/
def andAll (xs : List Int) : Nat → Nat → Nat → Nat
  | 0, _, s => s
  | d + 1, i, s => andAll xs d (i + 1) (s &&& X xs i)
def diffAll (xs : List Int) : Nat → Nat → Nat → Nat
  | 0, _, s => s
  | d + 1, i, s => diffAll xs d (i + 1) (Mt.diff s (X xs i))
theorem diff_small {s b : Nat} (h : s < 256) : Mt.diff s b < 256 := Mt.small_sub (fun i hi => ((Mt.in_diff _ _ i).mp hi).1) h
theorem add_or {x y : Nat} (hx : x < 256) (hy : y < 256) (h : x &&& y = 0) : x + y = x ||| y := by
  have := BitVec.add_eq_or_of_and_eq_zero (BitVec.ofNat 16 x) (BitVec.ofNat 16 y) (by rw [← BitVec.ofNat_and, h])
  have := congrArg BitVec.toNat this
  rw [BitVec.toNat_add, BitVec.toNat_or, BitVec.toNat_ofNat, BitVec.toNat_ofNat, Nat.mod_eq_of_lt (show x < 2 ^ 16 by omega), Nat.mod_eq_of_lt (show y < 2 ^ 16 by omega), Nat.mod_eq_of_lt (by omega)] at this
  exact this
theorem diff_add (s : Nat) (hs : s < 256) (b : Nat) (_hb : b < 256) : Mt.diff s b + (s &&& b) = s := by
  rw [add_or (diff_small hs) (land_small hs)]
  · refine Mt.ext fun i => ?_
    rw [Mt.in_or, Mt.in_diff, Mt.in_and]
    refine ⟨fun h => h.elim (fun q => q.1) (fun q => q.1), fun h => ?_⟩
    by_cases q : Mt.In i b
    · exact .inr ⟨h, q⟩
    · exact .inl ⟨h, q⟩
  · refine Mt.ext fun i => ?_
    rw [Mt.in_and, Mt.in_diff, Mt.in_and]
    exact ⟨fun h => absurd h.2.2 h.1.2, fun h => absurd h (Mt.not_in_zero i)⟩
def coloops (n : Int) (xs : List Int) : Int := if mat n xs = true then ((andAll xs xs.length 0 (2 ^ n.toNat - 1) : Nat) : Int) else 0
def loops (n : Int) (xs : List Int) : Int := if mat n xs = true then ((diffAll xs xs.length 0 (2 ^ n.toNat - 1) : Nat) : Int) else 0
/-- The most elements that a set from place i on has within s. -/
def rkFrom (xs : List Int) (s : Nat) : Nat → Nat → Nat → Nat
  | 0, _, r => r
  | d + 1, i, r => rkFrom xs s d (i + 1) (max r (Mt.card (X xs i &&& s)))
def rk (xs : List Int) (s : Nat) : Nat := rkFrom xs s xs.length 0 0
theorem rkFrom_iff (xs : List Int) (s : Nat) : ∀ d i r, (rkFrom xs s d i r = r ∨ ∃ j, i ≤ j ∧ j < i + d ∧ rkFrom xs s d i r = Mt.card (X xs j &&& s)) ∧ r ≤ rkFrom xs s d i r ∧ ∀ j, i ≤ j → j < i + d → Mt.card (X xs j &&& s) ≤ rkFrom xs s d i r := by
  intro d
  induction d with
  | zero => intro i r; exact ⟨.inl rfl, Nat.le_refl _, fun j a b => by omega⟩
  | succ d ih =>
    intro i r; simp only [rkFrom]
    obtain ⟨h1, h2, h3⟩ := ih (i + 1) (max r (Mt.card (X xs i &&& s)))
    refine ⟨?_, by omega, fun j a b => ?_⟩
    · rcases h1 with h1 | ⟨j, a, b, c⟩
      · rw [h1]
        by_cases q : r ≤ Mt.card (X xs i &&& s)
        · exact .inr ⟨i, Nat.le_refl _, by omega, by omega⟩
        · exact .inl (by omega)
      · exact .inr ⟨j, by omega, by omega, c⟩
    · by_cases e : j = i
      · subst e; omega
      · exact h3 j (by omega) (by omega)
theorem rk_iff {xs : List Int} (h : 0 < xs.length) (s : Nat) : (∃ j, j < xs.length ∧ Mt.card (X xs j &&& s) = rk xs s) ∧ ∀ j, j < xs.length → Mt.card (X xs j &&& s) ≤ rk xs s := by
  obtain ⟨h1, h2, h3⟩ := rkFrom_iff xs s xs.length 0 0
  refine ⟨?_, fun j hj => h3 j (Nat.zero_le _) (by omega)⟩
  rcases h1 with h1 | ⟨j, _, b, c⟩
  · refine ⟨0, h, ?_⟩
    have := h3 0 (Nat.le_refl _) (by omega); unfold rk; omega
  · exact ⟨j, by omega, c.symm⟩
theorem l5Rank_l0 {n : Int} {xs : List Int} (F : Fam n xs) (s : Nat) (hs : s < 256) : ∀ d k i r : Nat, i + d = xs.length → d + 10 < k → spec_l5Rank.l0 k (s : Int) (r : Int) (i : Int) n xs = some ((rkFrom xs s d i r : Nat) : Int) := by
  have hl := F.len
  intro d
  induction d with
  | zero =>
    intro k i r h hk; obtain ⟨k, rfl⟩ := pos (show 0 < k by omega)
    simp only [spec_l5Rank.l0]; rw [if_neg (by omega)]; rfl
  | succ d ih =>
    intro k i r h hk; obtain ⟨k, rfl⟩ := pos (show 0 < k by omega)
    have h1 := F.X i
    simp only [spec_l5Rank.l0, rkFrom]; rw [if_pos (by omega), if_pos (by omega), h1.1, and_nat _ _ (by omega) (by omega), CountOf_spec _ k (by omega), cnt_nat (land_small h1.2.2), w1 (by omega)]; simp only [Option.bind_some]
    have e : spec_l1Max.f (r : Int) ((Mt.card (X xs i &&& s) : Nat) : Int) = some ((max r (Mt.card (X xs i &&& s)) : Nat) : Int) := by
      unfold spec_l1Max.f; split <;> congr 1 <;> omega
    rw [e]; simp only [Option.bind_some]
    exact ih k (i + 1) _ (by omega) (by omega)
theorem l5Rank_eq {n : Int} {xs : List Int} (F : Fam n xs) (s k : Nat) (hs : s < 256) (hk : 300 ≤ k) : spec_l5Rank.f k n xs (s : Int) = some ((rk xs s : Nat) : Int) := by
  have hl := F.len; unfold spec_l5Rank.f rk
  exact l5Rank_l0 F s hs xs.length k 0 0 (Nat.zero_add _) (by omega)
theorem rankIn_l0 {n : Int} {xs : List Int} (F : Fam n xs) (s : Nat) (hs : s < 256) : ∀ d k i r : Nat, i + d = xs.length → d < k → impl_rankIn.l0 k (s : Int) (r : Int) xs (xs.length : Int) (i : Int) = some ((rkFrom xs s d i r : Nat) : Int) := by
  have hl := F.len
  intro d
  induction d with
  | zero =>
    intro k i r h hk; obtain ⟨k, rfl⟩ := pos (show 0 < k by omega)
    simp only [impl_rankIn.l0]; rw [if_neg (by omega)]; rfl
  | succ d ih =>
    intro k i r h hk; obtain ⟨k, rfl⟩ := pos (show 0 < k by omega)
    have h1 := F.X i
    simp only [impl_rankIn.l0, rkFrom]; rw [if_pos (by omega), if_pos (by omega), if_pos (by omega), h1.1, and_nat _ _ (by omega) (by omega), Nat.and_comm s, CountOf_impl, cnt_nat (land_small h1.2.2), w1 (by omega)]; simp only [Option.bind_some]
    have e : mx (r : Int) ((Mt.card (X xs i &&& s) : Nat) : Int) = ((max r (Mt.card (X xs i &&& s)) : Nat) : Int) := by
      unfold mx; split <;> omega
    rw [e]
    exact ih k (i + 1) _ (by omega) (by omega)
theorem rankIn_eq {n : Int} {xs : List Int} (F : Fam n xs) (s k : Nat) (hs : s < 256) (hk : 300 ≤ k) : impl_rankIn.f k n xs (s : Int) = some ((rk xs s : Nat) : Int) := by
  have hl := F.len; unfold impl_rankIn.f rk
  exact rankIn_l0 F s hs xs.length k 0 0 (Nat.zero_add _) (by omega)
def rkOf (n : Int) (xs : List Int) (s : Int) : Int := if mat n xs = true ∧ isSet n s = true then ((rk xs s.toNat : Nat) : Int) else -1
theorem RankOf_spec (n : Int) (xs : List Int) (s : Int) (k : Nat) (hn : xs.length < 2000000) (hk : 2000000 ≤ k) : spec_RankOf.f k n xs s = some (rkOf n xs s) := by
  unfold spec_RankOf.f rkOf; rw [IsMatroid_spec n xs k hn hk]; simp only [Option.bind_some]
  by_cases h : mat n xs = true
  · rw [if_pos h, IsSet_spec]; simp only [Option.bind_some]
    by_cases hs : isSet n s = true
    · have F := (mat_fam h).1; have hq := isSet_nat hs
      rw [if_pos hs, if_pos ⟨h, hs⟩]
      have := l5Rank_eq F s.toNat k hq.2.2.1 (by omega); rw [← hq.1] at this; rw [this]; rfl
    · rw [if_neg hs, if_neg (fun q => hs q.2)]
  · rw [if_neg h, if_neg (fun q => h q.1)]
theorem knows_eq (n : Int) (xs : List Int) (s : Int) (k : Nat) (hn : xs.length < 2000000) (hk : 2000000 ≤ k) : impl_knows.f k n xs s = some (mat n xs && isSet n s) := by
  unfold impl_knows.f; rw [IsMatroid_impl n xs k hn hk]; simp only [Option.bind_some]
  cases h : mat n xs
  · rfl
  · rw [if_pos rfl, IsSet_impl]; rfl
def indep (n : Int) (xs : List Int) (s : Int) : Bool := mat n xs && anyFrom (fun i => subB s (rd xs (i : Int))) 0 xs.length
theorem independent_l0 (xs : List Int) (s : Int) (hn : xs.length < 2000000) : ∀ d k i : Nat, i + d = xs.length → d < k → impl_independent.l0 k s xs (xs.length : Int) (i : Int) = some (anyFrom (fun i => subB s (rd xs (i : Int))) i d) := by
  intro d
  induction d with
  | zero =>
    intro k i h hk; obtain ⟨k, rfl⟩ := pos (show 0 < k by omega)
    simp only [impl_independent.l0]; rw [if_neg (by omega)]; rfl
  | succ d ih =>
    intro k i h hk; obtain ⟨k, rfl⟩ := pos (show 0 < k by omega)
    simp only [impl_independent.l0, anyFrom]; rw [if_pos (by omega), if_pos (by omega), if_pos (by omega), IsSubset_impl, w1 (by omega)]; simp only [Option.bind_some]
    cases hq : subB s (rd xs (i : Int))
    · rw [if_neg (by simp), ih k (i + 1) (by omega) (by omega), Bool.false_or]
    · rw [if_pos rfl, Bool.true_or]
theorem independent_eq (n : Int) (xs : List Int) (s : Int) (k : Nat) (hn : xs.length < 2000000) (hk : xs.length < k) : impl_independent.f k n xs s = some (anyFrom (fun i => subB s (rd xs (i : Int))) 0 xs.length) := by
  unfold impl_independent.f; exact independent_l0 xs s hn xs.length k 0 (Nat.zero_add _) hk
theorem subB_iff {n : Int} {xs : List Int} (F : Fam n xs) {s : Int} (i : Nat) : subB s (rd xs (i : Int)) = true ↔ 0 ≤ s ∧ Mt.Sub s.toNat (X xs i) := by
  have h1 := F.X i
  unfold subB; simp only [Bool.and_eq_true, decide_eq_true_eq, beq_iff_eq]
  rw [h1.1, Int.toNat_natCast]
  constructor
  · rintro ⟨h2, h3⟩; refine ⟨h2.1, fun j hj => ?_⟩
    rw [← h3] at hj; exact ((Mt.in_and _ _ j).mp hj).2
  · rintro ⟨h2, h3⟩
    have := Mt.small_sub h3 h1.2.2
    refine ⟨⟨h2, by omega, by omega, by omega⟩, Mt.ext fun j => ?_⟩
    rw [Mt.in_and]; exact ⟨fun q => q.1, fun q => ⟨q, h3 j q⟩⟩
theorem sub_pow {a b m : Nat} (h : Mt.Sub a b) (hb : b < 2 ^ m) : a < 2 ^ m := by
  refine Nat.lt_pow_two_of_testBit a fun i hi => ?_
  refine bnot_false fun q => ?_
  have := bit_lt hb (h i q); omega
def spanning (n : Int) (xs : List Int) (s : Int) : Bool := mat n xs && isSet n s && (((rk xs s.toNat : Nat) : Int) == cnt (rd xs 0))
/-- acc and the elements from i on that leave the rank r of s. -/
def clFrom (xs : List Int) (s r : Nat) : Nat → Nat → Nat → Nat
  | 0, _, acc => acc
  | d + 1, i, acc => clFrom xs s r d (i + 1) (if rk xs (s ||| 2 ^ i) = r then acc ||| 2 ^ i else acc)
theorem clFrom_in (xs : List Int) (s r : Nat) : ∀ d i acc j, Mt.In j (clFrom xs s r d i acc) ↔ Mt.In j acc ∨ (i ≤ j ∧ j < i + d ∧ rk xs (s ||| 2 ^ j) = r) := by
  intro d
  induction d with
  | zero => intro i acc j; simp only [clFrom]; exact ⟨.inl, fun h => h.elim id (fun q => by omega)⟩
  | succ d ih =>
    intro i acc j; simp only [clFrom]; rw [ih]
    constructor
    · rintro (h | ⟨h1, h2, h3⟩)
      · by_cases q : rk xs (s ||| 2 ^ i) = r
        · rw [if_pos q] at h
          rcases (Mt.in_or _ _ j).mp h with h | h
          · exact .inl h
          · have := (Mt.in_two i j).mp h; subst this; exact .inr ⟨Nat.le_refl _, by omega, q⟩
        · rw [if_neg q] at h; exact .inl h
      · exact .inr ⟨by omega, by omega, h3⟩
    · rintro (h | ⟨h1, h2, h3⟩)
      · left; split
        · exact (Mt.in_or _ _ j).mpr (.inl h)
        · exact h
      · by_cases e : j = i
        · subst e; left; rw [if_pos h3]; exact (Mt.in_or _ _ j).mpr (.inr ((Mt.in_two j j).mpr rfl))
        · exact .inr ⟨by omega, by omega, h3⟩
theorem two_small {i : Nat} (h : i < 8) : 2 ^ i < 256 := by have := Mt.small_ins (show 0 < 256 by omega) h; unfold Mt.ins at this; rw [Nat.zero_or] at this; exact this
theorem or_two {s i : Nat} (hs : s < 256) (hi : i < 8) : Go.bits .or .i64 (s : Int) (shl .i64 1 (i : Int)) = ((s ||| 2 ^ i : Nat) : Int) ∧ s ||| 2 ^ i < 256 := by
  rw [shl_one i (by omega), or_nat s (2 ^ i) (by omega) (pow_small hi)]; exact ⟨rfl, Mt.small_or hs (two_small hi)⟩
/-- The closure of s among n elements. -/
def clo (n : Int) (xs : List Int) (s : Nat) : Nat := clFrom xs s (rk xs s) n.toNat 0 s
theorem clo_alt {n : Int} (xs : List Int) {s : Nat} (hs : s < 2 ^ n.toNat) : clFrom xs s (rk xs s) n.toNat 0 0 = clo n xs s := by
  refine Mt.ext fun j => ?_
  unfold clo; rw [clFrom_in, clFrom_in]
  constructor
  · rintro (h | h)
    · exact absurd h (Mt.not_in_zero j)
    · exact .inr h
  · rintro (h | h)
    · refine .inr ⟨Nat.zero_le _, by have := bit_lt hs h; omega, ?_⟩
      have e : s ||| 2 ^ j = s := Mt.ext fun i => by
        rw [Mt.in_or, Mt.in_two]; exact ⟨fun q => q.elim id (fun q => q ▸ h), .inl⟩
      rw [e]
    · exact .inr h
def cloOf (n : Int) (xs : List Int) (s : Int) : Int := if mat n xs = true ∧ isSet n s = true then ((clo n xs s.toNat : Nat) : Int) else s
/-- acc and the elements of a from f on that e may stand for. -/
def ciFrom (xs : List Int) (a e : Nat) : Nat → Nat → Nat → Nat
  | 0, _, acc => acc
  | d + 1, f, acc => ciFrom xs a e d (f + 1) (if a.testBit f = true ∧ ((Mt.ins (Mt.del a f) e : Nat) : Int) ∈ xs then Mt.ins acc f else acc)
theorem ciFrom_in (xs : List Int) (a e : Nat) : ∀ d i acc j, Mt.In j (ciFrom xs a e d i acc) ↔ Mt.In j acc ∨ (i ≤ j ∧ j < i + d ∧ a.testBit j = true ∧ ((Mt.ins (Mt.del a j) e : Nat) : Int) ∈ xs) := by
  intro d
  induction d with
  | zero => intro i acc j; simp only [ciFrom]; exact ⟨.inl, fun h => h.elim id (fun q => by omega)⟩
  | succ d ih =>
    intro i acc j; simp only [ciFrom]; rw [ih]
    constructor
    · rintro (h | ⟨h1, h2, h3⟩)
      · by_cases q : a.testBit i = true ∧ ((Mt.ins (Mt.del a i) e : Nat) : Int) ∈ xs
        · rw [if_pos q] at h
          rcases (Mt.in_ins _ _ j).mp h with h | h
          · exact .inl h
          · subst h; exact .inr ⟨Nat.le_refl _, by omega, q⟩
        · rw [if_neg q] at h; exact .inl h
      · exact .inr ⟨by omega, by omega, h3⟩
    · rintro (h | ⟨h1, h2, h3⟩)
      · left; split
        · exact (Mt.in_ins _ _ j).mpr (.inl h)
        · exact h
      · by_cases q : j = i
        · subst q; left; rw [if_pos h3]; exact Mt.in_ins_self _ _
        · exact .inr ⟨by omega, by omega, h3⟩
def circ (xs : List Int) (a e : Nat) : Nat := ciFrom xs a e 8 0 (2 ^ e)
def ciL (xs : List Int) (a e : Nat) : List Int → Nat → Nat
  | [], acc => acc
  | y :: ys, acc => ciL xs a e ys (if ((Mt.ins (Mt.del a y.toNat) e : Nat) : Int) ∈ xs then Mt.ins acc y.toNat else acc)
theorem ciL_elems (xs : List Int) {a : Nat} (ha : a < 256) (e : Nat) : ∀ d i acc, i + d ≤ 8 → ciL xs a e (elemsFrom (a : Int) i d) acc = ciFrom xs a e d i acc := by
  intro d
  induction d with
  | zero => intro i acc h; rfl
  | succ d ih =>
    intro i acc h; simp only [elemsFrom, ciFrom]
    rw [hasE_nat a i ha (by omega)]
    by_cases q : a.testBit i = true
    · rw [if_pos q]; simp only [ciL]; rw [ih (i + 1) _ (by omega), Int.toNat_natCast]
      by_cases m : ((Mt.ins (Mt.del a i) e : Nat) : Int) ∈ xs
      · rw [if_pos m, if_pos ⟨q, m⟩]
      · rw [if_neg m, if_neg (fun z => m z.2)]
    · rw [if_neg q, if_neg (fun z => q z.1), ih (i + 1) _ (by omega)]
/-- The circuit in a with e, or 0. -/
def circOf (n : Int) (xs : List Int) (a e : Int) : Int := if mat n xs = true ∧ a ∈ xs ∧ (0 ≤ e ∧ e < n) ∧ a.toNat.testBit e.toNat = false then ((circ xs a.toNat e.toNat : Nat) : Int) else 0
end Go.Proofs.Ythpocifdejedpaa.L
