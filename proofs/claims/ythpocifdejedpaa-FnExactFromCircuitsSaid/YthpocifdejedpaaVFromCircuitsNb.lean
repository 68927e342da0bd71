/- Families of sets as lists of natural numbers: matroids and circuits in the sense of the plain theory. -/
import Derived.Test.YthpocifdejedpaaVFromCircuitsInd
namespace Go.Proofs.Ythpocifdejedpaa.L
open Go.RowKit Go.Proofs.YthpocifdejedpaaW.PrintWords Go.Proofs.YthpocifdejedpaaW.PrintMore Go.Proofs.Ythpocifdejedpaa.P Go.Proofs.Ythpocifdejedpaa.B
def NB (xs : List Int) : List Nat := xs.map Int.toNat
theorem mem_NB {n : Int} {xs : List Int} (F : Fam n xs) (s : Nat) : s ∈ NB xs ↔ (s : Int) ∈ xs := by
  unfold NB; rw [List.mem_map]
  constructor
  · rintro ⟨x, hx, rfl⟩
    have := (F.set x hx).1
    rw [Int.toNat_of_nonneg this]; exact hx
  · intro h; exact ⟨_, h, Int.toNat_natCast s⟩
theorem NB_X {n : Int} {xs : List Int} (F : Fam n xs) {s : Nat} : s ∈ NB xs ↔ ∃ i, i < xs.length ∧ X xs i = s := by
  rw [mem_NB F]
  constructor
  · intro h; obtain ⟨j, hj, e⟩ := mem_rd h; exact ⟨j, hj, by unfold X; rw [e]; exact Int.toNat_natCast s⟩
  · rintro ⟨i, hi, rfl⟩; have := rd_mem hi; rw [(F.X i).1] at this; exact this
theorem lt_bits {m s : Nat} : s < 2 ^ m ↔ ∀ i, Mt.In i s → i < m :=
  ⟨fun h i hi => bit_lt h hi, fun h => Nat.lt_pow_two_of_testBit s fun i hi => bnot_false fun q => by have := h i q; omega⟩
theorem exB_iff (xs : List Int) (a b e : Nat) : exB xs a b e = true ↔ ∃ f, f < 8 ∧ Mt.In f b ∧ ¬ Mt.In f a ∧ ((Mt.ins (Mt.del a e) f : Nat) : Int) ∈ xs := by
  unfold exB; rw [anyFrom_iff]
  constructor
  · rintro ⟨f, _, hf, h⟩
    simp only [Bool.and_eq_true, decide_eq_true_eq, Bool.not_eq_true'] at h
    exact ⟨f, by omega, h.1.1, fun q => (by unfold Mt.In at q; rw [h.1.2] at q; cases q), h.2⟩
  · rintro ⟨f, hf, h1, h2, h3⟩
    refine ⟨f, Nat.zero_le _, by omega, ?_⟩
    simp only [Bool.and_eq_true, decide_eq_true_eq, Bool.not_eq_true']
    exact ⟨⟨h1, bnot_false h2⟩, h3⟩
theorem fail_iff {n : Int} {xs : List Int} (F : Fam n xs) : (fail n xs).2.2.2 = false ↔ ∀ i, i < xs.length → ∀ j, j < xs.length → ∀ e, e < n.toNat → failE xs (X xs i) (X xs j) e = none := by
  unfold fail; rw [if_pos ((fam_iff n xs).mpr F)]
  have key : scan (failA n xs) 0 xs.length = none ↔ ∀ i, i < xs.length → ∀ j, j < xs.length → ∀ e, e < n.toNat → failE xs (X xs i) (X xs j) e = none := by
    rw [scan_none_iff]
    constructor
    · intro h i hi j hj e he
      have h1 := h i (Nat.zero_le _) (by omega)
      unfold failA at h1; rw [scan_none_iff] at h1
      have h2 := h1 j (Nat.zero_le _) (by omega)
      unfold failB at h2; rw [scan_none_iff] at h2
      exact h2 e (Nat.zero_le _) (by omega)
    · intro h i _ hi
      unfold failA; rw [scan_none_iff]; intro j _ hj
      unfold failB; rw [scan_none_iff]; intro e _ he
      exact h i (by omega) j (by omega) e (by omega)
  rw [← key]
  constructor
  · intro h
    cases hs : scan (failA n xs) 0 xs.length with
    | none => rfl
    | some r =>
      rw [hs] at h
      obtain ⟨i, _, _, h1⟩ := scan_some _ _ hs
      unfold failA at h1; obtain ⟨j, _, _, h2⟩ := scan_some _ _ h1
      unfold failB at h2; obtain ⟨e, _, _, h3⟩ := scan_some _ _ h2
      unfold failE at h3; split at h3
      · cases h3; cases h
      · cases h3
  · intro h; rw [h]; rfl
theorem mat_iff (n : Int) (xs : List Int) : mat n xs = true ↔ Fam n xs ∧ Mt.M (NB xs) := by
  constructor
  · intro h
    obtain ⟨F, h0, hf⟩ := mat_fam h
    rw [fail_iff F] at hf
    refine ⟨F, ⟨_, (NB_X F).mpr ⟨0, h0, rfl⟩⟩, fun b hb => ?_, fun a ha b hb e ea eb => ?_⟩
    · obtain ⟨i, _, rfl⟩ := (NB_X F).mp hb; exact (F.X i).2.2
    · obtain ⟨i, hi, rfl⟩ := (NB_X F).mp ha
      obtain ⟨j, hj, rfl⟩ := (NB_X F).mp hb
      have h1 := hf i hi j hj e (bit_lt (F.X i).2.1 ea)
      have h2 : exB xs (X xs i) (X xs j) e = true := by
        by_cases q : exB xs (X xs i) (X xs j) e = true
        · exact q
        · unfold failE at h1; rw [if_pos ⟨ea, bnot_false eb, bnot_false q⟩] at h1; cases h1
      obtain ⟨f, _, h3, h4, h5⟩ := (exB_iff _ _ _ _).mp h2
      exact ⟨f, h3, h4, (mem_NB F _).mpr h5⟩
  · rintro ⟨F, m⟩
    unfold mat
    rw [(fam_iff n xs).mpr F, Bool.true_and, Bool.and_eq_true, decide_eq_true_eq, Bool.not_eq_true', fail_iff F]
    constructor
    · obtain ⟨b, hb⟩ := m.ne
      obtain ⟨i, hi, _⟩ := (NB_X F).mp hb; omega
    · intro i hi j hj e he
      refine failE_none fun ⟨h1, h2, h3⟩ => ?_
      obtain ⟨f, f1, f2, f3⟩ := m.ex _ ((NB_X F).mpr ⟨i, hi, rfl⟩) _ ((NB_X F).mpr ⟨j, hj, rfl⟩) e h1 (fun q => by unfold Mt.In at q; rw [h2] at q; cases q)
      have h4 := (exB_iff xs (X xs i) (X xs j) e).mpr ⟨f, Mt.in_lt (F.X j).2.2 f1, f1, f2, (mem_NB F _).mp f3⟩
      rw [h3] at h4; cases h4
theorem indN_Indep {n : Int} {xs : List Int} (F : Fam n xs) (s : Nat) : indN xs s = true ↔ Mt.Indep (NB xs) s := by
  rw [indN_iff F]
  constructor
  · rintro ⟨i, hi, h⟩; exact ⟨_, (NB_X F).mpr ⟨i, hi, rfl⟩, h⟩
  · rintro ⟨b, hb, h⟩; obtain ⟨i, hi, rfl⟩ := (NB_X F).mp hb; exact ⟨i, hi, h⟩
theorem sets_mem {n : Int} (q : Nat → Bool) (s : Nat) : ((s : Nat) : Int) ∈ sets n q ↔ s < 2 ^ n.toNat ∧ q s = true := by
  unfold sets; rw [setsFrom_mem]
  constructor
  · rintro ⟨j, e, _, h, hq⟩
    have : s = j := by omega
    subst this; exact ⟨by omega, hq⟩
  · rintro ⟨h, hq⟩; exact ⟨s, rfl, Nat.zero_le _, by omega, hq⟩
theorem sets_nat {n : Int} {q : Nat → Bool} {x : Int} (h : x ∈ sets n q) : ∃ s : Nat, x = s ∧ s < 2 ^ n.toNat ∧ q s = true := by
  unfold sets at h; obtain ⟨j, e, _, h, hq⟩ := (setsFrom_mem _ _ _ _).mp h
  exact ⟨j, e, by omega, hq⟩
theorem subN {t s : Nat} (ht : t < 256) (hs : s < 256) : subB (t : Int) (s : Int) = true ↔ Mt.Sub t s := by
  unfold subB; rw [decide_eq_true (by omega), Bool.true_and, Int.toNat_natCast, Int.toNat_natCast, beq_iff_eq]
  constructor
  · intro h j hj; rw [← h] at hj; exact ((Mt.in_and _ _ j).mp hj).2
  · intro h; refine Mt.ext fun j => ?_; rw [Mt.in_and]; exact ⟨fun q => q.1, fun q => ⟨q, h j q⟩⟩
end Go.Proofs.Ythpocifdejedpaa.L
