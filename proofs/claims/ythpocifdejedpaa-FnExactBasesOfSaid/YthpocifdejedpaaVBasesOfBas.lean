/- Bases of a set of a matroid: what the printed functions come to. -/
import Derived.Test.YthpocifdejedpaaVBasesOfInd
import Derived.Test.YthpocifdejedpaaVBasesOfSort
namespace Go.Proofs.Ythpocifdejedpaa.L
open Go.RowKit Go.Proofs.YthpocifdejedpaaW.PrintWords Go.Proofs.YthpocifdejedpaaW.PrintMore Go.Proofs.Ythpocifdejedpaa.P Go.Proofs.Ythpocifdejedpaa.B
def basB (xs : List Int) (s t : Nat) : Bool := subB (t : Int) (s : Int) && (decide (Mt.card t = rk xs s) && indN xs t)
def basS (n : Int) (xs : List Int) (s : Int) : List Int := if mat n xs = true ∧ isSet n s = true then sets n (basB xs s.toNat) else []
theorem basS_len (n : Int) (xs : List Int) (s : Int) : (basS n xs s).length ≤ 256 := by
  unfold basS; split
  · rename_i h; have F := (mat_fam h.1).1; exact sets_len F.n0 F.n8 _
  · exact Nat.zero_le _
theorem subB_nat {t s : Nat} (ht : t < 256) (hs : s < 256) : subB (t : Int) (s : Int) = true ↔ Mt.Sub t s := by
  unfold subB; rw [decide_eq_true (by omega), Bool.true_and, Int.toNat_natCast, Int.toNat_natCast, beq_iff_eq]
  constructor
  · intro h j hj; rw [← h] at hj; exact ((Mt.in_and _ _ j).mp hj).2
  · intro h; refine Mt.ext fun j => ?_; rw [Mt.in_and]; exact ⟨fun q => q.1, fun q => ⟨q, h j q⟩⟩
theorem BasesOf_impl (n : Int) (xs : List Int) (s : Int) (k : Nat) (hn : xs.length < 2000000) (hk : 2000000 ≤ k) : impl_BasesOf.f k n xs s = some (basS n xs s) := by
  unfold impl_BasesOf.f basS; rw [knows_eq n xs s k hn hk]; simp only [Option.bind_some]
  by_cases h : mat n xs = true ∧ isSet n s = true
  · have F := (mat_fam h.1).1; have hq := isSet_nat h.2; have hw := pow_le8 F.le8
    rw [if_pos h, if_pos (by rw [h.1, h.2]; rfl)]
    obtain ⟨a, rfl⟩ := nat_of (show 0 ≤ s by omega)
    rw [Int.toNat_natCast] at hq ⊢
    have e : on_impl_BasesOf_1.f k n (a : Int) ((rk xs a : Nat) : Int) n xs = some (sets n (basB xs a)) := setsL_sets F.n0 F.n8 _ _ (fun j hj => by
      unfold impl_BasesOf_1.f basB; rw [IsSubset_impl, CountOf_impl, cnt_nat (by omega), independent_eq n xs (j : Int) k hn (by omega)]; simp only [Option.bind_some]
      cases subB (j : Int) (a : Int)
      · rfl
      · rw [if_pos rfl, Bool.true_and]
        by_cases hc : Mt.card j = rk xs a
        · rw [if_pos (by omega), decide_eq_true hc, Bool.true_and]; rfl
        · rw [if_neg (by omega), decide_eq_false hc, Bool.false_and]) k (by omega)
    rw [rankIn_eq F a k (by omega) (by omega)]; simp only [Option.bind_some]
    rw [e]; rfl
  · rw [if_neg h, if_neg (by simpa using h)]
/-- The bases' common parts with s that are as great as they get. -/
def basL (xs : List Int) (s r : Nat) : Nat → Nat → List Int
  | _, 0 => []
  | i, d + 1 => if Mt.card (X xs i &&& s) = r then ((X xs i &&& s : Nat) : Int) :: basL xs s r (i + 1) d else basL xs s r (i + 1) d
theorem basL_mem (xs : List Int) (s r : Nat) (x : Int) : ∀ d i, x ∈ basL xs s r i d ↔ ∃ j, i ≤ j ∧ j < i + d ∧ Mt.card (X xs j &&& s) = r ∧ x = ((X xs j &&& s : Nat) : Int) := by
  intro d
  induction d with
  | zero => intro i; simp only [basL, List.not_mem_nil, false_iff]; rintro ⟨j, a, b, _⟩; omega
  | succ d ih =>
    intro i; simp only [basL]
    by_cases h : Mt.card (X xs i &&& s) = r
    · rw [if_pos h, List.mem_cons, ih]
      constructor
      · rintro (e | ⟨j, a, b, c⟩)
        · exact ⟨i, Nat.le_refl _, by omega, h, e⟩
        · exact ⟨j, by omega, by omega, c⟩
      · rintro ⟨j, a, b, c, e⟩
        by_cases z : j = i
        · subst z; exact .inl e
        · exact .inr ⟨j, by omega, by omega, c, e⟩
    · rw [if_neg h, ih]
      constructor
      · rintro ⟨j, a, b, c⟩; exact ⟨j, by omega, by omega, c⟩
      · rintro ⟨j, a, b, c, e⟩
        have : j ≠ i := fun z => h (z ▸ c)
        exact ⟨j, by omega, by omega, c, e⟩
theorem basL_srt {n : Int} {xs : List Int} (F : Fam n xs) (h0 : 0 < xs.length) {s : Nat} (hs : s < 2 ^ n.toNat) : sets n (basB xs s) = srt (basL xs s (rk xs s) 0 xs.length) := by
  have hw := pow_le8 F.le8
  refine srt_eq (setsFrom_inc _ _ _) fun x => ?_
  unfold sets; rw [setsFrom_mem, basL_mem]
  obtain ⟨_, hr⟩ := rk_iff h0 s
  constructor
  · rintro ⟨t, rfl, _, ht, hb⟩
    unfold basB at hb; simp only [Bool.and_eq_true, decide_eq_true_eq] at hb
    have h1 := (subB_nat (by omega) (by omega)).mp hb.1
    obtain ⟨i, hi, h2⟩ := (indN_iff F t).mp hb.2.2
    have h3 : Mt.Sub t (X xs i &&& s) := fun j hj => (Mt.in_and _ _ j).mpr ⟨h2 j hj, h1 j hj⟩
    have h4 : t = X xs i &&& s := Mt.card_eq h3 (Mt.small_sub (Mt.sub_and_right _ _) (by omega)) (by have := hr i hi; omega)
    exact ⟨i, Nat.zero_le _, by omega, by rw [← h4]; exact hb.2.1, by rw [← h4]⟩
  · rintro ⟨i, _, hi, hc, rfl⟩
    have h1 : X xs i &&& s < 2 ^ n.toNat := sub_pow (Mt.sub_and_right _ _) hs
    refine ⟨_, rfl, Nat.zero_le _, by omega, ?_⟩
    unfold basB; simp only [Bool.and_eq_true, decide_eq_true_eq]
    exact ⟨(subB_nat (by omega) (by omega)).mpr (Mt.sub_and_right _ _), hc, (indN_iff F _).mpr ⟨i, by omega, Mt.sub_and_left _ _⟩⟩
theorem BasesOf_spec_l0 {n : Int} {xs : List Int} (F : Fam n xs) {s r : Nat} (hs : s < 256) : ∀ d k i : Nat, ∀ out : List Int, i + d = xs.length → d + Big2 ≤ k → out.length ≤ i → spec_BasesOf.l0 k (s : Int) out (r : Int) (i : Int) n xs = some (srt (out ++ basL xs s r i d)) := by
  have hl := F.len
  intro d
  induction d with
  | zero =>
    intro k i out h hk ho; obtain ⟨k, rfl⟩ := pos (show 0 < k by unfold Big2 at hk; omega)
    have h5 : out.length * (out.length + 4) ≤ 256 * 260 := Nat.mul_le_mul (by omega) (by omega)
    simp only [spec_BasesOf.l0]; rw [if_neg (by omega), SortSets_spec out k (by omega) (by unfold Big2 at hk; omega)]; simp [basL]
  | succ d ih =>
    intro k i out h hk ho; obtain ⟨k, rfl⟩ := pos (show 0 < k by omega)
    have h1 := F.X i; have hk2 : 300 ≤ k := by unfold Big2 at hk; omega
    have h2 : X xs i &&& s < 256 := Mt.small_sub (Mt.sub_and_right _ _) hs
    simp only [spec_BasesOf.l0, basL]; rw [if_pos (by omega), if_pos (by omega), h1.1, and_nat _ _ (by omega) (by omega), CountOf_spec _ k (by omega), cnt_nat h2, w1 (by omega)]; simp only [Option.bind_some]
    by_cases hc : Mt.card (X xs i &&& s) = r
    · rw [if_pos (by omega), if_pos hc, if_pos (by omega), ih k (i + 1) _ (by omega) (by omega) (by rw [List.length_append, List.length_singleton]; omega), List.append_assoc]; rfl
    · rw [if_neg (by omega), if_neg hc, ih k (i + 1) _ (by omega) (by omega) (by omega)]
theorem BasesOf_spec (n : Int) (xs : List Int) (s : Int) (k : Nat) (hn : xs.length < 2000000) (hk : 17592202821936 ≤ k) : spec_BasesOf.f k n xs s = some (basS n xs s) := by
  have hk3 : 2000000 ≤ k := by omega
  unfold spec_BasesOf.f basS; simp only [Option.bind_some]; rw [RankOf_spec n xs s k hn hk3]; simp only [Option.bind_some]
  unfold rkOf
  by_cases h : mat n xs = true ∧ isSet n s = true
  · have F := (mat_fam h.1).1; have hq := isSet_nat h.2; have hw := pow_le8 F.le8; have hl := F.len
    rw [if_pos h, if_pos h, if_neg (by omega)]
    obtain ⟨a, rfl⟩ := nat_of (show 0 ≤ s by omega)
    rw [Int.toNat_natCast] at hq ⊢
    rw [basL_srt F (mat_fam h.1).2.1 (by omega)]
    exact BasesOf_spec_l0 F (by omega) xs.length k 0 [] (Nat.zero_add _) (by unfold Big2; omega) (Nat.le_refl _)
  · rw [if_neg h, if_neg h, if_pos (by omega)]
end Go.Proofs.Ythpocifdejedpaa.L
