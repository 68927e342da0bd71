/- Independent sets of a matroid: what the printed functions come to. -/
import Derived.Test.YthpocifdejedpaaVIndependentSetsUni
namespace Go.Proofs.Ythpocifdejedpaa.L
open Go.RowKit Go.Proofs.YthpocifdejedpaaW.PrintWords Go.Proofs.YthpocifdejedpaaW.PrintMore Go.Proofs.Ythpocifdejedpaa.P Go.Proofs.Ythpocifdejedpaa.B
/-- Whether s lies within a base. -/
def indN (xs : List Int) (s : Nat) : Bool := anyFrom (fun i => subB (s : Int) (rd xs (i : Int))) 0 xs.length
theorem indN_iff {n : Int} {xs : List Int} (F : Fam n xs) (s : Nat) : indN xs s = true ↔ ∃ i, i < xs.length ∧ Mt.Sub s (X xs i) := by
  unfold indN; rw [anyFrom_iff]
  constructor
  · rintro ⟨i, _, hi, h⟩
    have := (subB_iff F i).mp h
    rw [Int.toNat_natCast] at this
    exact ⟨i, by omega, this.2⟩
  · rintro ⟨i, hi, h⟩
    exact ⟨i, Nat.zero_le _, by omega, (subB_iff F i).mpr ⟨by omega, by rw [Int.toNat_natCast]; exact h⟩⟩
theorem rk_le {xs : List Int} (h0 : 0 < xs.length) (s : Nat) : rk xs s ≤ Mt.card s := by
  obtain ⟨⟨j, hj, e⟩, _⟩ := rk_iff h0 s
  rw [← e]; exact Mt.card_mono (Mt.sub_and_right _ _)
theorem rk_card {n : Int} {xs : List Int} (F : Fam n xs) (h0 : 0 < xs.length) {s : Nat} (hs : s < 256) : rk xs s = Mt.card s ↔ indN xs s = true := by
  rw [indN_iff F]
  obtain ⟨⟨j, hj, e⟩, hr⟩ := rk_iff h0 s
  constructor
  · intro h
    have := Mt.card_eq (Mt.sub_and_right (X xs j) s) hs (by omega)
    refine ⟨j, hj, fun i hi => ?_⟩
    rw [← this] at hi; exact ((Mt.in_and _ _ i).mp hi).1
  · rintro ⟨i, hi, h⟩
    have e1 : X xs i &&& s = s := Mt.ext fun j => by
      rw [Mt.in_and]; exact ⟨fun q => q.2, fun q => ⟨h j q, q⟩⟩
    have h1 := hr i hi; rw [e1] at h1
    have h2 := rk_le h0 s
    omega
def indS (n : Int) (xs : List Int) : List Int := if mat n xs = true then sets n (indN xs) else []
theorem indS_len (n : Int) (xs : List Int) : (indS n xs).length ≤ 256 := by
  unfold indS; split
  · rename_i h; have F := (mat_fam h).1; exact sets_len F.n0 F.n8 _
  · exact Nat.zero_le _
theorem IndependentSets_spec_l0 {n : Int} {xs : List Int} (F : Fam n xs) (h0 : 0 < xs.length) : ∀ d k i : Nat, ∀ out : List Int, i + d = 2 ^ n.toNat → d + 300 < k → out.length ≤ i → spec_IndependentSets.l0 k out (i : Int) n xs = some (out ++ setsFrom (indN xs) i d) := by
  have hw := pow_le8 F.le8
  intro d
  induction d with
  | zero =>
    intro k i out h hk ho; obtain ⟨k, rfl⟩ := pos (show 0 < k by omega)
    simp only [spec_IndependentSets.l0]; rw [FullSet_spec, fullSet_nat F.n0 F.n8]; simp only [Option.bind_some]; rw [if_neg (by omega)]; simp [setsFrom]
  | succ d ih =>
    intro k i out h hk ho; obtain ⟨k, rfl⟩ := pos (show 0 < k by omega)
    simp only [spec_IndependentSets.l0]; rw [FullSet_spec, fullSet_nat F.n0 F.n8, l5Rank_eq F i k (by omega) (by omega), CountOf_spec _ k (by omega), cnt_nat (by omega)]; simp only [Option.bind_some, setsFrom]; rw [if_pos (by omega), w1 (by omega)]
    have hc := rk_card F h0 (show i < 256 by omega)
    by_cases hq : indN xs i = true
    · rw [if_pos (by have := hc.mpr hq; omega), if_pos hq, if_pos (by omega), ih k (i + 1) _ (by omega) (by omega) (by rw [List.length_append, List.length_singleton]; omega)]; simp
    · rw [if_neg (fun q => hq (hc.mp (by omega))), if_neg hq, ih k (i + 1) _ (by omega) (by omega) (by omega)]
theorem IndependentSets_spec (n : Int) (xs : List Int) (k : Nat) (hn : xs.length < 2000000) (hk : 2000000 ≤ k) : spec_IndependentSets.f k n xs = some (indS n xs) := by
  unfold spec_IndependentSets.f indS; simp only [Option.bind_some]; rw [IsMatroid_spec n xs k hn hk]; simp only [Option.bind_some]
  by_cases h : mat n xs = true
  · have F := (mat_fam h).1; have hw := pow_le8 F.le8
    rw [if_pos h, if_pos h]; exact IndependentSets_spec_l0 F (mat_fam h).2.1 (2 ^ n.toNat) k 0 [] (Nat.zero_add _) (by omega) (Nat.le_refl _)
  · rw [if_neg h, if_neg h]
theorem IndependentSets_impl (n : Int) (xs : List Int) (k : Nat) (hn : xs.length < 2000000) (hk : 2000000 ≤ k) : impl_IndependentSets.f k n xs = some (indS n xs) := by
  unfold impl_IndependentSets.f indS; rw [IsMatroid_impl n xs k hn hk]; simp only [Option.bind_some]
  by_cases h : mat n xs = true
  · have F := (mat_fam h).1
    have e : on_impl_IndependentSets_1.f k n n xs = some (sets n (indN xs)) := setsL_sets F.n0 F.n8 _ _ (fun j _ => independent_eq n xs (j : Int) k hn (by omega)) k (by omega)
    rw [if_pos h, if_pos h, e]; rfl
  · rw [if_neg h, if_neg h]
end Go.Proofs.Ythpocifdejedpaa.L
