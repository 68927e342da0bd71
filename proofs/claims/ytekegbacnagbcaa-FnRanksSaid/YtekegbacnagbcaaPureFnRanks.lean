/- The rank of a union and that of the common part are together no more than both ranks, closing twice adds nothing, and the program's functions on ranks answer as the reference's at the drawn arguments. -/
import Derived.Test.YtekegbacnagbcaaVFnRanksAll
namespace Go.Proofs.Ytekegbacnagbcaa.Pure
open Go.RowKit Go.Proofs.Ytekegbacnagbcaa.P Go.Proofs.YtekegbacnagbcaaW.PrintWords Go.Proofs.YtekegbacnagbcaaW.PrintLast
open Go.Proofs.Ytekegbacnagbcaa.L Go.Proofs.Ytekegbacnagbcaa.B Go.Proofs.Ytekegbacnagbcaa.D4
open Go.Proofs.Ytekegbacnagbcaa.D3 (bsome)
theorem isSet_of {n : Int} (h0 : 0 ≤ n) (h8 : n ≤ 8) {a : Nat} (h : a < 2 ^ n.toNat) : isSet n (a : Int) = true :=
  decide_eq_true ⟨h0, h8, by omega, by have := pow_cast n.toNat; omega⟩
theorem rkOf_nat {n : Int} {xs : List Int} (hm : mat n xs = true) {a : Nat} (h : a < 2 ^ n.toNat) : rkOf n xs (a : Int) = ((rk xs a : Nat) : Int) := by
  have F := (mat_fam hm).1
  unfold rkOf; rw [if_pos ⟨hm, isSet_of F.n0 F.n8 h⟩, Int.toNat_natCast]
theorem FnRanks_l0 {n : Int} {xs : List Int} (hm : mat n xs = true) {a u : Nat} (ha : a < 2 ^ n.toNat) (hu : u < 2 ^ n.toNat) (hl : xs.length ≤ 257) : ∀ d k i : Nat, i + d = (basS n xs (a : Int)).length → d + 2000010 < k →
    laws_FnRanks.l0 k (a : Int) (u : Int) ((rk xs a : Nat) : Int) ((clo n xs a : Nat) : Int) (basS n xs (a : Int)) (i : Int) n xs = some true := by
  have F := (mat_fam hm).1; have h0 := (mat_fam hm).2.1; have hw := pow_le8 F.le8
  have hlen := basS_len n xs (a : Int)
  intro d
  induction d with
  | zero =>
    intro k i h hk; obtain ⟨k, rfl⟩ := pos (show 0 < k by omega)
    have hc := clo_small xs ha
    have ho : a ||| u < 2 ^ n.toNat := Nat.or_lt_two_pow ha hu
    have hn : a &&& u < 2 ^ n.toNat := Nat.lt_of_le_of_lt Nat.and_le_left ha
    have r1 := rk_le h0 (a ||| u); have r2 := rk_le h0 (a &&& u); have r3 := rk_le h0 a; have r4 := rk_le h0 u
    have q1 := Mt.card_le (a ||| u); have q2 := Mt.card_le (a &&& u); have q3 := Mt.card_le a; have q4 := Mt.card_le u
    have hsub := rk_union hm a u
    simp only [laws_FnRanks.l0]
    rw [if_neg (by omega), or_nat a u (by omega) (by omega), and_nat a u (by omega) (by omega)]
    rw [RankOf_impl n xs _ k (by omega) (by omega), bsome, rkOf_nat hm ho, RankOf_impl n xs _ k (by omega) (by omega), bsome, rkOf_nat hm hn, RankOf_impl n xs _ k (by omega) (by omega), bsome, rkOf_nat hm hu]
    rw [w64 _ (by omega) (by omega), w64 _ (by omega) (by omega), if_pos (by omega)]
    have e1 : cloOf n xs ((clo n xs a : Nat) : Int) = ((clo n xs a : Nat) : Int) := by
      unfold cloOf; rw [if_pos ⟨hm, isSet_of F.n0 F.n8 hc⟩, Int.toNat_natCast, clo_clo hm]
    rw [ClosureOf_impl n xs _ k (by omega) (by omega), bsome, e1, if_pos rfl, IsSubset_spec, bsome, (subN (by omega) (by omega)).mpr (clo_sub n xs a), if_pos rfl]
    rw [RankOf_impl n xs _ k (by omega) (by omega), bsome, rkOf_nat hm hc, clo_rk hm, beq_self_eq_true]
  | succ d ih =>
    intro k i h hk; obtain ⟨k, rfl⟩ := pos (show 0 < k by omega)
    have hi : i < (basS n xs (a : Int)).length := by omega
    obtain ⟨f1, f2⟩ := basS_fact hm (isSet_of F.n0 F.n8 ha) (rd_mem hi)
    rw [Int.toNat_natCast] at f1
    simp only [laws_FnRanks.l0]
    rw [if_pos (by omega), if_pos (by omega), CountOf_spec _ k (by omega), bsome, f1, if_pos rfl, IsSubset_spec, bsome, f2, if_pos rfl, w1 (by omega)]
    exact ih k (i + 1) (by omega) (by omega)
theorem FnRanks_j0 (n : Int) (xs : List Int) (s t : Int) (hl : xs.length ≤ 257) (k : Nat) (hk : 3000000 ≤ k) : laws_FnRanks.j0 (k + 1) s t (rkOf n xs s) (cloOf n xs s) (basS n xs s) false n xs = some true := by
  simp only [laws_FnRanks.j0]
  rw [if_neg (by simp)]
  by_cases h : mat n xs = true ∧ isSet n s = true
  · have F := (mat_fam h.1).1; have hq := isSet_nat h.2; have hw := pow_le8 F.le8
    obtain ⟨a, rfl⟩ := nat_of (show 0 ≤ s by omega)
    rw [Int.toNat_natCast] at hq
    have hr := rkOf_nat h.1 hq.2.1
    have hc : cloOf n xs (a : Int) = ((clo n xs a : Nat) : Int) := by unfold cloOf; rw [if_pos h, Int.toNat_natCast]
    have hlen := basS_len n xs (a : Int)
    rw [hr, hc, if_neg (by omega), FullSet_spec, fullSet_nat F.n0 F.n8, bsome]
    have hz := and_range t (2 ^ n.toNat - 1) (by omega)
    obtain ⟨u, hu⟩ := nat_of hz.1
    rw [hu]
    exact FnRanks_l0 h.1 hq.2.1 (by omega) hl (basS n xs (a : Int)).length k 0 (Nat.zero_add _) (by omega)
  · have : rkOf n xs s = -1 := by unfold rkOf; rw [if_neg h]
    rw [this, if_pos (by decide)]
theorem FnRanks : laws_FnRanks.Pure := by
  intro b hlb _ _
  obtain ⟨k, hk⟩ : ∃ k : Nat, 18000000000000 ≤ k := ⟨_, Nat.le_refl _⟩
  have hB := big_eq
  refine ⟨k + 1, ?_⟩
  unfold laws_FnRanks.f laws_big.f; rw [bsome]
  by_cases h : (b.length : Int) > 1048576
  · rw [if_pos (decide_eq_true h)]
  · rw [if_neg (by rw [decide_eq_true_eq]; exact h)]
    obtain ⟨n, xs, s, e1, l1⟩ := DrawRankOf_ok b (k + 1) h (by omega)
    obtain ⟨s', t, e2⟩ := DrawPackSet_ok b (k + 1) h (by omega)
    obtain ⟨m, ys, e3, l3⟩ := DrawIndependentSets_ok b (k + 1) h (by omega)
    have hb := basS_len n xs s; have hi := indS_len m ys
    have hj := FnRanks_j0 n xs s t l1 k (by omega)
    rw [e1, bsome, e2, bsome]; try simp only []
    rw [RankOf_impl n xs s (k + 1) (by omega) (by omega), bsome, ClosureOf_impl n xs s (k + 1) (by omega) (by omega), bsome, e3, bsome]; try simp only []
    rw [BasesOf_impl n xs s (k + 1) (by omega) (by omega), bsome, RankOf_spec n xs s (k + 1) (by omega) (by omega), bsome, if_pos rfl]
    rw [ClosureOf_spec n xs s (k + 1) (by omega) (by omega), bsome, if_pos rfl]
    rw [IsIndependent_impl n xs s (k + 1) (by omega) (by omega), bsome, IsIndependent_spec n xs s (k + 1) (by omega) (by omega), bsome, if_neg (by simp)]
    rw [IndependentSets_impl m ys (k + 1) (by omega) (by omega), bsome, IndependentSets_spec m ys (k + 1) (by omega) (by omega), bsome, sameInts_eq _ _ (k + 1) (by omega) (by omega), bsome, if_pos (by simp)]
    rw [IsSpanning_impl n xs s (k + 1) (by omega) (by omega), bsome, IsSpanning_spec n xs s (k + 1) (by omega) (by omega), bsome, if_neg (by simp)]
    rw [BasesOf_spec n xs s (k + 1) (by omega) (by omega), bsome, sameInts_eq _ _ (k + 1) (by omega) (by omega), bsome, if_pos (by simp)]
    rw [LoopsOf_impl m ys (k + 1) (by omega) (by omega), bsome, LoopsOf_spec m ys (k + 1) (by omega) (by omega), bsome, if_pos rfl]
    rw [ColoopsOf_impl m ys (k + 1) (by omega) (by omega), bsome, ColoopsOf_spec m ys (k + 1) (by omega) (by omega), bsome]
    simpa using hj

end Go.Proofs.Ytekegbacnagbcaa.Pure
