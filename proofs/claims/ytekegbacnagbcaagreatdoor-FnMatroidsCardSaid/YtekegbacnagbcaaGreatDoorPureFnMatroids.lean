/- What is no matroid is shown by two bases that cannot exchange an element, a matroid is parsed from its text, and the program's functions on matroids answer as the reference's at the drawn arguments. -/
import Derived.Test.YtekegbacnagbcaaGreatDoorVFnMatroidsAll
namespace Go.Proofs.YtekegbacnagbcaaGreatDoor.Pure
open Go.RowKit Go.Proofs.YtekegbacnagbcaaGreatDoor.P Go.Proofs.YtekegbacnagbcaaGreatDoorW.PrintWords Go.Proofs.YtekegbacnagbcaaGreatDoorW.PrintLast
open Go.Proofs.YtekegbacnagbcaaGreatDoor.L Go.Proofs.YtekegbacnagbcaaGreatDoor.B Go.Proofs.YtekegbacnagbcaaGreatDoor.D4
open Go.Proofs.YtekegbacnagbcaaGreatDoor.D3 (bsome)
open Go.Proofs.YtekegbacnagbcaaGreatDoor.Pm (parM parM_len parM_matT parM_none fail_fact ParseMatroid_impl ParseMatroid_spec)
open Go.Proofs.YtekegbacnagbcaaGreatDoor.Mx (matT MatroidText_impl MatroidText_spec)
theorem FnMatroids_l0 {n : Int} {xs : List Int} (F : Fam n xs) {a b e : Nat} (ha : (a : Int) ∈ xs) (hb : (b : Int) ∈ xs) (he : e < 8) (hae : a.testBit e = true) (hbe : b.testBit e = false) (hx : exB xs a b e = false) (hl : xs.length ≤ 257) :
    ∀ d k f : Nat, f + d = n.toNat → d + 5000000 < k → laws_FnMatroids.l0 k (f : Int) n xs (a : Int) (b : Int) (e : Int) = some true := by
  have hB := big_eq
  have h8 := F.le8; have hn := F.nn
  have a8 := (F.small ha).2; have b8 := (F.small hb).2
  intro d
  induction d with
  | zero =>
    intro k f h hk; obtain ⟨k, rfl⟩ := pos (show 0 < k by omega)
    simp only [laws_FnMatroids.l0]
    rw [if_neg (by omega), HasSet_spec _ _ k (by omega) (by omega), bsome, decide_eq_true ha, if_pos rfl, HasSet_spec _ _ k (by omega) (by omega), bsome, decide_eq_true hb, if_pos rfl]
    rw [HasElement_spec, bsome, hasE_nat a e (by omega) he, hae, if_pos rfl, HasElement_spec, bsome, hasE_nat b e (by omega) he, hbe]; rfl
  | succ d ih =>
    intro k f h hk; obtain ⟨k, rfl⟩ := pos (show 0 < k by omega)
    have hf : f < 8 := by omega
    have hi := ih k (f + 1) (by omega) (by omega)
    simp only [laws_FnMatroids.l0]
    rw [if_pos (by omega), HasElement_spec, bsome, hasE_nat b f (by omega) hf, w1 (by omega)]
    by_cases hbf : b.testBit f = true
    · rw [if_pos hbf, HasElement_spec, bsome, hasE_nat a f (by omega) hf]
      by_cases haf : a.testBit f = true
      · rw [if_pos haf]; exact hi
      · rw [if_neg haf, WithoutElement_spec, bsome]
        have d8 := del_small (e := e) (show a < 256 by omega)
        have q1 : woE (a : Int) (e : Int) = ((Mt.del a e : Nat) : Int) := by
          unfold woE; rw [if_pos ⟨by omega, by omega, by omega, by omega⟩, Int.toNat_natCast, Int.toNat_natCast]
        rw [q1, WithElement_spec, bsome, withE_nat _ _ d8 hf, HasSet_spec _ _ k (by omega) (by omega), bsome]
        have q2 : ¬ ((Mt.ins (Mt.del a e) f : Nat) : Int) ∈ xs := fun z => by
          have := (exB_iff xs a b e).mpr ⟨f, hf, hbf, haf, z⟩; rw [hx] at this; cases this
        rw [decide_eq_false q2, if_neg (by simp)]; exact hi
    · rw [if_neg hbf]; exact hi
theorem FnMatroids_j1 (n : Int) (xs : List Int) (hl : xs.length ≤ 257) (k : Nat) (hk : 6000000 ≤ k) : laws_FnMatroids.j1 (k + 1) (fail n xs).2.2.2 false n xs (fail n xs).1 (fail n xs).2.1 (fail n xs).2.2.1 = some true := by
  simp only [laws_FnMatroids.j1]
  rw [if_neg (by simp)]
  by_cases h : (fail n xs).2.2.2 = true
  · rw [if_pos h]
    obtain ⟨F, i, j, e, hi, hj, he, q, q1, q2, q3⟩ := fail_fact h
    have h8 := F.le8
    have mi := rd_mem hi; have mj := rd_mem hj
    rw [(F.X i).1] at mi; rw [(F.X j).1] at mj
    rw [q]
    exact FnMatroids_l0 F mi mj (by omega) q1 q2 q3 hl n.toNat k 0 (Nat.zero_add _) (by omega)
  · rw [if_neg h]
theorem parM_text (n : Int) (xs : List Int) : parM (matT n xs) = if mat n xs = true then (n, xs, true) else (0, [], false) := by
  by_cases h : mat n xs = true
  · rw [if_pos h, parM_matT h]
  · have : matT n xs = ⟨#[]⟩ := by unfold matT; rw [if_neg h]
    rw [if_neg h, this, parM_none]
theorem FnMatroids_j0 (n : Int) (xs : List Int) (hl : xs.length ≤ 257) (k : Nat) (hk : 20000000 ≤ k) : laws_FnMatroids.j0 (k + 2) (fail n xs).2.2.2 false n xs (fail n xs).1 (fail n xs).2.1 (fail n xs).2.2.1 = some true := by
  have hB := big_eq
  have hj := FnMatroids_j1 n xs hl k (by omega)
  have hz := matT_size n xs
  simp only [laws_FnMatroids.j0]
  rw [if_neg (by simp), MatroidText_impl n xs (k + 1) (by omega) (by omega), bsome, ParseMatroid_impl _ (by omega) (k + 1) (by omega), bsome, MatroidText_spec n xs (k + 1) (by omega) (by omega), bsome, if_pos rfl]
  rw [IsMatroid_impl n xs (k + 1) (by omega) (by omega), bsome, parM_text]
  by_cases h : mat n xs = true
  · rw [if_pos h, h, if_neg (by simp), if_pos rfl, EqualMatroid_spec n n xs xs (k + 1) (by omega) (by omega), bsome, decide_eq_true ⟨rfl, rfl⟩]; exact hj
  · rw [if_neg h, bnot_false h, if_neg (by simp), if_neg (by simp)]; exact hj
theorem FnMatroids : laws_FnMatroids.Pure := by
  intro b hlb _ _
  obtain ⟨k, hk⟩ : ∃ k : Nat, 20000000 ≤ k := ⟨_, Nat.le_refl _⟩
  have hB := big_eq
  refine ⟨k + 2, ?_⟩
  unfold laws_FnMatroids.f laws_big.f; rw [bsome]
  by_cases h : (b.length : Int) > 1048576
  · rw [if_pos (decide_eq_true h)]
  · rw [if_neg (by rw [decide_eq_true_eq]; exact h)]
    obtain ⟨n, xs, e1, l1, _, _⟩ := DrawFirstFailure_ok b (k + 2) h (by omega)
    obtain ⟨a, ys, c, zs, e2, l2, l3⟩ := DrawEqualMatroid_ok b (k + 2) h (by omega)
    obtain ⟨r, m, e3⟩ := DrawUniform_ok b (k + 2) h (by omega)
    obtain ⟨t, e4, ht⟩ := DrawParseMatroid_ok b (k + 2) h (by omega)
    have hu := uni_len r m
    have hp := parM_len t ht
    have hj := FnMatroids_j0 n xs l1 k hk
    rw [e1, bsome]; try simp only []
    rw [FirstFailure_impl n xs (k + 2) (by omega) (by omega), bsome, FirstFailure_spec n xs (k + 2) (by omega) (by omega), bsome, e2, bsome, e3, bsome, e4, bsome]; try simp only []
    rw [ParseMatroid_impl t ht (k + 2) (by omega), bsome, ParseMatroid_spec t ht (k + 2) (by omega), bsome, if_neg (by simp), if_neg (by simp)]
    rw [IsMatroid_impl n xs (k + 2) (by omega) (by omega), bsome, IsMatroid_spec n xs (k + 2) (by omega) (by omega), bsome, if_neg (by simp)]
    rw [EqualMatroid_impl a c ys zs (k + 2) (by omega) (by omega), bsome, EqualMatroid_spec a c ys zs (k + 2) (by omega) (by omega), bsome, if_neg (by simp)]
    rw [Uniform_impl r m (k + 2) (by omega), bsome, Uniform_spec r m (k + 2) (by omega), bsome, EqualMatroid_impl _ _ _ _ (k + 2) (by omega) (by omega), bsome, if_pos (by simp)]
    rw [RankOfMatroid_impl n xs (k + 2) (by omega) (by omega), bsome, RankOfMatroid_spec n xs (k + 2) (by omega) (by omega), bsome, if_pos rfl, if_neg (by simp)]
    rw [EqualMatroid_spec _ _ _ _ (k + 2) (by omega) (by omega), bsome]
    simpa using hj

end Go.Proofs.YtekegbacnagbcaaGreatDoor.Pure
