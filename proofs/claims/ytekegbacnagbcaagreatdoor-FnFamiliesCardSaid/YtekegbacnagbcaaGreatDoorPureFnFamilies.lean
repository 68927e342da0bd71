/- The least sets that meet all least meeting sets are the least sets; the program's functions on families answer as the reference's at the drawn arguments. -/
import Derived.Test.YtekegbacnagbcaaGreatDoorVFnFamiliesAll
namespace Go.Proofs.YtekegbacnagbcaaGreatDoor.Pure
open Go.RowKit Go.Proofs.YtekegbacnagbcaaGreatDoor.P Go.Proofs.YtekegbacnagbcaaGreatDoorW.PrintWords Go.Proofs.YtekegbacnagbcaaGreatDoorW.PrintLast
open Go.Proofs.YtekegbacnagbcaaGreatDoor.L Go.Proofs.YtekegbacnagbcaaGreatDoor.D3
open Go.Proofs.YtekegbacnagbcaaGreatDoor.Me (meetS MeetingSets_impl MeetingSets_spec comS ComplementSets_impl ComplementSets_spec offB offB_iff blocker sets_in p8 areB_sets')
open Go.Proofs.YtekegbacnagbcaaGreatDoor.Pf (parF parF_len ParseFamily_impl ParseFamily_spec)
theorem famT_small (xs : List Int) : (famT xs).size ≤ 9 * xs.length + 4 := by
  unfold famT
  split
  · show 4 ≤ _; omega
  · split
    · have := texts_len xs
      unfold joinB; rw [Go.Proofs.YtekegbacnagbcaaGreatDoor.F.sz]; omega
    · exact Nat.zero_le _
theorem DrawParseFamily_ok (b : List Int) (k : Nat) (hb : ¬ (b.length : Int) > 1048576) (hk : 1048576 + 200 < k) : ∃ n t, spec_DrawParseFamily.f k b = some (n, t) ∧ t.size ≤ 1000 := by
  obtain ⟨g, e⟩ := new_ok b k (by omega) (by omega)
  unfold spec_DrawParseFamily.f; rw [e, bsome]; simp only []
  obtain ⟨n, j1, g1, e1, j10, n0, _, n1⟩ := below_ok b 0 g 6 (by omega) (Int.le_refl _)
  have := n1 (by omega)
  rw [e1, bsome]; simp only []
  obtain ⟨l, j2, g2, e2, j20, hl⟩ := l3Draw_ok b j1 g1 n (by omega) j10 (by omega) k (by omega)
  have hm : l.length * (l.length + 4) ≤ 5 * 9 := Nat.mul_le_mul hl (by omega)
  have hs := srt_len l
  have hf := famT_small (srt l)
  rw [e2, bsome]; simp only []
  rw [SortSets_spec l k (by omega) (by omega), bsome, FamilyText_spec (srt l) k (by omega) (by omega), bsome]
  obtain ⟨t, j3, g3, e3, _, ht⟩ := turned_ok b j2 g2 (famT (srt l)) [(⟨#[44]⟩ : ByteArray), (⟨#[97]⟩ : ByteArray), (⟨#[45]⟩ : ByteArray), (⟨#[110, 111, 110, 101]⟩ : ByteArray), (⟨#[97, 98]⟩ : ByteArray)] (by omega) j20 (by simp) (by omega) (fun x hx => by
    simp only [List.mem_cons, List.not_mem_nil, or_false] at hx
    rcases hx with rfl | rfl | rfl | rfl | rfl <;> decide)
  rw [e3, bsome]; exact ⟨n, t, rfl, by omega⟩
theorem FnFamilies_j1 (k : Nat) (hk : 18000000000000 ≤ k) (n : Int) (xs : List Int) (hl : xs.length ≤ 6) : laws_FnFamilies.j1 (k + 1) n xs (meetS n xs) false = some true := by
  have hB := big_eq
  have hB2 : Big2 = 17592202821636 := rfl
  have hm : xs.length * (xs.length + 4) ≤ 6 * 10 := Nat.mul_le_mul hl (by omega)
  have hs := srt_len xs
  simp only [laws_FnFamilies.j1]
  rw [if_neg (by simp), SortSets_spec xs k (by omega) (by omega), bsome, IsFamily_spec n (srt xs) k (by omega) (by omega), bsome]
  by_cases h : fam n (srt xs) = true
  · have F := (fam_iff n (srt xs)).mp h
    have ho : offB n xs = true := offB_iff.mpr ⟨⟨F.n0, F.n8⟩, fun x hx => F.set x ((srt_mem xs x).mpr hx)⟩
    have hml : (meetS n xs).length ≤ 256 := by
      unfold meetS; rw [if_pos ho]
      exact Nat.le_trans (minS_len _) (sets_len F.n0 F.n8 _)
    have hx := minS_len xs
    rw [if_pos h, MeetingSets_impl n _ k (by omega) (by omega), bsome, blocker ho, MinimalSets_spec xs k (by omega) (by omega), bsome, sameInts_eq _ _ k (by omega) (by omega), bsome]; simp
  · rw [if_neg h]
theorem FnFamilies_j0 (b : List Int) (hb : ¬ (b.length : Int) > 1048576) (k : Nat) (hk : 18000000000000 ≤ k) (n : Int) (xs d : List Int) (hl : xs.length ≤ 6) (hd : d.length ≤ 6) : laws_FnFamilies.j0 (k + 2) b n xs (meetS n xs) d false = some true := by
  have hB := big_eq
  obtain ⟨m, t, e, ht⟩ := DrawParseFamily_ok b (k + 1) hb (by omega)
  have hp := parF_len m t
  have hj := FnFamilies_j1 k hk n xs hl
  simp only [laws_FnFamilies.j0]
  rw [if_neg (by simp), FamilyText_impl d (k + 1) (by omega) (by omega), bsome, e, bsome]
  try simp only []
  rw [ParseFamily_impl m t (by omega) (k + 1) (by omega), bsome, ParseFamily_spec m t (by omega) (k + 1) (by omega), bsome, FamilyText_spec d (k + 1) (by omega) (by omega), bsome, if_pos rfl, if_neg (by simp), sameInts_eq _ _ (k + 1) (by omega) (by omega), bsome]
  simpa using hj
theorem FnFamilies : laws_FnFamilies.Pure := by
  intro b hl _ _
  obtain ⟨k, hk⟩ : ∃ k, 18000000000000 ≤ k := ⟨_, Nat.le_refl _⟩
  have hB := big_eq
  have hB2 : Big2 = 17592202821636 := rfl
  refine ⟨k + 2, ?_⟩
  unfold laws_FnFamilies.f laws_big.f; rw [bsome]
  by_cases h : (b.length : Int) > 1048576
  · rw [if_pos (decide_eq_true h)]
  · rw [if_neg (by rw [decide_eq_true_eq]; exact h)]
    obtain ⟨n, xs, e1, l1⟩ := DrawMeetingSets_ok b (k + 2) h (by omega)
    obtain ⟨a, fa, e2, l2⟩ := DrawIsFamily_ok b (k + 2) h (by omega)
    obtain ⟨c, e3, l3⟩ := DrawSortSets_ok b (k + 2) h (by omega)
    obtain ⟨d, e4, l4⟩ := DrawMinimalSets_ok b (k + 2) h (by omega)
    obtain ⟨p, q, e5, l5⟩ := DrawComplementSets_ok b (k + 2) h (by omega)
    obtain ⟨g, s, e6, l6⟩ := DrawHasSet_ok b (k + 2) h (by omega)
    have hml : (meetS n xs).length ≤ 256 := by
      unfold meetS
      by_cases ho : offB n xs = true
      · have hz := (offB_iff.mp ho).1
        rw [if_pos ho]; exact Nat.le_trans (minS_len _) (sets_len hz.1 hz.2 _)
      · rw [if_neg ho]; exact Nat.zero_le _
    have hc := srt_len c; have hd := minS_len d; have hd2 := maxS_len d
    have hq : (comS p q).length ≤ 6 := by
      unfold comS
      by_cases ho : offB p q = true
      · rw [if_pos ho]; have := srt_len (q.map fun s => fullSet p - s); rw [List.length_map] at this; omega
      · rw [if_neg ho]; exact Nat.zero_le _
    have m3 : c.length * (c.length + 4) ≤ 6 * 10 := Nat.mul_le_mul l3 (by omega)
    have m4 : d.length * (d.length + 4) ≤ 6 * 10 := Nat.mul_le_mul l4 (by omega)
    have hj := FnFamilies_j0 b h k hk n xs d l1 l4
    rw [e1, bsome]; try simp only []
    rw [MeetingSets_impl n xs (k + 2) (by omega) (by omega), bsome, e2, bsome, e3, bsome, e4, bsome, e5, bsome, e6, bsome]; try simp only []
    rw [MeetingSets_spec n xs (k + 2) (by omega) (by omega), bsome, sameInts_eq _ _ (k + 2) (by omega) (by omega), bsome, if_pos (by simp)]
    rw [IsFamily_impl a fa (k + 2) (by omega) (by omega), bsome, IsFamily_spec a fa (k + 2) (by omega) (by omega), bsome, if_neg (by simp)]
    rw [SortSets_impl c (by omega), bsome, SortSets_spec c (k + 2) (by omega) (by omega), bsome, sameInts_eq _ _ (k + 2) (by omega) (by omega), bsome, if_pos (by simp)]
    rw [MinimalSets_impl d (k + 2) (by omega) (by omega), bsome, MinimalSets_spec d (k + 2) (by omega) (by omega), bsome, sameInts_eq _ _ (k + 2) (by omega) (by omega), bsome, if_pos (by simp)]
    rw [MaximalSets_impl d (k + 2) (by omega) (by omega), bsome, MaximalSets_spec d (k + 2) (by omega) (by omega), bsome, sameInts_eq _ _ (k + 2) (by omega) (by omega), bsome, if_pos (by simp)]
    rw [ComplementSets_impl p q (k + 2) (by omega) (by omega), bsome, ComplementSets_spec p q (k + 2) (by omega) (by omega), bsome, sameInts_eq _ _ (k + 2) (by omega) (by omega), bsome, if_pos (by simp)]
    rw [HasSet_impl g s (k + 2) (by omega) (by omega), bsome, HasSet_spec g s (k + 2) (by omega) (by omega), bsome]
    simpa using hj

end Go.Proofs.YtekegbacnagbcaaGreatDoor.Pure
