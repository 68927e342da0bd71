/- Joining the parts of a string at the separator restores it, and no part contains the separator. -/
import Derived.Test.YthncmojfpdojoaaDoorVFnSplitDraw
import Derived.Test.YthncmojfpdojoaaDoorVFnSplitCut
namespace Go.Proofs.YthncmojfpdojoaaDoor.Pure
open Go.RowKit Go.Proofs.YthncmojfpdojoaaDoor.P Go.Proofs.YthncmojfpdojoaaDoor.L Go.Proofs.YthncmojfpdojoaaDoor.F Go.Proofs.YthncmojfpdojoaaDoor.Sp Go.Proofs.YthncmojfpdojoaaDoorW.PrintWords Go.Proofs.YthncmojfpdojoaaDoorW.PrintLast
theorem bsome {α β : Type} (a : α) (f : α → Option β) : (some a).bind f = f a := (Option.bind_some a f).trans rfl
theorem DrawSplitByte_ok (b : List Int) (k : Nat) (hb : ¬ (b.length : Int) > 1048576) (hk : 1048576 + 100 < k) : ∃ s c, spec_DrawSplitByte.f k b = some (s, c) ∧ s.size ≤ 10 ∧ 0 ≤ c ∧ c ≤ 255 := by
  obtain ⟨g, e⟩ := new_ok b k (by omega) (by omega)
  unfold spec_DrawSplitByte.f; rw [e, bsome]
  obtain ⟨s, j, g', e', j0, hs⟩ := pick_ok b 0 g [(⟨#[]⟩ : ByteArray), (⟨#[97]⟩ : ByteArray), (⟨#[97, 44, 98]⟩ : ByteArray), (⟨#[44]⟩ : ByteArray), (⟨#[97, 44, 44, 98, 44]⟩ : ByteArray), (⟨#[97, 10, 98, 10]⟩ : ByteArray)] (by omega) (Int.le_refl _) (by simp)
  simp only []; rw [e', bsome]
  obtain ⟨c, j', g'', e2, _, hc⟩ := pickInt_ok b j g' [44, 10] (by omega) j0 (by simp)
  simp only []; rw [e2, bsome]
  refine ⟨s, c % 256, rfl, ?_, by omega, by omega⟩
  simp only [List.mem_cons, List.not_mem_nil, or_false] at hs
  rcases hs with rfl | rfl | rfl | rfl | rfl | rfl <;> decide
theorem FnSplit_l0 (a : ByteArray) (ha : a.size ≤ 10) (c : Int) (h0 : 0 ≤ c) (h1 : c ≤ 255) (xs : List ByteArray) (hx : ∀ p ∈ xs, p ∈ cutB a (UInt8.ofNat c.toNat)) (hn : xs.length ≤ 100) : ∀ d k i : Nat, i + d = xs.length → d < k → laws_FnSplit.l0 k c xs (i : Int) = some true := by
  intro d
  induction d with
  | zero =>
    intro k i hi hk; obtain ⟨k, rfl⟩ : ∃ q, k = q + 1 := ⟨k - 1, by omega⟩
    simp only [laws_FnSplit.l0]; rw [if_neg (by omega)]
  | succ d ih =>
    intro k i hi hk; obtain ⟨k, rfl⟩ : ∃ q, k = q + 1 := ⟨k - 1, by omega⟩
    have hj : i < xs.length := by omega
    have hm : rdOf ByteArray.empty xs (i : Int) ∈ xs := by simp [rdOf, hj]
    have hp := hx _ hm
    have hz := cut_size hp
    have w : wrap64 ((i : Int) + 1) = ((i + 1 : Nat) : Int) := by unfold wrap64; omega
    simp only [laws_FnSplit.l0]
    rw [if_pos (by omega), if_pos (by omega), SplitByte_impl _ c (by omega) h0 h1, bsome, if_pos (by rw [cut_one hp]; rfl), w]
    exact ih k (i + 1) (by omega) (by omega)
theorem FnSplit : laws_FnSplit.Pure := by
  intro b hl _ _
  obtain ⟨k, hk⟩ : ∃ k, 1048576 + 200 ≤ k := ⟨_, Nat.le_refl _⟩
  refine ⟨k + 1, ?_⟩
  unfold laws_FnSplit.f laws_big.f; rw [bsome]
  by_cases h : (b.length : Int) > 1048576
  · rw [if_pos (decide_eq_true h)]
  · rw [if_neg (by rw [decide_eq_true_eq]; exact h)]
    obtain ⟨s, c, e, hs, c0, c1⟩ := DrawSplitByte_ok b (k + 1) h (by omega)
    have hlen := cutB_len s (UInt8.ofNat c.toNat)
    rw [e, bsome]; simp only []
    rw [SplitByte_impl s c (by omega) c0 c1, bsome, byte_one c0 c1]
    have hj : joinL (cutB s (UInt8.ofNat c.toNat)) (mkB [UInt8.ofNat c.toNat]) = s.data.toList := by unfold joinL; rw [mkB_data]; exact cut_join s _
    rw [Join_impl _ _ (by omega) (by rw [hj, ← Lib.size_eq]; omega), bsome, if_pos (by unfold joinB; rw [hj, ls]), SplitByte_spec s (by omega) c c0 c1 (k + 1) (by omega), bsome]
    rw [show ((((cutB s (UInt8.ofNat c.toNat)).length : Int) != ((cutB s (UInt8.ofNat c.toNat)).length : Int)) = false) by simp]
    simp only [laws_FnSplit.j0]; rw [if_neg (by simp)]
    exact FnSplit_l0 s hs c c0 c1 _ (fun p hp => hp) (by omega) _ k 0 (Nat.zero_add _) (by omega)

end Go.Proofs.YthncmojfpdojoaaDoor.Pure
