/- The draws: that they answer, and within which bounds. -/
import Derived.Test.YthncmojfpdojoaaVFnSetsLoop
namespace Go.Proofs.Ythncmojfpdojoaa.L
open Go.RowKit Go.Proofs.YthncmojfpdojoaaW.PrintWords Go.Proofs.YthncmojfpdojoaaW.PrintMore Go.Proofs.Ythncmojfpdojoaa.P Go.Proofs.Ythncmojfpdojoaa.B
theorem byte_ok (b : List Int) (i h : Int) (hb : b.length < 4611686018427387904) (h0 : 0 ≤ i) : ∃ x j g, spec_l1Byte.f b i h = some (x, j, g) ∧ 0 ≤ x ∧ x ≤ 255 ∧ 0 ≤ j := by
  unfold spec_l1Byte.f
  by_cases hi : i < (b.length : Int)
  · rw [if_pos hi, if_pos h0]
    refine ⟨_, _, _, rfl, (and_range _ 255 (by omega)).1, (and_range _ 255 (by omega)).2, ?_⟩
    rw [w64 _ (by omega) (by omega)]; omega
  · rw [if_neg hi]
    exact ⟨_, _, _, rfl, (and_range _ 255 (by omega)).1, (and_range _ 255 (by omega)).2, h0⟩
theorem below_ok (b : List Int) (i h n : Int) (hb : b.length < 4611686018427387904) (h0 : 0 ≤ i) : ∃ x j g, spec_l1Below.f b i h n = some (x, j, g) ∧ 0 ≤ j ∧ 0 ≤ x ∧ (n ≤ 0 → x = 0) ∧ (0 < n → x < n) := by
  unfold spec_l1Below.f
  by_cases hn : n ≤ 0
  · rw [if_pos hn]; exact ⟨_, _, _, rfl, h0, Int.le_refl _, fun _ => rfl, fun q => by omega⟩
  · rw [if_neg hn]
    by_cases h2 : n ≤ 256
    · obtain ⟨x, j, g, e, x0, x1, j0⟩ := byte_ok b i h hb h0
      rw [if_pos h2, e]; simp only [Option.bind_some]; rw [if_neg (by omega)]
      exact ⟨_, _, _, rfl, j0, Int.tmod_nonneg _ x0, fun q => absurd q hn, fun q => Int.tmod_lt_of_pos _ q⟩
    · obtain ⟨x, j, g, e, x0, x1, j0⟩ := byte_ok b i h hb h0
      obtain ⟨y, j', g', e', y0, y1, j0'⟩ := byte_ok b j g hb j0
      obtain ⟨z, j'', g'', e'', z0, z1, j0''⟩ := byte_ok b j' g' hb j0'
      obtain ⟨t, j3, g3, e3, t0, t1, j03⟩ := byte_ok b j'' g'' hb j0''
      rw [if_neg h2, e]; simp only [Option.bind_some]
      rw [e']; simp only [Option.bind_some]
      rw [e'']; simp only [Option.bind_some]
      rw [e3]; simp only [Option.bind_some]
      rw [if_neg (by omega)]
      refine ⟨_, _, _, rfl, j03, Int.tmod_nonneg _ ?_, fun q => absurd q hn, fun q => Int.tmod_lt_of_pos _ q⟩
      rw [w64 (x * 16777216) (by omega) (by omega), w64 (y * 65536) (by omega) (by omega), w64 (z * 256) (by omega) (by omega), w64 (x * 16777216 + y * 65536) (by omega) (by omega), w64 (x * 16777216 + y * 65536 + z * 256) (by omega) (by omega), w64 _ (by omega) (by omega)]; omega
theorem once_ok (b : List Int) (i h n : Int) (hb : b.length < 4611686018427387904) (h0 : 0 ≤ i) : ∃ t j g, spec_l1Once.f b i h n = some (t, j, g) ∧ 0 ≤ j := by
  obtain ⟨x, j, g, e, j0, _⟩ := below_ok b i h n hb h0
  unfold spec_l1Once.f; rw [e]; exact ⟨_, _, _, rfl, j0⟩
theorem pickInt_ok (b : List Int) (i h : Int) (l : List Int) (hb : b.length < 4611686018427387904) (h0 : 0 ≤ i) (hl : 0 < l.length) : ∃ x j g, spec_l1PickInt.f b i h l = some (x, j, g) ∧ 0 ≤ j ∧ x ∈ l := by
  obtain ⟨x, j, g, e, j0, x0, _, x1⟩ := below_ok b i h (l.length : Int) hb h0
  have := x1 (by omega)
  unfold spec_l1PickInt.f; rw [e]; simp only [Option.bind_some]
  rw [if_pos x0, if_pos this]
  obtain ⟨m, rfl⟩ := nat_of x0
  exact ⟨_, _, _, rfl, j0, rd_mem (by omega)⟩
theorem pick_ok (b : List Int) (i h : Int) (l : List ByteArray) (hb : b.length < 4611686018427387904) (h0 : 0 ≤ i) (hl : 0 < l.length) : ∃ x j g, spec_l1Pick.f b i h l = some (x, j, g) ∧ 0 ≤ j ∧ x ∈ l := by
  obtain ⟨x, j, g, e, j0, x0, _, x1⟩ := below_ok b i h (l.length : Int) hb h0
  have := x1 (by omega)
  unfold spec_l1Pick.f; rw [e]; simp only [Option.bind_some]
  rw [if_pos x0, if_pos this]
  obtain ⟨m, rfl⟩ := nat_of x0
  refine ⟨_, _, _, rfl, j0, ?_⟩
  have hm : m < l.length := by omega
  simp [rdOf, hm]
theorem draw2_ok (b : List Int) (i h : Int) (hb : b.length < 4611686018427387904) (h0 : 0 ≤ i) : ∃ x j g, spec_l2Draw.f b i h = some (x, j, g) ∧ 0 ≤ j ∧ 0 ≤ x ∧ x < 256 := by
  obtain ⟨x, j, g, e, j0, x0, _, x1⟩ := below_ok b i h 256 hb h0
  unfold spec_l2Draw.f; rw [e]; exact ⟨_, _, _, rfl, j0, x0, x1 (by omega)⟩
theorem bent2_ok (b : List Int) (i h : Int) (hb : b.length < 4611686018427387904) (h0 : 0 ≤ i) : ∃ x j g, spec_l2Bent.f b i h = some (x, j, g) ∧ 0 ≤ j ∧ -9223372036854775808 ≤ x ∧ x < 9223372036854775808 := by
  obtain ⟨t, j, g, e, j0⟩ := once_ok b i h 8 hb h0
  unfold spec_l2Bent.f; rw [e]; simp only [Option.bind_some]
  cases t
  · obtain ⟨x, j', g', e', j0', x0, x1⟩ := draw2_ok b j g hb j0
    rw [if_neg (by simp), e']; exact ⟨_, _, _, rfl, j0', by omega, by omega⟩
  · obtain ⟨x, j', g', e', j0', hx⟩ := pickInt_ok b j g [(-1), 256, 1000, (-9223372036854775808)] hb j0 (by simp)
    rw [if_pos rfl, e']
    simp only [List.mem_cons, List.not_mem_nil, or_false] at hx
    exact ⟨_, _, _, rfl, j0', by omega, by omega⟩
theorem new_l0 (b : List Int) (hb : b.length < 4611686018427387904) : ∀ d k i : Nat, ∀ h : Int, i + d = b.length → d < k → ∃ g, spec_l1New.l0 k b h (i : Int) = some (b, 0, g) := by
  intro d
  induction d with
  | zero =>
    intro k i h e hk; obtain ⟨k, rfl⟩ := pos (show 0 < k by omega)
    simp only [spec_l1New.l0]; rw [if_neg (by omega)]; exact ⟨_, rfl⟩
  | succ d ih =>
    intro k i h e hk; obtain ⟨k, rfl⟩ := pos (show 0 < k by omega)
    simp only [spec_l1New.l0]; rw [if_pos (by omega)]
    by_cases h4 : (i : Int) < 4000
    · rw [if_pos h4, if_pos (by omega), w1 (by omega)]; exact ih k (i + 1) _ (by omega) (by omega)
    · rw [if_neg h4]; exact ⟨_, rfl⟩
theorem new_ok (b : List Int) (k : Nat) (hb : b.length < 4611686018427387904) (hk : b.length < k) : ∃ g, spec_l1New.f k b = some (b, 0, g) := by
  unfold spec_l1New.f; exact new_l0 b hb b.length k 0 _ (Nat.zero_add _) hk
theorem DrawElementsOf_ok (b : List Int) (k : Nat) (hb : b.length < 4611686018427387904) (hk : b.length < k) : ∃ s, spec_DrawElementsOf.f k b = some s ∧ -9223372036854775808 ≤ s ∧ s < 9223372036854775808 := by
  obtain ⟨g, e⟩ := new_ok b k hb hk
  unfold spec_DrawElementsOf.f; rw [e]; simp only [Option.bind_some]
  obtain ⟨x, j, g', e', _, x0, x1⟩ := bent2_ok b 0 g hb (Int.le_refl _)
  rw [e']; exact ⟨x, rfl, x0, x1⟩
theorem DrawHasElement_ok (b : List Int) (k : Nat) (hb : b.length < 4611686018427387904) (hk : b.length < k) : ∃ s e, spec_DrawHasElement.f k b = some (s, e) := by
  obtain ⟨g, e⟩ := new_ok b k hb hk
  unfold spec_DrawHasElement.f; rw [e]; simp only [Option.bind_some]
  obtain ⟨x, j, g', e', j0, _⟩ := bent2_ok b 0 g hb (Int.le_refl _)
  rw [e']; simp only [Option.bind_some]
  obtain ⟨y, j', g'', e'', _⟩ := below_ok b j g' 10 hb j0
  rw [e'']; exact ⟨_, _, rfl⟩
theorem DrawIsSet_ok (b : List Int) (k : Nat) (hb : b.length < 4611686018427387904) (hk : b.length < k) : ∃ s e, spec_DrawIsSet.f k b = some (s, e) := by
  obtain ⟨g, e⟩ := new_ok b k hb hk
  unfold spec_DrawIsSet.f; rw [e]; simp only [Option.bind_some]
  obtain ⟨x, j, g', e', j0, _⟩ := below_ok b 0 g 11 hb (Int.le_refl _)
  rw [e']; simp only [Option.bind_some]
  obtain ⟨y, j', g'', e'', _⟩ := below_ok b j g' 300 hb j0
  rw [e'']; exact ⟨_, _, rfl⟩
theorem DrawFullSet_ok (b : List Int) (k : Nat) (hb : b.length < 4611686018427387904) (hk : b.length < k) : ∃ s, spec_DrawFullSet.f k b = some s := by
  obtain ⟨g, e⟩ := new_ok b k hb hk
  unfold spec_DrawFullSet.f; rw [e]; simp only [Option.bind_some]
  obtain ⟨x, j, g', e', j0, _⟩ := below_ok b 0 g 11 hb (Int.le_refl _)
  rw [e']; exact ⟨_, rfl⟩
theorem DrawIsSubset_ok (b : List Int) (k : Nat) (hb : b.length < 4611686018427387904) (hk : b.length < k) : ∃ s e, spec_DrawIsSubset.f k b = some (s, e) := by
  obtain ⟨g, e⟩ := new_ok b k hb hk
  unfold spec_DrawIsSubset.f; rw [e]; simp only [Option.bind_some]
  obtain ⟨x, j, g', e', j0, _⟩ := bent2_ok b 0 g hb (Int.le_refl _)
  rw [e']; simp only [Option.bind_some]
  obtain ⟨t, j', g'', e'', j0'⟩ := once_ok b j g' 3 hb j0
  rw [e'']; simp only [Option.bind_some]
  cases t
  · obtain ⟨y, j3, g3, e3, _⟩ := bent2_ok b j' g'' hb j0'
    rw [if_neg (by simp), e3]; exact ⟨_, _, rfl⟩
  · obtain ⟨y, j3, g3, e3, _⟩ := below_ok b j' g'' 256 hb j0'
    rw [if_pos rfl, e3]; exact ⟨_, _, rfl⟩
theorem turned_ok (b : List Int) (i h : Int) (s : ByteArray) (l : List ByteArray) (hb : b.length < 4611686018427387904) (h0 : 0 ≤ i) (hl : 0 < l.length) (hs : s.size ≤ 1000000) (hm : ∀ x ∈ l, x.size ≤ 100) :
    ∃ x j g, spec_l1Turned.f b i h s l = some (x, j, g) ∧ 0 ≤ j ∧ x.size ≤ s.size + 100 := by
  unfold spec_l1Turned.f
  rw [w64 ((s.size : Int) + 1) (by omega) (by omega)]
  obtain ⟨a, j, g, e, j0, a0, _, a1⟩ := below_ok b i h ((s.size : Int) + 1) hb h0
  have a1' := a1 (by omega)
  rw [e]; simp only [Option.bind_some]
  obtain ⟨c, j', g', e', j0', c0, _, _⟩ := below_ok b j g 6 hb j0
  rw [e']; simp only [Option.bind_some]
  have x1 : (s.extract 0 a.toNat).size ≤ s.size := by rw [ByteArray.size_extract]; omega
  have x2 : (s.extract a.toNat s.size).size = s.size - a.toNat := by rw [ByteArray.size_extract]; omega
  have x3 : (s.extract 0 a.toNat).size = a.toNat := by rw [ByteArray.size_extract]; omega
  by_cases hc : c = 0
  · rw [if_pos hc, if_pos a0, if_pos (by omega)]
    obtain ⟨p, j3, g3, e3, j03, hp⟩ := pick_ok b j' g' l hb j0' hl
    have hp' := hm p hp
    rw [e3]; simp only [Option.bind_some]
    have x4 : ((s.extract 0 a.toNat) ++ p).size = a.toNat + p.size := by rw [ByteArray.size_append, x3]
    rw [if_pos (by omega), if_pos (by omega)]
    refine ⟨_, _, _, rfl, j03, ?_⟩
    rw [ByteArray.size_append, x4, x2]; omega
  · rw [if_neg hc]
    by_cases hc1 : c = 1
    · rw [if_pos hc1, if_pos a0, if_pos (by omega)]; exact ⟨_, _, _, rfl, j0', by omega⟩
    · rw [if_neg hc1]; exact ⟨_, _, _, rfl, j0', by omega⟩
end Go.Proofs.Ythncmojfpdojoaa.L
