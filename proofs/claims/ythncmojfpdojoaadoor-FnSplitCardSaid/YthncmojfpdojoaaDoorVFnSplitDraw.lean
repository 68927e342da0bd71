/- The draws: that they answer, and within which bounds. -/
import Derived.Test.YthncmojfpdojoaaDoorVFnSplitLoop
namespace Go.Proofs.YthncmojfpdojoaaDoor.L
open Go.RowKit Go.Proofs.YthncmojfpdojoaaDoorW.PrintWords Go.Proofs.YthncmojfpdojoaaDoorW.PrintMore Go.Proofs.YthncmojfpdojoaaDoor.P Go.Proofs.YthncmojfpdojoaaDoor.B
theorem byte_ok (b : List Int) (i h : Int) (hb : b.length < 4611686018427387904) (h0 : 0 ≤ i) : ∃ x j g, spec_l1Byte.f b i h = some (x, j, g) ∧ 0 ≤ x ∧ x ≤ 255 ∧ 0 ≤ j := by
  unfold spec_l1Byte.f
  by_cases hi : i < (b.length : Int)
  · rw [if_pos hi, if_pos h0]
    refine ⟨_, _, _, rfl, (and_range _ 255 (by omega)).1, (and_range _ 255 (by omega)).2, ?_⟩
    rw [w64 _ (by omega) (by omega)]; omega
  · rw [if_neg hi]
    exact ⟨_, _, _, rfl, (and_range _ 255 (by omega)).1, (and_range _ 255 (by omega)).2, h0⟩
theorem below_ok (b : List Int) (i h n : Int) (hb : b.length < 4611686018427387904) (h0 : 0 ≤ i) : ∃ x j g, spec_l1Below.f b i h n = some (x, j, g) ∧ 0 ≤ j ∧ 0 ≤ x ∧ (n ≤ 0 → x = 0) ∧ (0 < n → x < n) := by
  unfold spec_l1Below.f
  by_cases hn : n ≤ 0
  · rw [if_pos hn]; exact ⟨_, _, _, rfl, h0, Int.le_refl _, fun _ => rfl, fun q => by omega⟩
  · rw [if_neg hn]
    by_cases h2 : n ≤ 256
    · obtain ⟨x, j, g, e, x0, x1, j0⟩ := byte_ok b i h hb h0
      rw [if_pos h2, e]; simp only [Option.bind_some]; rw [if_neg (by omega)]
      exact ⟨_, _, _, rfl, j0, Int.tmod_nonneg _ x0, fun q => absurd q hn, fun q => Int.tmod_lt_of_pos _ q⟩
    · obtain ⟨x, j, g, e, x0, x1, j0⟩ := byte_ok b i h hb h0
      obtain ⟨y, j', g', e', y0, y1, j0'⟩ := byte_ok b j g hb j0
      obtain ⟨z, j'', g'', e'', z0, z1, j0''⟩ := byte_ok b j' g' hb j0'
      obtain ⟨t, j3, g3, e3, t0, t1, j03⟩ := byte_ok b j'' g'' hb j0''
      rw [if_neg h2, e]; simp only [Option.bind_some]
      rw [e']; simp only [Option.bind_some]
      rw [e'']; simp only [Option.bind_some]
      rw [e3]; simp only [Option.bind_some]
      rw [if_neg (by omega)]
      refine ⟨_, _, _, rfl, j03, Int.tmod_nonneg _ ?_, fun q => absurd q hn, fun q => Int.tmod_lt_of_pos _ q⟩
      rw [w64 (x * 16777216) (by omega) (by omega), w64 (y * 65536) (by omega) (by omega), w64 (z * 256) (by omega) (by omega), w64 (x * 16777216 + y * 65536) (by omega) (by omega), w64 (x * 16777216 + y * 65536 + z * 256) (by omega) (by omega), w64 _ (by omega) (by omega)]; omega
theorem pickInt_ok (b : List Int) (i h : Int) (l : List Int) (hb : b.length < 4611686018427387904) (h0 : 0 ≤ i) (hl : 0 < l.length) : ∃ x j g, spec_l1PickInt.f b i h l = some (x, j, g) ∧ 0 ≤ j ∧ x ∈ l := by
  obtain ⟨x, j, g, e, j0, x0, _, x1⟩ := below_ok b i h (l.length : Int) hb h0
  have := x1 (by omega)
  unfold spec_l1PickInt.f; rw [e]; simp only [Option.bind_some]
  rw [if_pos x0, if_pos this]
  obtain ⟨m, rfl⟩ := nat_of x0
  exact ⟨_, _, _, rfl, j0, rd_mem (by omega)⟩
theorem pick_ok (b : List Int) (i h : Int) (l : List ByteArray) (hb : b.length < 4611686018427387904) (h0 : 0 ≤ i) (hl : 0 < l.length) : ∃ x j g, spec_l1Pick.f b i h l = some (x, j, g) ∧ 0 ≤ j ∧ x ∈ l := by
  obtain ⟨x, j, g, e, j0, x0, _, x1⟩ := below_ok b i h (l.length : Int) hb h0
  have := x1 (by omega)
  unfold spec_l1Pick.f; rw [e]; simp only [Option.bind_some]
  rw [if_pos x0, if_pos this]
  obtain ⟨m, rfl⟩ := nat_of x0
  refine ⟨_, _, _, rfl, j0, ?_⟩
  have hm : m < l.length := by omega
  simp [rdOf, hm]
theorem new_l0 (b : List Int) (hb : b.length < 4611686018427387904) : ∀ d k i : Nat, ∀ h : Int, i + d = b.length → d < k → ∃ g, spec_l1New.l0 k b h (i : Int) = some (b, 0, g) := by
  intro d
  induction d with
  | zero =>
    intro k i h e hk; obtain ⟨k, rfl⟩ := pos (show 0 < k by omega)
    simp only [spec_l1New.l0]; rw [if_neg (by omega)]; exact ⟨_, rfl⟩
  | succ d ih =>
    intro k i h e hk; obtain ⟨k, rfl⟩ := pos (show 0 < k by omega)
    simp only [spec_l1New.l0]; rw [if_pos (by omega)]
    by_cases h4 : (i : Int) < 4000
    · rw [if_pos h4, if_pos (by omega), w1 (by omega)]; exact ih k (i + 1) _ (by omega) (by omega)
    · rw [if_neg h4]; exact ⟨_, rfl⟩
theorem new_ok (b : List Int) (k : Nat) (hb : b.length < 4611686018427387904) (hk : b.length < k) : ∃ g, spec_l1New.f k b = some (b, 0, g) := by
  unfold spec_l1New.f; exact new_l0 b hb b.length k 0 _ (Nat.zero_add _) hk
end Go.Proofs.YthncmojfpdojoaaDoor.L
