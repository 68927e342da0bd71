/- Circuits of a matroid and its girth: what the printed functions come to. -/
import Derived.Test.YthpocifdejedpaaVCircuitsInd
import Derived.Test.YthpocifdejedpaaVCircuitsMin
namespace Go.Proofs.Ythpocifdejedpaa.L
open Go.RowKit Go.Proofs.YthpocifdejedpaaW.PrintWords Go.Proofs.YthpocifdejedpaaW.PrintMore Go.Proofs.Ythpocifdejedpaa.P Go.Proofs.Ythpocifdejedpaa.B
def circS (n : Int) (xs : List Int) : List Int := if mat n xs = true then minS (sets n fun s => !(indN xs s)) else []
theorem circS_len (n : Int) (xs : List Int) : (circS n xs).length ≤ 256 := by
  unfold circS; split
  · rename_i h; have F := (mat_fam h).1; exact Nat.le_trans (minS_len _) (sets_len F.n0 F.n8 _)
  · exact Nat.zero_le _
theorem l6Circuits_l0 {n : Int} {xs : List Int} (F : Fam n xs) (h0 : 0 < xs.length) : ∀ d k i : Nat, ∀ out : List Int, i + d = 2 ^ n.toNat → d + Big3 ≤ k → out.length ≤ i → spec_l6Circuits.l0 k out (i : Int) n xs = some (minS (out ++ setsFrom (fun s => !(indN xs s)) i d)) := by
  have hw := pow_le8 F.le8
  intro d
  induction d with
  | zero =>
    intro k i out h hk ho; obtain ⟨k, rfl⟩ := pos (show 0 < k by unfold Big3 at hk; omega)
    have hb := big2 (show out.length ≤ 4194304 by omega)
    simp only [spec_l6Circuits.l0]; rw [FullSet_spec, fullSet_nat F.n0 F.n8]; simp only [Option.bind_some]; rw [if_neg (by omega), MinimalSets_spec out k (by omega) (by unfold Big3 at hk; unfold Big2 at *; omega)]; simp [setsFrom]
  | succ d ih =>
    intro k i out h hk ho; obtain ⟨k, rfl⟩ := pos (show 0 < k by omega)
    have hk3 : 2000000 ≤ k := by unfold Big3 at hk; omega
    simp only [spec_l6Circuits.l0]; rw [FullSet_spec, fullSet_nat F.n0 F.n8, l5Rank_eq F i k (by omega) (by omega), CountOf_spec _ k (by omega), cnt_nat (by omega)]; simp only [Option.bind_some, setsFrom]; rw [if_pos (by omega), w1 (by omega)]
    have hc := rk_card F h0 (show i < 256 by omega)
    have hl := rk_le h0 i
    by_cases hq : indN xs i = true
    · rw [if_neg (by have := hc.mpr hq; omega), if_neg (by rw [hq]; simp), ih k (i + 1) _ (by omega) (by omega) (by omega)]
    · have hne : rk xs i ≠ Mt.card i := fun q => hq (hc.mp q)
      rw [if_pos (by omega), if_pos (by omega), if_pos (by rw [bnot_false hq]; rfl), ih k (i + 1) _ (by omega) (by omega) (by rw [List.length_append, List.length_singleton]; omega)]; simp
theorem Circuits_spec (n : Int) (xs : List Int) (k : Nat) (hn : xs.length < 2000000) (hk : Big3 + 300 ≤ k) : spec_Circuits.f k n xs = some (circS n xs) := by
  have hk3 : 2000000 ≤ k := by unfold Big3 at hk; omega
  unfold spec_Circuits.f circS; rw [IsMatroid_spec n xs k hn hk3]; simp only [Option.bind_some]
  by_cases h : mat n xs = true
  · have F := (mat_fam h).1; have hw := pow_le8 F.le8
    have e : spec_l6Circuits.f k n xs = some (minS (sets n fun s => !(indN xs s))) := l6Circuits_l0 F (mat_fam h).2.1 (2 ^ n.toNat) k 0 [] (Nat.zero_add _) (by omega) (Nat.le_refl _)
    rw [if_pos h, if_pos h, e]; rfl
  · rw [if_neg h, if_neg h]
theorem Circuits_impl (n : Int) (xs : List Int) (k : Nat) (hn : xs.length < 2000000) (hk : 2000000 ≤ k) : impl_Circuits.f k n xs = some (circS n xs) := by
  unfold impl_Circuits.f circS; rw [IsMatroid_impl n xs k hn hk]; simp only [Option.bind_some]
  by_cases h : mat n xs = true
  · have F := (mat_fam h).1
    have e : on_impl_Circuits_1.f k n n xs = some (sets n fun s => !(indN xs s)) := setsL_sets F.n0 F.n8 _ _ (fun j _ => by
      unfold impl_Circuits_1.f; rw [independent_eq n xs (j : Int) k hn (by omega)]; rfl) k (by omega)
    have hl := sets_len F.n0 F.n8 fun s => !(indN xs s)
    rw [if_pos h, if_pos h, e]; simp only [Option.bind_some]
    rw [MinimalSets_impl _ k (by omega) (by omega)]; rfl
  · rw [if_neg h, if_neg h]
def girF (best : Int) : List Int → Int
  | [] => best
  | c :: cs => girF (if best = 0 then cnt c else if cnt c < best then cnt c else best) cs
def girth (n : Int) (xs : List Int) : Int := girF 0 (circS n xs)
end Go.Proofs.Ythpocifdejedpaa.L
