/- Circuits of a matroid and its girth: what the printed functions come to. -/
import Derived.Test.YthpocifdejedpaaVFromCircuitsInd
import Derived.Test.YthpocifdejedpaaVFromCircuitsMin
namespace Go.Proofs.Ythpocifdejedpaa.L
open Go.RowKit Go.Proofs.YthpocifdejedpaaW.PrintWords Go.Proofs.YthpocifdejedpaaW.PrintMore Go.Proofs.Ythpocifdejedpaa.P Go.Proofs.Ythpocifdejedpaa.B
def circS (n : Int) (xs : List Int) : List Int := if mat n xs = true then minS (sets n fun s => !(indN xs s)) else []
theorem circS_len (n : Int) (xs : List Int) : (circS n xs).length ≤ 256 := by
  unfold circS; split
  · rename_i h; have F := (mat_fam h).1; exact Nat.le_trans (minS_len _) (sets_len F.n0 F.n8 _)
  · exact Nat.zero_le _
theorem Circuits_impl (n : Int) (xs : List Int) (k : Nat) (hn : xs.length < 2000000) (hk : 2000000 ≤ k) : impl_Circuits.f k n xs = some (circS n xs) := by
  unfold impl_Circuits.f circS; rw [IsMatroid_impl n xs k hn hk]; simp only [Option.bind_some]
  by_cases h : mat n xs = true
  · have F := (mat_fam h).1
    have e : on_impl_Circuits_1.f k n n xs = some (sets n fun s => !(indN xs s)) := setsL_sets F.n0 F.n8 _ _ (fun j _ => by
      unfold impl_Circuits_1.f; rw [independent_eq n xs (j : Int) k hn (by omega)]; rfl) k (by omega)
    have hl := sets_len F.n0 F.n8 fun s => !(indN xs s)
    rw [if_pos h, if_pos h, e]; simp only [Option.bind_some]
    rw [MinimalSets_impl _ k (by omega) (by omega)]; rfl
  · rw [if_neg h, if_neg h]
def girF (best : Int) : List Int → Int
  | [] => best
  | c :: cs => girF (if best = 0 then cnt c else if cnt c < best then cnt c else best) cs
def girth (n : Int) (xs : List Int) : Int := girF 0 (circS n xs)
end Go.Proofs.Ythpocifdejedpaa.L
