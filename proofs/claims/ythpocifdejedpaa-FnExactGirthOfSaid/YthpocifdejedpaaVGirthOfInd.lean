/- Independent sets of a matroid: what the printed functions come to. -/
import Derived.Test.YthpocifdejedpaaVGirthOfUni
namespace Go.Proofs.Ythpocifdejedpaa.L
open Go.RowKit Go.Proofs.YthpocifdejedpaaW.PrintWords Go.Proofs.YthpocifdejedpaaW.PrintMore Go.Proofs.Ythpocifdejedpaa.P Go.Proofs.Ythpocifdejedpaa.B
/-- Whether s lies within a base. -/
def indN (xs : List Int) (s : Nat) : Bool := anyFrom (fun i => subB (s : Int) (rd xs (i : Int))) 0 xs.length
theorem indN_iff {n : Int} {xs : List Int} (F : Fam n xs) (s : Nat) : indN xs s = true ↔ ∃ i, i < xs.length ∧ Mt.Sub s (X xs i) := by
  unfold indN; rw [anyFrom_iff]
  constructor
  · rintro ⟨i, _, hi, h⟩
    have := (subB_iff F i).mp h
    rw [Int.toNat_natCast] at this
    exact ⟨i, by omega, this.2⟩
  · rintro ⟨i, hi, h⟩
    exact ⟨i, Nat.zero_le _, by omega, (subB_iff F i).mpr ⟨by omega, by rw [Int.toNat_natCast]; exact h⟩⟩
theorem rk_le {xs : List Int} (h0 : 0 < xs.length) (s : Nat) : rk xs s ≤ Mt.card s := by
  obtain ⟨⟨j, hj, e⟩, _⟩ := rk_iff h0 s
  rw [← e]; exact Mt.card_mono (Mt.sub_and_right _ _)
theorem rk_card {n : Int} {xs : List Int} (F : Fam n xs) (h0 : 0 < xs.length) {s : Nat} (hs : s < 256) : rk xs s = Mt.card s ↔ indN xs s = true := by
  rw [indN_iff F]
  obtain ⟨⟨j, hj, e⟩, hr⟩ := rk_iff h0 s
  constructor
  · intro h
    have := Mt.card_eq (Mt.sub_and_right (X xs j) s) hs (by omega)
    refine ⟨j, hj, fun i hi => ?_⟩
    rw [← this] at hi; exact ((Mt.in_and _ _ i).mp hi).1
  · rintro ⟨i, hi, h⟩
    have e1 : X xs i &&& s = s := Mt.ext fun j => by
      rw [Mt.in_and]; exact ⟨fun q => q.2, fun q => ⟨h j q, q⟩⟩
    have h1 := hr i hi; rw [e1] at h1
    have h2 := rk_le h0 s
    omega
def indS (n : Int) (xs : List Int) : List Int := if mat n xs = true then sets n (indN xs) else []
theorem indS_len (n : Int) (xs : List Int) : (indS n xs).length ≤ 256 := by
  unfold indS; split
  · rename_i h; have F := (mat_fam h).1; exact sets_len F.n0 F.n8 _
  · exact Nat.zero_le _
end Go.Proofs.Ythpocifdejedpaa.L
