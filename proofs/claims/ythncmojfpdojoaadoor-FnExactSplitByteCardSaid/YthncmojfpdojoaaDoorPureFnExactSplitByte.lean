/- The program's SplitByte answers as the reference's at all strings. -/
import Derived.Test.YthncmojfpdojoaaDoorVSplitByteCut
namespace Go.Proofs.YthncmojfpdojoaaDoor.Pure
open Go.RowKit Go.Proofs.YthncmojfpdojoaaDoor.P Go.Proofs.YthncmojfpdojoaaDoor.L Go.Proofs.YthncmojfpdojoaaDoor.F Go.Proofs.YthncmojfpdojoaaDoorW.PrintWords Go.Proofs.YthncmojfpdojoaaDoorW.PrintLast
theorem bsome {α β : Type} (a : α) (f : α → Option β) : (some a).bind f = f a := (Option.bind_some a f).trans rfl
theorem FnExactSplitByte : laws_FnExactSplitByte.Pure := by
  intro a c _ hc
  have hc' : 0 ≤ c ∧ c ≤ 255 := by
    simp only [Lit.wf, IntKind.min, IntKind.max, IntKind.signed, IntKind.bits, Bool.and_eq_true] at hc
    simp at hc; omega
  obtain ⟨k, hk⟩ : ∃ k, Big ≤ k := ⟨_, Nat.le_refl _⟩
  have hB := big_eq
  refine ⟨k, ?_⟩
  unfold laws_FnExactSplitByte.f
  by_cases h : (a.size : Int) > 1048576
  · rw [if_pos h]
  · have hl := cutB_len a (UInt8.ofNat c.toNat)
    rw [if_neg h, SplitByte_spec a (by omega) c hc'.1 hc'.2 k (by omega), bsome, SplitByte_impl a c (by omega) hc'.1 hc'.2, bsome]
    generalize cutB a (UInt8.ofNat c.toNat) = l at *
    rw [eqStringS_eq l k (by omega) hk, bsome, if_pos rfl, markStringS_eq l 1 k (by omega) hk (by omega) (by omega), bsome]
    simp only []
    rw [heldStringS_eq l.length 1 k (by omega) hk (by omega) (by omega), bsome, if_neg (by omega), if_pos rfl, bsome, eqStringS_eq l k (by omega) hk, bsome, if_pos rfl, bsome, if_neg (by omega), if_pos rfl]

end Go.Proofs.YthncmojfpdojoaaDoor.Pure
