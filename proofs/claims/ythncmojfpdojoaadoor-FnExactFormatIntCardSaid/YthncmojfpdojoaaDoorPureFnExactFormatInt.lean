/- The program's FormatInt answers as the reference's at all whole numbers. -/
import Derived.Test.YthncmojfpdojoaaDoorVFormatIntFmt
namespace Go.Proofs.YthncmojfpdojoaaDoor.Pure
open Go.RowKit Go.Proofs.YthncmojfpdojoaaDoor.P Go.Proofs.YthncmojfpdojoaaDoor.F Go.Proofs.YthncmojfpdojoaaDoorW.PrintWords Go.Proofs.YthncmojfpdojoaaDoorW.PrintLast
theorem FnExactFormatInt : laws_FnExactFormatInt.Pure := by
  intro x hx
  have h : -9223372036854775808 ≤ x ∧ x ≤ 9223372036854775807 := by
    simp only [Lit.wf, IntKind.min, IntKind.max, IntKind.signed, IntKind.bits] at hx; simpa using hx
  refine ⟨21, ?_⟩
  unfold laws_FnExactFormatInt.f
  rw [FormatInt_spec x h.1 h.2 21 (by omega), FormatInt_impl x h.1 h.2]; simp

end Go.Proofs.YthncmojfpdojoaaDoor.Pure
