/- The program's ParseNumber answers as the reference's at all strings. -/
import Derived.Test.YthncmojfpdojoaaDoorVParseNumberParse
namespace Go.Proofs.YthncmojfpdojoaaDoor.Pure
open Go.RowKit Go.Proofs.YthncmojfpdojoaaDoor.P Go.Proofs.YthncmojfpdojoaaDoor.F Go.Proofs.YthncmojfpdojoaaDoorW.PrintWords Go.Proofs.YthncmojfpdojoaaDoorW.PrintLast
theorem FnExactParseNumber : laws_FnExactParseNumber.Pure := by
  intro a _
  refine ⟨61, ?_⟩
  unfold laws_FnExactParseNumber.f
  by_cases h : (a.size : Int) > 1048576
  · rw [if_pos h]
  · rw [if_neg h, ParseNumber_spec a (by omega) 61 (by omega), ParseNumber_impl a (by omega)]; simp

end Go.Proofs.YthncmojfpdojoaaDoor.Pure
