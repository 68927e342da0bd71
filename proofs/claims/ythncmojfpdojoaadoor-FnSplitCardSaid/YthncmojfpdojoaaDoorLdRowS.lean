/- A row's list of variables, and the world's shape, give the premise. -/
import Derived.Test.YthncmojfpdojoaaDoorRows
import Derived.Test.YthncmojfpdojoaaDoorLdS
import Derived.LaidLaws
import Derived.Lib.LaidU8
import Derived.Shelf.Vars
namespace Go.Proofs.YthncmojfpdojoaaDoor.P
open Go.RowKit
theorem LD_of {l : List (String × DataW Unit)} {W : World} (_ : laidMet Tryd.prog l W) (hS : W.ShapedOpen Tryd.prog)  : LD W :=
  ⟨cell_of_shapedOpen_int (zero := #[.int .i64 0]) hS (of_decide_eq_true (by kernel_rfl)) (by kernel_rfl) rfl (by kernel_rfl) (by kernel_rfl) Tryd.underlying3⟩
end Go.Proofs.YthncmojfpdojoaaDoor.P
