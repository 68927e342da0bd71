/- A row's list of variables, and the world's shape, give the premise. -/
import Derived.Test.YtekegbacnagbcaaGreatDoorRows
import Derived.Test.YtekegbacnagbcaaGreatDoorLdS
import Derived.LaidLaws
import Derived.Lib.LaidU8
import Derived.Shelf.Vars
namespace Go.Proofs.YtekegbacnagbcaaGreatDoor.P
open Go.RowKit
theorem LD_of {l : List (String × DataW Unit)} {W : World} (_ : laidMet Tryz.prog l W) (hS : W.ShapedOpen Tryz.prog)  : LD W :=
  ⟨cell_of_shapedOpen_int (zero := #[.int .i64 0]) hS (of_decide_eq_true (by kernel_rfl)) (by kernel_rfl) rfl (by kernel_rfl) (by kernel_rfl) Tryz.underlying3⟩
end Go.Proofs.YtekegbacnagbcaaGreatDoor.P
