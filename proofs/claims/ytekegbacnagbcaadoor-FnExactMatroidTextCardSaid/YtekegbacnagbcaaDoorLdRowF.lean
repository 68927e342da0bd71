/- A row's list of variables, and the world's shape, give the premise. -/
import Derived.Test.YtekegbacnagbcaaDoorRows
import Derived.Test.YtekegbacnagbcaaDoorLdF
import Derived.LaidLaws
import Derived.Lib.LaidU8
import Derived.Shelf.Vars
namespace Go.Proofs.YtekegbacnagbcaaDoor.P
open Go.RowKit
theorem tab_of {l : List (String × DataW Unit)} {W : World} {n : String} {x : DataW Unit} {k : IntKind} {zs : List Int} {g : Nat} {t e : TypeId} {m : Nat} (h : laidMet Tryd.prog l W) (hp : (n, x) ∈ l) (hx : x = Lib.tabData k zs) (hg : Tryd.prog.globalNamed n = some g) (hty : (Tryd.prog.globals[g]?).map (·.type) = some t)
    (ht : Tryd.prog.underlying t = some (.array m e)) (he : Tryd.prog.underlying e = some (.int k)) (hce : Tryd.prog.cellsOf e = 1) (hct : Tryd.prog.cellsOf t = m) : Lib.TabIs Tryd.prog W n k zs := by
  obtain ⟨g', t', cs, fuel, p, hg', ht', hv, hd⟩ := Lib.laidMet.reads h hp
  obtain rfl := Option.some.inj (hg.symm.trans hg')
  obtain rfl := Option.some.inj (hty.symm.trans ht')
  subst hx
  unfold Lib.TabIs
  rw [hv, ← Lib.cells_of_tab ht he hce hct hd]
theorem LD_of {l : List (String × DataW Unit)} {W : World} (h : laidMet Tryd.prog l W) (_ : W.ShapedOpen Tryd.prog) (hp : ("internal/strconv.uint64pow10", Rows.laid_internal_strconv_uint64pow10) ∈ l) : LD W :=
  ⟨tab_of (g := 0) (t := 74) (e := 66) h hp (by kernel_rfl) (by kernel_rfl) (by kernel_rfl) Tryd.underlying74 Tryd.underlying66 (by kernel_rfl) (by kernel_rfl)⟩
end Go.Proofs.YtekegbacnagbcaaDoor.P
