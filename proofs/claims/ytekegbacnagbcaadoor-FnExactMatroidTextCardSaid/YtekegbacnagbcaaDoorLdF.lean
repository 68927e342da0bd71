/- What the library's package-level variables hold: the premise that is handed on from call to call. -/
import Derived.Test.YtekegbacnagbcaaDoorShelf
import Derived.Below
import Derived.Lib.LaidTab
namespace Go.Proofs.YtekegbacnagbcaaDoor.P
open Go.RowKit
structure LD (w : World) : Prop where
  pow : Lib.TabIs Tryd.prog w "internal/strconv.uint64pow10" .u64 Lib.pow10Tab
theorem cell_keep {w W : World} {a : Addr} {v : Value} (b : Below w.heap.size w W) (h : w.cell? a = some v) : W.cell? a = some v := by rw [b.cell (World.block_lt_of_cell? w _ h)]; exact h
theorem tab_keep {n : String} {g : Nat} {k : IntKind} {zs : List Int} {w W : World} (hg : Tryd.prog.globalNamed n = some g) (h : Lib.TabIs Tryd.prog w n k zs) (hb : Below w.heap.size w W) : Lib.TabIs Tryd.prog W n k zs := by
  unfold Lib.TabIs World.var? at h ⊢
  rw [hg] at h ⊢
  simp only [Option.bind_some] at h ⊢
  have hlt : g < w.heap.size := by
    rcases Nat.lt_or_ge g w.heap.size with q | q
    · exact q
    · rw [Array.getElem?_eq_none q] at h; cases h
  rw [hb.block g hlt]; exact h
theorem LD_below {w W : World} (h : LD w) (b : Below w.heap.size w W) : LD W := ⟨tab_keep (g := 0) (by kernel_rfl) h.pow b⟩
end Go.Proofs.YtekegbacnagbcaaDoor.P
