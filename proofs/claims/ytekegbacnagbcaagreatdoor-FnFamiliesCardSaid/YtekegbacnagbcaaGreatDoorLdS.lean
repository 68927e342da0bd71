/- What the library's package-level variables hold: the premise that is handed on from call to call. -/
import Derived.Test.YtekegbacnagbcaaGreatDoorShelf
import Derived.Below
import Derived.Lib.LaidTab
namespace Go.Proofs.YtekegbacnagbcaaGreatDoor.P
open Go.RowKit
structure LD (w : World) : Prop where
  maxLen : ∃ m, w.cell? ⟨0, 0, none⟩ = some (.int .i64 m)
theorem cell_keep {w W : World} {a : Addr} {v : Value} (b : Below w.heap.size w W) (h : w.cell? a = some v) : W.cell? a = some v := by rw [b.cell (World.block_lt_of_cell? w _ h)]; exact h
theorem LD_below {w W : World} (h : LD w) (b : Below w.heap.size w W) : LD W := ⟨(let ⟨m, h1⟩ := h.maxLen; ⟨m, cell_keep b h1⟩)⟩
end Go.Proofs.YtekegbacnagbcaaGreatDoor.P
