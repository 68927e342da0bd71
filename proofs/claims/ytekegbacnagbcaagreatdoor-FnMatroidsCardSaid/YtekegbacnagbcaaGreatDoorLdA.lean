/- What the library's package-level variables hold: the premise that is handed on from call to call. -/
import Derived.Test.YtekegbacnagbcaaGreatDoorShelf
import Derived.Below
import Derived.Lib.LaidTab
namespace Go.Proofs.YtekegbacnagbcaaGreatDoor.P
open Go.RowKit
structure LD (w : World) : Prop where
  pow : Lib.TabIs Tryz.prog w "internal/strconv.uint64pow10" .u64 Lib.pow10Tab
  errS : ∃ ev, w.cell? ⟨1, 0, none⟩ = some ev ∧ (ev = .nilIface ∨ ∃ te pe, ev = .iface te pe)
  errR : ∃ ev, w.cell? ⟨2, 0, none⟩ = some ev ∧ (ev = .nilIface ∨ ∃ te pe, ev = .iface te pe)
  maxLen : ∃ m, w.cell? ⟨0, 0, none⟩ = some (.int .i64 m)
theorem cell_keep {w W : World} {a : Addr} {v : Value} (b : Below w.heap.size w W) (h : w.cell? a = some v) : W.cell? a = some v := by rw [b.cell (World.block_lt_of_cell? w _ h)]; exact h
theorem tab_keep {n : String} {g : Nat} {k : IntKind} {zs : List Int} {w W : World} (hg : Tryz.prog.globalNamed n = some g) (h : Lib.TabIs Tryz.prog w n k zs) (hb : Below w.heap.size w W) : Lib.TabIs Tryz.prog W n k zs := by
  unfold Lib.TabIs World.var? at h ⊢
  rw [hg] at h ⊢
  simp only [Option.bind_some] at h ⊢
  have hlt : g < w.heap.size := by
    rcases Nat.lt_or_ge g w.heap.size with q | q
    · exact q
    · rw [Array.getElem?_eq_none q] at h; cases h
  rw [hb.block g hlt]; exact h
theorem LD_below {w W : World} (h : LD w) (b : Below w.heap.size w W) : LD W := ⟨tab_keep (g := 3) (by kernel_rfl) h.pow b, (let ⟨ev, h1, h2⟩ := h.errS; ⟨ev, cell_keep b h1, h2⟩), (let ⟨ev, h1, h2⟩ := h.errR; ⟨ev, cell_keep b h1, h2⟩), (let ⟨m, h1⟩ := h.maxLen; ⟨m, cell_keep b h1⟩)⟩
end Go.Proofs.YtekegbacnagbcaaGreatDoor.P
