/- A row's list of variables, and the world's shape, give the premise. -/
import Derived.Test.YtekegbacnagbcaaGreatDoorRows
import Derived.Test.YtekegbacnagbcaaGreatDoorLdA
import Derived.LaidLaws
import Derived.Lib.LaidU8
import Derived.Shelf.Vars
namespace Go.Proofs.YtekegbacnagbcaaGreatDoor.P
open Go.RowKit
theorem tab_of {l : List (String × DataW Unit)} {W : World} {n : String} {x : DataW Unit} {k : IntKind} {zs : List Int} {g : Nat} {t e : TypeId} {m : Nat} (h : laidMet Tryz.prog l W) (hp : (n, x) ∈ l) (hx : x = Lib.tabData k zs) (hg : Tryz.prog.globalNamed n = some g) (hty : (Tryz.prog.globals[g]?).map (·.type) = some t)
    (ht : Tryz.prog.underlying t = some (.array m e)) (he : Tryz.prog.underlying e = some (.int k)) (hce : Tryz.prog.cellsOf e = 1) (hct : Tryz.prog.cellsOf t = m) : Lib.TabIs Tryz.prog W n k zs := by
  obtain ⟨g', t', cs, fuel, p, hg', ht', hv, hd⟩ := Lib.laidMet.reads h hp
  obtain rfl := Option.some.inj (hg.symm.trans hg')
  obtain rfl := Option.some.inj (hty.symm.trans ht')
  subst hx
  unfold Lib.TabIs
  rw [hv, ← Lib.cells_of_tab ht he hce hct hd]
theorem iface_cell {P : Program} {w : World} {g : Nat} {ti : TypeId} {n : String} {d : DataW Unit} {ms : Array (String × TypeId)} (h : Lib.VarReads P w n d) (hg : P.globalNamed n = some g) (ht : (P.globals[g]?).map (·.type) = some ti) (hi : P.underlying ti = some (.interface ms)) :
    ∃ ev, w.cell? ⟨g, 0, none⟩ = some ev ∧ (ev = .nilIface ∨ ∃ te pe, ev = .iface te pe) := by
  obtain ⟨g', t', cs, fuel, p, hg', ht', hv, hd⟩ := h
  obtain rfl := Option.some.inj (hg.symm.trans hg')
  obtain rfl := Option.some.inj (ht.symm.trans ht')
  have hc := World.var?_cell hg hv 0
  cases fuel with
  | zero => simp [DataW.trod] at hd
  | succ fuel =>
    obtain ⟨cs⟩ := cs
    simp only [DataW.trod, hi] at hd
    split at hd
    all_goals first
      | (rename_i e1 e2; cases e1; done)
      | (rename_i e1; cases e1; done)
      | skip
    all_goals simp_all
theorem LD_of {l : List (String × DataW Unit)} {W : World} (h : laidMet Tryz.prog l W) (hS : W.ShapedOpen Tryz.prog) (hp : ("internal/strconv.uint64pow10", Rows.laid_internal_strconv_uint64pow10) ∈ l) (herrS : ("strconv.ErrSyntax", Rows.laid_strconv_ErrSyntax) ∈ l) (herrR : ("strconv.ErrRange", Rows.laid_strconv_ErrRange) ∈ l) : LD W :=
  ⟨tab_of (g := 3) (t := 160) (e := 115) h hp (by kernel_rfl) (by kernel_rfl) (by kernel_rfl) Tryz.underlying160 Tryz.underlying115 (by kernel_rfl) (by kernel_rfl),
   iface_cell (Lib.laidMet.reads h herrS) (by kernel_rfl) (by kernel_rfl) Tryz.underlying102,
   iface_cell (Lib.laidMet.reads h herrR) (by kernel_rfl) (by kernel_rfl) Tryz.underlying102,
   cell_of_shapedOpen_int (zero := #[.int .i64 0]) hS (of_decide_eq_true (by kernel_rfl)) (by kernel_rfl) rfl (by kernel_rfl) (by kernel_rfl) Tryz.underlying3⟩
end Go.Proofs.YtekegbacnagbcaaGreatDoor.P
