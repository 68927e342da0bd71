-- written by gprint (a program of this session's, round the kit's print), out of the translation and hand-written texts
import Derived.Test.YtekegbacnagbcaaGreatProg
import Derived.Below
import Derived.Deep.Draws
import Derived.Deep.AppendLies
import Derived.Maps.AppendAt
import Derived.OwnWalk
import Derived.Laws.BytesArg
import Derived.Laws.MakeOwn
import Derived.Laws.OwnMore
import Derived.Deep.OwnRows
import Derived.Tactics
import Derived.Lib.ConvBytes
import Derived.Laws.Slices
import Derived.WalkKit
import Derived.KernelRfl
import Derived.RowKit3
import Derived.Deep.LoopGhost
import Derived.Deep.QuietTactic
import Derived.BigQuiet
import Derived.WideLaws
import Derived.Deep.DeepCutAuto
import Derived.Deep.CutBlock
import Derived.Deep.RegionHeld3
import Derived.Laws.Rows
import Derived.Lib.AppendStr
import Derived.ArgAppend
import Derived.Laws.IdiomCopy
import Derived.OrdersHeld
import Derived.Laws.BitsLemmas
import Derived.RowKit
import Derived.Test.YtekegbacnagbcaaGreatShelf
import Derived.Sort.OwnSortedInts
import Derived.Lib.RowBridge
import Derived.Test.YtekegbacnagbcaaGreatTWWords
import Derived.Test.YtekegbacnagbcaaGreatTWLast
import Derived.Test.YtekegbacnagbcaaGreatTWTab
import Derived.Test.YtekegbacnagbcaaGreatTWFour
import Derived.Test.YtekegbacnagbcaaGreatTWQPut
import Derived.Test.YtekegbacnagbcaaGreatTWApart
import Derived.Test.YtekegbacnagbcaaGreatTWArr
import Derived.Test.YtekegbacnagbcaaGreatTWZeros
import Derived.Test.YtekegbacnagbcaaGreatTWFoot
import Derived.Test.YtekegbacnagbcaaGreatTWKept
import Derived.Test.YtekegbacnagbcaaGreatTWShare
import Derived.Test.YtekegbacnagbcaaGreatTWN
import Derived.Test.YtekegbacnagbcaaGreatTWFootNe
import Derived.Test.YtekegbacnagbcaaGreatTWAt
import Derived.Test.YtekegbacnagbcaaGreatTWEqStruct
import Derived.Test.YtekegbacnagbcaaGreatTWRepsOne
import Derived.Test.YtekegbacnagbcaaGreatTWInv
import Derived.Test.YtekegbacnagbcaaGreatTWInvWords
import Derived.Test.YtekegbacnagbcaaGreatTWGuard
import Derived.Test.YtekegbacnagbcaaGreatTWNEv
import Derived.Test.YtekegbacnagbcaaGreatTWMore
namespace Go.Proofs.YtekegbacnagbcaaGreat.P
open Go.RowKit Go.Proofs.YtekegbacnagbcaaGreatW.PrintWords Go.Proofs.YtekegbacnagbcaaGreatW.PrintLast Go.Proofs.YtekegbacnagbcaaGreatW.PrintMore
attribute [local go_sem] max2_int min2_int max_two min_two max_three min_three max_four min_four   -- for this text's walks alone
set_option linter.unusedVariables false
set_option linter.unusedSimpArgs false



def errW : Option Int → Value
 | none => .nilIface
 | some c => .iface 0 (.int .i64 c)
theorem errW_none : errW none = .nilIface := rfl
theorem errW_some (c : Int) : errW (some c) = .iface 0 (.int .i64 c) := rfl

theorem info3 : (Tryz.prog.info? 3).map (fun i => (i.zero, i.size, i.bytes)) = some (some (.int .i64 0), 1, 8) := by kernel_rfl
theorem info5 : (Tryz.prog.info? 5).map (fun i => (i.zero, i.size, i.bytes)) = some (some (.int .u8 0), 1, 1) := by kernel_rfl
theorem info9 : (Tryz.prog.info? 9).map (fun i => (i.zero, i.size, i.bytes)) = some (some (.string ⟨#[]⟩), 1, 16) := by kernel_rfl
-- the values' own types

theorem s_HB {w0 w1 W w2 : World} (_x : Below w0.heap.size w0 w1) (hb : Below W.heap.size W w2) (h : Below w0.heap.size w0 W := by repeat (first | (with_reducible first | exact HB.out | apply below_alloc | apply pw_below_drewN | apply below_drew1 | refine below_set ?_ (IsS68.ge (Aside0.out (by with_reducible assumption))) | refine below_set ?_ (Aside0.out (by with_reducible assumption))) | exact HB.out)) : Aside0 (Below w0.heap.size w0 w2) := ⟨below_step h hb⟩
theorem h_HB {n : Nat} {w0 w1 W : World} (_x : Below n w0 w1) (h : Below n w0 W := by repeat (first | (with_reducible first | exact HB.out | apply below_alloc | apply pw_below_drewN | apply below_drew1 | refine below_set ?_ (IsS68.ge (Aside0.out (by with_reducible assumption))) | refine below_set ?_ (Aside0.out (by with_reducible assumption))) | exact HB.out)) : Below n w0 W := h
theorem h_HK {w0 w1 W : World} {g : Nat} {row : Option Nat} (_x : KeepBut w0 w1 g row) (h : KeepBut w0 W g row := by repeat (first | (with_reducible first | exact HK.out | apply KeepBut.set_ | apply keep_drewN | apply keep_drew | apply keep_alloc | refine keep_far ?_ (Aside0.out (by with_reducible assumption)) _) | exact HK.out)) : KeepBut w0 W g row := h
theorem s_HBW {w0 w1 W w2 : World} (_x : Below w0.heap.size w0 w1) (hb : Below W.heap.size W w2) (h : Below w0.heap.size w0 W := by repeat (first | (with_reducible first | exact HBW.out | apply below_alloc | apply pw_below_drewN | apply below_drew1 | refine below_set ?_ (Aside0.out (by with_reducible assumption))) | exact HBW.out)) : Aside0 (Below w0.heap.size w0 w2) := ⟨below_step h hb⟩
theorem h_HBW {n : Nat} {w0 w1 W : World} (_x : Below n w0 w1) (h : Below n w0 W := by repeat (first | (with_reducible first | exact HBW.out | apply below_alloc | apply pw_below_drewN | apply below_drew1 | refine below_set ?_ (Aside0.out (by with_reducible assumption))) | exact HBW.out)) : Below n w0 W := h
theorem kRT_ {p : Prop} (h : p := by (with_reducible repeat (first | apply Kd.R_alloc | apply Kd.R_drewN | apply Kd.R_drew)); first | exact Aside0.out (by with_reducible assumption) | exact Aside0.out (by assumption)) : p := h
theorem agT_ {p : Prop} (h : p := by (try simp only [List.map_toArray, List.map_cons, List.map_nil]); first | done | rfl | (simp only [List.length_drop, List.length_take]; rfl)) : p := h
theorem sT_ {p : Prop} (h : p := by first | rfl | (simp; done) | (simp [*]; done)) : p := h
theorem dT_ {p : Prop} (h : p := by repeat (first | exact Drawn0.refl _ | apply Drawn0.step)) : p := h
theorem asT_ {p : Prop} (h : p := by first | (with_reducible assumption) | assumption) : p := h
theorem apT_ {p : Prop} (h : p := by simp only [Act.put, List.setIfInBounds_toArray, List.set_cons_zero, List.set_cons_succ, i64_w, i32_w]; rfl) : p := h
theorem ivT_ {p : Prop} (h : p := by intro w'; go_simp; with_reducible rfl) : p := h
theorem eT_ {p : Prop} (h : p := by first | rfl | (simp [errW_none, errW_some] <;> rfl) | (simp [*, errW_none, errW_some] <;> rfl)) : p := h
theorem krT_ {p : Prop} (h : p := by kernel_rfl) : p := h
theorem hrT_ {p : Prop} (h : p := by first | (go_simp; done) | (go_simp; rfl)) : p := h
theorem blkB_ {w0 w w1 : World} {g : Nat} {o : Obj} (_x : w0.heap[g]? = some o) (hb : Below w.heap.size w w1) (h : w.heap[g]? = some o := by (repeat (first | (with_reducible first | refine blk_drewN ?_ _ | refine blk_drew ?_ | refine blk_alloc ?_ _) | refine blk_far ?_ (Aside0.out (by assumption)) _)); first | exact Aside0.out (by with_reducible assumption) | exact Aside0.out (by assumption)) : w1.heap[g]? = some o := blk_below h hb
theorem sBK_ {w0 w w1 : World} {g : Nat} {o : Obj} (_x : w0.heap[g]? = some o) (hb : Below w.heap.size w w1) (h : w.heap[g]? = some o := by (repeat (first | (with_reducible first | refine blk_drewN ?_ _ | refine blk_drew ?_ | refine blk_alloc ?_ _) | refine blk_far ?_ (Aside0.out (by assumption)) _)); first | exact Aside0.out (by with_reducible assumption) | exact Aside0.out (by assumption)) : Aside0 (w1.heap[g]? = some o) := ⟨blk_below h hb⟩
theorem gw_ {w W : World} {g : Nat} (hg : g = W.heap.size) (h : Below w.heap.size w W) : w.heap.size ≤ g := by rw [hg]; exact below_size h
theorem bnd_ {α β : Type} {o : Option α} {f : α → Option β} {r : β} (h : o.bind f = some r) : ∃ a, Aside0 (o = some a) ∧ f a = some r := by
  obtain ⟨a, h1, h2⟩ := Option.bind_eq_some_iff.mp h; exact ⟨a, ⟨h1⟩, h2⟩
theorem gsm_ {α : Type} {p : Prop} [Decidable p] {a : Option α} {r : α} (h : (if p then a else none) = some r) : decide p = true ∧ a = some r := by
  by_cases c : p
  · rw [if_pos c] at h; exact ⟨decide_eq_true c, h⟩
  · rw [if_neg c] at h; cases h
theorem gsb_ {α : Type} {p : Prop} [Decidable p] {a b r : Option α} (h : (if p then a else b) = r) : (decide p = true ∧ a = r) ∨ (decide p = false ∧ b = r) := by
  by_cases c : p
  · rw [if_pos c] at h; exact .inl ⟨decide_eq_true c, h⟩
  · rw [if_neg c] at h; exact .inr ⟨decide_eq_false c, h⟩
theorem bT_ {α : Type} {a b r : α} (h : (if true = true then a else b) = r) : a = r := h
theorem bF_ {α : Type} {a b r : α} (h : (if false = true then a else b) = r) : b = r := h
theorem bc0_ {w : World} {g : Nat} {t : TypeId} {x : Value} {l : List Value} (h : w.heap[g]? = some (.cells (List.toArray (x :: l)) t (0, 0))) : w.cell? ⟨g, 0, none⟩ = some x := (blk_cell h 0).trans rfl
theorem bc1_ {w : World} {g : Nat} {t : TypeId} {y x : Value} {l : List Value} (h : w.heap[g]? = some (.cells (List.toArray (y :: x :: l)) t (0, 0))) : w.cell? ⟨g, 1, none⟩ = some x := (blk_cell h 1).trans rfl
theorem bc2_ {w : World} {g : Nat} {t : TypeId} {y z x : Value} {l : List Value} (h : w.heap[g]? = some (.cells (List.toArray (y :: z :: x :: l)) t (0, 0))) : w.cell? ⟨g, 2, none⟩ = some x := (blk_cell h 2).trans rfl
theorem odT_ {p : Prop} [Decidable p] (h : decide p = true := by first | (with_reducible assumption) | assumption) : p := of_decide_eq_true h
abbrev T_ : Bool := true
abbrev F_ : Bool := false
theorem kRC_ {α : Type} {d : Kd α} {e : Nat} {w0 w : World} {b : Nat} {ok : Nat → Prop} {v : Value} {xs : List α} (_x : Kd.R d e w0 b ok v xs) (h : Kd.R d e w b ok v xs := by (with_reducible repeat (first | apply Kd.R_alloc | apply Kd.R_drewN | apply Kd.R_drew)); first | exact Aside0.out (by with_reducible assumption) | exact Aside0.out (by assumption)) : Kd.R d e w b ok v xs := h
theorem bkC_ {w0 w : World} {g : Nat} {o : Obj} (_x : w0.heap[g]? = some o) (h : w.heap[g]? = some o := by (repeat (first | (with_reducible first | refine blk_drewN ?_ _ | refine blk_drew ?_ | refine blk_alloc ?_ _) | refine blk_far ?_ (Aside0.out (by assumption)) _)); first | exact Aside0.out (by with_reducible assumption) | exact Aside0.out (by assumption)) : w.heap[g]? = some o := h
theorem cC_ {α : Type} {d : Kd α} {w0 w : World} {A : Option Addr} {n : Nat} {xs : List α} (_x : Kd.C d w0 A n xs) (h : Kd.C d w A n xs := by repeat (first | exact (Kd.C_below (Aside0.out (by with_reducible assumption)) HB.out) | (with_reducible refine Kd.C_alloc ?_ _) | (with_reducible refine Kd.C_drewN ?_ _) | (with_reducible refine Kd.C_drew ?_))) : Kd.C d w A n xs := h
theorem nbl_ {W : World} {g g' : Nat} {o : Obj} (hg : g' = W.heap.size) (h : W.heap[g]? = some o) : g ≠ g' := by rw [hg]; exact Nat.ne_of_lt (blk_lt h)
theorem nbg_ {W : World} {g g' : Nat} {o : Obj} (hg : g' = W.heap.size) (h : W.heap[g]? = some o) : g' ≠ g := by rw [hg]; exact Nat.ne_of_gt (blk_lt h)
theorem bx_ {P : Program} {ops : Array Oper} {rest : List Oper} {o : Oper} {a : Act} {Q : Exit → Act → World → Prop} {W : World} {N : Tmp} {cs : Array Value} {t : TypeId}
    (h : ∀ g, g = W.heap.size → ∀ w1, w1.heap[g]? = some (.cells cs t (0, 0)) → Below W.heap.size W w1 → wpList P ops Q rest (a.put o.dst (.pointer (some ⟨g, 0, none⟩))) w1)
    (hgd : o.guard = none := by rfl) (hd : o.dst = some N := by rfl) (hrun : (execOp a.eval o).run P W = .ok (.value (.pointer (some ⟨W.heap.size, 0, none⟩))) (W.alloc (.cells cs t (0, 0))) := by first | (go_simp; done) | (go_simp; rfl)) : wpList P ops Q (o :: rest) a W := box_event hgd hd hrun h
def bm_ (n m : Nat) : Array Bool := ((List.range n).map m.testBit).toArray
theorem pu_ {P : Program} {md : Region.Mode} {ops : Array Oper} {Q : Exit → Act → World → Prop} {S : World → Prop} {ds : List Nat} {T : Bool × List (List Nat × List Nat)} {oi : Oper} {v : Value} {fuel : Nat} {l : Array Bool} {a : Act} {w : World} (i : Nat) (N : Option Tmp) (l' : Array Bool) (hi : ops[i]? = some oi) (hN : oi.dst = N) (hT : rtab md ops = T) {a' : Act} (h : wpAnyLast P md ops Q S ds fuel l' a' w)
    (hc : anyT T l.toList l'.toList i = true := by kernel_rfl) (hQ : ∀ c a w, Q (.panic c) (a.put oi.dst v) w → Q (.panic c) a w := by exact fun _ _ _ h => h) (hy : Yields P ops oi v a := by exact Or.inl ⟨by rfl, by intro w'; go_simp; with_reducible rfl⟩) (ha : a.put N v = a' := by simp only [Act.put, List.setIfInBounds_toArray, List.set_cons_zero, List.set_cons_succ, i64_w, i32_w]; rfl) : wpAnyLast P md ops Q S ds (fuel + 1) l a w := pure_ l' hi hN (any_of hT hc) hQ hy ha h
theorem aiI_ {w : World} {A : Option Addr} {n : Nat} {k : IntKind} {xs : List Int} (h : Kd.C (Kd.int k) w A n xs) (i : Int) (h0 : decide (0 ≤ i) = true := by first | (with_reducible assumption) | assumption) (h1 : decide (i < (n : Int)) = true := by first | (with_reducible assumption) | assumption) : ∃ ad, A = some ad ∧ w.cell? (ad.add i.toNat) = some (.int k (rd xs i)) ∧ (0 ≤ i) = True ∧ (i < (n : Int)) = True := by
  have p := of_decide_eq_true h0; have q := of_decide_eq_true h1; obtain ⟨ad, e, hx⟩ := Kd.at_int h i p q; exact ⟨ad, e, hx, eq_true p, eq_true q⟩
theorem aiS_ {w : World} {A : Option Addr} {n : Nat} {xs : List ByteArray} (h : Kd.C Kd.string w A n xs) (i : Int) (h0 : decide (0 ≤ i) = true := by first | (with_reducible assumption) | assumption) (h1 : decide (i < (n : Int)) = true := by first | (with_reducible assumption) | assumption) : ∃ ad, A = some ad ∧ w.cell? (ad.add i.toNat) = some (.string (rdOf ByteArray.empty xs i)) ∧ (0 ≤ i) = True ∧ (i < (n : Int)) = True := by
  have p := of_decide_eq_true h0; have q := of_decide_eq_true h1; obtain ⟨ad, e, hx⟩ := Kd.at_string h i p q; exact ⟨ad, e, hx, eq_true p, eq_true q⟩
theorem bz1_ {w : World} {g : Nat} {t : TypeId} {x : Value} {l : List Value} (h : w.heap[g]? = some (.cells (List.toArray (x :: l)) t (0, 0))) : w.cell? ⟨g, 0, none⟩ = some x ∧ w.frozen? ⟨g, 0, none⟩ = false := ⟨bc0_ h, blk_frozen h 0⟩
theorem bz2_ {w : World} {g : Nat} {t : TypeId} {x y : Value} {l : List Value} (h : w.heap[g]? = some (.cells (List.toArray (x :: y :: l)) t (0, 0))) : w.cell? ⟨g, 0, none⟩ = some x ∧ w.cell? ⟨g, 1, none⟩ = some y ∧ w.frozen? ⟨g, 0, none⟩ = false ∧ w.frozen? ⟨g, 1, none⟩ = false := ⟨bc0_ h, bc1_ h, blk_frozen h 0, blk_frozen h 1⟩
theorem bz3_ {w : World} {g : Nat} {t : TypeId} {x y z : Value} {l : List Value} (h : w.heap[g]? = some (.cells (List.toArray (x :: y :: z :: l)) t (0, 0))) : w.cell? ⟨g, 0, none⟩ = some x ∧ w.cell? ⟨g, 1, none⟩ = some y ∧ w.cell? ⟨g, 2, none⟩ = some z ∧ w.frozen? ⟨g, 0, none⟩ = false ∧ w.frozen? ⟨g, 1, none⟩ = false ∧ w.frozen? ⟨g, 2, none⟩ = false := ⟨bc0_ h, bc1_ h, bc2_ h, blk_frozen h 0, blk_frozen h 1, blk_frozen h 2⟩
theorem gsn_ {α : Type} {p : Prop} [Decidable p] {a b r : Option α} (h : (if p then a else b) = r) : (decide p = false ∧ b = r) ∨ (decide p = true ∧ a = r) := (gsb_ h).symm
theorem rRf1_ {α : Type} {d : Kd α} {e : Nat} {w : World} {b : Nat} {ok : Nat → Prop} {v : Value} {xs : List α} {g : Nat} {t : TypeId} {cs : Array Value} {x : Value} (h : Kd.R d e w b ok v xs) (hb : w.heap[g]? = some (.cells cs t (0, 0))) (ht : ∀ q, q ∈ e :: d.E → q ≠ t := by decide) : Kd.R d e (w.setCell ⟨g, 0, none⟩ x) b ok v xs := Kd.R_mono (Kd.R_far (p := ⟨g, 0, none⟩) (Kd.R_types h hb ht) (fun _ hk => hk.2) x) (fun _ h_ => h_.1)
theorem rRf2_ {α : Type} {d : Kd α} {e : Nat} {w : World} {b : Nat} {ok : Nat → Prop} {v : Value} {xs : List α} {g : Nat} {t : TypeId} {cs : Array Value} {x y : Value} (h : Kd.R d e w b ok v xs) (hb : w.heap[g]? = some (.cells cs t (0, 0))) (ht : ∀ q, q ∈ e :: d.E → q ≠ t := by decide) : Kd.R d e ((w.setCell ⟨g, 0, none⟩ x).setCell ⟨g, 1, none⟩ y) b ok v xs := Kd.R_mono (Kd.R_far (p := ⟨g, 1, none⟩) (Kd.R_far (p := ⟨g, 0, none⟩) (Kd.R_types h hb ht) (fun _ hk => hk.2) x) (fun _ hk => hk.2) y) (fun _ h_ => h_.1)
theorem rRf3_ {α : Type} {d : Kd α} {e : Nat} {w : World} {b : Nat} {ok : Nat → Prop} {v : Value} {xs : List α} {g : Nat} {t : TypeId} {cs : Array Value} {x y z : Value} (h : Kd.R d e w b ok v xs) (hb : w.heap[g]? = some (.cells cs t (0, 0))) (ht : ∀ q, q ∈ e :: d.E → q ≠ t := by decide) : Kd.R d e (((w.setCell ⟨g, 0, none⟩ x).setCell ⟨g, 1, none⟩ y).setCell ⟨g, 2, none⟩ z) b ok v xs := Kd.R_mono (Kd.R_far (p := ⟨g, 2, none⟩) (Kd.R_far (p := ⟨g, 1, none⟩) (Kd.R_far (p := ⟨g, 0, none⟩) (Kd.R_types h hb ht) (fun _ hk => hk.2) x) (fun _ hk => hk.2) y) (fun _ hk => hk.2) z) (fun _ h_ => h_.1)
theorem kRF_ {α : Type} {d : Kd α} {e : Nat} {w0 w : World} {b : Nat} {ok : Nat → Prop} {v : Value} {xs : List α} (_x : Kd.R d e w0 b ok v xs) (h : Kd.R d e w b ok v xs := by (with_reducible repeat (first | apply Kd.R_alloc | apply Kd.R_drewN | apply Kd.R_drew)); first | exact rRf1_ (Aside0.out (by assumption)) (Aside0.out (by assumption)) | exact rRf2_ (Aside0.out (by assumption)) (Aside0.out (by assumption)) | exact rRf3_ (Aside0.out (by assumption)) (Aside0.out (by assumption))) : Kd.R d e w b ok v xs := h
theorem rQf1_ {α : Type} {d : Kd α} {e : Nat} {w : World} {b : Nat} {ok : Nat → Prop} {v : Value} {xs : List α} {g : Nat} {t : TypeId} {cs : Array Value} {x : Value} (h : Kd.Q d e w b ok v xs) (hb : w.heap[g]? = some (.cells cs t (0, 0))) (ht : ∀ q, q ∈ e :: d.E → q ≠ t := by decide) : Kd.Q d e (w.setCell ⟨g, 0, none⟩ x) b ok v xs := Kd.Q_mono (Kd.Q_far (p := ⟨g, 0, none⟩) (Kd.Q_types h hb ht) (fun _ hk => hk.2) x) (fun _ h_ => h_.1)
theorem rQf2_ {α : Type} {d : Kd α} {e : Nat} {w : World} {b : Nat} {ok : Nat → Prop} {v : Value} {xs : List α} {g : Nat} {t : TypeId} {cs : Array Value} {x y : Value} (h : Kd.Q d e w b ok v xs) (hb : w.heap[g]? = some (.cells cs t (0, 0))) (ht : ∀ q, q ∈ e :: d.E → q ≠ t := by decide) : Kd.Q d e ((w.setCell ⟨g, 0, none⟩ x).setCell ⟨g, 1, none⟩ y) b ok v xs := Kd.Q_mono (Kd.Q_far (p := ⟨g, 1, none⟩) (Kd.Q_far (p := ⟨g, 0, none⟩) (Kd.Q_types h hb ht) (fun _ hk => hk.2) x) (fun _ hk => hk.2) y) (fun _ h_ => h_.1)
theorem rQf3_ {α : Type} {d : Kd α} {e : Nat} {w : World} {b : Nat} {ok : Nat → Prop} {v : Value} {xs : List α} {g : Nat} {t : TypeId} {cs : Array Value} {x y z : Value} (h : Kd.Q d e w b ok v xs) (hb : w.heap[g]? = some (.cells cs t (0, 0))) (ht : ∀ q, q ∈ e :: d.E → q ≠ t := by decide) : Kd.Q d e (((w.setCell ⟨g, 0, none⟩ x).setCell ⟨g, 1, none⟩ y).setCell ⟨g, 2, none⟩ z) b ok v xs := Kd.Q_mono (Kd.Q_far (p := ⟨g, 2, none⟩) (Kd.Q_far (p := ⟨g, 1, none⟩) (Kd.Q_far (p := ⟨g, 0, none⟩) (Kd.Q_types h hb ht) (fun _ hk => hk.2) x) (fun _ hk => hk.2) y) (fun _ hk => hk.2) z) (fun _ h_ => h_.1)
theorem kQF_ {α : Type} {d : Kd α} {e : Nat} {w0 w : World} {b : Nat} {ok : Nat → Prop} {v : Value} {xs : List α} (_x : Kd.Q d e w0 b ok v xs) (h : Kd.Q d e w b ok v xs := by (with_reducible repeat (first | apply Kd.Q_alloc | apply Kd.Q_drewN | apply Kd.Q_drew)); first | exact rQf1_ (Aside0.out (by assumption)) (Aside0.out (by assumption)) | exact rQf2_ (Aside0.out (by assumption)) (Aside0.out (by assumption)) | exact rQf3_ (Aside0.out (by assumption)) (Aside0.out (by assumption))) : Kd.Q d e w b ok v xs := h
theorem kQC_ {α : Type} {d : Kd α} {e : Nat} {w0 w : World} {b : Nat} {ok : Nat → Prop} {v : Value} {xs : List α} (_x : Kd.Q d e w0 b ok v xs) (h : Kd.Q d e w b ok v xs := by (with_reducible repeat (first | apply Kd.Q_alloc | apply Kd.Q_drewN | apply Kd.Q_drew)); first | exact Aside0.out (by with_reducible assumption) | exact Aside0.out (by assumption)) : Kd.Q d e w b ok v xs := h
theorem bp2_ {w : World} {g : Nat} {t : TypeId} {a b x y : Value} (h : w.heap[g]? = some (.cells #[a, b] t (0, 0))) : ((w.setCell ⟨g, 0, none⟩ x).setCell ⟨g, 1, none⟩ y).heap[g]? = some (.cells #[x, y] t (0, 0)) := blk_put (cs := #[x, b]) (blk_put (cs := #[a, b]) h 0 _ rfl) 1 _ rfl
theorem bp3_ {w : World} {g : Nat} {t : TypeId} {a b c x y z : Value} (h : w.heap[g]? = some (.cells #[a, b, c] t (0, 0))) : (((w.setCell ⟨g, 0, none⟩ x).setCell ⟨g, 1, none⟩ y).setCell ⟨g, 2, none⟩ z).heap[g]? = some (.cells #[x, y, z] t (0, 0)) := blk_put (cs := #[x, y, c]) (blk_put (cs := #[x, b, c]) (blk_put (cs := #[a, b, c]) h 0 _ rfl) 1 _ rfl) 2 _ rfl
theorem gsp_ {α : Type} {p : Prop} [Decidable p] {a : Option α} {r : α} (h : (if p then a else none) = some r) : p ∧ a = some r := by
  by_cases c : p
  · rw [if_pos c] at h; exact ⟨c, h⟩
  · rw [if_neg c] at h; cases h
theorem gsl_ {α : Type} {p : Prop} [Decidable p] {a : Option α} {r : α} (h : (if p then a else none) = some r) : Aside0 p ∧ a = some r := ⟨⟨(gsp_ h).1⟩, (gsp_ h).2⟩
theorem gsz_ {α : Type} {p : Prop} [Decidable p] {b : Option α} {r : α} (h : (if p then none else b) = some r) : ¬ p ∧ b = some r := by
  by_cases c : p
  · rw [if_pos c] at h; cases h
  · rw [if_neg c] at h; exact ⟨c, h⟩
theorem gsF_ {α : Type} {t : Bool} {b : Option α} {r : α} (h : (if t = true then none else b) = some r) : t = false ∧ b = some r := ⟨Bool.eq_false_iff.mpr (gsz_ h).1, (gsz_ h).2⟩
theorem gsq_ {α : Type} {p : Prop} [Decidable p] {a b r : Option α} (h : (if p then a else b) = r) : (p ∧ a = r) ∨ (¬ p ∧ b = r) := by
  by_cases c : p
  · rw [if_pos c] at h; exact .inl ⟨c, h⟩
  · rw [if_neg c] at h; exact .inr ⟨c, h⟩
theorem gst_ {α : Type} {t : Bool} {a b r : Option α} (h : (if t = true then a else b) = r) : (t = true ∧ a = r) ∨ (t = false ∧ b = r) := (gsq_ h).imp id fun z => ⟨Bool.eq_false_iff.mpr z.1, z.2⟩
theorem gse_ {α β : Type} [BEq α] [LawfulBEq α] {x y : α} [Decidable (x = y)] {a b r : Option β} (h : (if x = y then a else b) = r) : ((x == y) = true ∧ (x != y) = false ∧ a = r) ∨ ((x == y) = false ∧ (x != y) = true ∧ ¬ x = y ∧ b = r) :=
  (gsq_ h).imp (fun z => ⟨beq_iff_eq.mpr z.1, bne_eq_false_iff_eq.mpr z.1, z.2⟩) fun z => ⟨beq_eq_false_iff_ne.mpr z.1, bne_iff_ne.mpr z.1, z.1, z.2⟩
theorem sy_ {α β : Type} {x : α} {f : α → Option β} {r : Option β} (h : (some x).bind f = r) : ∃ y, Aside0 (y = x) ∧ f y = r := ⟨x, ⟨rfl⟩, h⟩
end Go.Proofs.YtekegbacnagbcaaGreat.P
