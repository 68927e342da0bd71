-- written by gprint (a program of this session's, round the kit's print), out of the translation and hand-written texts
import Derived.Test.YtekegbacnagbcaaGreatDoorPVFnMatroidsx0
import Derived.Test.YtekegbacnagbcaaGreatDoorPVFnMatroidsx7
import Derived.Test.YtekegbacnagbcaaGreatDoorPVFnMatroidsx8
namespace Go.Proofs.YtekegbacnagbcaaGreatDoor.P
open Go.RowKit Go.Proofs.YtekegbacnagbcaaGreatDoorW.PrintWords Go.Proofs.YtekegbacnagbcaaGreatDoorW.PrintLast Go.Proofs.YtekegbacnagbcaaGreatDoorW.PrintMore
attribute [local go_sem] max2_int min2_int max_two min_two max_three min_three max_four min_four   -- for this text's walks alone
set_option linter.unusedVariables false
set_option linter.unusedSimpArgs false
/-! ### slices_Contains_int_int: function 88 -/
def slices_Contains_int_int.f (k:Nat) (l0:List Int) (a1:Int):Option (Bool):=(slices_Index_int_int.f k l0 a1).bind fun t293=>(some (decide (t293≥0)))
set_option maxHeartbeats 8000000 in
set_option maxRecDepth 100000 in
theorem slices_Contains_int_int.calls (k:Nat) (A0:Option Addr) (c0:Nat) (l0:List Int) (a1:Int) (r:Bool) (w:World) (hr0:Kd.C (Kd.int .i64) w A0 l0.length l0) (hc0:l0.length≤c0) (h:slices_Contains_int_int.f k l0 a1=some r) :
    Calls Tryz.prog 88 #[.slice A0 l0.length c0,.int .i64 a1] w fun e w'=>e=.returned (.bool r)∧Drawn0 w w':=by
 have HR0:=Aside0.mk hr0
 have HC0:=Aside0.mk hc0
 clear hr0 hc0
 have H:((slices_Index_int_int.f k l0 a1).bind fun t293=>(some (decide (t293≥0))))=some r:=h
 clear h
 replace H:=bnd_ H;obtain ⟨t293,A3,H⟩:=H
 obtain rfl:=Option.some.inj H
 go_enter Tryz.func88,Tryz.ntmps88
 go_wp2_with (first|((with_reducible refine gate_callee (f:=119) rfl ?_);refine goesL_ (some 7) rfl rfl Tryz.func119 krT_ rfl #[.slice A0 l0.length c0,.int .i64 a1] rfl agT_ ?_;(with_reducible refine (slices_Index_int_int.calls k _ _ l0 a1 t293 _ ?side1 ?side2 A3.out).mono ?_);(case side1=>repeat (first|exact HR0.out|(with_reducible refine Kd.C_alloc ?_ _)|(with_reducible refine Kd.C_drewN ?_ _)|(with_reducible refine Kd.C_drew ?_)));(case side2=>exact HC0.out);rintro e w' ⟨rfl,⟨nd,rfl⟩⟩;refine ⟨_,rfl,?_⟩))
 go_ret
 exact ⟨sT_,dT_⟩
/-! ### impl_HasSet: function 31 -/
def impl_HasSet.f (k:Nat) (l0:List Int) (a1:Int):Option (Bool):=(slices_Contains_int_int.f k l0 a1).bind fun t294=>(some t294)
set_option maxHeartbeats 8000000 in
set_option maxRecDepth 100000 in
theorem impl_HasSet.calls (k:Nat) (A0:Option Addr) (c0:Nat) (l0:List Int) (a1:Int) (r:Bool) (w:World) (hr0:Kd.C (Kd.int .i64) w A0 l0.length l0) (hc0:l0.length≤c0) (h:impl_HasSet.f k l0 a1=some r) :
    Calls Tryz.prog 31 #[.slice A0 l0.length c0,.int .i64 a1] w fun e w'=>e=.returned (.bool r)∧Drawn0 w w':=by
 have HR0:=Aside0.mk hr0
 have HC0:=Aside0.mk hc0
 clear hr0 hc0
 have H:((slices_Contains_int_int.f k l0 a1).bind fun t294=>(some t294))=some r:=h
 clear h
 replace H:=bnd_ H;obtain ⟨t294,A3,H⟩:=H
 obtain rfl:=Option.some.inj H
 go_enter Tryz.func31,Tryz.ntmps31
 go_wp2_with (first|((with_reducible refine gate_callee (f:=88) rfl ?_);refine goesL_ (some 7) rfl rfl Tryz.func88 krT_ rfl #[.slice A0 l0.length c0,.int .i64 a1] rfl agT_ ?_;(with_reducible refine (slices_Contains_int_int.calls k _ _ l0 a1 t294 _ ?side1 ?side2 A3.out).mono ?_);(case side1=>repeat (first|exact HR0.out|(with_reducible refine Kd.C_alloc ?_ _)|(with_reducible refine Kd.C_drewN ?_ _)|(with_reducible refine Kd.C_drew ?_)));(case side2=>exact HC0.out);rintro e w' ⟨rfl,⟨nd,rfl⟩⟩;refine ⟨_,rfl,?_⟩))
 go_ret
 exact ⟨sT_,dT_⟩
/-! ### impl_FirstFailure_1: function 99 -/
-- needs impl.HasSet
-- needs slices.ContainsFunc[[]int,int]
def impl_FirstFailure_1.f (k:Nat) (m0:Int) (m1:List Int) (a e x:Int):Option Bool :=
 if 0≤e then (if 0≤x then (impl_HasSet.f k m1 (Go.bits .or .i64 (Go.bits .andNot .i64 a (shl .i64 1 e)) (shl .i64 1 x))) else none) else none
set_option maxHeartbeats 4000000 in
set_option maxRecDepth 100000 in
theorem impl_FirstFailure_1.quiet (k:Nat) (m0:Int) (A1:Option Addr) (c1:Nat) (m1:List Int) (a e:Int) (w:World) (hr1:Kd.C (Kd.int .i64) w A1 m1.length m1) (hc1:m1.length≤c1) (g1 g2 g3:Nat)
  (b1:w.heap[g1]?=some (.cells #[.int .i64 m0,.slice A1 m1.length c1] 24 (0,0))) (b2:w.heap[g2]?=some (.cells #[.int .i64 a] 3 (0,0))) (b3:w.heap[g3]?=some (.cells #[.int .i64 e] 3 (0,0))) :
  Quiet1 99 #[.pointer (some ⟨g1,0,none⟩),.pointer (some ⟨g2,0,none⟩),.pointer (some ⟨g3,0,none⟩)] w (impl_FirstFailure_1.f k m0 m1 a e):=by
 intro x b n h
 unfold impl_FirstFailure_1.f at h
 by_cases he:0≤e
 ·rw [if_pos he] at h
  by_cases hx:0≤x
  ·rw [if_pos hx] at h
   have q1:(w.drewN n).cell? ⟨g1,1,none⟩=some (.slice A1 m1.length c1):=(blk_cell b1 1).trans rfl
   have q2:(w.drewN n).cell? ⟨g2,0,none⟩=some (.int .i64 a):=(blk_cell b2 0).trans rfl
   have q3:(w.drewN n).cell? ⟨g3,0,none⟩=some (.int .i64 e):=(blk_cell b3 0).trans rfl
   clear b1 b2 b3
   have he':=eq_true he
   have hx':=eq_true hx
   have HS:=Aside0.mk (fun n'=>impl_HasSet.calls k A1 c1 m1 _ b ((w.drewN n).drewN n') (Kd.C_drewN (Kd.C_drewN hr1 n) n') hc1 h)
   clear h hr1 hc1
   show Calls Tryz.prog 99 #[.int .i64 x,.pointer (some ⟨g1,0,none⟩),.pointer (some ⟨g2,0,none⟩),.pointer (some ⟨g3,0,none⟩)] (w.drewN n) _
   generalize w.drewN n=W at q1 q2 q3 HS ⊢
   generalize hj1:shl .i64 1 e=j1 at HS
   generalize hj2:shl .i64 1 x=j2 at HS
   have hj1u:(IntKind.i64.wrap (2 ^ min e.toNat 64))=j1:=by have h_:=hj1;unfold shl at h_;rw [Int.one_mul] at h_;exact h_
   have hj2u:(IntKind.i64.wrap (2 ^ min x.toNat 64))=j2:=by have h_:=hj2;unfold shl at h_;rw [Int.one_mul] at h_;exact h_
   go_enter Tryz.func99,Tryz.ntmps99
   go_wp2
   go_quiet ((go_at_call 31;exact drawn_quiet (HS.out _)))
   go_wp2
   go_ret
   exact ⟨by first|rfl|(simp;done),dT_⟩
  ·rw [if_neg hx] at h;exact absurd h (by simp)
 ·rw [if_neg he] at h;exact absurd h (by simp)
def on_impl_FirstFailure_1.f (k:Nat) (l0:List Int) (m0:Int) (m1:List Int) (a e:Int):Option Bool:=anyL (impl_FirstFailure_1.f k m0 m1 a e) l0 k 0
theorem on_impl_FirstFailure_1.calls (k:Nat) (A0:Option Addr) (c0:Nat) (l0:List Int) (m0:Int) (A1:Option Addr) (c1:Nat) (m1:List Int) (a e:Int) (r:Bool) (w:World) (hr0:Kd.C (Kd.int .i64) w A0 l0.length l0) (hc0:l0.length≤c0)
  (hr1:Kd.C (Kd.int .i64) w A1 m1.length m1) (hc1:m1.length≤c1) (h:on_impl_FirstFailure_1.f k l0 m0 m1 a e=some r) (g1 g2 g3:Nat)
  (b1:w.heap[g1]?=some (.cells #[.int .i64 m0,.slice A1 m1.length c1] 24 (0,0))) (b2:w.heap[g2]?=some (.cells #[.int .i64 a] 3 (0,0))) (b3:w.heap[g3]?=some (.cells #[.int .i64 e] 3 (0,0))) :
    Calls Tryz.prog 67 #[.slice A0 l0.length c0,.func (.func 99) #[] #[.pointer (some ⟨g1,0,none⟩),.pointer (some ⟨g2,0,none⟩),.pointer (some ⟨g3,0,none⟩)]] w fun e w'=>e=.returned (.bool r)∧Drawn0 w w' :=
 containsFunc_calls _ _ (g_enters Tryz.func99 krT_ rfl) _ k A0 c0 l0 r w hr0 (impl_FirstFailure_1.quiet k m0 A1 c1 m1 a e w hr1 hc1 g1 g2 g3 b1 b2 b3) h
/-! ### impl_FirstFailure: function 39 -/
mutual
def impl_FirstFailure.l0:Nat→List Int→Int→Int→Int→List Int→Option (Int × Int × Int × Bool)
 | 0,_,_,_,_,_=>none
 | k+1,x19,x20,x21,x296000,x296001=>if x21<x20 then (if 0≤x21 then (if x21<(x19.length:Int) then (impl_FirstFailure.l1 k x19 x20 x21 x296001 (x296001.length:Int) 0 x296000 x296001 (rd x19 x21)) else (none)) else (none)) else (some (0,0,0,false))
def impl_FirstFailure.l1:Nat→List Int→Int→Int→List Int→Int→Int→Int→List Int→Int→Option (Int × Int × Int × Bool)
 | 0,_,_,_,_,_,_,_,_,_=>none
 | k+1,x19,x20,x21,x26,x27,x28,x296000,x296001,x300000=>if x28<x27 then (if 0≤x28 then (if x28<(x26.length:Int) then ((impl_ElementsOf.f k (Go.bits .andNot .i64 x300000 (rd x26 x28))).bind fun t301=>(impl_FirstFailure.l2 k (rd x26 x28) x19 x20 x21 x26 x27 x28 t301 (t301.length:Int) 0 x296000 x296001 x300000)) else (none)) else (none)) else (impl_FirstFailure.l0 k x19 x20 (wrap64 (x21+1)) x296000 x296001)
def impl_FirstFailure.l2:Nat→Int→List Int→Int→Int→List Int→Int→Int→List Int→Int→Int→Int→List Int→Int→Option (Int × Int × Int × Bool)
 | 0,_,_,_,_,_,_,_,_,_,_,_,_,_=>none
 | k+1,x7,x19,x20,x21,x26,x27,x28,x35,x36,x37,x296000,x296001,x300000=>if x37<x36 then (if 0≤x37 then (if x37<(x35.length:Int) then ((impl_ElementsOf.f k (Go.bits .andNot .i64 x7 x300000)).bind fun t306=>((on_impl_FirstFailure_1.f k t306 x296000 x296001 x300000 (rd x35 x37)).bind fun t309=>(if t309=true then (impl_FirstFailure.l2 k x7 x19 x20 x21 x26 x27 x28 x35 x36 (wrap64 (x37+1)) x296000 x296001 x300000) else (some (x300000,x7,rd x35 x37,true))))) else (none)) else (none)) else (impl_FirstFailure.l1 k x19 x20 x21 x26 x27 (wrap64 (x28+1)) x296000 x296001 x300000)
end
def impl_FirstFailure.f (k:Nat) (a0_0:Int) (l0_1:List Int):Option (Int × Int × Int × Bool):=(impl_IsFamily.f k a0_0 l0_1).bind fun t297=>(if t297=true then (impl_FirstFailure.l0 k l0_1 (l0_1.length:Int) 0 a0_0 l0_1) else (some (0,0,0,false)))
set_option maxHeartbeats 8000000 in
set_option maxRecDepth 100000 in
theorem impl_FirstFailure.calls (k:Nat) (a0_0:Int) (A0_1:Option Addr) (c0_1:Nat) (l0_1:List Int) (r1:Int) (r2:Int) (r3:Int) (r4:Bool) (w:World) (hr0_1:Kd.C (Kd.int .i64) w A0_1 l0_1.length l0_1) (hc0_1:l0_1.length≤c0_1) (h:impl_FirstFailure.f k a0_0 l0_1=some (r1,r2,r3,r4)) :
    Calls Tryz.prog 39 #[.agg #[.int .i64 a0_0,.slice A0_1 l0_1.length c0_1]] w fun e w'=>e=.returned (.tuple #[.agg #[.int .i64 r1,.int .i64 r2,.int .i64 r3],.bool r4])∧Below w.heap.size w w':=by
 have hu24:=Tryz.underlying24
 have hu49:=Tryz.underlying49
 have HR0_1:=Aside0.mk hr0_1
 have HC0_1:=Aside0.mk hc0_1
 clear hr0_1 hc0_1
 have HB:=Aside0.mk (Below.refl w.heap.size w)
 unfold impl_FirstFailure.f at h
 have H:=h
 clear h
 replace H:=bnd_ H;obtain ⟨t297,A2,H⟩:=H
 by_cases c3:t297=true
 rotate_left
 ·replace c3:=Bool.eq_false_iff.mpr c3
  subst c3
  replace H:=bF_ H
  simp only [Option.some.injEq,Prod.mk.injEq] at H
  obtain ⟨rfl,rfl,rfl,rfl⟩:=H
  go_enter Tryz.func39,Tryz.ntmps39
  go_wp2_with (first|((with_reducible refine gate_dst (N:=1) rfl ?_);refine bx_ (N:=1) (cs:=#[.int .i64 a0_0,.slice A0_1 l0_1.length c0_1]) (t:=24) ?_;intro gb295 hg w59 hbox hb;have BK295:=Aside0.mk (hbox);have GW295:=Aside0.mk (gw_ hg (h_HB HB.out));have GE295:=Aside0.mk (gw_ hg (h_HB HB.out));replace HB:=Aside0.mk (below_step (h_HB HB.out) hb);clear hb hbox hg)|((with_reducible refine gate_dst (N:=2) rfl ?_);refine bx_ (N:=2) (cs:=#[.int .i64 0,.int .i64 0,.int .i64 0]) (t:=49) ?_;intro gb296 hg w60 hbox hb;have BK296:=Aside0.mk (hbox);have GW296:=Aside0.mk (gw_ hg (h_HB HB.out));have GE296:=Aside0.mk (gw_ hg (h_HB HB.out));replace HB:=Aside0.mk (below_step (h_HB HB.out) hb);have NB295_296:=Aside0.mk (nbl_ hg (bkC_ BK295.out));have NB296_295:=Aside0.mk (nbg_ hg (bkC_ BK295.out));replace BK295:=Aside0.mk (blkB_ BK295.out hb);clear hb hbox hg;have hnb61:=NB295_296.out;have hnc61:=NB296_295.out;obtain ⟨hcz62_0,hcz62_1,hfz62_0,hfz62_1⟩:=bz2_ BK295.out)|((with_reducible refine gate_callee (f:=21) rfl ?_);refine goesL_ (some 15) rfl rfl Tryz.func21 krT_ rfl #[.int .i64 a0_0,.slice A0_1 l0_1.length c0_1] rfl agT_ ?_;(with_reducible refine (impl_IsFamily.calls k a0_0 _ _ l0_1 false _ ?side1 ?side2 A2.out).mono ?_);(case side1=>exact cC_ HR0_1.out);(case side2=>exact HC0_1.out);rintro e w' ⟨rfl,⟨nd,rfl⟩⟩;refine ⟨_,rfl,?_⟩;(try (rw [drewN_self w60];generalize hq_:World.drewN w60 _=w60;replace BK295:Aside0 (w60.heap[gb295]?=some (.cells #[.int .i64 a0_0,.slice A0_1 l0_1.length c0_1] 24 (0,0))):=⟨by rw [← hq_];exact (bkC_ BK295.out)⟩;replace BK296:Aside0 (w60.heap[gb296]?=some (.cells #[.int .i64 0,.int .i64 0,.int .i64 0] 49 (0,0))):=⟨by rw [← hq_];exact (bkC_ BK296.out)⟩;replace HB:Aside0 (Below w.heap.size w w60):=⟨by rw [← hq_];exact (h_HB HB.out)⟩;clear hq_;have hcuz63_gb295_0:w60.cell? ⟨gb295,0,none⟩=some (.int .i64 a0_0):=(blk_cell BK295.out 0).trans rfl;have hfuz63_gb295_0:=blk_frozen BK295.out 0;have hcuz63_gb295_1:w60.cell? ⟨gb295,1,none⟩=some (.slice A0_1 l0_1.length c0_1):=(blk_cell BK295.out 1).trans rfl;have hfuz63_gb295_1:=blk_frozen BK295.out 1;have hcuz63_gb296_0:w60.cell? ⟨gb296,0,none⟩=some (.int .i64 0):=(blk_cell BK296.out 0).trans rfl;have hfuz63_gb296_0:=blk_frozen BK296.out 0;have hcuz63_gb296_1:w60.cell? ⟨gb296,1,none⟩=some (.int .i64 0):=(blk_cell BK296.out 1).trans rfl;have hfuz63_gb296_1:=blk_frozen BK296.out 1;have hcuz63_gb296_2:w60.cell? ⟨gb296,2,none⟩=some (.int .i64 0):=(blk_cell BK296.out 2).trans rfl;have hfuz63_gb296_2:=blk_frozen BK296.out 2));obtain ⟨hcz64_0,hcz64_1,hcz64_2,hfz64_0,hfz64_1,hfz64_2⟩:=bz3_ BK296.out))
  refine bodyPost_ret (results_ct rfl _ _ gb296 49 #[.int .i64 0,.int .i64 0,.int .i64 0] (0,0) _ rfl (by (with_reducible repeat (first|refine blk_drewN ?_ _|refine blk_drew ?_|refine blk_alloc ?_ _));refine blk_put (cs:=#[.int .i64 0,.int .i64 0,.int .i64 0]) ?_ 2 _ rfl;(with_reducible repeat (first|refine blk_drewN ?_ _|refine blk_drew ?_|refine blk_alloc ?_ _));refine blk_put (cs:=#[.int .i64 0,.int .i64 0,.int .i64 0]) ?_ 1 _ rfl;(with_reducible repeat (first|refine blk_drewN ?_ _|refine blk_drew ?_|refine blk_alloc ?_ _));refine blk_put (cs:=#[.int .i64 0,.int .i64 0,.int .i64 0]) ?_ 0 _ rfl;exact bkC_ BK296.out) Tryz.underlying49 rfl krT_) rfl ?_
  exact ⟨eT_,h_HB HB.out⟩
 subst c3
 replace H:=bT_ H
 have H':=Aside0.mk H
 clear H
 go_enter Tryz.func39,Tryz.ntmps39
 go_wp2_with (first|((with_reducible refine gate_dst (N:=1) rfl ?_);refine bx_ (N:=1) (cs:=#[.int .i64 a0_0,.slice A0_1 l0_1.length c0_1]) (t:=24) ?_;intro gb295 hg w4 hbox hb;have BK295:=Aside0.mk (hbox);have GW295:=Aside0.mk (gw_ hg (h_HB HB.out));have GE295:=Aside0.mk (gw_ hg (h_HB HB.out));replace HB:=Aside0.mk (below_step (h_HB HB.out) hb);clear hb hbox hg)|((with_reducible refine gate_dst (N:=2) rfl ?_);refine bx_ (N:=2) (cs:=#[.int .i64 0,.int .i64 0,.int .i64 0]) (t:=49) ?_;intro gb296 hg w5 hbox hb;have BK296:=Aside0.mk (hbox);have GW296:=Aside0.mk (gw_ hg (h_HB HB.out));have GE296:=Aside0.mk (gw_ hg (h_HB HB.out));replace HB:=Aside0.mk (below_step (h_HB HB.out) hb);have NB295_296:=Aside0.mk (nbl_ hg (bkC_ BK295.out));have NB296_295:=Aside0.mk (nbg_ hg (bkC_ BK295.out));replace BK295:=Aside0.mk (blkB_ BK295.out hb);clear hb hbox hg;have hnb6:=NB295_296.out;have hnc6:=NB296_295.out;obtain ⟨hcz7_0,hcz7_1,hfz7_0,hfz7_1⟩:=bz2_ BK295.out)|((with_reducible refine gate_callee (f:=21) rfl ?_);refine goesL_ (some 15) rfl rfl Tryz.func21 krT_ rfl #[.int .i64 a0_0,.slice A0_1 l0_1.length c0_1] rfl agT_ ?_;(with_reducible refine (impl_IsFamily.calls k a0_0 _ _ l0_1 true _ ?side1 ?side2 A2.out).mono ?_);(case side1=>exact cC_ HR0_1.out);(case side2=>exact HC0_1.out);rintro e w' ⟨rfl,⟨nd,rfl⟩⟩;refine ⟨_,rfl,?_⟩))
 go_loopg [21] k (fun kq v21 w'=>∃ (x21_1:Int) (x297000_1:Int) (x297001_1:Int) (x297002_1:Int),v21=.int .i64 x21_1∧Aside0 (impl_FirstFailure.l0 kq l0_1 (l0_1.length:Int) x21_1 a0_0 l0_1=some (r1,r2,r3,r4))∧Aside0 (kq≤k)∧Aside0 (w'.heap[gb295]?=some (.cells #[.int .i64 a0_0,(.slice A0_1 l0_1.length c0_1)] 24 (0,0)))∧Aside0 (w'.heap[gb296]?=some (.cells #[.int .i64 x297000_1,.int .i64 x297001_1,.int .i64 x297002_1] 49 (0,0)))∧Aside0 (Below w.heap.size w w'))
 case atStart=>exact ⟨(0),(0),(0),(0),sT_,H',⟨Nat.le_refl _⟩,⟨bkC_ BK295.out⟩,⟨bkC_ BK296.out⟩,⟨h_HB HB.out⟩⟩
 case round =>
 clear H'
 try clear c2
 try clear p2
 try clear c3
 try clear c6
 try clear hcz7_0
 try clear hcz7_1
 try clear hfz7_0
 try clear hfz7_1
 obtain ⟨x21_1,x297000_1,x297001_1,x297002_1,rfl,HA,HK1,BK295,BK296,HB⟩:=hrel
 cases gk with
 | zero=>exact absurd HA.out (by simp [impl_FirstFailure.l0])
 | succ k1 =>
 have H:=HA.out
 clear HA
 simp only [impl_FirstFailure.l0] at H
 rcases gsn_ H with ⟨c8b0,H⟩|⟨c8b0,H⟩
 ·simp only [Option.some.injEq,Prod.mk.injEq] at H
  obtain ⟨rfl,rfl,rfl,rfl⟩:=H
  have hnb57:=NB296_295.out
  have hnc57:=NB295_296.out
  obtain ⟨hcz58_0,hcz58_1,hcz58_2,hfz58_0,hfz58_1,hfz58_2⟩:=bz3_ BK296.out
  go_wp2
  refine bodyPost_ret (results_ct rfl _ _ gb296 49 #[.int .i64 0,.int .i64 0,.int .i64 0] (0,0) _ rfl (by (with_reducible repeat (first|refine blk_drewN ?_ _|refine blk_drew ?_|refine blk_alloc ?_ _));refine blk_put (cs:=#[.int .i64 0,.int .i64 0,.int .i64 x297002_1]) ?_ 2 _ rfl;(with_reducible repeat (first|refine blk_drewN ?_ _|refine blk_drew ?_|refine blk_alloc ?_ _));refine blk_put (cs:=#[.int .i64 0,.int .i64 x297001_1,.int .i64 x297002_1]) ?_ 1 _ rfl;(with_reducible repeat (first|refine blk_drewN ?_ _|refine blk_drew ?_|refine blk_alloc ?_ _));refine blk_put (cs:=#[.int .i64 x297000_1,.int .i64 x297001_1,.int .i64 x297002_1]) ?_ 0 _ rfl;exact bkC_ BK296.out) Tryz.underlying49 rfl krT_) rfl ?_
  exact ⟨eT_,h_HB HB.out⟩
 replace H:=gsm_ H;obtain ⟨c9b0,H⟩:=H
 replace H:=gsm_ H;obtain ⟨c10b0,H⟩:=H
 have H':=Aside0.mk H
 clear H
 obtain ⟨ad298,e298,hx298_0,p298,q298⟩:=aiI_ HR0_1.out x21_1
 cases e298
 replace hx298_0:=(HB.out.cell (World.block_lt_of_cell? w _ hx298_0)).trans hx298_0
 go_wp2_with (first|((with_reducible refine gate_dst (N:=5) rfl ?_);refine bx_ (N:=5) (cs:=#[.int .i64 0]) (t:=3) ?_;intro gb299 hg w11 hbox hb;have BK299:=Aside0.mk (hbox);have GW299:=Aside0.mk (gw_ hg (h_HB HB.out));have GE299:=Aside0.mk (gw_ hg (h_HB HB.out));replace HB:=Aside0.mk (below_step (h_HB HB.out) hb);have NB295_299:=Aside0.mk (nbl_ hg (bkC_ BK295.out));have NB299_295:=Aside0.mk (nbg_ hg (bkC_ BK295.out));replace BK295:=Aside0.mk (blkB_ BK295.out hb);have NB296_299:=Aside0.mk (nbl_ hg (bkC_ BK296.out));have NB299_296:=Aside0.mk (nbg_ hg (bkC_ BK296.out));replace BK296:=Aside0.mk (blkB_ BK296.out hb);clear hb hbox hg;have hnb12:=NB299_295.out;have hnc12:=NB295_299.out;have hnb13:=NB299_296.out;have hnc13:=NB296_299.out;obtain ⟨hcz14_0,hfz14_0⟩:=bz1_ BK299.out;have hnb15:=NB295_296.out;have hnc15:=NB296_295.out;obtain ⟨hcz16_0,hcz16_1,hfz16_0,hfz16_1⟩:=bz2_ BK295.out))
 go_loopg [28] k1 (fun kq v28 w'=>∃ (x28_2:Int) (x297000_2:Int) (x297001_2:Int) (x297002_2:Int),v28=.int .i64 x28_2∧Aside0 (impl_FirstFailure.l1 kq l0_1 (l0_1.length:Int) x21_1 l0_1 (l0_1.length:Int) x28_2 a0_0 l0_1 (rd l0_1 x21_1)=some (r1,r2,r3,r4))∧Aside0 (kq≤k1)∧Aside0 (w'.heap[gb295]?=some (.cells #[.int .i64 a0_0,(.slice (some ad298) l0_1.length c0_1)] 24 (0,0)))∧Aside0 (w'.heap[gb296]?=some (.cells #[.int .i64 x297000_2,.int .i64 x297001_2,.int .i64 x297002_2] 49 (0,0)))∧Aside0 (w'.heap[gb299]?=some (.cells #[.int .i64 (rd l0_1 x21_1)] 3 (0,0)))∧Aside0 (Below w.heap.size w w'))
 case atStart=>exact ⟨(0),(x297000_1),(x297001_1),(x297002_1),sT_,H',⟨Nat.le_refl _⟩,⟨bkC_ BK295.out⟩,⟨bkC_ BK296.out⟩,⟨by (with_reducible repeat (first|refine blk_drewN ?_ _|refine blk_drew ?_|refine blk_alloc ?_ _));refine blk_put (cs:=#[.int .i64 0]) ?_ 0 _ rfl;exact bkC_ BK299.out⟩,⟨h_HB HB.out⟩⟩
 case round =>
 clear H'
 try clear c1
 try clear c2
 try clear p2
 try clear q2
 try clear hx2
 try clear c3
 try clear c6
 try clear c8
 try clear c8b0
 try clear c9
 try clear c9b0
 try clear c10
 try clear c10b0
 try clear c12
 try clear c13
 try clear c15
 try clear hcz14_0
 try clear hcz16_0
 try clear hcz16_1
 try clear hcz7_0
 try clear hcz7_1
 try clear hfz14_0
 try clear hfz16_0
 try clear hfz16_1
 try clear hfz7_0
 try clear hfz7_1
 try clear hx298_0
 try clear p2
 try clear p298
 try clear q298
 obtain ⟨x28_2,x297000_2,x297001_2,x297002_2,rfl,HA,HK2,BK295,BK296,BK299,HB⟩:=hrel
 cases gk with
 | zero=>exact absurd HA.out (by simp [impl_FirstFailure.l1])
 | succ k2 =>
 have H:=HA.out
 clear HA
 simp only [impl_FirstFailure.l1] at H
 rcases gsn_ H with ⟨c17b0,H⟩|⟨c17b0,H⟩
 ·have H':=Aside0.mk H
  clear H
  go_wp2
  go_roundg k2
  case measure=>have:=HK1.out;have:=HK2.out;omega
  case rel=>exact ⟨(wrap64 (x21_1+1)),(x297000_2),(x297001_2),(x297002_2),sT_,H',⟨by have:=HK1.out;have:=HK2.out;omega⟩,⟨bkC_ BK295.out⟩,⟨bkC_ BK296.out⟩,⟨h_HB HB.out⟩⟩
 replace H:=gsm_ H;obtain ⟨c18b0,H⟩:=H
 replace H:=gsm_ H;obtain ⟨c19b0,H⟩:=H
 replace H:=bnd_ H;obtain ⟨t301,A20,H⟩:=H
 have H':=Aside0.mk H
 clear H
 obtain ⟨ad300,e300,hx300_0,p300,q300⟩:=aiI_ HR0_1.out x28_2
 obtain rfl:ad298=ad300:=(by injection e300)
 replace hx300_0:=(HB.out.cell (World.block_lt_of_cell? w _ hx300_0)).trans hx300_0
 have hnb21:=NB299_295.out
 have hnc21:=NB295_299.out
 have hnb22:=NB299_296.out
 have hnc22:=NB296_299.out
 obtain ⟨hcz23_0,hfz23_0⟩:=bz1_ BK299.out
 go_wp2_with (first|((with_reducible refine gate_callee (f:=98) rfl ?_);refine goesL_ (some 35) rfl rfl Tryz.func98 krT_ rfl #[.int .i64 (Go.bits .andNot .i64 (rd l0_1 x21_1) (rd l0_1 x28_2))] rfl agT_ ?_;(with_reducible refine (impl_ElementsOf.calls k2 (Go.bits .andNot .i64 (rd l0_1 x21_1) (rd l0_1 x28_2)) t301 _ A20.out).mono ?_);rintro e w24 ⟨v302,rfl,ho0,hb⟩;refine ⟨_,rfl,?_⟩;have HO303:=Aside0.mk (Kd.R_lower (Kd.R_newB ho0 (bkC_ BK299.out)) (below_size (h_HB HB.out)));replace BK295:=Aside0.mk (blkB_ BK295.out hb);replace BK296:=Aside0.mk (blkB_ BK296.out hb);replace BK299:=Aside0.mk (blkB_ BK299.out hb);replace HB:=Aside0.mk (below_step (h_HB HB.out) hb);(try clear hb);(try clear hb2);(try clear hk);(try clear hi);(try clear ho0);obtain ⟨Ao25,co25,eo25⟩:=Kd.R_slice HO303.out;subst eo25))
 go_loopg [37] k2 (fun kq v37 w'=>∃ (x37_3:Int) (x297000_3:Int) (x297001_3:Int) (x297002_3:Int),v37=.int .i64 x37_3∧Aside0 (impl_FirstFailure.l2 kq (rd l0_1 x28_2) l0_1 (l0_1.length:Int) x21_1 l0_1 (l0_1.length:Int) x28_2 t301 (t301.length:Int) x37_3 a0_0 l0_1 (rd l0_1 x21_1)=some (r1,r2,r3,r4))∧Aside0 (kq≤k2)∧Aside0 (Kd.R (Kd.int .i64) 3 w' w.heap.size (fun k_=>k_≠gb299) (.slice Ao25 t301.length co25) t301)∧Aside0 (w'.heap[gb295]?=some (.cells #[.int .i64 a0_0,(.slice (some ad298) l0_1.length c0_1)] 24 (0,0)))∧Aside0 (w'.heap[gb296]?=some (.cells #[.int .i64 x297000_3,.int .i64 x297001_3,.int .i64 x297002_3] 49 (0,0)))∧Aside0 (w'.heap[gb299]?=some (.cells #[.int .i64 (rd l0_1 x21_1)] 3 (0,0)))∧Aside0 (Below w.heap.size w w'))
 case atStart=>exact ⟨(0),(x297000_2),(x297001_2),(x297002_2),sT_,H',⟨Nat.le_refl _⟩,⟨by (with_reducible repeat (first|apply Kd.R_alloc|apply Kd.R_drewN|apply Kd.R_drew));exact Kd.R_mono HO303.out (fun _ hk=>hk.2)⟩,⟨bkC_ BK295.out⟩,⟨bkC_ BK296.out⟩,⟨bkC_ BK299.out⟩,⟨h_HB HB.out⟩⟩
 case round =>
 clear H'
 try clear c1
 try clear c2
 try clear p2
 try clear q2
 try clear hx2
 try clear c3
 try clear p3
 try clear q3
 try clear hx3
 try clear c6
 try clear c8
 try clear c8b0
 try clear c9
 try clear c9b0
 try clear c10
 try clear c10b0
 try clear c12
 try clear c13
 try clear c15
 try clear c17
 try clear c17b0
 try clear c18
 try clear c18b0
 try clear c19
 try clear c19b0
 try clear c21
 try clear c22
 try clear hcz14_0
 try clear hcz16_0
 try clear hcz16_1
 try clear hcz23_0
 try clear hcz7_0
 try clear hcz7_1
 try clear hfz14_0
 try clear hfz16_0
 try clear hfz16_1
 try clear hfz23_0
 try clear hfz7_0
 try clear hfz7_1
 try clear hx298_0
 try clear hx300_0
 try clear p2
 try clear p298
 try clear p300
 try clear q2
 try clear q298
 try clear q300
 obtain ⟨x37_3,x297000_3,x297001_3,x297002_3,rfl,HA,HK3,HO_35,BK295,BK296,BK299,HB⟩:=hrel
 cases gk with
 | zero=>exact absurd HA.out (by simp [impl_FirstFailure.l2])
 | succ k3 =>
 have H:=HA.out
 clear HA
 simp only [impl_FirstFailure.l2] at H
 rcases gsn_ H with ⟨c26b0,H⟩|⟨c26b0,H⟩
 ·have H':=Aside0.mk H
  clear H
  go_wp2
  go_roundg k3
  case measure=>have:=HK1.out;have:=HK2.out;have:=HK3.out;omega
  case rel=>exact ⟨(wrap64 (x28_2+1)),(x297000_3),(x297001_3),(x297002_3),sT_,H',⟨by have:=HK1.out;have:=HK2.out;have:=HK3.out;omega⟩,⟨bkC_ BK295.out⟩,⟨bkC_ BK296.out⟩,⟨bkC_ BK299.out⟩,⟨h_HB HB.out⟩⟩
 replace H:=gsm_ H;obtain ⟨c27b0,H⟩:=H
 replace H:=gsm_ H;obtain ⟨c28b0,H⟩:=H
 replace H:=bnd_ H;obtain ⟨t306,A29,H⟩:=H
 replace H:=bnd_ H;obtain ⟨t309,A30,H⟩:=H
 by_cases c31:t309=true
 ·subst c31
  replace H:=bT_ H
  have H':=Aside0.mk H
  clear H
  obtain ⟨ad304,e304,hx304_0,p304,q304⟩:=aiI_ (Kd.R_reads' HO_35.out).2.2 x37_3
  cases e304
  go_wp2_with (first|((with_reducible refine gate_dst (N:=9) rfl ?_);refine bx_ (N:=9) (cs:=#[.int .i64 0]) (t:=3) ?_;intro gb305 hg w32 hbox hb;have n0_:=Aside0.mk (Kd.R_below (Kd.R_elderB (kRC_ HO_35.out) gb305 (Nat.le_of_eq hg.symm)) hb);have n1_:=Aside0.mk (blkB_ BK295.out hb);have n2_:=Aside0.mk (blkB_ BK296.out hb);have n3_:=Aside0.mk (blkB_ BK299.out hb);have n4_:=Aside0.mk (below_step (h_HB HB.out) hb);have n5_:=Aside0.mk (hbox);have n6_:=Aside0.mk (gw_ hg (h_HB HB.out));have n7_:=Aside0.mk (gw_ hg (h_HB HB.out));have n8_:=Aside0.mk (nbl_ hg (bkC_ BK295.out));have n9_:=Aside0.mk (nbg_ hg (bkC_ BK295.out));have n10_:=Aside0.mk (nbl_ hg (bkC_ BK296.out));have n11_:=Aside0.mk (nbg_ hg (bkC_ BK296.out));have n12_:=Aside0.mk (nbl_ hg (bkC_ BK299.out));have n13_:=Aside0.mk (nbg_ hg (bkC_ BK299.out));clear HO_35;clear BK295;clear BK296;clear BK299;clear HB;have HO_35:=n0_;have BK295:=n1_;have BK296:=n2_;have BK299:=n3_;have HB:=n4_;have BK305:=n5_;have GW305:=n6_;have GE305:=n7_;have NB295_305:=n8_;have NB305_295:=n9_;have NB296_305:=n10_;have NB305_296:=n11_;have NB299_305:=n12_;have NB305_299:=n13_;clear n0_ n1_ n2_ n3_ n4_ n5_ n6_ n7_ n8_ n9_ n10_ n11_ n12_ n13_;clear hb hbox hg;have hnb33:=NB305_295.out;have hnc33:=NB295_305.out;have hnb34:=NB305_296.out;have hnc34:=NB296_305.out;have hnb35:=NB305_299.out;have hnc35:=NB299_305.out;obtain ⟨hcz36_0,hfz36_0⟩:=bz1_ BK305.out;have hnb37:=NB299_295.out;have hnc37:=NB295_299.out;have hnb38:=NB299_296.out;have hnc38:=NB296_299.out;obtain ⟨hcz39_0,hfz39_0⟩:=bz1_ BK299.out)|((with_reducible refine gate_callee (f:=98) rfl ?_);refine goesL_ (some 44) rfl rfl Tryz.func98 krT_ rfl #[.int .i64 (Go.bits .andNot .i64 (rd l0_1 x28_2) (rd l0_1 x21_1))] rfl agT_ ?_;(with_reducible refine (impl_ElementsOf.calls k3 (Go.bits .andNot .i64 (rd l0_1 x28_2) (rd l0_1 x21_1)) t306 _ A29.out).mono ?_);rintro e w40 ⟨v307,rfl,ho0,hb⟩;refine ⟨_,rfl,?_⟩;have HO308:=Aside0.mk (Kd.R_lower (Kd.R_newB (Kd.R_newB (Kd.R_new' ho0 (Kd.R_lt (by (with_reducible repeat (first|apply Kd.R_alloc|apply Kd.R_drewN|apply Kd.R_drew));exact (Kd.R_mono (Kd.R_far (p:=⟨gb305,0,none⟩) (Kd.R_mono HO_35.out (fun k_ hk=>(⟨hk,hk.2⟩:_∧k_≠gb305))) (fun _ hk=>hk.2) (.int .i64 (rd t301 x37_3))) (fun _ h_=>h_.1))))) (bkC_ BK299.out)) (g:=gb305) (o:=.cells #[.int .i64 (rd t301 x37_3)] 3 (0,0)) (by (with_reducible repeat (first|refine blk_drewN ?_ _|refine blk_drew ?_|refine blk_alloc ?_ _));refine blk_put (cs:=#[.int .i64 0]) ?_ 0 _ rfl;exact bkC_ BK305.out)) (below_size (h_HB HB.out)));replace HO_35:=Aside0.mk (Kd.R_elder' (by (with_reducible repeat (first|apply Kd.R_alloc|apply Kd.R_drewN|apply Kd.R_drew));exact (Kd.R_mono (Kd.R_far (p:=⟨gb305,0,none⟩) (Kd.R_mono HO_35.out (fun k_ hk=>(⟨hk,hk.2⟩:_∧k_≠gb305))) (fun _ hk=>hk.2) (.int .i64 (rd t301 x37_3))) (fun _ h_=>h_.1))) (Kd.R_base ho0) hb);replace BK295:=Aside0.mk (blkB_ BK295.out hb);replace BK296:=Aside0.mk (blkB_ BK296.out hb);replace BK299:=Aside0.mk (blkB_ BK299.out hb);replace BK305:=Aside0.mk (blk_below (g:=gb305) (o:=.cells #[.int .i64 (rd t301 x37_3)] 3 (0,0)) (by (with_reducible repeat (first|refine blk_drewN ?_ _|refine blk_drew ?_|refine blk_alloc ?_ _));refine blk_put (cs:=#[.int .i64 0]) ?_ 0 _ rfl;exact bkC_ BK305.out) hb);replace HB:=Aside0.mk (below_step (h_HB HB.out) hb);(try clear hb);(try clear hb2);(try clear hk);(try clear hi);(try clear ho0);obtain ⟨Ao41,co41,eo41⟩:=Kd.R_slice HO308.out;subst eo41)|((with_reducible refine gate_callee (f:=67) rfl ?_);refine goesL_ (some 46) rfl rfl Tryz.func67 krT_ rfl #[.slice Ao41 t306.length co41,.func (.func 99) #[] #[.pointer (some ⟨gb295,0,none⟩),.pointer (some ⟨gb299,0,none⟩),.pointer (some ⟨gb305,0,none⟩)]] rfl agT_ ?_;(with_reducible refine (on_impl_FirstFailure_1.calls k3 _ _ t306 a0_0 (some ad298) c0_1 l0_1 (rd l0_1 x21_1) (rd t301 x37_3) true _ ?side1 ?side2 ?side3 ?side4 A30.out gb295 gb299 gb305 ?side5 ?side6 ?side7).mono ?_);(case side1=>repeat (first|exact (Kd.R_reads' HO308.out).2.2|(with_reducible refine Kd.C_alloc ?_ _)|(with_reducible refine Kd.C_drewN ?_ _)|(with_reducible refine Kd.C_drew ?_)));(case side2=>exact (Kd.R_reads' HO308.out).2.1);(case side3=>exact cC_ HR0_1.out);(case side4=>exact HC0_1.out);(case side5=>exact (bkC_ BK295.out));(case side6=>exact (bkC_ BK299.out));(case side7=>exact (bkC_ BK305.out));rintro e w' ⟨rfl,⟨nd,rfl⟩⟩;refine ⟨_,rfl,?_⟩))
  go_roundg k3
  case measure=>have:=HK1.out;have:=HK2.out;have:=HK3.out;omega
  case rel=>exact ⟨(wrap64 (x37_3+1)),(x297000_3),(x297001_3),(x297002_3),sT_,H',⟨by have:=HK1.out;have:=HK2.out;have:=HK3.out;omega⟩,⟨by (with_reducible repeat (first|apply Kd.R_alloc|apply Kd.R_drewN|apply Kd.R_drew));exact Kd.R_mono HO_35.out (fun _ hk=>hk.1.1)⟩,⟨bkC_ BK295.out⟩,⟨bkC_ BK296.out⟩,⟨bkC_ BK299.out⟩,⟨h_HB HB.out⟩⟩
 replace c31:=Bool.eq_false_iff.mpr c31
 subst c31
 replace H:=bF_ H
 simp only [Option.some.injEq,Prod.mk.injEq] at H
 obtain ⟨rfl,rfl,rfl,rfl⟩:=H
 obtain ⟨ad304,e304,hx304_0,p304,q304⟩:=aiI_ (Kd.R_reads' HO_35.out).2.2 x37_3
 cases e304
 go_wp2_with (first|((with_reducible refine gate_dst (N:=9) rfl ?_);refine bx_ (N:=9) (cs:=#[.int .i64 0]) (t:=3) ?_;intro gb305 hg w42 hbox hb;have n0_:=Aside0.mk (Kd.R_below (Kd.R_elderB (kRC_ HO_35.out) gb305 (Nat.le_of_eq hg.symm)) hb);have n1_:=Aside0.mk (blkB_ BK295.out hb);have n2_:=Aside0.mk (blkB_ BK296.out hb);have n3_:=Aside0.mk (blkB_ BK299.out hb);have n4_:=Aside0.mk (below_step (h_HB HB.out) hb);have n5_:=Aside0.mk (hbox);have n6_:=Aside0.mk (gw_ hg (h_HB HB.out));have n7_:=Aside0.mk (gw_ hg (h_HB HB.out));have n8_:=Aside0.mk (nbl_ hg (bkC_ BK295.out));have n9_:=Aside0.mk (nbg_ hg (bkC_ BK295.out));have n10_:=Aside0.mk (nbl_ hg (bkC_ BK296.out));have n11_:=Aside0.mk (nbg_ hg (bkC_ BK296.out));have n12_:=Aside0.mk (nbl_ hg (bkC_ BK299.out));have n13_:=Aside0.mk (nbg_ hg (bkC_ BK299.out));clear HO_35;clear BK295;clear BK296;clear BK299;clear HB;have HO_35:=n0_;have BK295:=n1_;have BK296:=n2_;have BK299:=n3_;have HB:=n4_;have BK305:=n5_;have GW305:=n6_;have GE305:=n7_;have NB295_305:=n8_;have NB305_295:=n9_;have NB296_305:=n10_;have NB305_296:=n11_;have NB299_305:=n12_;have NB305_299:=n13_;clear n0_ n1_ n2_ n3_ n4_ n5_ n6_ n7_ n8_ n9_ n10_ n11_ n12_ n13_;clear hb hbox hg;have hnb43:=NB305_295.out;have hnc43:=NB295_305.out;have hnb44:=NB305_296.out;have hnc44:=NB296_305.out;have hnb45:=NB305_299.out;have hnc45:=NB299_305.out;obtain ⟨hcz46_0,hfz46_0⟩:=bz1_ BK305.out;have hnb47:=NB299_295.out;have hnc47:=NB295_299.out;have hnb48:=NB299_296.out;have hnc48:=NB296_299.out;obtain ⟨hcz49_0,hfz49_0⟩:=bz1_ BK299.out)|((with_reducible refine gate_callee (f:=98) rfl ?_);refine goesL_ (some 44) rfl rfl Tryz.func98 krT_ rfl #[.int .i64 (Go.bits .andNot .i64 (rd l0_1 x28_2) (rd l0_1 x21_1))] rfl agT_ ?_;(with_reducible refine (impl_ElementsOf.calls k3 (Go.bits .andNot .i64 (rd l0_1 x28_2) (rd l0_1 x21_1)) t306 _ A29.out).mono ?_);rintro e w50 ⟨v307,rfl,ho0,hb⟩;refine ⟨_,rfl,?_⟩;have HO308:=Aside0.mk (Kd.R_lower (Kd.R_newB (Kd.R_newB (Kd.R_new' ho0 (Kd.R_lt (by (with_reducible repeat (first|apply Kd.R_alloc|apply Kd.R_drewN|apply Kd.R_drew));exact (Kd.R_mono (Kd.R_far (p:=⟨gb305,0,none⟩) (Kd.R_mono HO_35.out (fun k_ hk=>(⟨hk,hk.2⟩:_∧k_≠gb305))) (fun _ hk=>hk.2) (.int .i64 (rd t301 x37_3))) (fun _ h_=>h_.1))))) (bkC_ BK299.out)) (g:=gb305) (o:=.cells #[.int .i64 (rd t301 x37_3)] 3 (0,0)) (by (with_reducible repeat (first|refine blk_drewN ?_ _|refine blk_drew ?_|refine blk_alloc ?_ _));refine blk_put (cs:=#[.int .i64 0]) ?_ 0 _ rfl;exact bkC_ BK305.out)) (below_size (h_HB HB.out)));replace HO_35:=Aside0.mk (Kd.R_elder' (by (with_reducible repeat (first|apply Kd.R_alloc|apply Kd.R_drewN|apply Kd.R_drew));exact (Kd.R_mono (Kd.R_far (p:=⟨gb305,0,none⟩) (Kd.R_mono HO_35.out (fun k_ hk=>(⟨hk,hk.2⟩:_∧k_≠gb305))) (fun _ hk=>hk.2) (.int .i64 (rd t301 x37_3))) (fun _ h_=>h_.1))) (Kd.R_base ho0) hb);replace BK295:=Aside0.mk (blkB_ BK295.out hb);replace BK296:=Aside0.mk (blkB_ BK296.out hb);replace BK299:=Aside0.mk (blkB_ BK299.out hb);replace BK305:=Aside0.mk (blk_below (g:=gb305) (o:=.cells #[.int .i64 (rd t301 x37_3)] 3 (0,0)) (by (with_reducible repeat (first|refine blk_drewN ?_ _|refine blk_drew ?_|refine blk_alloc ?_ _));refine blk_put (cs:=#[.int .i64 0]) ?_ 0 _ rfl;exact bkC_ BK305.out) hb);replace HB:=Aside0.mk (below_step (h_HB HB.out) hb);(try clear hb);(try clear hb2);(try clear hk);(try clear hi);(try clear ho0);obtain ⟨Ao51,co51,eo51⟩:=Kd.R_slice HO308.out;subst eo51)|((with_reducible refine gate_callee (f:=67) rfl ?_);refine goesL_ (some 46) rfl rfl Tryz.func67 krT_ rfl #[.slice Ao51 t306.length co51,.func (.func 99) #[] #[.pointer (some ⟨gb295,0,none⟩),.pointer (some ⟨gb299,0,none⟩),.pointer (some ⟨gb305,0,none⟩)]] rfl agT_ ?_;(with_reducible refine (on_impl_FirstFailure_1.calls k3 _ _ t306 a0_0 (some ad298) c0_1 l0_1 (rd l0_1 x21_1) (rd t301 x37_3) false _ ?side1 ?side2 ?side3 ?side4 A30.out gb295 gb299 gb305 ?side5 ?side6 ?side7).mono ?_);(case side1=>repeat (first|exact (Kd.R_reads' HO308.out).2.2|(with_reducible refine Kd.C_alloc ?_ _)|(with_reducible refine Kd.C_drewN ?_ _)|(with_reducible refine Kd.C_drew ?_)));(case side2=>exact (Kd.R_reads' HO308.out).2.1);(case side3=>exact cC_ HR0_1.out);(case side4=>exact HC0_1.out);(case side5=>exact (bkC_ BK295.out));(case side6=>exact (bkC_ BK299.out));(case side7=>exact (bkC_ BK305.out));rintro e w' ⟨rfl,⟨nd,rfl⟩⟩;refine ⟨_,rfl,?_⟩;(try (rw [drewN_self w50];generalize hq_:World.drewN w50 _=w50;replace HO308:Aside0 (Kd.R (Kd.int .i64) 3 w50 w.heap.size (fun k_=>some k_≠(.slice (some ad304) t301.length co25:Value).ownBlock∧k_≠gb299∧k_≠gb305) (.slice Ao51 t306.length co51) t306):=⟨by rw [← hq_];exact (by (with_reducible repeat (first|apply Kd.R_alloc|apply Kd.R_drewN|apply Kd.R_drew));exact Kd.R_mono HO308.out (fun _ hk=>by first|exact ⟨hk.1.1.2,⟨hk.1.2,hk.2⟩⟩|(simp [hk];done)))⟩;replace HO_35:Aside0 (Kd.R (Kd.int .i64) 3 w50 w.heap.size (fun k_=>some k_≠(.slice Ao51 t306.length co51:Value).ownBlock∧k_≠gb299∧k_≠gb305) (.slice (some ad304) t301.length co25) t301):=⟨by rw [← hq_];exact (by (with_reducible repeat (first|apply Kd.R_alloc|apply Kd.R_drewN|apply Kd.R_drew));exact Kd.R_mono HO_35.out (fun _ hk=>by first|exact ⟨hk.2,⟨hk.1.1,hk.1.2⟩⟩|(simp [hk];done)))⟩;replace BK295:Aside0 (w50.heap[gb295]?=some (.cells #[.int .i64 a0_0,.slice (some ad298) l0_1.length c0_1] 24 (0,0))):=⟨by rw [← hq_];exact (bkC_ BK295.out)⟩;replace BK296:Aside0 (w50.heap[gb296]?=some (.cells #[.int .i64 x297000_3,.int .i64 x297001_3,.int .i64 x297002_3] 49 (0,0))):=⟨by rw [← hq_];exact (bkC_ BK296.out)⟩;replace BK299:Aside0 (w50.heap[gb299]?=some (.cells #[.int .i64 (rd l0_1 x21_1)] 3 (0,0))):=⟨by rw [← hq_];exact (bkC_ BK299.out)⟩;replace BK305:Aside0 (w50.heap[gb305]?=some (.cells #[.int .i64 (rd t301 x37_3)] 3 (0,0))):=⟨by rw [← hq_];exact (bkC_ BK305.out)⟩;replace HB:Aside0 (Below w.heap.size w w50):=⟨by rw [← hq_];exact (h_HB HB.out)⟩;clear hq_;have hcuz52_gb295_0:w50.cell? ⟨gb295,0,none⟩=some (.int .i64 a0_0):=(blk_cell BK295.out 0).trans rfl;have hfuz52_gb295_0:=blk_frozen BK295.out 0;have hcuz52_gb295_1:w50.cell? ⟨gb295,1,none⟩=some (.slice (some ad298) l0_1.length c0_1):=(blk_cell BK295.out 1).trans rfl;have hfuz52_gb295_1:=blk_frozen BK295.out 1;have hcuz52_gb296_0:w50.cell? ⟨gb296,0,none⟩=some (.int .i64 x297000_3):=(blk_cell BK296.out 0).trans rfl;have hfuz52_gb296_0:=blk_frozen BK296.out 0;have hcuz52_gb296_1:w50.cell? ⟨gb296,1,none⟩=some (.int .i64 x297001_3):=(blk_cell BK296.out 1).trans rfl;have hfuz52_gb296_1:=blk_frozen BK296.out 1;have hcuz52_gb296_2:w50.cell? ⟨gb296,2,none⟩=some (.int .i64 x297002_3):=(blk_cell BK296.out 2).trans rfl;have hfuz52_gb296_2:=blk_frozen BK296.out 2;have hcuz52_gb299_0:w50.cell? ⟨gb299,0,none⟩=some (.int .i64 (rd l0_1 x21_1)):=(blk_cell BK299.out 0).trans rfl;have hfuz52_gb299_0:=blk_frozen BK299.out 0;have hcuz52_gb305_0:w50.cell? ⟨gb305,0,none⟩=some (.int .i64 (rd t301 x37_3)):=(blk_cell BK305.out 0).trans rfl;have hfuz52_gb305_0:=blk_frozen BK305.out 0));obtain ⟨hcz53_0,hfz53_0⟩:=bz1_ BK299.out;obtain ⟨hcz54_0,hfz54_0⟩:=bz1_ BK305.out;have hnb55:=NB296_295.out;have hnc55:=NB295_296.out;obtain ⟨hcz56_0,hcz56_1,hcz56_2,hfz56_0,hfz56_1,hfz56_2⟩:=bz3_ BK296.out))
 refine bodyPost_ret (results_ct rfl _ _ gb296 49 #[.int .i64 (rd l0_1 x21_1),.int .i64 (rd l0_1 x28_2),.int .i64 (rd t301 x37_3)] (0,0) _ rfl (by (with_reducible repeat (first|refine blk_drewN ?_ _|refine blk_drew ?_|refine blk_alloc ?_ _));refine blk_put (cs:=#[.int .i64 (rd l0_1 x21_1),.int .i64 (rd l0_1 x28_2),.int .i64 x297002_3]) ?_ 2 _ rfl;(with_reducible repeat (first|refine blk_drewN ?_ _|refine blk_drew ?_|refine blk_alloc ?_ _));refine blk_put (cs:=#[.int .i64 (rd l0_1 x21_1),.int .i64 x297001_3,.int .i64 x297002_3]) ?_ 1 _ rfl;(with_reducible repeat (first|refine blk_drewN ?_ _|refine blk_drew ?_|refine blk_alloc ?_ _));refine blk_put (cs:=#[.int .i64 x297000_3,.int .i64 x297001_3,.int .i64 x297002_3]) ?_ 0 _ rfl;exact bkC_ BK296.out) Tryz.underlying49 rfl krT_) rfl ?_
 exact ⟨eT_,h_HB HB.out⟩
/-! ### impl_IsMatroid: function 44 -/
def impl_IsMatroid.f (k:Nat) (a0_0:Int) (l0_1:List Int):Option (Bool):=(impl_FirstFailure.f k a0_0 l0_1).bind fun bt311=>((impl_IsFamily.f k a0_0 l0_1).bind fun t316=>(if t316=true then (if (l0_1.length:Int)>0 then (some (!bt311.2.2.2)) else (some false)) else (some false)))
set_option maxHeartbeats 8000000 in
set_option maxRecDepth 100000 in
theorem impl_IsMatroid.calls (k:Nat) (a0_0:Int) (A0_1:Option Addr) (c0_1:Nat) (l0_1:List Int) (r:Bool) (w:World) (hr0_1:Kd.C (Kd.int .i64) w A0_1 l0_1.length l0_1) (hc0_1:l0_1.length≤c0_1) (h:impl_IsMatroid.f k a0_0 l0_1=some r) :
    Calls Tryz.prog 44 #[.agg #[.int .i64 a0_0,.slice A0_1 l0_1.length c0_1]] w fun e w'=>e=.returned (.bool r)∧Below w.heap.size w w':=by
 have hu24:=Tryz.underlying24
 have hu49:=Tryz.underlying49
 have HR0_1:=Aside0.mk hr0_1
 have HC0_1:=Aside0.mk hc0_1
 clear hr0_1 hc0_1
 have HB:=Aside0.mk (Below.refl w.heap.size w)
 unfold impl_IsMatroid.f at h
 have H:=h
 clear h
 replace H:=bnd_ H;obtain ⟨⟨t311,t312,t313,t314⟩,A2,H⟩:=H;dsimp only at H
 replace H:=bnd_ H;obtain ⟨t316,A3,H⟩:=H
 by_cases c4:t316=true
 ·subst c4
  replace H:=bT_ H
  by_cases c5:(l0_1.length:Int)>0
  ·rw [if_pos c5] at H
   have c5b0:decide (0<(l0_1.length:Int))=true:=decide_eq_true c5
   have c5b1:decide (0<l0_1.length)=true:=decide_eq_true (by omega)
   clear c5
   obtain rfl:=Option.some.inj H
   go_enter Tryz.func44,Tryz.ntmps44
   go_wp2_with (first|((with_reducible refine gate_dst (N:=1) rfl ?_);(try (refine gate_guard (by rfl) ?_;dsimp only));refine bx_ (N:=1) (cs:=#[.int .i64 a0_0,.slice A0_1 l0_1.length c0_1]) (t:=24) ?_;intro gb310 hg w6 hbox hb;have BK310:=Aside0.mk (hbox);have GW310:=Aside0.mk (gw_ hg (h_HB HB.out));have GE310:=Aside0.mk (gw_ hg (h_HB HB.out));replace HB:=Aside0.mk (below_step (h_HB HB.out) hb);clear hb hbox hg;obtain ⟨hcz7_0,hcz7_1,hfz7_0,hfz7_1⟩:=bz2_ BK310.out)|((with_reducible refine gate_callee (f:=39) rfl ?_);refine goesL_ (some 7) rfl rfl Tryz.func39 krT_ rfl #[.agg #[.int .i64 a0_0,.slice A0_1 l0_1.length c0_1]] rfl agT_ ?_;(with_reducible refine (impl_FirstFailure.calls k a0_0 _ _ l0_1 t311 t312 t313 t314 _ ?side1 ?side2 A2.out).mono ?_);(case side1=>exact cC_ HR0_1.out);(case side2=>exact HC0_1.out);rintro e w8 ⟨rfl,hb⟩;refine ⟨_,rfl,?_⟩;replace BK310:=Aside0.mk (blkB_ BK310.out hb);replace HB:=Aside0.mk (below_step (h_HB HB.out) hb);(try clear hb))|((with_reducible refine gate_dst (N:=3) rfl ?_);(try (refine gate_guard (by rfl) ?_;dsimp only));refine bx_ (N:=3) (cs:=#[.int .i64 0,.int .i64 0,.int .i64 0]) (t:=49) ?_;intro gb315 hg w9 hbox hb;have BK315:=Aside0.mk (hbox);have GW315:=Aside0.mk (gw_ hg (h_HB HB.out));have GE315:=Aside0.mk (gw_ hg (h_HB HB.out));replace HB:=Aside0.mk (below_step (h_HB HB.out) hb);have NB310_315:=Aside0.mk (nbl_ hg (bkC_ BK310.out));have NB315_310:=Aside0.mk (nbg_ hg (bkC_ BK310.out));replace BK310:=Aside0.mk (blkB_ BK310.out hb);clear hb hbox hg;have hnb10:=NB315_310.out;have hnc10:=NB310_315.out;obtain ⟨hcz11_0,hcz11_1,hcz11_2,hfz11_0,hfz11_1,hfz11_2⟩:=bz3_ BK315.out;obtain ⟨hcz12_0,hcz12_1,hfz12_0,hfz12_1⟩:=bz2_ BK310.out)|((with_reducible refine gate_callee (f:=21) rfl ?_);refine goesL_ (some 14) rfl rfl Tryz.func21 krT_ rfl #[.int .i64 a0_0,.slice A0_1 l0_1.length c0_1] rfl agT_ ?_;(with_reducible refine (impl_IsFamily.calls k a0_0 _ _ l0_1 true _ ?side1 ?side2 A3.out).mono ?_);(case side1=>exact Kd.C_below HR0_1.out (h_HB HB.out));(case side2=>exact HC0_1.out);rintro e w' ⟨rfl,⟨nd,rfl⟩⟩;refine ⟨_,rfl,?_⟩))
   go_ret
   exact ⟨eT_,h_HB HB.out⟩
  rw [if_neg c5] at H
  have c5b0:decide (0<(l0_1.length:Int))=false:=decide_eq_false c5
  have c5b1:decide (0<l0_1.length)=false:=decide_eq_false (by omega)
  clear c5
  obtain rfl:=Option.some.inj H
  go_enter Tryz.func44,Tryz.ntmps44
  go_wp2_with (first|((with_reducible refine gate_dst (N:=1) rfl ?_);(try (refine gate_guard (by rfl) ?_;dsimp only));refine bx_ (N:=1) (cs:=#[.int .i64 a0_0,.slice A0_1 l0_1.length c0_1]) (t:=24) ?_;intro gb310 hg w13 hbox hb;have BK310:=Aside0.mk (hbox);have GW310:=Aside0.mk (gw_ hg (h_HB HB.out));have GE310:=Aside0.mk (gw_ hg (h_HB HB.out));replace HB:=Aside0.mk (below_step (h_HB HB.out) hb);clear hb hbox hg;obtain ⟨hcz14_0,hcz14_1,hfz14_0,hfz14_1⟩:=bz2_ BK310.out)|((with_reducible refine gate_callee (f:=39) rfl ?_);refine goesL_ (some 7) rfl rfl Tryz.func39 krT_ rfl #[.agg #[.int .i64 a0_0,.slice A0_1 l0_1.length c0_1]] rfl agT_ ?_;(with_reducible refine (impl_FirstFailure.calls k a0_0 _ _ l0_1 t311 t312 t313 t314 _ ?side1 ?side2 A2.out).mono ?_);(case side1=>exact cC_ HR0_1.out);(case side2=>exact HC0_1.out);rintro e w15 ⟨rfl,hb⟩;refine ⟨_,rfl,?_⟩;replace BK310:=Aside0.mk (blkB_ BK310.out hb);replace HB:=Aside0.mk (below_step (h_HB HB.out) hb);(try clear hb))|((with_reducible refine gate_dst (N:=3) rfl ?_);(try (refine gate_guard (by rfl) ?_;dsimp only));refine bx_ (N:=3) (cs:=#[.int .i64 0,.int .i64 0,.int .i64 0]) (t:=49) ?_;intro gb315 hg w16 hbox hb;have BK315:=Aside0.mk (hbox);have GW315:=Aside0.mk (gw_ hg (h_HB HB.out));have GE315:=Aside0.mk (gw_ hg (h_HB HB.out));replace HB:=Aside0.mk (below_step (h_HB HB.out) hb);have NB310_315:=Aside0.mk (nbl_ hg (bkC_ BK310.out));have NB315_310:=Aside0.mk (nbg_ hg (bkC_ BK310.out));replace BK310:=Aside0.mk (blkB_ BK310.out hb);clear hb hbox hg;have hnb17:=NB315_310.out;have hnc17:=NB310_315.out;obtain ⟨hcz18_0,hcz18_1,hcz18_2,hfz18_0,hfz18_1,hfz18_2⟩:=bz3_ BK315.out;obtain ⟨hcz19_0,hcz19_1,hfz19_0,hfz19_1⟩:=bz2_ BK310.out)|((with_reducible refine gate_callee (f:=21) rfl ?_);refine goesL_ (some 14) rfl rfl Tryz.func21 krT_ rfl #[.int .i64 a0_0,.slice A0_1 l0_1.length c0_1] rfl agT_ ?_;(with_reducible refine (impl_IsFamily.calls k a0_0 _ _ l0_1 true _ ?side1 ?side2 A3.out).mono ?_);(case side1=>exact Kd.C_below HR0_1.out (h_HB HB.out));(case side2=>exact HC0_1.out);rintro e w' ⟨rfl,⟨nd,rfl⟩⟩;refine ⟨_,rfl,?_⟩))
  go_ret
  exact ⟨eT_,h_HB HB.out⟩
 ·replace c4:=Bool.eq_false_iff.mpr c4
  subst c4
  replace H:=bF_ H
  obtain rfl:=Option.some.inj H
  go_enter Tryz.func44,Tryz.ntmps44
  go_wp2_with (first|((with_reducible refine gate_dst (N:=1) rfl ?_);(try (refine gate_guard (by rfl) ?_;dsimp only));refine bx_ (N:=1) (cs:=#[.int .i64 a0_0,.slice A0_1 l0_1.length c0_1]) (t:=24) ?_;intro gb310 hg w20 hbox hb;have BK310:=Aside0.mk (hbox);have GW310:=Aside0.mk (gw_ hg (h_HB HB.out));have GE310:=Aside0.mk (gw_ hg (h_HB HB.out));replace HB:=Aside0.mk (below_step (h_HB HB.out) hb);clear hb hbox hg;obtain ⟨hcz21_0,hcz21_1,hfz21_0,hfz21_1⟩:=bz2_ BK310.out)|((with_reducible refine gate_callee (f:=39) rfl ?_);refine goesL_ (some 7) rfl rfl Tryz.func39 krT_ rfl #[.agg #[.int .i64 a0_0,.slice A0_1 l0_1.length c0_1]] rfl agT_ ?_;(with_reducible refine (impl_FirstFailure.calls k a0_0 _ _ l0_1 t311 t312 t313 t314 _ ?side1 ?side2 A2.out).mono ?_);(case side1=>exact cC_ HR0_1.out);(case side2=>exact HC0_1.out);rintro e w22 ⟨rfl,hb⟩;refine ⟨_,rfl,?_⟩;replace BK310:=Aside0.mk (blkB_ BK310.out hb);replace HB:=Aside0.mk (below_step (h_HB HB.out) hb);(try clear hb))|((with_reducible refine gate_dst (N:=3) rfl ?_);(try (refine gate_guard (by rfl) ?_;dsimp only));refine bx_ (N:=3) (cs:=#[.int .i64 0,.int .i64 0,.int .i64 0]) (t:=49) ?_;intro gb315 hg w23 hbox hb;have BK315:=Aside0.mk (hbox);have GW315:=Aside0.mk (gw_ hg (h_HB HB.out));have GE315:=Aside0.mk (gw_ hg (h_HB HB.out));replace HB:=Aside0.mk (below_step (h_HB HB.out) hb);have NB310_315:=Aside0.mk (nbl_ hg (bkC_ BK310.out));have NB315_310:=Aside0.mk (nbg_ hg (bkC_ BK310.out));replace BK310:=Aside0.mk (blkB_ BK310.out hb);clear hb hbox hg;have hnb24:=NB315_310.out;have hnc24:=NB310_315.out;obtain ⟨hcz25_0,hcz25_1,hcz25_2,hfz25_0,hfz25_1,hfz25_2⟩:=bz3_ BK315.out;obtain ⟨hcz26_0,hcz26_1,hfz26_0,hfz26_1⟩:=bz2_ BK310.out)|((with_reducible refine gate_callee (f:=21) rfl ?_);refine goesL_ (some 14) rfl rfl Tryz.func21 krT_ rfl #[.int .i64 a0_0,.slice A0_1 l0_1.length c0_1] rfl agT_ ?_;(with_reducible refine (impl_IsFamily.calls k a0_0 _ _ l0_1 false _ ?side1 ?side2 A3.out).mono ?_);(case side1=>exact Kd.C_below HR0_1.out (h_HB HB.out));(case side2=>exact HC0_1.out);rintro e w' ⟨rfl,⟨nd,rfl⟩⟩;refine ⟨_,rfl,?_⟩))
  go_ret
  exact ⟨eT_,h_HB HB.out⟩
/-! ### strconv_Itoa: function 128 -/
def strconv_Itoa.f (a0:Int):Option ByteArray:=if -9223372036854775808≤a0∧a0≤9223372036854775807 then some ⟨(Lib.itoa a0).toArray⟩ else none
theorem strconv_Itoa.calls (a0:Int) (r:ByteArray) (w:World) (hld:LD w) (h:strconv_Itoa.f a0=some r) :
    Calls Tryz.prog 128 #[.int .i64 a0] w fun e w'=>e=.returned (.string r)∧Below w.heap.size w w':=by
 unfold strconv_Itoa.f at h
 by_cases hl:-9223372036854775808≤a0∧a0≤9223372036854775807
 ·rw [if_pos hl] at h
  obtain rfl:=Option.some.inj h
  refine (YtekegbacnagbcaaGreatDoorShelf.strconv_Itoa a0 hl.1 hl.2 w hld.pow).mono ?_
  rintro e w' ⟨rfl,k,os,rfl⟩
  refine ⟨rfl,(Below.refl w.heap.size w).grown (row:=none) ⟨rfl,rfl,rfl,by simp,fun i hi _=>Sort.heap_grow_old _ _ (by simpa using hi)⟩ (Nat.le_refl _) (fun i hi=>by cases hi)⟩
 ·rw [if_neg hl] at h
  exact absurd h (by simp)
/-! ### impl_FormatInt: function 108 -/
def impl_FormatInt.f (a0:Int):Option (ByteArray):=(strconv_Itoa.f a0).bind fun t317=>(some t317)
set_option maxHeartbeats 8000000 in
set_option maxRecDepth 100000 in
theorem impl_FormatInt.calls (a0:Int) (r:ByteArray) (w:World) (hld:LD w) (h:impl_FormatInt.f a0=some r) :
    Calls Tryz.prog 108 #[.int .i64 a0] w fun e w'=>e=.returned (.string r)∧Below w.heap.size w w':=by
 have HLD:=Aside0.mk hld
 clear hld
 have HB:=Aside0.mk (Below.refl w.heap.size w)
 have H:((strconv_Itoa.f a0).bind fun t317=>(some t317))=some r:=h
 clear h
 replace H:=bnd_ H;obtain ⟨t317,A2,H⟩:=H
 obtain rfl:=Option.some.inj H
 go_enter Tryz.func108,Tryz.ntmps108
 go_wp2_with (first|((with_reducible refine gate_callee (f:=128) rfl ?_);refine goesL_ (some 4) rfl rfl Tryz.func128 krT_ rfl #[.int .i64 a0] rfl agT_ ?_;(with_reducible refine (strconv_Itoa.calls a0 t317 _ ?ldq A2.out).mono ?_);(case ldq=>exact LD_below HLD.out (h_HB HB.out));rintro e w3 ⟨rfl,hb⟩;refine ⟨_,rfl,?_⟩;replace HB:=Aside0.mk (below_step (h_HB HB.out) hb);(try clear hb)))
 go_ret
 exact ⟨eT_,h_HB HB.out⟩
/-! ### impl_parseWithin: function 112 -/
-- needs impl.FormatInt
def impl_parseWithin.f (a0:ByteArray) (a1 a2:Int):Option (Int × Bool) :=
 if a0.size≤140737488355328 then
  match Lib.atoiAll a0.data.toList with
  | .ok v=>if v<a1 then some (0,false) else if v>a2 then some (0,false) else (impl_FormatInt.f v).bind fun t=>if t.toList=a0.toList then some (v,true) else some (0,false)
  | _=>some (0,false)
 else none
theorem pw_below_ok {w w':World} (h:w'=w∨∃ t,w'=Lib.bytesWorld w 5 t):Below w.heap.size w w':=by
 rcases h with rfl|⟨t,rfl⟩
 ·exact Below.refl _ _
 ·exact Lib.bytesWorld_below _ _ _
set_option maxHeartbeats 8000000 in
set_option maxRecDepth 100000 in
theorem impl_parseWithin.calls (a0:ByteArray) (a1 a2:Int) (r1:Int) (r2:Bool) (w:World) (hld:LD w) (h:impl_parseWithin.f a0 a1 a2=some (r1,r2)) :
    Calls Tryz.prog 112 #[.string a0,.int .i64 a1,.int .i64 a2] w fun e w'=>e=.returned (.tuple #[.int .i64 r1,.bool r2])∧Below w.heap.size w w':=by
 unfold impl_parseWithin.f at h
 by_cases hl:a0.size≤140737488355328
 rotate_left
 ·rw [if_neg hl] at h;cases h
 rw [if_pos hl] at h
 obtain ⟨evS,hS,hS'⟩:=hld.errS
 obtain ⟨evR,hR,hR'⟩:=hld.errR
 rcases he:Lib.atoiAll a0.data.toList with v|_|_
 ·rw [he] at h;simp only at h
  have HC:=Aside0.mk (YtekegbacnagbcaaGreatDoorShelf.strconv_Atoi_ok a0 (by omega) v he w)
  have HLD:=Aside0.mk hld
  clear hld hS hS' hR hR' he
  by_cases c1:v<a1
  ·rw [if_pos c1] at h;simp only [Option.some.injEq,Prod.mk.injEq] at h;obtain ⟨rfl,rfl⟩:=h
   have c1b:decide (v<a1)=true:=decide_eq_true c1
   go_enter Tryz.func112,Tryz.ntmps112
   (go_wp2_with (go_at_call 130;refine HC.out.mono ?_;rintro e w1 ⟨rfl,hb⟩))<;>try (exfalso;omega)
   go_ret2
   exact ⟨rfl,pw_below_ok hb⟩
  rw [if_neg c1] at h
  have c1b:decide (v<a1)=false:=decide_eq_false c1
  by_cases c2:v>a2
  ·rw [if_pos c2] at h;simp only [Option.some.injEq,Prod.mk.injEq] at h;obtain ⟨rfl,rfl⟩:=h
   have c2b:decide (a2<v)=true:=decide_eq_true c2
   go_enter Tryz.func112,Tryz.ntmps112
   (go_wp2_with (go_at_call 130;refine HC.out.mono ?_;rintro e w1 ⟨rfl,hb⟩))<;>try (exfalso;omega)
   go_ret2
   exact ⟨rfl,pw_below_ok hb⟩
  rw [if_neg c2] at h
  have c2b:decide (a2<v)=false:=decide_eq_false c2
  obtain ⟨t,ht,h⟩:=Option.bind_eq_some_iff.mp h
  have HT:=Aside0.mk ht
  clear ht
  by_cases c3:t.toList=a0.toList
  ·rw [if_pos c3] at h;simp only [Option.some.injEq,Prod.mk.injEq] at h;obtain ⟨rfl,rfl⟩:=h
   have c3a:(t.toList==a0.toList)=true:=beq_iff_eq.mpr c3
   have c3b:(t.toList != a0.toList)=false:=bne_eq_false_iff_eq.mpr c3
   go_enter Tryz.func112,Tryz.ntmps112
   (go_wp2_with (first|(go_at_call 130;refine HC.out.mono ?_;rintro e w1 ⟨rfl,hb0⟩;have hb:=pw_below_ok hb0;clear hb0)|(go_at_call 108;refine (impl_FormatInt.calls v t _ (LD_below HLD.out hb) HT.out).mono ?_;rintro e w2 ⟨rfl,hb2⟩)))<;>try (exfalso;omega)
   go_ret2
   exact ⟨rfl,below_step hb hb2⟩
  rw [if_neg c3] at h;simp only [Option.some.injEq,Prod.mk.injEq] at h;obtain ⟨rfl,rfl⟩:=h
  have c3a:(t.toList==a0.toList)=false:=beq_eq_false_iff_ne.mpr c3
  have c3b:(t.toList != a0.toList)=true:=by simp [bne,c3a]
  go_enter Tryz.func112,Tryz.ntmps112
  (go_wp2_with (first|(go_at_call 130;refine HC.out.mono ?_;rintro e w1 ⟨rfl,hb0⟩;have hb:=pw_below_ok hb0;clear hb0)|(go_at_call 108;refine (impl_FormatInt.calls v t _ (LD_below HLD.out hb) HT.out).mono ?_;rintro e w2 ⟨rfl,hb2⟩)))<;>try (exfalso;omega)
  go_ret2
  exact ⟨rfl,below_step hb hb2⟩
 ·rw [he] at h;simp only [Option.some.injEq,Prod.mk.injEq] at h;obtain ⟨rfl,rfl⟩:=h
  have HC:=Aside0.mk (YtekegbacnagbcaaGreatDoorShelf.strconv_Atoi_bad a0 (by omega) (by rw [he];intro v q;cases q) (by rw [he];intro q;cases q) evS w hS hS')
  clear hld hS hS' hR hR' he
  go_enter Tryz.func112,Tryz.ntmps112
  go_wp2_with (go_at_call 130;refine HC.out.mono ?_;rintro e w1 ⟨q,rfl,-,-,hb⟩)
  go_ret2
  exact ⟨rfl,hb⟩
 ·rw [he] at h;simp only [Option.some.injEq,Prod.mk.injEq] at h;obtain ⟨rfl,rfl⟩:=h
  have HC:=Aside0.mk (YtekegbacnagbcaaGreatDoorShelf.strconv_Atoi_range a0 (by omega) he evR w hR hR')
  clear hld hS hS' hR hR' he
  go_enter Tryz.func112,Tryz.ntmps112
  go_wp2_with (go_at_call 130;refine HC.out.mono ?_;rintro e w1 ⟨q,rfl,-,-,hb⟩)
  go_ret2
  exact ⟨rfl,hb⟩
/-! ### impl_ParseNumber: function 60 -/
def impl_ParseNumber.f (a0:ByteArray):Option (Int × Bool):=(impl_parseWithin.f a0 0 999999).bind fun bt318=>(some (bt318.1,bt318.2))
set_option maxHeartbeats 8000000 in
set_option maxRecDepth 100000 in
theorem impl_ParseNumber.calls (a0:ByteArray) (r1:Int) (r2:Bool) (w:World) (hld:LD w) (h:impl_ParseNumber.f a0=some (r1,r2)) :
    Calls Tryz.prog 60 #[.string a0] w fun e w'=>e=.returned (.tuple #[.int .i64 r1,.bool r2])∧Below w.heap.size w w':=by
 have HLD:=Aside0.mk hld
 clear hld
 have HB:=Aside0.mk (Below.refl w.heap.size w)
 have H:((impl_parseWithin.f a0 0 999999).bind fun bt318=>(some (bt318.1,bt318.2)))=some (r1,r2):=h
 clear h
 replace H:=bnd_ H;obtain ⟨⟨t318,t319⟩,A2,H⟩:=H;dsimp only at H
 simp only [Option.some.injEq,Prod.mk.injEq] at H
 obtain ⟨rfl,rfl⟩:=H
 go_enter Tryz.func60,Tryz.ntmps60
 go_wp2_with (first|((with_reducible refine gate_callee (f:=112) rfl ?_);refine goesL_ (some 5) rfl rfl Tryz.func112 krT_ rfl #[.string a0,.int .i64 0,.int .i64 999999] rfl agT_ ?_;(with_reducible refine (impl_parseWithin.calls a0 0 999999 t318 t319 _ ?ldq A2.out).mono ?_);(case ldq=>exact LD_below HLD.out (h_HB HB.out));rintro e w3 ⟨rfl,hb⟩;refine ⟨_,rfl,?_⟩;replace HB:=Aside0.mk (below_step (h_HB HB.out) hb);(try clear hb)))
 go_ret2
 exact ⟨eT_,h_HB HB.out⟩
/-! ### impl_ParseMatroid: function 7 -/
def impl_ParseMatroid.f (k:Nat) (a0:ByteArray):Option (Int × List Int × Bool):=(impl_SplitByte.f a0 32).bind fun t321=>(if (t321.length:Int)=2 then (if 0<(t321.length:Int) then ((impl_ParseNumber.f (rdOf ByteArray.empty t321 0)).bind fun bt325=>(if 1<(t321.length:Int) then ((impl_ParseFamily.f k bt325.1 (rdOf ByteArray.empty t321 1)).bind fun bt328=>(if bt325.2=true then (if bt328.2=true then ((impl_IsMatroid.f k bt325.1 bt328.1).bind fun t333=>(if t333=true then (some (bt325.1,bt328.1,true)) else (some (0,([]:List Int),false)))) else (some (0,([]:List Int),false))) else (some (0,([]:List Int),false)))) else (none))) else (none)) else (some (0,([]:List Int),false)))
set_option maxHeartbeats 8000000 in
set_option maxRecDepth 100000 in
theorem impl_ParseMatroid.calls (k:Nat) (a0:ByteArray) (r1:Int) (r2:List Int) (r3:Bool) (w:World) (hld:LD w) (h:impl_ParseMatroid.f k a0=some (r1,r2,r3)) :
    Calls Tryz.prog 7 #[.string a0] w fun e w'=>∃ v1_:Value,e=.returned (.tuple #[.agg #[.int .i64 r1,v1_],.bool r3])∧Kd.R (Kd.int .i64) 3 w' w.heap.size (fun _=>True) v1_ r2∧Below w.heap.size w w':=by
 have HLD:=Aside0.mk hld
 clear hld
 have hu24:=Tryz.underlying24
 have HB:=Aside0.mk (Below.refl w.heap.size w)
 unfold impl_ParseMatroid.f at h
 have H:=h
 clear h
 replace H:=bnd_ H;obtain ⟨t321,A2,H⟩:=H
 by_cases c3:(t321.length:Int)=2
 rotate_left
 ·rw [if_neg c3] at H
  have c3b0:((t321.length:Int)==2)=false:=beq_eq_false_iff_ne.mpr c3
  have c3b1:((t321.length:Int) != 2)=true:=bne_iff_ne.mpr c3
  simp only [Option.some.injEq,Prod.mk.injEq] at H
  obtain ⟨rfl,rfl,rfl⟩:=H
  go_enter Tryz.func7,Tryz.ntmps7
  go_wp2_with (first|((with_reducible refine gate_dst (N:=2) rfl ?_);refine bx_ (N:=2) (cs:=#[.int .i64 0,.slice none 0 0]) (t:=24) ?_;intro gb320 hg w55 hbox hb;have BK320:=Aside0.mk (hbox);have GW320:=Aside0.mk (gw_ hg (h_HB HB.out));have GE320:=Aside0.mk (gw_ hg (h_HB HB.out));replace HB:=Aside0.mk (below_step (h_HB HB.out) hb);clear hb hbox hg)|((with_reducible refine gate_callee (f:=59) rfl ?_);refine goesL_ (some 11) rfl rfl Tryz.func59 krT_ rfl #[.string a0,.int .u8 32] rfl agT_ ?_;(with_reducible refine (impl_SplitByte.calls a0 32 t321 _ ?ldq A2.out).mono ?_);(case ldq=>exact LD_below HLD.out (h_HB HB.out));rintro e w56 ⟨v322,rfl,ho0,hb⟩;refine ⟨_,rfl,?_⟩;have HO323:=Aside0.mk (Kd.R_lower ho0 (below_size (h_HB HB.out)));replace BK320:=Aside0.mk (blkB_ BK320.out hb);replace HB:=Aside0.mk (below_step (h_HB HB.out) hb);(try clear hb);(try clear hb2);(try clear hk);(try clear hi);(try clear ho0);obtain ⟨Ao57,co57,eo57⟩:=Kd.R_slice HO323.out;subst eo57;obtain ⟨hcz58_0,hcz58_1,hfz58_0,hfz58_1⟩:=bz2_ BK320.out))
  refine bodyPost_ret (results_ct rfl _ _ gb320 24 #[.int .i64 0,.slice none 0 0] (0,0) _ rfl (by (with_reducible repeat (first|refine blk_drewN ?_ _|refine blk_drew ?_|refine blk_alloc ?_ _));refine blk_put (cs:=#[.int .i64 0,.slice none 0 0]) ?_ 1 _ rfl;(with_reducible repeat (first|refine blk_drewN ?_ _|refine blk_drew ?_|refine blk_alloc ?_ _));refine blk_put (cs:=#[.int .i64 0,.slice none 0 0]) ?_ 0 _ rfl;exact bkC_ BK320.out) Tryz.underlying24 rfl krT_) rfl ?_
  exact ⟨_,eT_,by first|exact Kd.R_nil _ _ _ _ _|exact Kd.N_nil _ _ _ _ _|exact Kd.V_nil _ _ _ _ _|exact Kd.Q_nil _ _ _ _ _|exact Kd.S_nil _ _ _ _ _,h_HB HB.out⟩
 rw [if_pos c3] at H
 have c3b0:((t321.length:Int)==2)=true:=beq_iff_eq.mpr c3
 have c3b1:((t321.length:Int) != 2)=false:=bne_eq_false_iff_eq.mpr c3
 clear c3
 by_cases c4:0<(t321.length:Int)
 rotate_left
 ·rw [if_neg c4] at H
  exact absurd H (by simp)
 rw [if_pos c4] at H
 have c4b0:decide (0<(t321.length:Int))=true:=decide_eq_true c4
 have c4b1:decide (0<t321.length)=true:=decide_eq_true (by omega)
 clear c4
 replace H:=bnd_ H;obtain ⟨⟨t325,t326⟩,A5,H⟩:=H;dsimp only at H
 by_cases c6:1<(t321.length:Int)
 rotate_left
 ·rw [if_neg c6] at H
  exact absurd H (by simp)
 rw [if_pos c6] at H
 have c6b0:decide (1<(t321.length:Int))=true:=decide_eq_true c6
 have c6b1:decide (1<t321.length)=true:=decide_eq_true (by omega)
 clear c6
 replace H:=bnd_ H;obtain ⟨⟨t328,t329⟩,A7,H⟩:=H;dsimp only at H
 by_cases c8:t326=true
 rotate_left
 ·replace c8:=Bool.eq_false_iff.mpr c8
  subst c8
  replace H:=bF_ H
  simp only [Option.some.injEq,Prod.mk.injEq] at H
  obtain ⟨rfl,rfl,rfl⟩:=H
  go_enter Tryz.func7,Tryz.ntmps7
  go_wp2_with (first|((with_reducible refine gate_dst (N:=2) rfl ?_);refine bx_ (N:=2) (cs:=#[.int .i64 0,.slice none 0 0]) (t:=24) ?_;intro gb320 hg w45 hbox hb;have BK320:=Aside0.mk (hbox);have GW320:=Aside0.mk (gw_ hg (h_HB HB.out));have GE320:=Aside0.mk (gw_ hg (h_HB HB.out));replace HB:=Aside0.mk (below_step (h_HB HB.out) hb);clear hb hbox hg)|((with_reducible refine gate_callee (f:=59) rfl ?_);refine goesL_ (some 11) rfl rfl Tryz.func59 krT_ rfl #[.string a0,.int .u8 32] rfl agT_ ?_;(with_reducible refine (impl_SplitByte.calls a0 32 t321 _ ?ldq A2.out).mono ?_);(case ldq=>exact LD_below HLD.out (h_HB HB.out));rintro e w46 ⟨v322,rfl,ho0,hb⟩;refine ⟨_,rfl,?_⟩;have HO323:=Aside0.mk (Kd.R_lower ho0 (below_size (h_HB HB.out)));replace BK320:=Aside0.mk (blkB_ BK320.out hb);replace HB:=Aside0.mk (below_step (h_HB HB.out) hb);(try clear hb);(try clear hb2);(try clear hk);(try clear hi);(try clear ho0);obtain ⟨Ao47,co47,eo47⟩:=Kd.R_slice HO323.out;subst eo47;have p324:0≤(0:Int):=(by omega);have q324:0<(t321.length:Int):=odT_;obtain ⟨ad324,e324,hx324_0⟩:=Kd.at_string (Kd.R_reads' HO323.out).2.2 0 p324 q324;cases e324;have qi324:(0<t321.length)=True:=eq_true (by omega);(try rw [show ((0:Int)).toNat=0 from rfl] at hx324_0);(try rw [Addr.add_zero'] at hx324_0);replace p324:=eq_true p324;replace q324:=eq_true q324)|((with_reducible refine gate_callee (f:=60) rfl ?_);refine goesL_ (some 20) rfl rfl Tryz.func60 krT_ rfl #[.string (rdOf ByteArray.empty t321 0)] rfl agT_ ?_;(with_reducible refine (impl_ParseNumber.calls (rdOf ByteArray.empty t321 0) t325 false _ ?ldq A5.out).mono ?_);(case ldq=>exact LD_below HLD.out (h_HB HB.out));rintro e w48 ⟨rfl,hb⟩;refine ⟨_,rfl,?_⟩;replace HO323:=Aside0.mk (Kd.R_below (kRC_ HO323.out) hb);replace BK320:=Aside0.mk (blkB_ BK320.out hb);replace HB:=Aside0.mk (below_step (h_HB HB.out) hb);(try clear hb);have p327:0≤(1:Int):=(by omega);have q327:1<(t321.length:Int):=odT_;obtain ⟨ad327,e327,hx327_0⟩:=Kd.at_string (Kd.R_reads' HO323.out).2.2 1 p327 q327;obtain rfl:ad324=ad327:=(by injection e327);(try simp only [show (1:Int).toNat=1 from rfl,Nat.reduceMul,Nat.reduceEqDiff,Go.Addr.add,↓reduceIte] at hx327_0);have qi327:(1<t321.length)=True:=eq_true (by omega);(try rw [show ((1:Int)).toNat=1 from rfl] at hx327_0);replace p327:=eq_true p327;replace q327:=eq_true q327)|((with_reducible refine gate_callee (f:=35) rfl ?_);refine goesL_ (some 28) rfl rfl Tryz.func35 krT_ rfl #[.int .i64 t325,.string (rdOf ByteArray.empty t321 1)] rfl agT_ ?_;(with_reducible refine (impl_ParseFamily.calls k t325 (rdOf ByteArray.empty t321 1) t328 t329 _ ?ldq A7.out).mono ?_);(case ldq=>exact LD_below HLD.out (h_HB HB.out));rintro e w49 ⟨v330,rfl,ho0,hb⟩;refine ⟨_,rfl,?_⟩;replace HO323:=Aside0.mk (Kd.R_below (kRC_ HO323.out) hb);have HO331:=Aside0.mk (Kd.R_lower ho0 (below_size (h_HB HB.out)));replace BK320:=Aside0.mk (blkB_ BK320.out hb);replace HB:=Aside0.mk (below_step (h_HB HB.out) hb);(try clear hb);(try clear hb2);(try clear hk);(try clear hi);(try clear ho0);obtain ⟨Ao50,co50,eo50⟩:=Kd.R_slice HO331.out;subst eo50)|((with_reducible refine gate_dst (N:=9) rfl ?_);refine bx_ (N:=9) (cs:=#[.int .i64 0,.slice none 0 0]) (t:=24) ?_;intro gb332 hg w51 hbox hb;replace HO323:=Aside0.mk (Kd.R_below (kRC_ HO323.out) hb);replace HO331:=Aside0.mk (Kd.R_below (kRC_ HO331.out) hb);have BK332:=Aside0.mk (hbox);have GW332:=Aside0.mk (gw_ hg (h_HB HB.out));have GE332:=Aside0.mk (gw_ hg (h_HB HB.out));replace HB:=Aside0.mk (below_step (h_HB HB.out) hb);have NB320_332:=Aside0.mk (nbl_ hg (bkC_ BK320.out));have NB332_320:=Aside0.mk (nbg_ hg (bkC_ BK320.out));replace BK320:=Aside0.mk (blkB_ BK320.out hb);clear hb hbox hg;have hnb52:=NB332_320.out;have hnc52:=NB320_332.out;obtain ⟨hcz53_0,hcz53_1,hfz53_0,hfz53_1⟩:=bz2_ BK332.out;obtain ⟨hcz54_0,hcz54_1,hfz54_0,hfz54_1⟩:=bz2_ BK320.out))
  refine bodyPost_ret (results_ct rfl _ _ gb320 24 #[.int .i64 0,.slice none 0 0] (0,0) _ rfl (by (with_reducible repeat (first|refine blk_drewN ?_ _|refine blk_drew ?_|refine blk_alloc ?_ _));refine blk_put (cs:=#[.int .i64 0,.slice none 0 0]) ?_ 1 _ rfl;(with_reducible repeat (first|refine blk_drewN ?_ _|refine blk_drew ?_|refine blk_alloc ?_ _));refine blk_put (cs:=#[.int .i64 0,.slice none 0 0]) ?_ 0 _ rfl;exact bkC_ BK320.out) Tryz.underlying24 rfl krT_) rfl ?_
  exact ⟨_,eT_,by first|exact Kd.R_nil _ _ _ _ _|exact Kd.N_nil _ _ _ _ _|exact Kd.V_nil _ _ _ _ _|exact Kd.Q_nil _ _ _ _ _|exact Kd.S_nil _ _ _ _ _,h_HB HB.out⟩
 subst c8
 replace H:=bT_ H
 by_cases c9:t329=true
 ·subst c9
  replace H:=bT_ H
  replace H:=bnd_ H;obtain ⟨t333,A10,H⟩:=H
  by_cases c11:t333=true
  ·subst c11
   replace H:=bT_ H
   simp only [Option.some.injEq,Prod.mk.injEq] at H
   obtain ⟨rfl,rfl,rfl⟩:=H
   go_enter Tryz.func7,Tryz.ntmps7
   go_wp2_with (first|((with_reducible refine gate_dst (N:=2) rfl ?_);refine bx_ (N:=2) (cs:=#[.int .i64 0,.slice none 0 0]) (t:=24) ?_;intro gb320 hg w12 hbox hb;have BK320:=Aside0.mk (hbox);have GW320:=Aside0.mk (gw_ hg (h_HB HB.out));have GE320:=Aside0.mk (gw_ hg (h_HB HB.out));replace HB:=Aside0.mk (below_step (h_HB HB.out) hb);clear hb hbox hg)|((with_reducible refine gate_callee (f:=59) rfl ?_);refine goesL_ (some 11) rfl rfl Tryz.func59 krT_ rfl #[.string a0,.int .u8 32] rfl agT_ ?_;(with_reducible refine (impl_SplitByte.calls a0 32 t321 _ ?ldq A2.out).mono ?_);(case ldq=>exact LD_below HLD.out (h_HB HB.out));rintro e w13 ⟨v322,rfl,ho0,hb⟩;refine ⟨_,rfl,?_⟩;have HO323:=Aside0.mk (Kd.R_lower ho0 (below_size (h_HB HB.out)));replace BK320:=Aside0.mk (blkB_ BK320.out hb);replace HB:=Aside0.mk (below_step (h_HB HB.out) hb);(try clear hb);(try clear hb2);(try clear hk);(try clear hi);(try clear ho0);obtain ⟨Ao14,co14,eo14⟩:=Kd.R_slice HO323.out;subst eo14;have p324:0≤(0:Int):=(by omega);have q324:0<(t321.length:Int):=odT_;obtain ⟨ad324,e324,hx324_0⟩:=Kd.at_string (Kd.R_reads' HO323.out).2.2 0 p324 q324;cases e324;have qi324:(0<t321.length)=True:=eq_true (by omega);(try rw [show ((0:Int)).toNat=0 from rfl] at hx324_0);(try rw [Addr.add_zero'] at hx324_0);replace p324:=eq_true p324;replace q324:=eq_true q324)|((with_reducible refine gate_callee (f:=60) rfl ?_);refine goesL_ (some 20) rfl rfl Tryz.func60 krT_ rfl #[.string (rdOf ByteArray.empty t321 0)] rfl agT_ ?_;(with_reducible refine (impl_ParseNumber.calls (rdOf ByteArray.empty t321 0) t325 true _ ?ldq A5.out).mono ?_);(case ldq=>exact LD_below HLD.out (h_HB HB.out));rintro e w15 ⟨rfl,hb⟩;refine ⟨_,rfl,?_⟩;replace HO323:=Aside0.mk (Kd.R_below (kRC_ HO323.out) hb);replace BK320:=Aside0.mk (blkB_ BK320.out hb);replace HB:=Aside0.mk (below_step (h_HB HB.out) hb);(try clear hb);have p327:0≤(1:Int):=(by omega);have q327:1<(t321.length:Int):=odT_;obtain ⟨ad327,e327,hx327_0⟩:=Kd.at_string (Kd.R_reads' HO323.out).2.2 1 p327 q327;obtain rfl:ad324=ad327:=(by injection e327);(try simp only [show (1:Int).toNat=1 from rfl,Nat.reduceMul,Nat.reduceEqDiff,Go.Addr.add,↓reduceIte] at hx327_0);have qi327:(1<t321.length)=True:=eq_true (by omega);(try rw [show ((1:Int)).toNat=1 from rfl] at hx327_0);replace p327:=eq_true p327;replace q327:=eq_true q327)|((with_reducible refine gate_callee (f:=35) rfl ?_);refine goesL_ (some 28) rfl rfl Tryz.func35 krT_ rfl #[.int .i64 t325,.string (rdOf ByteArray.empty t321 1)] rfl agT_ ?_;(with_reducible refine (impl_ParseFamily.calls k t325 (rdOf ByteArray.empty t321 1) t328 true _ ?ldq A7.out).mono ?_);(case ldq=>exact LD_below HLD.out (h_HB HB.out));rintro e w16 ⟨v330,rfl,ho0,hb⟩;refine ⟨_,rfl,?_⟩;replace HO323:=Aside0.mk (Kd.R_below (kRC_ HO323.out) hb);have HO331:=Aside0.mk (Kd.R_lower ho0 (below_size (h_HB HB.out)));replace BK320:=Aside0.mk (blkB_ BK320.out hb);replace HB:=Aside0.mk (below_step (h_HB HB.out) hb);(try clear hb);(try clear hb2);(try clear hk);(try clear hi);(try clear ho0);obtain ⟨Ao17,co17,eo17⟩:=Kd.R_slice HO331.out;subst eo17)|((with_reducible refine gate_dst (N:=9) rfl ?_);refine bx_ (N:=9) (cs:=#[.int .i64 0,.slice none 0 0]) (t:=24) ?_;intro gb332 hg w18 hbox hb;replace HO323:=Aside0.mk (Kd.R_below (kRC_ HO323.out) hb);replace HO331:=Aside0.mk (Kd.R_below (kRC_ HO331.out) hb);have BK332:=Aside0.mk (hbox);have GW332:=Aside0.mk (gw_ hg (h_HB HB.out));have GE332:=Aside0.mk (gw_ hg (h_HB HB.out));replace HB:=Aside0.mk (below_step (h_HB HB.out) hb);have NB320_332:=Aside0.mk (nbl_ hg (bkC_ BK320.out));have NB332_320:=Aside0.mk (nbg_ hg (bkC_ BK320.out));replace BK320:=Aside0.mk (blkB_ BK320.out hb);clear hb hbox hg;have hnb19:=NB332_320.out;have hnc19:=NB320_332.out;obtain ⟨hcz20_0,hcz20_1,hfz20_0,hfz20_1⟩:=bz2_ BK332.out)|(go_at_call 44;(with_reducible refine (impl_IsMatroid.calls k t325 _ _ t328 true _ ?side1 ?side2 A10.out).mono ?_);(case side1=>refine (Kd.R_reads' (e:=3) (base:=w.heap.size) (ok:=fun k_=>True) (n:=t328.length) (c:=co17) ?_).2.2;exact (by (with_reducible repeat (first|apply Kd.R_alloc|apply Kd.R_drewN|apply Kd.R_drew));exact (Kd.R_mono (Kd.R_far (p:=⟨gb332,1,none⟩) (Kd.R_far (p:=⟨gb332,0,none⟩) (Kd.R_types HO331.out BK332.out (by decide)) (fun _ hk=>hk.2) (.int .i64 t325)) (fun _ hk=>hk.2) (.slice Ao17 t328.length co17)) (fun _ h_=>h_.1))));(case side2=>exact (Kd.R_reads' HO331.out).2.1);rintro e w21 ⟨rfl,hb⟩;replace HO323:=Aside0.mk (Kd.R_below (by (with_reducible repeat (first|apply Kd.R_alloc|apply Kd.R_drewN|apply Kd.R_drew));exact (Kd.R_mono (Kd.R_far (p:=⟨gb332,1,none⟩) (Kd.R_far (p:=⟨gb332,0,none⟩) (Kd.R_types HO323.out BK332.out (by decide)) (fun _ hk=>hk.2) (.int .i64 t325)) (fun _ hk=>hk.2) (.slice Ao17 t328.length co17)) (fun _ h_=>h_.1))) hb);replace HO331:=Aside0.mk (Kd.R_below (by (with_reducible repeat (first|apply Kd.R_alloc|apply Kd.R_drewN|apply Kd.R_drew));exact (Kd.R_mono (Kd.R_far (p:=⟨gb332,1,none⟩) (Kd.R_far (p:=⟨gb332,0,none⟩) (Kd.R_types HO331.out BK332.out (by decide)) (fun _ hk=>hk.2) (.int .i64 t325)) (fun _ hk=>hk.2) (.slice Ao17 t328.length co17)) (fun _ h_=>h_.1))) hb);replace BK320:=Aside0.mk (blkB_ BK320.out hb);replace BK332:=Aside0.mk (blk_below (g:=gb332) (o:=.cells #[.int .i64 t325,.slice Ao17 t328.length co17] 24 (0,0)) (by (with_reducible repeat (first|refine blk_drewN ?_ _|refine blk_drew ?_|refine blk_alloc ?_ _));refine blk_put (cs:=#[.int .i64 t325,.slice none 0 0]) ?_ 1 _ rfl;(with_reducible repeat (first|refine blk_drewN ?_ _|refine blk_drew ?_|refine blk_alloc ?_ _));refine blk_put (cs:=#[.int .i64 0,.slice none 0 0]) ?_ 0 _ rfl;exact bkC_ BK332.out) hb);replace HB:=Aside0.mk (below_step (h_HB HB.out) hb);(try clear hb);(try clear hb2);(try clear hk);(try clear hi);obtain ⟨hcz22_0,hcz22_1,hfz22_0,hfz22_1⟩:=bz2_ BK332.out;obtain ⟨hcz23_0,hcz23_1,hfz23_0,hfz23_1⟩:=bz2_ BK320.out))
   refine bodyPost_ret (results_ct rfl _ _ gb320 24 #[.int .i64 t325,.slice Ao17 t328.length co17] (0,0) _ rfl (by (with_reducible repeat (first|refine blk_drewN ?_ _|refine blk_drew ?_|refine blk_alloc ?_ _));refine blk_put (cs:=#[.int .i64 t325,.slice none 0 0]) ?_ 1 _ rfl;(with_reducible repeat (first|refine blk_drewN ?_ _|refine blk_drew ?_|refine blk_alloc ?_ _));refine blk_put (cs:=#[.int .i64 0,.slice none 0 0]) ?_ 0 _ rfl;exact bkC_ BK320.out) Tryz.underlying24 rfl krT_) rfl ?_
   exact ⟨_,eT_,by (with_reducible repeat (first|apply Kd.R_alloc|apply Kd.R_drewN|apply Kd.R_drew));exact Kd.R_mono (Kd.R_far (p:=⟨gb320,1,none⟩) (Kd.R_far (p:=⟨gb320,0,none⟩) (Kd.R_types HO331.out BK320.out (by decide)) (fun _ hk=>hk.2) (.int .i64 t325)) (fun _ hk=>hk.2) (.slice Ao17 t328.length co17)) (fun _ hk=>trivial),h_HB HB.out⟩
  replace c11:=Bool.eq_false_iff.mpr c11
  subst c11
  replace H:=bF_ H
  simp only [Option.some.injEq,Prod.mk.injEq] at H
  obtain ⟨rfl,rfl,rfl⟩:=H
  go_enter Tryz.func7,Tryz.ntmps7
  go_wp2_with (first|((with_reducible refine gate_dst (N:=2) rfl ?_);refine bx_ (N:=2) (cs:=#[.int .i64 0,.slice none 0 0]) (t:=24) ?_;intro gb320 hg w24 hbox hb;have BK320:=Aside0.mk (hbox);have GW320:=Aside0.mk (gw_ hg (h_HB HB.out));have GE320:=Aside0.mk (gw_ hg (h_HB HB.out));replace HB:=Aside0.mk (below_step (h_HB HB.out) hb);clear hb hbox hg)|((with_reducible refine gate_callee (f:=59) rfl ?_);refine goesL_ (some 11) rfl rfl Tryz.func59 krT_ rfl #[.string a0,.int .u8 32] rfl agT_ ?_;(with_reducible refine (impl_SplitByte.calls a0 32 t321 _ ?ldq A2.out).mono ?_);(case ldq=>exact LD_below HLD.out (h_HB HB.out));rintro e w25 ⟨v322,rfl,ho0,hb⟩;refine ⟨_,rfl,?_⟩;have HO323:=Aside0.mk (Kd.R_lower ho0 (below_size (h_HB HB.out)));replace BK320:=Aside0.mk (blkB_ BK320.out hb);replace HB:=Aside0.mk (below_step (h_HB HB.out) hb);(try clear hb);(try clear hb2);(try clear hk);(try clear hi);(try clear ho0);obtain ⟨Ao26,co26,eo26⟩:=Kd.R_slice HO323.out;subst eo26;have p324:0≤(0:Int):=(by omega);have q324:0<(t321.length:Int):=odT_;obtain ⟨ad324,e324,hx324_0⟩:=Kd.at_string (Kd.R_reads' HO323.out).2.2 0 p324 q324;cases e324;have qi324:(0<t321.length)=True:=eq_true (by omega);(try rw [show ((0:Int)).toNat=0 from rfl] at hx324_0);(try rw [Addr.add_zero'] at hx324_0);replace p324:=eq_true p324;replace q324:=eq_true q324)|((with_reducible refine gate_callee (f:=60) rfl ?_);refine goesL_ (some 20) rfl rfl Tryz.func60 krT_ rfl #[.string (rdOf ByteArray.empty t321 0)] rfl agT_ ?_;(with_reducible refine (impl_ParseNumber.calls (rdOf ByteArray.empty t321 0) t325 true _ ?ldq A5.out).mono ?_);(case ldq=>exact LD_below HLD.out (h_HB HB.out));rintro e w27 ⟨rfl,hb⟩;refine ⟨_,rfl,?_⟩;replace HO323:=Aside0.mk (Kd.R_below (kRC_ HO323.out) hb);replace BK320:=Aside0.mk (blkB_ BK320.out hb);replace HB:=Aside0.mk (below_step (h_HB HB.out) hb);(try clear hb);have p327:0≤(1:Int):=(by omega);have q327:1<(t321.length:Int):=odT_;obtain ⟨ad327,e327,hx327_0⟩:=Kd.at_string (Kd.R_reads' HO323.out).2.2 1 p327 q327;obtain rfl:ad324=ad327:=(by injection e327);(try simp only [show (1:Int).toNat=1 from rfl,Nat.reduceMul,Nat.reduceEqDiff,Go.Addr.add,↓reduceIte] at hx327_0);have qi327:(1<t321.length)=True:=eq_true (by omega);(try rw [show ((1:Int)).toNat=1 from rfl] at hx327_0);replace p327:=eq_true p327;replace q327:=eq_true q327)|((with_reducible refine gate_callee (f:=35) rfl ?_);refine goesL_ (some 28) rfl rfl Tryz.func35 krT_ rfl #[.int .i64 t325,.string (rdOf ByteArray.empty t321 1)] rfl agT_ ?_;(with_reducible refine (impl_ParseFamily.calls k t325 (rdOf ByteArray.empty t321 1) t328 true _ ?ldq A7.out).mono ?_);(case ldq=>exact LD_below HLD.out (h_HB HB.out));rintro e w28 ⟨v330,rfl,ho0,hb⟩;refine ⟨_,rfl,?_⟩;replace HO323:=Aside0.mk (Kd.R_below (kRC_ HO323.out) hb);have HO331:=Aside0.mk (Kd.R_lower ho0 (below_size (h_HB HB.out)));replace BK320:=Aside0.mk (blkB_ BK320.out hb);replace HB:=Aside0.mk (below_step (h_HB HB.out) hb);(try clear hb);(try clear hb2);(try clear hk);(try clear hi);(try clear ho0);obtain ⟨Ao29,co29,eo29⟩:=Kd.R_slice HO331.out;subst eo29)|((with_reducible refine gate_dst (N:=9) rfl ?_);refine bx_ (N:=9) (cs:=#[.int .i64 0,.slice none 0 0]) (t:=24) ?_;intro gb332 hg w30 hbox hb;replace HO323:=Aside0.mk (Kd.R_below (kRC_ HO323.out) hb);replace HO331:=Aside0.mk (Kd.R_below (kRC_ HO331.out) hb);have BK332:=Aside0.mk (hbox);have GW332:=Aside0.mk (gw_ hg (h_HB HB.out));have GE332:=Aside0.mk (gw_ hg (h_HB HB.out));replace HB:=Aside0.mk (below_step (h_HB HB.out) hb);have NB320_332:=Aside0.mk (nbl_ hg (bkC_ BK320.out));have NB332_320:=Aside0.mk (nbg_ hg (bkC_ BK320.out));replace BK320:=Aside0.mk (blkB_ BK320.out hb);clear hb hbox hg;have hnb31:=NB332_320.out;have hnc31:=NB320_332.out;obtain ⟨hcz32_0,hcz32_1,hfz32_0,hfz32_1⟩:=bz2_ BK332.out)|(go_at_call 44;(with_reducible refine (impl_IsMatroid.calls k t325 _ _ t328 false _ ?side1 ?side2 A10.out).mono ?_);(case side1=>refine (Kd.R_reads' (e:=3) (base:=w.heap.size) (ok:=fun k_=>True) (n:=t328.length) (c:=co29) ?_).2.2;exact (by (with_reducible repeat (first|apply Kd.R_alloc|apply Kd.R_drewN|apply Kd.R_drew));exact (Kd.R_mono (Kd.R_far (p:=⟨gb332,1,none⟩) (Kd.R_far (p:=⟨gb332,0,none⟩) (Kd.R_types HO331.out BK332.out (by decide)) (fun _ hk=>hk.2) (.int .i64 t325)) (fun _ hk=>hk.2) (.slice Ao29 t328.length co29)) (fun _ h_=>h_.1))));(case side2=>exact (Kd.R_reads' HO331.out).2.1);rintro e w33 ⟨rfl,hb⟩;replace HO323:=Aside0.mk (Kd.R_below (by (with_reducible repeat (first|apply Kd.R_alloc|apply Kd.R_drewN|apply Kd.R_drew));exact (Kd.R_mono (Kd.R_far (p:=⟨gb332,1,none⟩) (Kd.R_far (p:=⟨gb332,0,none⟩) (Kd.R_types HO323.out BK332.out (by decide)) (fun _ hk=>hk.2) (.int .i64 t325)) (fun _ hk=>hk.2) (.slice Ao29 t328.length co29)) (fun _ h_=>h_.1))) hb);replace HO331:=Aside0.mk (Kd.R_below (by (with_reducible repeat (first|apply Kd.R_alloc|apply Kd.R_drewN|apply Kd.R_drew));exact (Kd.R_mono (Kd.R_far (p:=⟨gb332,1,none⟩) (Kd.R_far (p:=⟨gb332,0,none⟩) (Kd.R_types HO331.out BK332.out (by decide)) (fun _ hk=>hk.2) (.int .i64 t325)) (fun _ hk=>hk.2) (.slice Ao29 t328.length co29)) (fun _ h_=>h_.1))) hb);replace BK320:=Aside0.mk (blkB_ BK320.out hb);replace BK332:=Aside0.mk (blk_below (g:=gb332) (o:=.cells #[.int .i64 t325,.slice Ao29 t328.length co29] 24 (0,0)) (by (with_reducible repeat (first|refine blk_drewN ?_ _|refine blk_drew ?_|refine blk_alloc ?_ _));refine blk_put (cs:=#[.int .i64 t325,.slice none 0 0]) ?_ 1 _ rfl;(with_reducible repeat (first|refine blk_drewN ?_ _|refine blk_drew ?_|refine blk_alloc ?_ _));refine blk_put (cs:=#[.int .i64 0,.slice none 0 0]) ?_ 0 _ rfl;exact bkC_ BK332.out) hb);replace HB:=Aside0.mk (below_step (h_HB HB.out) hb);(try clear hb);(try clear hb2);(try clear hk);(try clear hi);obtain ⟨hcz34_0,hcz34_1,hfz34_0,hfz34_1⟩:=bz2_ BK320.out))
  refine bodyPost_ret (results_ct rfl _ _ gb320 24 #[.int .i64 0,.slice none 0 0] (0,0) _ rfl (by (with_reducible repeat (first|refine blk_drewN ?_ _|refine blk_drew ?_|refine blk_alloc ?_ _));refine blk_put (cs:=#[.int .i64 0,.slice none 0 0]) ?_ 1 _ rfl;(with_reducible repeat (first|refine blk_drewN ?_ _|refine blk_drew ?_|refine blk_alloc ?_ _));refine blk_put (cs:=#[.int .i64 0,.slice none 0 0]) ?_ 0 _ rfl;exact bkC_ BK320.out) Tryz.underlying24 rfl krT_) rfl ?_
  exact ⟨_,eT_,by first|exact Kd.R_nil _ _ _ _ _|exact Kd.N_nil _ _ _ _ _|exact Kd.V_nil _ _ _ _ _|exact Kd.Q_nil _ _ _ _ _|exact Kd.S_nil _ _ _ _ _,h_HB HB.out⟩
 ·replace c9:=Bool.eq_false_iff.mpr c9
  subst c9
  replace H:=bF_ H
  simp only [Option.some.injEq,Prod.mk.injEq] at H
  obtain ⟨rfl,rfl,rfl⟩:=H
  go_enter Tryz.func7,Tryz.ntmps7
  go_wp2_with (first|((with_reducible refine gate_dst (N:=2) rfl ?_);refine bx_ (N:=2) (cs:=#[.int .i64 0,.slice none 0 0]) (t:=24) ?_;intro gb320 hg w35 hbox hb;have BK320:=Aside0.mk (hbox);have GW320:=Aside0.mk (gw_ hg (h_HB HB.out));have GE320:=Aside0.mk (gw_ hg (h_HB HB.out));replace HB:=Aside0.mk (below_step (h_HB HB.out) hb);clear hb hbox hg)|((with_reducible refine gate_callee (f:=59) rfl ?_);refine goesL_ (some 11) rfl rfl Tryz.func59 krT_ rfl #[.string a0,.int .u8 32] rfl agT_ ?_;(with_reducible refine (impl_SplitByte.calls a0 32 t321 _ ?ldq A2.out).mono ?_);(case ldq=>exact LD_below HLD.out (h_HB HB.out));rintro e w36 ⟨v322,rfl,ho0,hb⟩;refine ⟨_,rfl,?_⟩;have HO323:=Aside0.mk (Kd.R_lower ho0 (below_size (h_HB HB.out)));replace BK320:=Aside0.mk (blkB_ BK320.out hb);replace HB:=Aside0.mk (below_step (h_HB HB.out) hb);(try clear hb);(try clear hb2);(try clear hk);(try clear hi);(try clear ho0);obtain ⟨Ao37,co37,eo37⟩:=Kd.R_slice HO323.out;subst eo37;have p324:0≤(0:Int):=(by omega);have q324:0<(t321.length:Int):=odT_;obtain ⟨ad324,e324,hx324_0⟩:=Kd.at_string (Kd.R_reads' HO323.out).2.2 0 p324 q324;cases e324;have qi324:(0<t321.length)=True:=eq_true (by omega);(try rw [show ((0:Int)).toNat=0 from rfl] at hx324_0);(try rw [Addr.add_zero'] at hx324_0);replace p324:=eq_true p324;replace q324:=eq_true q324)|((with_reducible refine gate_callee (f:=60) rfl ?_);refine goesL_ (some 20) rfl rfl Tryz.func60 krT_ rfl #[.string (rdOf ByteArray.empty t321 0)] rfl agT_ ?_;(with_reducible refine (impl_ParseNumber.calls (rdOf ByteArray.empty t321 0) t325 true _ ?ldq A5.out).mono ?_);(case ldq=>exact LD_below HLD.out (h_HB HB.out));rintro e w38 ⟨rfl,hb⟩;refine ⟨_,rfl,?_⟩;replace HO323:=Aside0.mk (Kd.R_below (kRC_ HO323.out) hb);replace BK320:=Aside0.mk (blkB_ BK320.out hb);replace HB:=Aside0.mk (below_step (h_HB HB.out) hb);(try clear hb);have p327:0≤(1:Int):=(by omega);have q327:1<(t321.length:Int):=odT_;obtain ⟨ad327,e327,hx327_0⟩:=Kd.at_string (Kd.R_reads' HO323.out).2.2 1 p327 q327;obtain rfl:ad324=ad327:=(by injection e327);(try simp only [show (1:Int).toNat=1 from rfl,Nat.reduceMul,Nat.reduceEqDiff,Go.Addr.add,↓reduceIte] at hx327_0);have qi327:(1<t321.length)=True:=eq_true (by omega);(try rw [show ((1:Int)).toNat=1 from rfl] at hx327_0);replace p327:=eq_true p327;replace q327:=eq_true q327)|((with_reducible refine gate_callee (f:=35) rfl ?_);refine goesL_ (some 28) rfl rfl Tryz.func35 krT_ rfl #[.int .i64 t325,.string (rdOf ByteArray.empty t321 1)] rfl agT_ ?_;(with_reducible refine (impl_ParseFamily.calls k t325 (rdOf ByteArray.empty t321 1) t328 false _ ?ldq A7.out).mono ?_);(case ldq=>exact LD_below HLD.out (h_HB HB.out));rintro e w39 ⟨v330,rfl,ho0,hb⟩;refine ⟨_,rfl,?_⟩;replace HO323:=Aside0.mk (Kd.R_below (kRC_ HO323.out) hb);have HO331:=Aside0.mk (Kd.R_lower ho0 (below_size (h_HB HB.out)));replace BK320:=Aside0.mk (blkB_ BK320.out hb);replace HB:=Aside0.mk (below_step (h_HB HB.out) hb);(try clear hb);(try clear hb2);(try clear hk);(try clear hi);(try clear ho0);obtain ⟨Ao40,co40,eo40⟩:=Kd.R_slice HO331.out;subst eo40)|((with_reducible refine gate_dst (N:=9) rfl ?_);refine bx_ (N:=9) (cs:=#[.int .i64 0,.slice none 0 0]) (t:=24) ?_;intro gb332 hg w41 hbox hb;replace HO323:=Aside0.mk (Kd.R_below (kRC_ HO323.out) hb);replace HO331:=Aside0.mk (Kd.R_below (kRC_ HO331.out) hb);have BK332:=Aside0.mk (hbox);have GW332:=Aside0.mk (gw_ hg (h_HB HB.out));have GE332:=Aside0.mk (gw_ hg (h_HB HB.out));replace HB:=Aside0.mk (below_step (h_HB HB.out) hb);have NB320_332:=Aside0.mk (nbl_ hg (bkC_ BK320.out));have NB332_320:=Aside0.mk (nbg_ hg (bkC_ BK320.out));replace BK320:=Aside0.mk (blkB_ BK320.out hb);clear hb hbox hg;have hnb42:=NB332_320.out;have hnc42:=NB320_332.out;obtain ⟨hcz43_0,hcz43_1,hfz43_0,hfz43_1⟩:=bz2_ BK332.out;obtain ⟨hcz44_0,hcz44_1,hfz44_0,hfz44_1⟩:=bz2_ BK320.out))
  refine bodyPost_ret (results_ct rfl _ _ gb320 24 #[.int .i64 0,.slice none 0 0] (0,0) _ rfl (by (with_reducible repeat (first|refine blk_drewN ?_ _|refine blk_drew ?_|refine blk_alloc ?_ _));refine blk_put (cs:=#[.int .i64 0,.slice none 0 0]) ?_ 1 _ rfl;(with_reducible repeat (first|refine blk_drewN ?_ _|refine blk_drew ?_|refine blk_alloc ?_ _));refine blk_put (cs:=#[.int .i64 0,.slice none 0 0]) ?_ 0 _ rfl;exact bkC_ BK320.out) Tryz.underlying24 rfl krT_) rfl ?_
  exact ⟨_,eT_,by first|exact Kd.R_nil _ _ _ _ _|exact Kd.N_nil _ _ _ _ _|exact Kd.V_nil _ _ _ _ _|exact Kd.Q_nil _ _ _ _ _|exact Kd.S_nil _ _ _ _ _,h_HB HB.out⟩
/-! ### laws_big: function 11 -/
def laws_big.f (l0:List Int):Option (Bool):=some (decide ((l0.length:Int)>1048576))
set_option maxHeartbeats 8000000 in
set_option maxRecDepth 100000 in
theorem laws_big.calls (A0:Option Addr) (c0:Nat) (l0:List Int) (r:Bool) (w:World) (hr0:Kd.C (Kd.int .u8) w A0 l0.length l0) (hc0:l0.length≤c0) (h:laws_big.f l0=some r) :
    Calls Tryz.prog 11 #[.slice A0 l0.length c0] w fun e w'=>e=.returned (.bool r)∧Drawn0 w w':=by
 have HR0:=Aside0.mk hr0
 have HC0:=Aside0.mk hc0
 clear hr0 hc0
 have H:(some (decide ((l0.length:Int)>1048576)))=some r:=h
 clear h
 obtain rfl:=Option.some.inj H
 go_enter Tryz.func11,Tryz.ntmps11
 go_wp2
 go_ret
 exact ⟨sT_,dT_⟩
end Go.Proofs.YtekegbacnagbcaaGreatDoor.P
