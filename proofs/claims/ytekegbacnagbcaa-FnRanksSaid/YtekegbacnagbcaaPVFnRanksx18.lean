-- written by gprint (a program of this session's, round the kit's print), out of the translation and hand-written texts
import Derived.Test.YtekegbacnagbcaaPVFnRanksx0
import Derived.Test.YtekegbacnagbcaaPVFnRanksx3
import Derived.Test.YtekegbacnagbcaaPVFnRanksx7
import Derived.Test.YtekegbacnagbcaaPVFnRanksx13
import Derived.Test.YtekegbacnagbcaaPVFnRanksx14
namespace Go.Proofs.Ytekegbacnagbcaa.P
open Go.RowKit Go.Proofs.YtekegbacnagbcaaW.PrintWords Go.Proofs.YtekegbacnagbcaaW.PrintLast Go.Proofs.YtekegbacnagbcaaW.PrintMore
attribute [local go_sem] max2_int min2_int max_two min_two max_three min_three max_four min_four   -- for this text's walks alone
set_option linter.unusedVariables false
set_option linter.unusedSimpArgs false
/-! ### spec_LoopsOf: function 22 -/
def spec_LoopsOf.l0:Nat→Int→Int→Int→List Int→Option (Int)
 | 0,_,_,_,_=>none
 | k+1,x3,x4,x699000,x699001=>if x4<(x699001.length:Int) then (if 0≤x4 then (spec_LoopsOf.l0 k (wrap64 (x3-(Go.bits .and .i64 x3 (rd x699001 x4)))) (wrap64 (x4+1)) x699000 x699001) else (none)) else (some x3)
def spec_LoopsOf.f (k:Nat) (a0_0:Int) (l0_1:List Int):Option (Int):=(spec_IsMatroid.f k a0_0 l0_1).bind fun t699=>(if t699=true then ((spec_FullSet.f a0_0).bind fun t700=>(spec_LoopsOf.l0 k t700 0 a0_0 l0_1)) else (some 0))
set_option maxHeartbeats 8000000 in
set_option maxRecDepth 100000 in
theorem spec_LoopsOf.calls (k:Nat) (a0_0:Int) (A0_1:Option Addr) (c0_1:Nat) (l0_1:List Int) (r:Int) (w:World) (hr0_1:Kd.C (Kd.int .i64) w A0_1 l0_1.length l0_1) (hc0_1:l0_1.length≤c0_1) (h:spec_LoopsOf.f k a0_0 l0_1=some r) :
    Calls Try.prog 22 #[.agg #[.int .i64 a0_0,.slice A0_1 l0_1.length c0_1]] w fun e w'=>e=.returned (.int .i64 r)∧Below w.heap.size w w':=by
 have hu26:=Try.underlying26
 have HR0_1:=Aside0.mk hr0_1
 have HC0_1:=Aside0.mk hc0_1
 clear hr0_1 hc0_1
 have HB:=Aside0.mk (Below.refl w.heap.size w)
 unfold spec_LoopsOf.f at h
 have H:=h
 clear h
 replace H:=bnd_ H;obtain ⟨t699,A2,H⟩:=H
 by_cases c3:t699=true
 rotate_left
 ·replace c3:=Bool.eq_false_iff.mpr c3
  subst c3
  replace H:=bF_ H
  obtain rfl:=Option.some.inj H
  go_enter Try.func22,Try.ntmps22
  go_wp2_with (first|((with_reducible refine gate_dst (N:=1) rfl ?_);refine bx_ (N:=1) (cs:=#[.int .i64 a0_0,.slice A0_1 l0_1.length c0_1]) (t:=26) ?_;intro gb698 hg w13 hbox hb;have BK698:=Aside0.mk (hbox);have GW698:=Aside0.mk (gw_ hg (h_HB HB.out));have GE698:=Aside0.mk (gw_ hg (h_HB HB.out));replace HB:=Aside0.mk (below_step (h_HB HB.out) hb);clear hb hbox hg;obtain ⟨hcz14_0,hcz14_1,hfz14_0,hfz14_1⟩:=bz2_ BK698.out)|((with_reducible refine gate_callee (f:=40) rfl ?_);refine goesL_ (some 6) rfl rfl Try.func40 krT_ rfl #[.agg #[.int .i64 a0_0,.slice A0_1 l0_1.length c0_1]] rfl agT_ ?_;(with_reducible refine (spec_IsMatroid.calls k a0_0 _ _ l0_1 false _ ?side1 ?side2 A2.out).mono ?_);(case side1=>exact cC_ HR0_1.out);(case side2=>exact HC0_1.out);rintro e w15 ⟨rfl,hb⟩;refine ⟨_,rfl,?_⟩;replace BK698:=Aside0.mk (blkB_ BK698.out hb);replace HB:=Aside0.mk (below_step (h_HB HB.out) hb);(try clear hb)))
  go_ret
  exact ⟨eT_,h_HB HB.out⟩
 subst c3
 replace H:=bT_ H
 replace H:=bnd_ H;obtain ⟨t700,A4,H⟩:=H
 have H':=Aside0.mk H
 clear H
 go_enter Try.func22,Try.ntmps22
 go_wp2_with (first|((with_reducible refine gate_dst (N:=1) rfl ?_);refine bx_ (N:=1) (cs:=#[.int .i64 a0_0,.slice A0_1 l0_1.length c0_1]) (t:=26) ?_;intro gb698 hg w5 hbox hb;have BK698:=Aside0.mk (hbox);have GW698:=Aside0.mk (gw_ hg (h_HB HB.out));have GE698:=Aside0.mk (gw_ hg (h_HB HB.out));replace HB:=Aside0.mk (below_step (h_HB HB.out) hb);clear hb hbox hg;obtain ⟨hcz6_0,hcz6_1,hfz6_0,hfz6_1⟩:=bz2_ BK698.out)|((with_reducible refine gate_callee (f:=40) rfl ?_);refine goesL_ (some 6) rfl rfl Try.func40 krT_ rfl #[.agg #[.int .i64 a0_0,.slice A0_1 l0_1.length c0_1]] rfl agT_ ?_;(with_reducible refine (spec_IsMatroid.calls k a0_0 _ _ l0_1 true _ ?side1 ?side2 A2.out).mono ?_);(case side1=>exact cC_ HR0_1.out);(case side2=>exact HC0_1.out);rintro e w7 ⟨rfl,hb⟩;refine ⟨_,rfl,?_⟩;replace BK698:=Aside0.mk (blkB_ BK698.out hb);replace HB:=Aside0.mk (below_step (h_HB HB.out) hb);(try clear hb);obtain ⟨hcz8_0,hcz8_1,hfz8_0,hfz8_1⟩:=bz2_ BK698.out)|((with_reducible refine gate_callee (f:=25) rfl ?_);refine goesL_ (some 10) rfl rfl Try.func25 krT_ rfl #[.int .i64 a0_0] rfl agT_ ?_;(with_reducible refine (spec_FullSet.calls a0_0 t700 _ A4.out).mono ?_);rintro e w' ⟨rfl,⟨nd,rfl⟩⟩;refine ⟨_,rfl,?_⟩))
 go_loopg [3,4] k (fun kq v3 v4 w'=>∃ (x3_1:Int) (x4_1:Int),v3=.int .i64 x3_1∧v4=.int .i64 x4_1∧Aside0 (spec_LoopsOf.l0 kq x3_1 x4_1 a0_0 l0_1=some r)∧Aside0 (kq≤k)∧Aside0 (w'.heap[gb698]?=some (.cells #[.int .i64 a0_0,(.slice A0_1 l0_1.length c0_1)] 26 (0,0)))∧Aside0 (Below w.heap.size w w'))
 case atStart=>exact ⟨(t700),(0),sT_,sT_,H',⟨Nat.le_refl _⟩,⟨bkC_ BK698.out⟩,⟨h_HB HB.out⟩⟩
 case round =>
 clear H'
 try clear c2
 try clear p2
 try clear c3
 try clear c4
 try clear hcz6_0
 try clear hcz6_1
 try clear hcz8_0
 try clear hcz8_1
 try clear hfz6_0
 try clear hfz6_1
 try clear hfz8_0
 try clear hfz8_1
 obtain ⟨x3_1,x4_1,rfl,rfl,HA,HK1,BK698,HB⟩:=hrel
 cases gk with
 | zero=>exact absurd HA.out (by simp [spec_LoopsOf.l0])
 | succ k1 =>
 have H:=HA.out
 clear HA
 simp only [spec_LoopsOf.l0] at H
 rcases gsn_ H with ⟨c9b0,H⟩|⟨c9b0,H⟩
 ·obtain rfl:=Option.some.inj H
  obtain ⟨hcz12_0,hcz12_1,hfz12_0,hfz12_1⟩:=bz2_ BK698.out
  go_wp2
  go_ret
  exact ⟨eT_,h_HB HB.out⟩
 replace H:=gsm_ H;obtain ⟨c10b0,H⟩:=H
 have H':=Aside0.mk H
 clear H
 obtain ⟨hcz11_0,hcz11_1,hfz11_0,hfz11_1⟩:=bz2_ BK698.out
 obtain ⟨ad701,e701,hx701_0,p701,q701⟩:=aiI_ HR0_1.out x4_1
 cases e701
 replace hx701_0:=(HB.out.cell (World.block_lt_of_cell? w _ hx701_0)).trans hx701_0
 go_wp2
 go_roundg k1
 case measure=>have:=HK1.out;omega
 case rel=>exact ⟨(wrap64 (x3_1-(Go.bits .and .i64 x3_1 (rd l0_1 x4_1)))),(wrap64 (x4_1+1)),sT_,sT_,H',⟨by have:=HK1.out;omega⟩,⟨bkC_ BK698.out⟩,⟨h_HB HB.out⟩⟩
/-! ### impl_ColoopsOf: function 23 -/
def impl_ColoopsOf.l0:Nat→Int→List Int→Int→Int→Option (Int)
 | 0,_,_,_,_=>none
 | k+1,x3,x13,x14,x15=>if x15<x14 then (if 0≤x15 then (if x15<(x13.length:Int) then (impl_ColoopsOf.l0 k (Go.bits .and .i64 x3 (rd x13 x15)) x13 x14 (wrap64 (x15+1))) else (none)) else (none)) else (some x3)
def impl_ColoopsOf.f (k:Nat) (a0_0:Int) (l0_1:List Int):Option (Int):=(impl_IsMatroid.f k a0_0 l0_1).bind fun t703=>(if t703=true then ((impl_FullSet.f a0_0).bind fun t704=>(impl_ColoopsOf.l0 k t704 l0_1 (l0_1.length:Int) 0)) else (some 0))
set_option maxHeartbeats 8000000 in
set_option maxRecDepth 100000 in
theorem impl_ColoopsOf.calls (k:Nat) (a0_0:Int) (A0_1:Option Addr) (c0_1:Nat) (l0_1:List Int) (r:Int) (w:World) (hr0_1:Kd.C (Kd.int .i64) w A0_1 l0_1.length l0_1) (hc0_1:l0_1.length≤c0_1) (h:impl_ColoopsOf.f k a0_0 l0_1=some r) :
    Calls Try.prog 23 #[.agg #[.int .i64 a0_0,.slice A0_1 l0_1.length c0_1]] w fun e w'=>e=.returned (.int .i64 r)∧Below w.heap.size w w':=by
 have hu26:=Try.underlying26
 have HR0_1:=Aside0.mk hr0_1
 have HC0_1:=Aside0.mk hc0_1
 clear hr0_1 hc0_1
 have HB:=Aside0.mk (Below.refl w.heap.size w)
 unfold impl_ColoopsOf.f at h
 have H:=h
 clear h
 replace H:=bnd_ H;obtain ⟨t703,A2,H⟩:=H
 by_cases c3:t703=true
 rotate_left
 ·replace c3:=Bool.eq_false_iff.mpr c3
  subst c3
  replace H:=bF_ H
  obtain rfl:=Option.some.inj H
  go_enter Try.func23,Try.ntmps23
  go_wp2_with (first|((with_reducible refine gate_dst (N:=1) rfl ?_);refine bx_ (N:=1) (cs:=#[.int .i64 a0_0,.slice A0_1 l0_1.length c0_1]) (t:=26) ?_;intro gb702 hg w12 hbox hb;have BK702:=Aside0.mk (hbox);have GW702:=Aside0.mk (gw_ hg (h_HB HB.out));have GE702:=Aside0.mk (gw_ hg (h_HB HB.out));replace HB:=Aside0.mk (below_step (h_HB HB.out) hb);clear hb hbox hg;obtain ⟨hcz13_0,hcz13_1,hfz13_0,hfz13_1⟩:=bz2_ BK702.out)|((with_reducible refine gate_callee (f:=44) rfl ?_);refine goesL_ (some 7) rfl rfl Try.func44 krT_ rfl #[.agg #[.int .i64 a0_0,.slice A0_1 l0_1.length c0_1]] rfl agT_ ?_;(with_reducible refine (impl_IsMatroid.calls k a0_0 _ _ l0_1 false _ ?side1 ?side2 A2.out).mono ?_);(case side1=>exact cC_ HR0_1.out);(case side2=>exact HC0_1.out);rintro e w14 ⟨rfl,hb⟩;refine ⟨_,rfl,?_⟩;replace BK702:=Aside0.mk (blkB_ BK702.out hb);replace HB:=Aside0.mk (below_step (h_HB HB.out) hb);(try clear hb)))
  go_ret
  exact ⟨eT_,h_HB HB.out⟩
 subst c3
 replace H:=bT_ H
 replace H:=bnd_ H;obtain ⟨t704,A4,H⟩:=H
 have H':=Aside0.mk H
 clear H
 go_enter Try.func23,Try.ntmps23
 go_wp2_with (first|((with_reducible refine gate_dst (N:=1) rfl ?_);refine bx_ (N:=1) (cs:=#[.int .i64 a0_0,.slice A0_1 l0_1.length c0_1]) (t:=26) ?_;intro gb702 hg w5 hbox hb;have BK702:=Aside0.mk (hbox);have GW702:=Aside0.mk (gw_ hg (h_HB HB.out));have GE702:=Aside0.mk (gw_ hg (h_HB HB.out));replace HB:=Aside0.mk (below_step (h_HB HB.out) hb);clear hb hbox hg;obtain ⟨hcz6_0,hcz6_1,hfz6_0,hfz6_1⟩:=bz2_ BK702.out)|((with_reducible refine gate_callee (f:=44) rfl ?_);refine goesL_ (some 7) rfl rfl Try.func44 krT_ rfl #[.agg #[.int .i64 a0_0,.slice A0_1 l0_1.length c0_1]] rfl agT_ ?_;(with_reducible refine (impl_IsMatroid.calls k a0_0 _ _ l0_1 true _ ?side1 ?side2 A2.out).mono ?_);(case side1=>exact cC_ HR0_1.out);(case side2=>exact HC0_1.out);rintro e w7 ⟨rfl,hb⟩;refine ⟨_,rfl,?_⟩;replace BK702:=Aside0.mk (blkB_ BK702.out hb);replace HB:=Aside0.mk (below_step (h_HB HB.out) hb);(try clear hb);obtain ⟨hcz8_0,hcz8_1,hfz8_0,hfz8_1⟩:=bz2_ BK702.out)|((with_reducible refine gate_callee (f:=48) rfl ?_);refine goesL_ (some 11) rfl rfl Try.func48 krT_ rfl #[.int .i64 a0_0] rfl agT_ ?_;(with_reducible refine (impl_FullSet.calls a0_0 t704 _ A4.out).mono ?_);rintro e w' ⟨rfl,⟨nd,rfl⟩⟩;refine ⟨_,rfl,?_⟩))
 go_loopg [3,15] k (fun kq v3 v15 w'=>∃ (x3_1:Int) (x15_1:Int),v3=.int .i64 x3_1∧v15=.int .i64 x15_1∧Aside0 (impl_ColoopsOf.l0 kq x3_1 l0_1 (l0_1.length:Int) x15_1=some r)∧Aside0 (kq≤k)∧Aside0 (w'.heap[gb702]?=some (.cells #[.int .i64 a0_0,(.slice A0_1 l0_1.length c0_1)] 26 (0,0)))∧Aside0 (Below w.heap.size w w'))
 case atStart=>exact ⟨(t704),(0),sT_,sT_,H',⟨Nat.le_refl _⟩,⟨bkC_ BK702.out⟩,⟨h_HB HB.out⟩⟩
 case round =>
 clear H'
 try clear c2
 try clear p2
 try clear c3
 try clear c4
 try clear hcz6_0
 try clear hcz6_1
 try clear hcz8_0
 try clear hcz8_1
 try clear hfz6_0
 try clear hfz6_1
 try clear hfz8_0
 try clear hfz8_1
 obtain ⟨x3_1,x15_1,rfl,rfl,HA,HK1,BK702,HB⟩:=hrel
 cases gk with
 | zero=>exact absurd HA.out (by simp [impl_ColoopsOf.l0])
 | succ k1 =>
 have H:=HA.out
 clear HA
 simp only [impl_ColoopsOf.l0] at H
 rcases gsn_ H with ⟨c9b0,H⟩|⟨c9b0,H⟩
 ·obtain rfl:=Option.some.inj H
  go_wp2
  go_ret
  exact ⟨eT_,h_HB HB.out⟩
 replace H:=gsm_ H;obtain ⟨c10b0,H⟩:=H
 replace H:=gsm_ H;obtain ⟨c11b0,H⟩:=H
 have H':=Aside0.mk H
 clear H
 obtain ⟨ad705,e705,hx705_0,p705,q705⟩:=aiI_ HR0_1.out x15_1
 cases e705
 replace hx705_0:=(HB.out.cell (World.block_lt_of_cell? w _ hx705_0)).trans hx705_0
 go_wp2
 go_roundg k1
 case measure=>have:=HK1.out;omega
 case rel=>exact ⟨(Go.bits .and .i64 x3_1 (rd l0_1 x15_1)),(wrap64 (x15_1+1)),sT_,sT_,H',⟨by have:=HK1.out;omega⟩,⟨bkC_ BK702.out⟩,⟨h_HB HB.out⟩⟩
/-! ### spec_ColoopsOf: function 24 -/
def spec_ColoopsOf.l0:Nat→Int→Int→Int→List Int→Option (Int)
 | 0,_,_,_,_=>none
 | k+1,x3,x4,x707000,x707001=>if x4<(x707001.length:Int) then (if 0≤x4 then (spec_ColoopsOf.l0 k (Go.bits .and .i64 x3 (rd x707001 x4)) (wrap64 (x4+1)) x707000 x707001) else (none)) else (some x3)
def spec_ColoopsOf.f (k:Nat) (a0_0:Int) (l0_1:List Int):Option (Int):=(spec_IsMatroid.f k a0_0 l0_1).bind fun t707=>(if t707=true then ((spec_FullSet.f a0_0).bind fun t708=>(spec_ColoopsOf.l0 k t708 0 a0_0 l0_1)) else (some 0))
set_option maxHeartbeats 8000000 in
set_option maxRecDepth 100000 in
theorem spec_ColoopsOf.calls (k:Nat) (a0_0:Int) (A0_1:Option Addr) (c0_1:Nat) (l0_1:List Int) (r:Int) (w:World) (hr0_1:Kd.C (Kd.int .i64) w A0_1 l0_1.length l0_1) (hc0_1:l0_1.length≤c0_1) (h:spec_ColoopsOf.f k a0_0 l0_1=some r) :
    Calls Try.prog 24 #[.agg #[.int .i64 a0_0,.slice A0_1 l0_1.length c0_1]] w fun e w'=>e=.returned (.int .i64 r)∧Below w.heap.size w w':=by
 have hu26:=Try.underlying26
 have HR0_1:=Aside0.mk hr0_1
 have HC0_1:=Aside0.mk hc0_1
 clear hr0_1 hc0_1
 have HB:=Aside0.mk (Below.refl w.heap.size w)
 unfold spec_ColoopsOf.f at h
 have H:=h
 clear h
 replace H:=bnd_ H;obtain ⟨t707,A2,H⟩:=H
 by_cases c3:t707=true
 rotate_left
 ·replace c3:=Bool.eq_false_iff.mpr c3
  subst c3
  replace H:=bF_ H
  obtain rfl:=Option.some.inj H
  go_enter Try.func24,Try.ntmps24
  go_wp2_with (first|((with_reducible refine gate_dst (N:=1) rfl ?_);refine bx_ (N:=1) (cs:=#[.int .i64 a0_0,.slice A0_1 l0_1.length c0_1]) (t:=26) ?_;intro gb706 hg w13 hbox hb;have BK706:=Aside0.mk (hbox);have GW706:=Aside0.mk (gw_ hg (h_HB HB.out));have GE706:=Aside0.mk (gw_ hg (h_HB HB.out));replace HB:=Aside0.mk (below_step (h_HB HB.out) hb);clear hb hbox hg;obtain ⟨hcz14_0,hcz14_1,hfz14_0,hfz14_1⟩:=bz2_ BK706.out)|((with_reducible refine gate_callee (f:=40) rfl ?_);refine goesL_ (some 6) rfl rfl Try.func40 krT_ rfl #[.agg #[.int .i64 a0_0,.slice A0_1 l0_1.length c0_1]] rfl agT_ ?_;(with_reducible refine (spec_IsMatroid.calls k a0_0 _ _ l0_1 false _ ?side1 ?side2 A2.out).mono ?_);(case side1=>exact cC_ HR0_1.out);(case side2=>exact HC0_1.out);rintro e w15 ⟨rfl,hb⟩;refine ⟨_,rfl,?_⟩;replace BK706:=Aside0.mk (blkB_ BK706.out hb);replace HB:=Aside0.mk (below_step (h_HB HB.out) hb);(try clear hb)))
  go_ret
  exact ⟨eT_,h_HB HB.out⟩
 subst c3
 replace H:=bT_ H
 replace H:=bnd_ H;obtain ⟨t708,A4,H⟩:=H
 have H':=Aside0.mk H
 clear H
 go_enter Try.func24,Try.ntmps24
 go_wp2_with (first|((with_reducible refine gate_dst (N:=1) rfl ?_);refine bx_ (N:=1) (cs:=#[.int .i64 a0_0,.slice A0_1 l0_1.length c0_1]) (t:=26) ?_;intro gb706 hg w5 hbox hb;have BK706:=Aside0.mk (hbox);have GW706:=Aside0.mk (gw_ hg (h_HB HB.out));have GE706:=Aside0.mk (gw_ hg (h_HB HB.out));replace HB:=Aside0.mk (below_step (h_HB HB.out) hb);clear hb hbox hg;obtain ⟨hcz6_0,hcz6_1,hfz6_0,hfz6_1⟩:=bz2_ BK706.out)|((with_reducible refine gate_callee (f:=40) rfl ?_);refine goesL_ (some 6) rfl rfl Try.func40 krT_ rfl #[.agg #[.int .i64 a0_0,.slice A0_1 l0_1.length c0_1]] rfl agT_ ?_;(with_reducible refine (spec_IsMatroid.calls k a0_0 _ _ l0_1 true _ ?side1 ?side2 A2.out).mono ?_);(case side1=>exact cC_ HR0_1.out);(case side2=>exact HC0_1.out);rintro e w7 ⟨rfl,hb⟩;refine ⟨_,rfl,?_⟩;replace BK706:=Aside0.mk (blkB_ BK706.out hb);replace HB:=Aside0.mk (below_step (h_HB HB.out) hb);(try clear hb);obtain ⟨hcz8_0,hcz8_1,hfz8_0,hfz8_1⟩:=bz2_ BK706.out)|((with_reducible refine gate_callee (f:=25) rfl ?_);refine goesL_ (some 10) rfl rfl Try.func25 krT_ rfl #[.int .i64 a0_0] rfl agT_ ?_;(with_reducible refine (spec_FullSet.calls a0_0 t708 _ A4.out).mono ?_);rintro e w' ⟨rfl,⟨nd,rfl⟩⟩;refine ⟨_,rfl,?_⟩))
 go_loopg [3,4] k (fun kq v3 v4 w'=>∃ (x3_1:Int) (x4_1:Int),v3=.int .i64 x3_1∧v4=.int .i64 x4_1∧Aside0 (spec_ColoopsOf.l0 kq x3_1 x4_1 a0_0 l0_1=some r)∧Aside0 (kq≤k)∧Aside0 (w'.heap[gb706]?=some (.cells #[.int .i64 a0_0,(.slice A0_1 l0_1.length c0_1)] 26 (0,0)))∧Aside0 (Below w.heap.size w w'))
 case atStart=>exact ⟨(t708),(0),sT_,sT_,H',⟨Nat.le_refl _⟩,⟨bkC_ BK706.out⟩,⟨h_HB HB.out⟩⟩
 case round =>
 clear H'
 try clear c2
 try clear p2
 try clear c3
 try clear c4
 try clear hcz6_0
 try clear hcz6_1
 try clear hcz8_0
 try clear hcz8_1
 try clear hfz6_0
 try clear hfz6_1
 try clear hfz8_0
 try clear hfz8_1
 obtain ⟨x3_1,x4_1,rfl,rfl,HA,HK1,BK706,HB⟩:=hrel
 cases gk with
 | zero=>exact absurd HA.out (by simp [spec_ColoopsOf.l0])
 | succ k1 =>
 have H:=HA.out
 clear HA
 simp only [spec_ColoopsOf.l0] at H
 rcases gsn_ H with ⟨c9b0,H⟩|⟨c9b0,H⟩
 ·obtain rfl:=Option.some.inj H
  obtain ⟨hcz12_0,hcz12_1,hfz12_0,hfz12_1⟩:=bz2_ BK706.out
  go_wp2
  go_ret
  exact ⟨eT_,h_HB HB.out⟩
 replace H:=gsm_ H;obtain ⟨c10b0,H⟩:=H
 have H':=Aside0.mk H
 clear H
 obtain ⟨hcz11_0,hcz11_1,hfz11_0,hfz11_1⟩:=bz2_ BK706.out
 obtain ⟨ad709,e709,hx709_0,p709,q709⟩:=aiI_ HR0_1.out x4_1
 cases e709
 replace hx709_0:=(HB.out.cell (World.block_lt_of_cell? w _ hx709_0)).trans hx709_0
 go_wp2
 go_roundg k1
 case measure=>have:=HK1.out;omega
 case rel=>exact ⟨(Go.bits .and .i64 x3_1 (rd l0_1 x4_1)),(wrap64 (x4_1+1)),sT_,sT_,H',⟨by have:=HK1.out;omega⟩,⟨bkC_ BK706.out⟩,⟨h_HB HB.out⟩⟩
/-! ### spec_IsSubset: function 27 -/
def spec_IsSubset.f (a0:Int) (a1:Int):Option (Bool):=(spec_IsSet.f 8 a0).bind fun t710=>(if t710=true then ((spec_IsSet.f 8 a1).bind fun t711=>(if t711=true then (some ((Go.bits .and .i64 a0 a1)==a0)) else (some false))) else (some false))
set_option maxHeartbeats 8000000 in
set_option maxRecDepth 100000 in
theorem spec_IsSubset.calls (a0:Int) (a1:Int) (r:Bool) (w:World) (h:spec_IsSubset.f a0 a1=some r) :
    Calls Try.prog 27 #[.int .i64 a0,.int .i64 a1] w fun e w'=>e=.returned (.bool r)∧Drawn0 w w':=by
 unfold spec_IsSubset.f at h
 have H:=h
 clear h
 replace H:=bnd_ H;obtain ⟨t710,A3,H⟩:=H
 by_cases c4:t710=true
 ·subst c4
  replace H:=bT_ H
  replace H:=bnd_ H;obtain ⟨t711,A5,H⟩:=H
  by_cases c6:t711=true
  ·subst c6
   replace H:=bT_ H
   obtain rfl:=Option.some.inj H
   go_enter Try.func27,Try.ntmps27
   go_wp2_with (first|((with_reducible refine gate_callee (f:=41) rfl ?_);refine goesL_ (some 6) rfl rfl Try.func41 krT_ rfl #[.int .i64 8,.int .i64 a0] rfl agT_ ?_;(with_reducible refine (spec_IsSet.calls 8 a0 true _ A3.out).mono ?_);rintro e w' ⟨rfl,⟨nd,rfl⟩⟩;refine ⟨_,rfl,?_⟩)|(go_at_call 41;(with_reducible refine (spec_IsSet.calls 8 a1 true _ A5.out).mono ?_);rintro e w' ⟨rfl,⟨nd,rfl⟩⟩))
   go_ret
   exact ⟨sT_,dT_⟩
  ·replace c6:=Bool.eq_false_iff.mpr c6
   subst c6
   replace H:=bF_ H
   obtain rfl:=Option.some.inj H
   go_enter Try.func27,Try.ntmps27
   go_wp2_with (first|((with_reducible refine gate_callee (f:=41) rfl ?_);refine goesL_ (some 6) rfl rfl Try.func41 krT_ rfl #[.int .i64 8,.int .i64 a0] rfl agT_ ?_;(with_reducible refine (spec_IsSet.calls 8 a0 true _ A3.out).mono ?_);rintro e w' ⟨rfl,⟨nd,rfl⟩⟩;refine ⟨_,rfl,?_⟩)|(go_at_call 41;(with_reducible refine (spec_IsSet.calls 8 a1 false _ A5.out).mono ?_);rintro e w' ⟨rfl,⟨nd,rfl⟩⟩))
   go_ret
   exact ⟨sT_,dT_⟩
 ·replace c4:=Bool.eq_false_iff.mpr c4
  subst c4
  replace H:=bF_ H
  obtain rfl:=Option.some.inj H
  go_enter Try.func27,Try.ntmps27
  go_wp2_with (first|((with_reducible refine gate_callee (f:=41) rfl ?_);refine goesL_ (some 6) rfl rfl Try.func41 krT_ rfl #[.int .i64 8,.int .i64 a0] rfl agT_ ?_;(with_reducible refine (spec_IsSet.calls 8 a0 false _ A3.out).mono ?_);rintro e w' ⟨rfl,⟨nd,rfl⟩⟩;refine ⟨_,rfl,?_⟩))
  go_ret
  exact ⟨sT_,dT_⟩
end Go.Proofs.Ytekegbacnagbcaa.P
