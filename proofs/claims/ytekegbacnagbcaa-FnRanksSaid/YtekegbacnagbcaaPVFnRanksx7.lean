-- written by gprint (a program of this session's, round the kit's print), out of the translation and hand-written texts
import Derived.Test.YtekegbacnagbcaaPVFnRanksx0
import Derived.Test.YtekegbacnagbcaaPVFnRanksx3
import Derived.Test.YtekegbacnagbcaaPVFnRanksx4
import Derived.Test.YtekegbacnagbcaaPVFnRanksx6
namespace Go.Proofs.Ytekegbacnagbcaa.P
open Go.RowKit Go.Proofs.YtekegbacnagbcaaW.PrintWords Go.Proofs.YtekegbacnagbcaaW.PrintLast Go.Proofs.YtekegbacnagbcaaW.PrintMore
attribute [local go_sem] max2_int min2_int max_two min_two max_three min_three max_four min_four   -- for this text's walks alone
set_option linter.unusedVariables false
set_option linter.unusedSimpArgs false
/-! ### spec_FirstFailure: function 61 -/
mutual
def spec_FirstFailure.l0:Nat→Int→Int→List Int→Option (Int × Int × Int × Bool)
 | 0,_,_,_=>none
 | k+1,x4,x301000,x301001=>if x4<(x301001.length:Int) then (spec_FirstFailure.l1 k x4 0 x301000 x301001) else (some (0,0,0,false))
def spec_FirstFailure.l1:Nat→Int→Int→Int→List Int→Option (Int × Int × Int × Bool)
 | 0,_,_,_,_=>none
 | k+1,x4,x5,x301000,x301001=>if x5<(x301001.length:Int) then (spec_FirstFailure.l2 k x4 x5 0 x301000 x301001) else (spec_FirstFailure.l0 k (wrap64 (x4+1)) x301000 x301001)
def spec_FirstFailure.l2:Nat→Int→Int→Int→Int→List Int→Option (Int × Int × Int × Bool)
 | 0,_,_,_,_,_=>none
 | k+1,x4,x5,x6,x301000,x301001=>if x6<x301000 then (if 0≤x4 then (if x4<(x301001.length:Int) then (if 0≤x5 then (if x5<(x301001.length:Int) then ((spec_l2Has.f (rd x301001 x4) x6).bind fun t305=>(if t305=true then ((spec_l2Has.f (rd x301001 x5) x6).bind fun t306=>(if t306=true then (spec_FirstFailure.l2 k x4 x5 (wrap64 (x6+1)) x301000 x301001) else ((spec_l4Exchange.f k x301000 x301001 (rd x301001 x4) (rd x301001 x5) x6).bind fun t307=>(if t307=true then (spec_FirstFailure.l2 k x4 x5 (wrap64 (x6+1)) x301000 x301001) else (some (rd x301001 x4,rd x301001 x5,x6,true)))))) else (spec_FirstFailure.l2 k x4 x5 (wrap64 (x6+1)) x301000 x301001))) else (none)) else (none)) else (none)) else (none)) else (spec_FirstFailure.l1 k x4 (wrap64 (x5+1)) x301000 x301001)
end
def spec_FirstFailure.f (k:Nat) (a0_0:Int) (l0_1:List Int):Option (Int × Int × Int × Bool):=(spec_IsFamily.f k a0_0 l0_1).bind fun t302=>(if t302=true then (spec_FirstFailure.l0 k 0 a0_0 l0_1) else (some (0,0,0,false)))
set_option maxHeartbeats 8000000 in
set_option maxRecDepth 100000 in
theorem spec_FirstFailure.calls (k:Nat) (a0_0:Int) (A0_1:Option Addr) (c0_1:Nat) (l0_1:List Int) (r1:Int) (r2:Int) (r3:Int) (r4:Bool) (w:World) (hr0_1:Kd.C (Kd.int .i64) w A0_1 l0_1.length l0_1) (hc0_1:l0_1.length≤c0_1) (h:spec_FirstFailure.f k a0_0 l0_1=some (r1,r2,r3,r4)) :
    Calls Try.prog 61 #[.agg #[.int .i64 a0_0,.slice A0_1 l0_1.length c0_1]] w fun e w'=>e=.returned (.tuple #[.agg #[.int .i64 r1,.int .i64 r2,.int .i64 r3],.bool r4])∧Below w.heap.size w w':=by
 have hu26:=Try.underlying26
 have hu59:=Try.underlying59
 have HR0_1:=Aside0.mk hr0_1
 have HC0_1:=Aside0.mk hc0_1
 clear hr0_1 hc0_1
 have HB:=Aside0.mk (Below.refl w.heap.size w)
 unfold spec_FirstFailure.f at h
 have H:=h
 clear h
 replace H:=bnd_ H;obtain ⟨t302,A2,H⟩:=H
 by_cases c3:t302=true
 rotate_left
 ·replace c3:=Bool.eq_false_iff.mpr c3
  subst c3
  replace H:=bF_ H
  simp only [Option.some.injEq,Prod.mk.injEq] at H
  obtain ⟨rfl,rfl,rfl,rfl⟩:=H
  go_enter Try.func61,Try.ntmps61
  go_wp2_with (first|((with_reducible refine gate_dst (N:=1) rfl ?_);refine bx_ (N:=1) (cs:=#[.int .i64 a0_0,.slice A0_1 l0_1.length c0_1]) (t:=26) ?_;intro gb300 hg w45 hbox hb;have BK300:=Aside0.mk (hbox);have GW300:=Aside0.mk (gw_ hg (h_HB HB.out));have GE300:=Aside0.mk (gw_ hg (h_HB HB.out));replace HB:=Aside0.mk (below_step (h_HB HB.out) hb);clear hb hbox hg)|((with_reducible refine gate_dst (N:=2) rfl ?_);refine bx_ (N:=2) (cs:=#[.int .i64 0,.int .i64 0,.int .i64 0]) (t:=59) ?_;intro gb301 hg w46 hbox hb;have BK301:=Aside0.mk (hbox);have GW301:=Aside0.mk (gw_ hg (h_HB HB.out));have GE301:=Aside0.mk (gw_ hg (h_HB HB.out));replace HB:=Aside0.mk (below_step (h_HB HB.out) hb);have NB300_301:=Aside0.mk (nbl_ hg (bkC_ BK300.out));have NB301_300:=Aside0.mk (nbg_ hg (bkC_ BK300.out));replace BK300:=Aside0.mk (blkB_ BK300.out hb);clear hb hbox hg;have hnb47:=NB300_301.out;have hnc47:=NB301_300.out;obtain ⟨hcz48_0,hcz48_1,hfz48_0,hfz48_1⟩:=bz2_ BK300.out)|((with_reducible refine gate_callee (f:=62) rfl ?_);refine goesL_ (some 13) rfl rfl Try.func62 krT_ rfl #[.int .i64 a0_0,.slice A0_1 l0_1.length c0_1] rfl agT_ ?_;(with_reducible refine (spec_IsFamily.calls k a0_0 _ _ l0_1 false _ ?side1 ?side2 A2.out).mono ?_);(case side1=>exact cC_ HR0_1.out);(case side2=>exact HC0_1.out);rintro e w' ⟨rfl,⟨nd,rfl⟩⟩;refine ⟨_,rfl,?_⟩;(try (rw [drewN_self w46];generalize hq_:World.drewN w46 _=w46;replace BK300:Aside0 (w46.heap[gb300]?=some (.cells #[.int .i64 a0_0,.slice A0_1 l0_1.length c0_1] 26 (0,0))):=⟨by rw [← hq_];exact (bkC_ BK300.out)⟩;replace BK301:Aside0 (w46.heap[gb301]?=some (.cells #[.int .i64 0,.int .i64 0,.int .i64 0] 59 (0,0))):=⟨by rw [← hq_];exact (bkC_ BK301.out)⟩;replace HB:Aside0 (Below w.heap.size w w46):=⟨by rw [← hq_];exact (h_HB HB.out)⟩;clear hq_;have hcuz49_gb300_0:w46.cell? ⟨gb300,0,none⟩=some (.int .i64 a0_0):=(blk_cell BK300.out 0).trans rfl;have hfuz49_gb300_0:=blk_frozen BK300.out 0;have hcuz49_gb300_1:w46.cell? ⟨gb300,1,none⟩=some (.slice A0_1 l0_1.length c0_1):=(blk_cell BK300.out 1).trans rfl;have hfuz49_gb300_1:=blk_frozen BK300.out 1;have hcuz49_gb301_0:w46.cell? ⟨gb301,0,none⟩=some (.int .i64 0):=(blk_cell BK301.out 0).trans rfl;have hfuz49_gb301_0:=blk_frozen BK301.out 0;have hcuz49_gb301_1:w46.cell? ⟨gb301,1,none⟩=some (.int .i64 0):=(blk_cell BK301.out 1).trans rfl;have hfuz49_gb301_1:=blk_frozen BK301.out 1;have hcuz49_gb301_2:w46.cell? ⟨gb301,2,none⟩=some (.int .i64 0):=(blk_cell BK301.out 2).trans rfl;have hfuz49_gb301_2:=blk_frozen BK301.out 2));obtain ⟨hcz50_0,hcz50_1,hcz50_2,hfz50_0,hfz50_1,hfz50_2⟩:=bz3_ BK301.out))
  refine bodyPost_ret (results_ct rfl _ _ gb301 59 #[.int .i64 0,.int .i64 0,.int .i64 0] (0,0) _ rfl (by (with_reducible repeat (first|refine blk_drewN ?_ _|refine blk_drew ?_|refine blk_alloc ?_ _));refine blk_put (cs:=#[.int .i64 0,.int .i64 0,.int .i64 0]) ?_ 2 _ rfl;(with_reducible repeat (first|refine blk_drewN ?_ _|refine blk_drew ?_|refine blk_alloc ?_ _));refine blk_put (cs:=#[.int .i64 0,.int .i64 0,.int .i64 0]) ?_ 1 _ rfl;(with_reducible repeat (first|refine blk_drewN ?_ _|refine blk_drew ?_|refine blk_alloc ?_ _));refine blk_put (cs:=#[.int .i64 0,.int .i64 0,.int .i64 0]) ?_ 0 _ rfl;exact bkC_ BK301.out) Try.underlying59 rfl krT_) rfl ?_
  exact ⟨eT_,h_HB HB.out⟩
 subst c3
 replace H:=bT_ H
 have H':=Aside0.mk H
 clear H
 go_enter Try.func61,Try.ntmps61
 go_wp2_with (first|((with_reducible refine gate_dst (N:=1) rfl ?_);refine bx_ (N:=1) (cs:=#[.int .i64 a0_0,.slice A0_1 l0_1.length c0_1]) (t:=26) ?_;intro gb300 hg w4 hbox hb;have BK300:=Aside0.mk (hbox);have GW300:=Aside0.mk (gw_ hg (h_HB HB.out));have GE300:=Aside0.mk (gw_ hg (h_HB HB.out));replace HB:=Aside0.mk (below_step (h_HB HB.out) hb);clear hb hbox hg)|((with_reducible refine gate_dst (N:=2) rfl ?_);refine bx_ (N:=2) (cs:=#[.int .i64 0,.int .i64 0,.int .i64 0]) (t:=59) ?_;intro gb301 hg w5 hbox hb;have BK301:=Aside0.mk (hbox);have GW301:=Aside0.mk (gw_ hg (h_HB HB.out));have GE301:=Aside0.mk (gw_ hg (h_HB HB.out));replace HB:=Aside0.mk (below_step (h_HB HB.out) hb);have NB300_301:=Aside0.mk (nbl_ hg (bkC_ BK300.out));have NB301_300:=Aside0.mk (nbg_ hg (bkC_ BK300.out));replace BK300:=Aside0.mk (blkB_ BK300.out hb);clear hb hbox hg;have hnb6:=NB300_301.out;have hnc6:=NB301_300.out;obtain ⟨hcz7_0,hcz7_1,hfz7_0,hfz7_1⟩:=bz2_ BK300.out)|((with_reducible refine gate_callee (f:=62) rfl ?_);refine goesL_ (some 13) rfl rfl Try.func62 krT_ rfl #[.int .i64 a0_0,.slice A0_1 l0_1.length c0_1] rfl agT_ ?_;(with_reducible refine (spec_IsFamily.calls k a0_0 _ _ l0_1 true _ ?side1 ?side2 A2.out).mono ?_);(case side1=>exact cC_ HR0_1.out);(case side2=>exact HC0_1.out);rintro e w' ⟨rfl,⟨nd,rfl⟩⟩;refine ⟨_,rfl,?_⟩))
 go_loopg [4] k (fun kq v4 w'=>∃ (x4_1:Int) (x302000_1:Int) (x302001_1:Int) (x302002_1:Int),v4=.int .i64 x4_1∧Aside0 (spec_FirstFailure.l0 kq x4_1 a0_0 l0_1=some (r1,r2,r3,r4))∧Aside0 (kq≤k)∧Aside0 (w'.heap[gb300]?=some (.cells #[.int .i64 a0_0,(.slice A0_1 l0_1.length c0_1)] 26 (0,0)))∧Aside0 (w'.heap[gb301]?=some (.cells #[.int .i64 x302000_1,.int .i64 x302001_1,.int .i64 x302002_1] 59 (0,0)))∧Aside0 (Below w.heap.size w w'))
 case atStart=>exact ⟨(0),(0),(0),(0),sT_,H',⟨Nat.le_refl _⟩,⟨bkC_ BK300.out⟩,⟨bkC_ BK301.out⟩,⟨h_HB HB.out⟩⟩
 case round =>
 clear H'
 try clear p2
 try clear c3
 try clear c6
 try clear hcz7_0
 try clear hcz7_1
 try clear hfz7_0
 try clear hfz7_1
 obtain ⟨x4_1,x302000_1,x302001_1,x302002_1,rfl,HA,HK1,BK300,BK301,HB⟩:=hrel
 cases gk with
 | zero=>exact absurd HA.out (by simp [spec_FirstFailure.l0])
 | succ k1 =>
 have H:=HA.out
 clear HA
 simp only [spec_FirstFailure.l0] at H
 rcases gsn_ H with ⟨c8b0,H⟩|⟨c8b0,H⟩
 ·simp only [Option.some.injEq,Prod.mk.injEq] at H
  obtain ⟨rfl,rfl,rfl,rfl⟩:=H
  have hnb42:=NB300_301.out
  have hnc42:=NB301_300.out
  obtain ⟨hcz43_0,hcz43_1,hfz43_0,hfz43_1⟩:=bz2_ BK300.out
  obtain ⟨hcz44_0,hcz44_1,hcz44_2,hfz44_0,hfz44_1,hfz44_2⟩:=bz3_ BK301.out
  go_wp2
  refine bodyPost_ret (results_ct rfl _ _ gb301 59 #[.int .i64 0,.int .i64 0,.int .i64 0] (0,0) _ rfl (by (with_reducible repeat (first|refine blk_drewN ?_ _|refine blk_drew ?_|refine blk_alloc ?_ _));refine blk_put (cs:=#[.int .i64 0,.int .i64 0,.int .i64 x302002_1]) ?_ 2 _ rfl;(with_reducible repeat (first|refine blk_drewN ?_ _|refine blk_drew ?_|refine blk_alloc ?_ _));refine blk_put (cs:=#[.int .i64 0,.int .i64 x302001_1,.int .i64 x302002_1]) ?_ 1 _ rfl;(with_reducible repeat (first|refine blk_drewN ?_ _|refine blk_drew ?_|refine blk_alloc ?_ _));refine blk_put (cs:=#[.int .i64 x302000_1,.int .i64 x302001_1,.int .i64 x302002_1]) ?_ 0 _ rfl;exact bkC_ BK301.out) Try.underlying59 rfl krT_) rfl ?_
  exact ⟨eT_,h_HB HB.out⟩
 have H':=Aside0.mk H
 clear H
 have hnb9:=NB300_301.out
 have hnc9:=NB301_300.out
 obtain ⟨hcz10_0,hcz10_1,hfz10_0,hfz10_1⟩:=bz2_ BK300.out
 go_wp2
 go_loopg [5] k1 (fun kq v5 w'=>∃ (x5_2:Int) (x302000_2:Int) (x302001_2:Int) (x302002_2:Int),v5=.int .i64 x5_2∧Aside0 (spec_FirstFailure.l1 kq x4_1 x5_2 a0_0 l0_1=some (r1,r2,r3,r4))∧Aside0 (kq≤k1)∧Aside0 (w'.heap[gb300]?=some (.cells #[.int .i64 a0_0,(.slice A0_1 l0_1.length c0_1)] 26 (0,0)))∧Aside0 (w'.heap[gb301]?=some (.cells #[.int .i64 x302000_2,.int .i64 x302001_2,.int .i64 x302002_2] 59 (0,0)))∧Aside0 (Below w.heap.size w w'))
 case atStart=>exact ⟨(0),(x302000_1),(x302001_1),(x302002_1),sT_,H',⟨Nat.le_refl _⟩,⟨bkC_ BK300.out⟩,⟨bkC_ BK301.out⟩,⟨h_HB HB.out⟩⟩
 case round =>
 clear H'
 try clear p2
 try clear c3
 try clear c6
 try clear c8
 try clear c8b0
 try clear c9
 try clear hcz10_0
 try clear hcz10_1
 try clear hcz7_0
 try clear hcz7_1
 try clear hfz10_0
 try clear hfz10_1
 try clear hfz7_0
 try clear hfz7_1
 try clear p2
 obtain ⟨x5_2,x302000_2,x302001_2,x302002_2,rfl,HA,HK2,BK300,BK301,HB⟩:=hrel
 cases gk with
 | zero=>exact absurd HA.out (by simp [spec_FirstFailure.l1])
 | succ k2 =>
 have H:=HA.out
 clear HA
 simp only [spec_FirstFailure.l1] at H
 rcases gsn_ H with ⟨c11b0,H⟩|⟨c11b0,H⟩
 ·have H':=Aside0.mk H
  clear H
  have hnb40:=NB300_301.out
  have hnc40:=NB301_300.out
  obtain ⟨hcz41_0,hcz41_1,hfz41_0,hfz41_1⟩:=bz2_ BK300.out
  go_wp2
  go_roundg k2
  case measure=>have:=HK1.out;have:=HK2.out;omega
  case rel=>exact ⟨(wrap64 (x4_1+1)),(x302000_2),(x302001_2),(x302002_2),sT_,H',⟨by have:=HK1.out;have:=HK2.out;omega⟩,⟨bkC_ BK300.out⟩,⟨bkC_ BK301.out⟩,⟨h_HB HB.out⟩⟩
 have H':=Aside0.mk H
 clear H
 have hnb12:=NB300_301.out
 have hnc12:=NB301_300.out
 obtain ⟨hcz13_0,hcz13_1,hfz13_0,hfz13_1⟩:=bz2_ BK300.out
 go_wp2
 go_loopg [6] k2 (fun kq v6 w'=>∃ (x6_3:Int) (x302000_3:Int) (x302001_3:Int) (x302002_3:Int),v6=.int .i64 x6_3∧Aside0 (spec_FirstFailure.l2 kq x4_1 x5_2 x6_3 a0_0 l0_1=some (r1,r2,r3,r4))∧Aside0 (kq≤k2)∧Aside0 (w'.heap[gb300]?=some (.cells #[.int .i64 a0_0,(.slice A0_1 l0_1.length c0_1)] 26 (0,0)))∧Aside0 (w'.heap[gb301]?=some (.cells #[.int .i64 x302000_3,.int .i64 x302001_3,.int .i64 x302002_3] 59 (0,0)))∧Aside0 (Below w.heap.size w w'))
 case atStart=>exact ⟨(0),(x302000_2),(x302001_2),(x302002_2),sT_,H',⟨Nat.le_refl _⟩,⟨bkC_ BK300.out⟩,⟨bkC_ BK301.out⟩,⟨h_HB HB.out⟩⟩
 case round =>
 clear H'
 try clear c1
 try clear p2
 try clear c3
 try clear c6
 try clear c8
 try clear c8b0
 try clear c9
 try clear c11
 try clear c11b0
 try clear c12
 try clear hcz10_0
 try clear hcz10_1
 try clear hcz13_0
 try clear hcz13_1
 try clear hcz7_0
 try clear hcz7_1
 try clear hfz10_0
 try clear hfz10_1
 try clear hfz13_0
 try clear hfz13_1
 try clear hfz7_0
 try clear hfz7_1
 try clear p2
 obtain ⟨x6_3,x302000_3,x302001_3,x302002_3,rfl,HA,HK3,BK300,BK301,HB⟩:=hrel
 cases gk with
 | zero=>exact absurd HA.out (by simp [spec_FirstFailure.l2])
 | succ k3 =>
 have H:=HA.out
 clear HA
 simp only [spec_FirstFailure.l2] at H
 rcases gsn_ H with ⟨c14b0,H⟩|⟨c14b0,H⟩
 ·have H':=Aside0.mk H
  clear H
  have hnb38:=NB300_301.out
  have hnc38:=NB301_300.out
  obtain ⟨hcz39_0,hcz39_1,hfz39_0,hfz39_1⟩:=bz2_ BK300.out
  go_wp2
  go_roundg k3
  case measure=>have:=HK1.out;have:=HK2.out;have:=HK3.out;omega
  case rel=>exact ⟨(wrap64 (x5_2+1)),(x302000_3),(x302001_3),(x302002_3),sT_,H',⟨by have:=HK1.out;have:=HK2.out;have:=HK3.out;omega⟩,⟨bkC_ BK300.out⟩,⟨bkC_ BK301.out⟩,⟨h_HB HB.out⟩⟩
 replace H:=gsm_ H;obtain ⟨c15b0,H⟩:=H
 replace H:=gsm_ H;obtain ⟨c16b0,H⟩:=H
 replace H:=gsm_ H;obtain ⟨c17b0,H⟩:=H
 replace H:=gsm_ H;obtain ⟨c18b0,H⟩:=H
 replace H:=bnd_ H;obtain ⟨t305,A19,H⟩:=H
 by_cases c20:t305=true
 rotate_left
 ·replace c20:=Bool.eq_false_iff.mpr c20
  subst c20
  replace H:=bF_ H
  have H':=Aside0.mk H
  clear H
  have hnb36:=NB300_301.out
  have hnc36:=NB301_300.out
  obtain ⟨hcz37_0,hcz37_1,hfz37_0,hfz37_1⟩:=bz2_ BK300.out
  obtain ⟨ad303,e303,hx303_0,p303,q303⟩:=aiI_ HR0_1.out x4_1
  cases e303
  replace hx303_0:=(HB.out.cell (World.block_lt_of_cell? w _ hx303_0)).trans hx303_0
  obtain ⟨ad304,e304,hx304_0,p304,q304⟩:=aiI_ HR0_1.out x5_2
  obtain rfl:ad303=ad304:=(by injection e304)
  replace hx304_0:=(HB.out.cell (World.block_lt_of_cell? w _ hx304_0)).trans hx304_0
  go_wp2_with (first|((with_reducible refine gate_callee (f:=72) rfl ?_);refine goesL_ (some 48) rfl rfl Try.func72 krT_ rfl #[.int .i64 (rd l0_1 x4_1),.int .i64 x6_3] rfl agT_ ?_;(with_reducible refine (spec_l2Has.calls (rd l0_1 x4_1) x6_3 false _ A19.out).mono ?_);rintro e w' ⟨rfl,⟨nd,rfl⟩⟩;refine ⟨_,rfl,?_⟩))
  go_roundg k3
  case measure=>have:=HK1.out;have:=HK2.out;have:=HK3.out;omega
  case rel=>exact ⟨(wrap64 (x6_3+1)),(x302000_3),(x302001_3),(x302002_3),sT_,H',⟨by have:=HK1.out;have:=HK2.out;have:=HK3.out;omega⟩,⟨bkC_ BK300.out⟩,⟨bkC_ BK301.out⟩,⟨h_HB HB.out⟩⟩
 subst c20
 replace H:=bT_ H
 replace H:=bnd_ H;obtain ⟨t306,A21,H⟩:=H
 by_cases c22:t306=true
 ·subst c22
  replace H:=bT_ H
  have H':=Aside0.mk H
  clear H
  have hnb23:=NB300_301.out
  have hnc23:=NB301_300.out
  obtain ⟨hcz24_0,hcz24_1,hfz24_0,hfz24_1⟩:=bz2_ BK300.out
  obtain ⟨ad303,e303,hx303_0,p303,q303⟩:=aiI_ HR0_1.out x4_1
  cases e303
  replace hx303_0:=(HB.out.cell (World.block_lt_of_cell? w _ hx303_0)).trans hx303_0
  obtain ⟨ad304,e304,hx304_0,p304,q304⟩:=aiI_ HR0_1.out x5_2
  obtain rfl:ad303=ad304:=(by injection e304)
  replace hx304_0:=(HB.out.cell (World.block_lt_of_cell? w _ hx304_0)).trans hx304_0
  go_wp2_with (first|((with_reducible refine gate_callee (f:=72) rfl ?_);refine goesL_ (some 48) rfl rfl Try.func72 krT_ rfl #[.int .i64 (rd l0_1 x4_1),.int .i64 x6_3] rfl agT_ ?_;(with_reducible refine (spec_l2Has.calls (rd l0_1 x4_1) x6_3 true _ A19.out).mono ?_);rintro e w' ⟨rfl,⟨nd,rfl⟩⟩;refine ⟨_,rfl,?_⟩)|(go_at_call 72;(with_reducible refine (spec_l2Has.calls (rd l0_1 x5_2) x6_3 true _ A21.out).mono ?_);rintro e w' ⟨rfl,⟨nd,rfl⟩⟩))
  go_roundg k3
  case measure=>have:=HK1.out;have:=HK2.out;have:=HK3.out;omega
  case rel=>exact ⟨(wrap64 (x6_3+1)),(x302000_3),(x302001_3),(x302002_3),sT_,H',⟨by have:=HK1.out;have:=HK2.out;have:=HK3.out;omega⟩,⟨bkC_ BK300.out⟩,⟨bkC_ BK301.out⟩,⟨h_HB HB.out⟩⟩
 replace c22:=Bool.eq_false_iff.mpr c22
 subst c22
 replace H:=bF_ H
 replace H:=bnd_ H;obtain ⟨t307,A25,H⟩:=H
 by_cases c26:t307=true
 ·subst c26
  replace H:=bT_ H
  have H':=Aside0.mk H
  clear H
  have hnb27:=NB300_301.out
  have hnc27:=NB301_300.out
  obtain ⟨hcz28_0,hcz28_1,hfz28_0,hfz28_1⟩:=bz2_ BK300.out
  obtain ⟨ad303,e303,hx303_0,p303,q303⟩:=aiI_ HR0_1.out x4_1
  cases e303
  replace hx303_0:=(HB.out.cell (World.block_lt_of_cell? w _ hx303_0)).trans hx303_0
  obtain ⟨ad304,e304,hx304_0,p304,q304⟩:=aiI_ HR0_1.out x5_2
  obtain rfl:ad303=ad304:=(by injection e304)
  replace hx304_0:=(HB.out.cell (World.block_lt_of_cell? w _ hx304_0)).trans hx304_0
  go_wp2_with (first|((with_reducible refine gate_callee (f:=72) rfl ?_);refine goesL_ (some 48) rfl rfl Try.func72 krT_ rfl #[.int .i64 (rd l0_1 x4_1),.int .i64 x6_3] rfl agT_ ?_;(with_reducible refine (spec_l2Has.calls (rd l0_1 x4_1) x6_3 true _ A19.out).mono ?_);rintro e w' ⟨rfl,⟨nd,rfl⟩⟩;refine ⟨_,rfl,?_⟩)|(go_at_call 72;(with_reducible refine (spec_l2Has.calls (rd l0_1 x5_2) x6_3 false _ A21.out).mono ?_);rintro e w' ⟨rfl,⟨nd,rfl⟩⟩)|(go_at_call 73;(with_reducible refine (spec_l4Exchange.calls k3 a0_0 _ _ l0_1 (rd l0_1 x4_1) (rd l0_1 x5_2) x6_3 true _ ?side1 ?side2 A25.out).mono ?_);(case side1=>repeat (first|exact (Kd.C_below HR0_1.out (h_HB HB.out))|(with_reducible refine Kd.C_alloc ?_ _)|(with_reducible refine Kd.C_drewN ?_ _)|(with_reducible refine Kd.C_drew ?_)));(case side2=>exact HC0_1.out);rintro e w29 ⟨rfl,hb⟩;replace BK300:=Aside0.mk (blkB_ BK300.out hb);replace BK301:=Aside0.mk (blkB_ BK301.out hb);replace HB:=Aside0.mk (below_step (h_HB HB.out) hb);(try clear hb)))
  go_roundg k3
  case measure=>have:=HK1.out;have:=HK2.out;have:=HK3.out;omega
  case rel=>exact ⟨(wrap64 (x6_3+1)),(x302000_3),(x302001_3),(x302002_3),sT_,H',⟨by have:=HK1.out;have:=HK2.out;have:=HK3.out;omega⟩,⟨bkC_ BK300.out⟩,⟨bkC_ BK301.out⟩,⟨h_HB HB.out⟩⟩
 replace c26:=Bool.eq_false_iff.mpr c26
 subst c26
 replace H:=bF_ H
 simp only [Option.some.injEq,Prod.mk.injEq] at H
 obtain ⟨rfl,rfl,rfl,rfl⟩:=H
 have hnb30:=NB300_301.out
 have hnc30:=NB301_300.out
 obtain ⟨hcz31_0,hcz31_1,hfz31_0,hfz31_1⟩:=bz2_ BK300.out
 obtain ⟨ad303,e303,hx303_0,p303,q303⟩:=aiI_ HR0_1.out x4_1
 cases e303
 replace hx303_0:=(HB.out.cell (World.block_lt_of_cell? w _ hx303_0)).trans hx303_0
 obtain ⟨ad304,e304,hx304_0,p304,q304⟩:=aiI_ HR0_1.out x5_2
 obtain rfl:ad303=ad304:=(by injection e304)
 replace hx304_0:=(HB.out.cell (World.block_lt_of_cell? w _ hx304_0)).trans hx304_0
 go_wp2_with (first|((with_reducible refine gate_callee (f:=72) rfl ?_);refine goesL_ (some 48) rfl rfl Try.func72 krT_ rfl #[.int .i64 (rd l0_1 x4_1),.int .i64 x6_3] rfl agT_ ?_;(with_reducible refine (spec_l2Has.calls (rd l0_1 x4_1) x6_3 true _ A19.out).mono ?_);rintro e w' ⟨rfl,⟨nd,rfl⟩⟩;refine ⟨_,rfl,?_⟩;(try (rw [drewN_self wr];generalize hq_:World.drewN wr _=wr;replace BK300:Aside0 (wr.heap[gb300]?=some (.cells #[.int .i64 a0_0,.slice (some ad303) l0_1.length c0_1] 26 (0,0))):=⟨by rw [← hq_];exact (bkC_ BK300.out)⟩;replace BK301:Aside0 (wr.heap[gb301]?=some (.cells #[.int .i64 x302000_3,.int .i64 x302001_3,.int .i64 x302002_3] 59 (0,0))):=⟨by rw [← hq_];exact (bkC_ BK301.out)⟩;replace HB:Aside0 (Below w.heap.size w wr):=⟨by rw [← hq_];exact (h_HB HB.out)⟩;clear hq_;have hcuz32_gb300_0:wr.cell? ⟨gb300,0,none⟩=some (.int .i64 a0_0):=(blk_cell BK300.out 0).trans rfl;have hfuz32_gb300_0:=blk_frozen BK300.out 0;have hcuz32_gb300_1:wr.cell? ⟨gb300,1,none⟩=some (.slice (some ad303) l0_1.length c0_1):=(blk_cell BK300.out 1).trans rfl;have hfuz32_gb300_1:=blk_frozen BK300.out 1;have hcuz32_gb301_0:wr.cell? ⟨gb301,0,none⟩=some (.int .i64 x302000_3):=(blk_cell BK301.out 0).trans rfl;have hfuz32_gb301_0:=blk_frozen BK301.out 0;have hcuz32_gb301_1:wr.cell? ⟨gb301,1,none⟩=some (.int .i64 x302001_3):=(blk_cell BK301.out 1).trans rfl;have hfuz32_gb301_1:=blk_frozen BK301.out 1;have hcuz32_gb301_2:wr.cell? ⟨gb301,2,none⟩=some (.int .i64 x302002_3):=(blk_cell BK301.out 2).trans rfl;have hfuz32_gb301_2:=blk_frozen BK301.out 2)))|(go_at_call 72;(with_reducible refine (spec_l2Has.calls (rd l0_1 x5_2) x6_3 false _ A21.out).mono ?_);rintro e w' ⟨rfl,⟨nd,rfl⟩⟩;(try (rw [drewN_self wr];generalize hq_:World.drewN wr _=wr;replace BK300:Aside0 (wr.heap[gb300]?=some (.cells #[.int .i64 a0_0,.slice (some ad303) l0_1.length c0_1] 26 (0,0))):=⟨by rw [← hq_];exact (bkC_ BK300.out)⟩;replace BK301:Aside0 (wr.heap[gb301]?=some (.cells #[.int .i64 x302000_3,.int .i64 x302001_3,.int .i64 x302002_3] 59 (0,0))):=⟨by rw [← hq_];exact (bkC_ BK301.out)⟩;replace HB:Aside0 (Below w.heap.size w wr):=⟨by rw [← hq_];exact (h_HB HB.out)⟩;clear hq_;have hcuz33_gb300_0:wr.cell? ⟨gb300,0,none⟩=some (.int .i64 a0_0):=(blk_cell BK300.out 0).trans rfl;have hfuz33_gb300_0:=blk_frozen BK300.out 0;have hcuz33_gb300_1:wr.cell? ⟨gb300,1,none⟩=some (.slice (some ad303) l0_1.length c0_1):=(blk_cell BK300.out 1).trans rfl;have hfuz33_gb300_1:=blk_frozen BK300.out 1;have hcuz33_gb301_0:wr.cell? ⟨gb301,0,none⟩=some (.int .i64 x302000_3):=(blk_cell BK301.out 0).trans rfl;have hfuz33_gb301_0:=blk_frozen BK301.out 0;have hcuz33_gb301_1:wr.cell? ⟨gb301,1,none⟩=some (.int .i64 x302001_3):=(blk_cell BK301.out 1).trans rfl;have hfuz33_gb301_1:=blk_frozen BK301.out 1;have hcuz33_gb301_2:wr.cell? ⟨gb301,2,none⟩=some (.int .i64 x302002_3):=(blk_cell BK301.out 2).trans rfl;have hfuz33_gb301_2:=blk_frozen BK301.out 2)))|(go_at_call 73;(with_reducible refine (spec_l4Exchange.calls k3 a0_0 _ _ l0_1 (rd l0_1 x4_1) (rd l0_1 x5_2) x6_3 false _ ?side1 ?side2 A25.out).mono ?_);(case side1=>exact cC_ HR0_1.out);(case side2=>exact HC0_1.out);rintro e w34 ⟨rfl,hb⟩;replace BK300:=Aside0.mk (blkB_ BK300.out hb);replace BK301:=Aside0.mk (blkB_ BK301.out hb);replace HB:=Aside0.mk (below_step (h_HB HB.out) hb);(try clear hb);obtain ⟨hcz35_0,hcz35_1,hcz35_2,hfz35_0,hfz35_1,hfz35_2⟩:=bz3_ BK301.out))
 refine bodyPost_ret (results_ct rfl _ _ gb301 59 #[.int .i64 (rd l0_1 x4_1),.int .i64 (rd l0_1 x5_2),.int .i64 x6_3] (0,0) _ rfl (by (with_reducible repeat (first|refine blk_drewN ?_ _|refine blk_drew ?_|refine blk_alloc ?_ _));refine blk_put (cs:=#[.int .i64 (rd l0_1 x4_1),.int .i64 (rd l0_1 x5_2),.int .i64 x302002_3]) ?_ 2 _ rfl;(with_reducible repeat (first|refine blk_drewN ?_ _|refine blk_drew ?_|refine blk_alloc ?_ _));refine blk_put (cs:=#[.int .i64 (rd l0_1 x4_1),.int .i64 x302001_3,.int .i64 x302002_3]) ?_ 1 _ rfl;(with_reducible repeat (first|refine blk_drewN ?_ _|refine blk_drew ?_|refine blk_alloc ?_ _));refine blk_put (cs:=#[.int .i64 x302000_3,.int .i64 x302001_3,.int .i64 x302002_3]) ?_ 0 _ rfl;exact bkC_ BK301.out) Try.underlying59 rfl krT_) rfl ?_
 exact ⟨eT_,h_HB HB.out⟩
/-! ### spec_IsMatroid: function 40 -/
def spec_IsMatroid.f (k:Nat) (a0_0:Int) (l0_1:List Int):Option (Bool):=(spec_FirstFailure.f k a0_0 l0_1).bind fun bt309=>((spec_IsFamily.f k a0_0 l0_1).bind fun t314=>(if t314=true then (if (l0_1.length:Int)>0 then (some (!bt309.2.2.2)) else (some false)) else (some false)))
set_option maxHeartbeats 8000000 in
set_option maxRecDepth 100000 in
theorem spec_IsMatroid.calls (k:Nat) (a0_0:Int) (A0_1:Option Addr) (c0_1:Nat) (l0_1:List Int) (r:Bool) (w:World) (hr0_1:Kd.C (Kd.int .i64) w A0_1 l0_1.length l0_1) (hc0_1:l0_1.length≤c0_1) (h:spec_IsMatroid.f k a0_0 l0_1=some r) :
    Calls Try.prog 40 #[.agg #[.int .i64 a0_0,.slice A0_1 l0_1.length c0_1]] w fun e w'=>e=.returned (.bool r)∧Below w.heap.size w w':=by
 have hu26:=Try.underlying26
 have hu59:=Try.underlying59
 have HR0_1:=Aside0.mk hr0_1
 have HC0_1:=Aside0.mk hc0_1
 clear hr0_1 hc0_1
 have HB:=Aside0.mk (Below.refl w.heap.size w)
 unfold spec_IsMatroid.f at h
 have H:=h
 clear h
 replace H:=bnd_ H;obtain ⟨⟨t309,t310,t311,t312⟩,A2,H⟩:=H;dsimp only at H
 replace H:=bnd_ H;obtain ⟨t314,A3,H⟩:=H
 by_cases c4:t314=true
 ·subst c4
  replace H:=bT_ H
  by_cases c5:(l0_1.length:Int)>0
  ·rw [if_pos c5] at H
   have c5b0:decide (0<(l0_1.length:Int))=true:=decide_eq_true c5
   have c5b1:decide (0<l0_1.length)=true:=decide_eq_true (by omega)
   clear c5
   obtain rfl:=Option.some.inj H
   go_enter Try.func40,Try.ntmps40
   go_wp2_with (first|((with_reducible refine gate_dst (N:=1) rfl ?_);(try (refine gate_guard (by rfl) ?_;dsimp only));refine bx_ (N:=1) (cs:=#[.int .i64 a0_0,.slice A0_1 l0_1.length c0_1]) (t:=26) ?_;intro gb308 hg w6 hbox hb;have BK308:=Aside0.mk (hbox);have GW308:=Aside0.mk (gw_ hg (h_HB HB.out));have GE308:=Aside0.mk (gw_ hg (h_HB HB.out));replace HB:=Aside0.mk (below_step (h_HB HB.out) hb);clear hb hbox hg;obtain ⟨hcz7_0,hcz7_1,hfz7_0,hfz7_1⟩:=bz2_ BK308.out)|((with_reducible refine gate_callee (f:=61) rfl ?_);refine goesL_ (some 7) rfl rfl Try.func61 krT_ rfl #[.agg #[.int .i64 a0_0,.slice A0_1 l0_1.length c0_1]] rfl agT_ ?_;(with_reducible refine (spec_FirstFailure.calls k a0_0 _ _ l0_1 t309 t310 t311 t312 _ ?side1 ?side2 A2.out).mono ?_);(case side1=>exact cC_ HR0_1.out);(case side2=>exact HC0_1.out);rintro e w8 ⟨rfl,hb⟩;refine ⟨_,rfl,?_⟩;replace BK308:=Aside0.mk (blkB_ BK308.out hb);replace HB:=Aside0.mk (below_step (h_HB HB.out) hb);(try clear hb))|((with_reducible refine gate_dst (N:=3) rfl ?_);(try (refine gate_guard (by rfl) ?_;dsimp only));refine bx_ (N:=3) (cs:=#[.int .i64 0,.int .i64 0,.int .i64 0]) (t:=59) ?_;intro gb313 hg w9 hbox hb;have BK313:=Aside0.mk (hbox);have GW313:=Aside0.mk (gw_ hg (h_HB HB.out));have GE313:=Aside0.mk (gw_ hg (h_HB HB.out));replace HB:=Aside0.mk (below_step (h_HB HB.out) hb);have NB308_313:=Aside0.mk (nbl_ hg (bkC_ BK308.out));have NB313_308:=Aside0.mk (nbg_ hg (bkC_ BK308.out));replace BK308:=Aside0.mk (blkB_ BK308.out hb);clear hb hbox hg;have hnb10:=NB313_308.out;have hnc10:=NB308_313.out;obtain ⟨hcz11_0,hcz11_1,hcz11_2,hfz11_0,hfz11_1,hfz11_2⟩:=bz3_ BK313.out;obtain ⟨hcz12_0,hcz12_1,hfz12_0,hfz12_1⟩:=bz2_ BK308.out)|((with_reducible refine gate_callee (f:=62) rfl ?_);refine goesL_ (some 14) rfl rfl Try.func62 krT_ rfl #[.int .i64 a0_0,.slice A0_1 l0_1.length c0_1] rfl agT_ ?_;(with_reducible refine (spec_IsFamily.calls k a0_0 _ _ l0_1 true _ ?side1 ?side2 A3.out).mono ?_);(case side1=>exact Kd.C_below HR0_1.out (h_HB HB.out));(case side2=>exact HC0_1.out);rintro e w' ⟨rfl,⟨nd,rfl⟩⟩;refine ⟨_,rfl,?_⟩))
   go_ret
   exact ⟨eT_,h_HB HB.out⟩
  rw [if_neg c5] at H
  have c5b0:decide (0<(l0_1.length:Int))=false:=decide_eq_false c5
  have c5b1:decide (0<l0_1.length)=false:=decide_eq_false (by omega)
  clear c5
  obtain rfl:=Option.some.inj H
  go_enter Try.func40,Try.ntmps40
  go_wp2_with (first|((with_reducible refine gate_dst (N:=1) rfl ?_);(try (refine gate_guard (by rfl) ?_;dsimp only));refine bx_ (N:=1) (cs:=#[.int .i64 a0_0,.slice A0_1 l0_1.length c0_1]) (t:=26) ?_;intro gb308 hg w13 hbox hb;have BK308:=Aside0.mk (hbox);have GW308:=Aside0.mk (gw_ hg (h_HB HB.out));have GE308:=Aside0.mk (gw_ hg (h_HB HB.out));replace HB:=Aside0.mk (below_step (h_HB HB.out) hb);clear hb hbox hg;obtain ⟨hcz14_0,hcz14_1,hfz14_0,hfz14_1⟩:=bz2_ BK308.out)|((with_reducible refine gate_callee (f:=61) rfl ?_);refine goesL_ (some 7) rfl rfl Try.func61 krT_ rfl #[.agg #[.int .i64 a0_0,.slice A0_1 l0_1.length c0_1]] rfl agT_ ?_;(with_reducible refine (spec_FirstFailure.calls k a0_0 _ _ l0_1 t309 t310 t311 t312 _ ?side1 ?side2 A2.out).mono ?_);(case side1=>exact cC_ HR0_1.out);(case side2=>exact HC0_1.out);rintro e w15 ⟨rfl,hb⟩;refine ⟨_,rfl,?_⟩;replace BK308:=Aside0.mk (blkB_ BK308.out hb);replace HB:=Aside0.mk (below_step (h_HB HB.out) hb);(try clear hb))|((with_reducible refine gate_dst (N:=3) rfl ?_);(try (refine gate_guard (by rfl) ?_;dsimp only));refine bx_ (N:=3) (cs:=#[.int .i64 0,.int .i64 0,.int .i64 0]) (t:=59) ?_;intro gb313 hg w16 hbox hb;have BK313:=Aside0.mk (hbox);have GW313:=Aside0.mk (gw_ hg (h_HB HB.out));have GE313:=Aside0.mk (gw_ hg (h_HB HB.out));replace HB:=Aside0.mk (below_step (h_HB HB.out) hb);have NB308_313:=Aside0.mk (nbl_ hg (bkC_ BK308.out));have NB313_308:=Aside0.mk (nbg_ hg (bkC_ BK308.out));replace BK308:=Aside0.mk (blkB_ BK308.out hb);clear hb hbox hg;have hnb17:=NB313_308.out;have hnc17:=NB308_313.out;obtain ⟨hcz18_0,hcz18_1,hcz18_2,hfz18_0,hfz18_1,hfz18_2⟩:=bz3_ BK313.out;obtain ⟨hcz19_0,hcz19_1,hfz19_0,hfz19_1⟩:=bz2_ BK308.out)|((with_reducible refine gate_callee (f:=62) rfl ?_);refine goesL_ (some 14) rfl rfl Try.func62 krT_ rfl #[.int .i64 a0_0,.slice A0_1 l0_1.length c0_1] rfl agT_ ?_;(with_reducible refine (spec_IsFamily.calls k a0_0 _ _ l0_1 true _ ?side1 ?side2 A3.out).mono ?_);(case side1=>exact Kd.C_below HR0_1.out (h_HB HB.out));(case side2=>exact HC0_1.out);rintro e w' ⟨rfl,⟨nd,rfl⟩⟩;refine ⟨_,rfl,?_⟩))
  go_ret
  exact ⟨eT_,h_HB HB.out⟩
 ·replace c4:=Bool.eq_false_iff.mpr c4
  subst c4
  replace H:=bF_ H
  obtain rfl:=Option.some.inj H
  go_enter Try.func40,Try.ntmps40
  go_wp2_with (first|((with_reducible refine gate_dst (N:=1) rfl ?_);(try (refine gate_guard (by rfl) ?_;dsimp only));refine bx_ (N:=1) (cs:=#[.int .i64 a0_0,.slice A0_1 l0_1.length c0_1]) (t:=26) ?_;intro gb308 hg w20 hbox hb;have BK308:=Aside0.mk (hbox);have GW308:=Aside0.mk (gw_ hg (h_HB HB.out));have GE308:=Aside0.mk (gw_ hg (h_HB HB.out));replace HB:=Aside0.mk (below_step (h_HB HB.out) hb);clear hb hbox hg;obtain ⟨hcz21_0,hcz21_1,hfz21_0,hfz21_1⟩:=bz2_ BK308.out)|((with_reducible refine gate_callee (f:=61) rfl ?_);refine goesL_ (some 7) rfl rfl Try.func61 krT_ rfl #[.agg #[.int .i64 a0_0,.slice A0_1 l0_1.length c0_1]] rfl agT_ ?_;(with_reducible refine (spec_FirstFailure.calls k a0_0 _ _ l0_1 t309 t310 t311 t312 _ ?side1 ?side2 A2.out).mono ?_);(case side1=>exact cC_ HR0_1.out);(case side2=>exact HC0_1.out);rintro e w22 ⟨rfl,hb⟩;refine ⟨_,rfl,?_⟩;replace BK308:=Aside0.mk (blkB_ BK308.out hb);replace HB:=Aside0.mk (below_step (h_HB HB.out) hb);(try clear hb))|((with_reducible refine gate_dst (N:=3) rfl ?_);(try (refine gate_guard (by rfl) ?_;dsimp only));refine bx_ (N:=3) (cs:=#[.int .i64 0,.int .i64 0,.int .i64 0]) (t:=59) ?_;intro gb313 hg w23 hbox hb;have BK313:=Aside0.mk (hbox);have GW313:=Aside0.mk (gw_ hg (h_HB HB.out));have GE313:=Aside0.mk (gw_ hg (h_HB HB.out));replace HB:=Aside0.mk (below_step (h_HB HB.out) hb);have NB308_313:=Aside0.mk (nbl_ hg (bkC_ BK308.out));have NB313_308:=Aside0.mk (nbg_ hg (bkC_ BK308.out));replace BK308:=Aside0.mk (blkB_ BK308.out hb);clear hb hbox hg;have hnb24:=NB313_308.out;have hnc24:=NB308_313.out;obtain ⟨hcz25_0,hcz25_1,hcz25_2,hfz25_0,hfz25_1,hfz25_2⟩:=bz3_ BK313.out;obtain ⟨hcz26_0,hcz26_1,hfz26_0,hfz26_1⟩:=bz2_ BK308.out)|((with_reducible refine gate_callee (f:=62) rfl ?_);refine goesL_ (some 14) rfl rfl Try.func62 krT_ rfl #[.int .i64 a0_0,.slice A0_1 l0_1.length c0_1] rfl agT_ ?_;(with_reducible refine (spec_IsFamily.calls k a0_0 _ _ l0_1 false _ ?side1 ?side2 A3.out).mono ?_);(case side1=>exact Kd.C_below HR0_1.out (h_HB HB.out));(case side2=>exact HC0_1.out);rintro e w' ⟨rfl,⟨nd,rfl⟩⟩;refine ⟨_,rfl,?_⟩))
  go_ret
  exact ⟨eT_,h_HB HB.out⟩
/-! ### spec_MatroidText: function 88 -/
def spec_MatroidText.f (k:Nat) (a0_0:Int) (l0_1:List Int):Option (ByteArray):=(spec_IsMatroid.f k a0_0 l0_1).bind fun t316=>(if t316=true then ((spec_FormatInt.f k a0_0).bind fun t317=>(if t317.size+1≤9223372036854775807 then ((spec_FamilyText.f k l0_1).bind fun t318=>(if (t317++(⟨#[32]⟩:ByteArray)).size+t318.size≤9223372036854775807 then (some ((t317++(⟨#[32]⟩:ByteArray))++t318)) else (none))) else (none))) else (some (⟨#[]⟩:ByteArray)))
def spec_MatroidText.T3:Bool × List (List Nat × List Nat):=(true,[([],[]),([0],[0]),([1],[1]),([2],[2]),([],[]),([4],[4]),([5,2],[5]),([3,6],[3,6]),([7,6,0,1,2,3,4,5,6,7],[7])])
def spec_MatroidText.B3:List Nat:=[0,1,3,7,0,16,55,127,255]
theorem spec_MatroidText.tab3:rtab .any (opsOf Try.f88 3)=spec_MatroidText.T3:=by kernel_rfl
theorem spec_MatroidText.bits3:waitsOk spec_MatroidText.T3.2 spec_MatroidText.B3=true:=by kernel_rfl
set_option maxHeartbeats 8000000 in
set_option maxRecDepth 100000 in
theorem spec_MatroidText.calls (k:Nat) (a0_0:Int) (A0_1:Option Addr) (c0_1:Nat) (l0_1:List Int) (r:ByteArray) (w:World) (hr0_1:Kd.C (Kd.int .i64) w A0_1 l0_1.length l0_1) (hc0_1:l0_1.length≤c0_1) (h:spec_MatroidText.f k a0_0 l0_1=some r) :
    Calls Try.prog 88 #[.agg #[.int .i64 a0_0,.slice A0_1 l0_1.length c0_1]] w fun e w'=>e=.returned (.string r)∧Below w.heap.size w w':=by
 have hu26:=Try.underlying26
 have HR0_1:=Aside0.mk hr0_1
 have HC0_1:=Aside0.mk hc0_1
 clear hr0_1 hc0_1
 have HB:=Aside0.mk (Below.refl w.heap.size w)
 unfold spec_MatroidText.f at h
 have H:=h
 clear h
 replace H:=bnd_ H;obtain ⟨t316,A2,H⟩:=H
 by_cases c3:t316=true
 rotate_left
 ·replace c3:=Bool.eq_false_iff.mpr c3
  subst c3
  replace H:=bF_ H
  obtain rfl:=Option.some.inj H
  go_enter Try.func88,Try.ntmps88
  go_wp2_with (first|((with_reducible refine gate_dst (N:=1) rfl ?_);refine bx_ (N:=1) (cs:=#[.int .i64 a0_0,.slice A0_1 l0_1.length c0_1]) (t:=26) ?_;intro gb315 hg w14 hbox hb;have BK315:=Aside0.mk (hbox);have GW315:=Aside0.mk (gw_ hg (h_HB HB.out));have GE315:=Aside0.mk (gw_ hg (h_HB HB.out));replace HB:=Aside0.mk (below_step (h_HB HB.out) hb);clear hb hbox hg;obtain ⟨hcz15_0,hcz15_1,hfz15_0,hfz15_1⟩:=bz2_ BK315.out)|((with_reducible refine gate_callee (f:=40) rfl ?_);refine goesL_ (some 4) rfl rfl Try.func40 krT_ rfl #[.agg #[.int .i64 a0_0,.slice A0_1 l0_1.length c0_1]] rfl agT_ ?_;(with_reducible refine (spec_IsMatroid.calls k a0_0 _ _ l0_1 false _ ?side1 ?side2 A2.out).mono ?_);(case side1=>exact cC_ HR0_1.out);(case side2=>exact HC0_1.out);rintro e w16 ⟨rfl,hb⟩;refine ⟨_,rfl,?_⟩;replace BK315:=Aside0.mk (blkB_ BK315.out hb);replace HB:=Aside0.mk (below_step (h_HB HB.out) hb);(try clear hb)))
  go_ret
  exact ⟨eT_,h_HB HB.out⟩
 subst c3
 replace H:=bT_ H
 replace H:=bnd_ H;obtain ⟨t317,A4,H⟩:=H
 by_cases c5:t317.size+1≤9223372036854775807
 rotate_left
 ·rw [if_neg c5] at H
  exact absurd H (by simp)
 rw [if_pos c5] at H
 have c5b0:=eq_true c5
 have c5b1:decide (t317.size+1≤9223372036854775807)=true:=decide_eq_true c5
 try have c5b2:(9223372036854775807<t317.size+1)=False:=eq_false (Nat.not_lt.2 c5)
 replace H:=bnd_ H;obtain ⟨t318,A6,H⟩:=H
 by_cases c7:(t317++(⟨#[32]⟩:ByteArray)).size+t318.size≤9223372036854775807
 rotate_left
 ·rw [if_neg c7] at H
  exact absurd H (by simp)
 rw [if_pos c7] at H
 have c7b0:=eq_true c7
 have c7b1:decide ((t317++(⟨#[32]⟩:ByteArray)).size+t318.size≤9223372036854775807)=true:=decide_eq_true c7
 try have c7b2:(9223372036854775807<(t317++(⟨#[32]⟩:ByteArray)).size+t318.size)=False:=eq_false (Nat.not_lt.2 c7)
 try have c7b3:(9223372036854775807<t317.size+1+t318.size)=False:=eq_false (by have h_:=c7;simp only [ByteArray.size_append] at h_;have e_:(⟨#[32]⟩:ByteArray).size=1:=rfl;omega)
 obtain rfl:=Option.some.inj H
 go_enter Try.func88,Try.ntmps88
 try go_wp2_with (first|((with_reducible refine gate_dst (N:=1) rfl ?_);refine bx_ (N:=1) (cs:=#[.int .i64 a0_0,.slice A0_1 l0_1.length c0_1]) (t:=26) ?_;intro gb315 hg w8 hbox hb;have BK315:=Aside0.mk (hbox);have GW315:=Aside0.mk (gw_ hg (h_HB HB.out));have GE315:=Aside0.mk (gw_ hg (h_HB HB.out));replace HB:=Aside0.mk (below_step (h_HB HB.out) hb);clear hb hbox hg;obtain ⟨hcz9_0,hcz9_1,hfz9_0,hfz9_1⟩:=bz2_ BK315.out)|((with_reducible refine gate_callee (f:=40) rfl ?_);refine goesL_ (some 4) rfl rfl Try.func40 krT_ rfl #[.agg #[.int .i64 a0_0,.slice A0_1 l0_1.length c0_1]] rfl agT_ ?_;(with_reducible refine (spec_IsMatroid.calls k a0_0 _ _ l0_1 true _ ?side1 ?side2 A2.out).mono ?_);(case side1=>exact cC_ HR0_1.out);(case side2=>exact HC0_1.out);rintro e w10 ⟨rfl,hb⟩;refine ⟨_,rfl,?_⟩;replace BK315:=Aside0.mk (blkB_ BK315.out hb);replace HB:=Aside0.mk (below_step (h_HB HB.out) hb);(try clear hb)))
 replace BK315:=Aside0.mk (blk_drew BK315.out);replace HB:=Aside0.mk (below_drew1 HB.out)
 refine start_ (n:=9) (S:=fun w'=>w'.cell? ⟨gb315,0,none⟩=some (.int .i64 a0_0)∧w'.cell? ⟨gb315,1,none⟩=some (.slice A0_1 l0_1.length c0_1)) (ds:=[]) #[F_,F_,F_,F_,F_,F_,F_,F_,F_] krT_ rfl rfl ⟨(blk_cell BK315.out 0).trans rfl,(blk_cell BK315.out 1).trans rfl⟩ (fun hHeld=>?_);refine with_tabW spec_MatroidText.tab3 spec_MatroidText.bits3 (fun HT_ HW_=>?_)
 generalize w10.drew=w11 at BK315 HB hHeld ⊢
 refine pu_ 0 (some 6) (bm_ 9 1) rfl rfl HT_.out ?_
 refine pu_ 4 (some 10) (bm_ 9 17) rfl rfl HT_.out ?_
 refine take_ (i:=1) (N:=some 7) (v:=?_) (a':=?_) (bm_ 9 19) rfl rfl (take_ofW HT_.out HW_.out krT_) (fun _ _ _ h=>h) (Or.inl ⟨by rfl,?_⟩) hHeld ?_ ?_
 rotate_left
 ·rintro w' ⟨s0,s1⟩
  go_simp
  with_reducible rfl
 rotate_left;exact apT_
 refine take_ (i:=5) (N:=some 11) (v:=?_) (a':=?_) (bm_ 9 51) rfl rfl (take_ofW HT_.out HW_.out krT_) (fun _ _ _ h=>h) (Or.inl ⟨by rfl,?_⟩) hHeld ?_ ?_
 rotate_left
 ·rintro w' ⟨s0,s1⟩
  go_simp
  with_reducible rfl
 rotate_left;exact apT_
 refine one_ (i:=2) (N:=some 8) (bm_ 9 55) rfl rfl (one_of HT_.out krT_) (by decide) (fun K hK=>?_)
 refine goes_ Try.func94 krT_ rfl #[.int .i64 a0_0] (by rfl) rfl rfl agT_ ?_
 with_reducible refine (spec_FormatInt.calls k a0_0 t317 _ A4.out).mono ?_
 rintro e w12 ⟨rfl,hb⟩
 refine ⟨_,rfl,?_⟩
 replace BK315:=Aside0.mk (blkB_ BK315.out hb);replace HB:=Aside0.mk (below_step (h_HB HB.out) hb)
 (try clear hb)
 (try clear hb2)
 (try clear hk)
 (try clear hi)
 refine hK.out _ _ ⟨(blk_cell BK315.out 0).trans rfl,(blk_cell BK315.out 1).trans rfl⟩ (fun hHeld=>?_)
 clear hK K
 refine norm_ (a':=?_) ?_ ?_
 rotate_left
 ·show Act.put _ (some 8) _=_
  simp only [Act.put,List.setIfInBounds_toArray,List.set_cons_zero,List.set_cons_succ,i64_w,i32_w]
  rfl
 refine pu_ 3 (some 9) (bm_ 9 63) rfl rfl HT_.out ?_
 refine one_ (i:=6) (N:=some 12) (bm_ 9 127) rfl rfl (one_of HT_.out krT_) (by decide) (fun K hK=>?_)
 refine goes_ Try.func93 krT_ rfl #[.slice A0_1 l0_1.length c0_1] (by rfl) rfl rfl agT_ ?_
 with_reducible refine (spec_FamilyText.calls k _ _ l0_1 t318 _ ?side1 ?side2 A6.out).mono ?_
 (case side1=>exact cC_ HR0_1.out)
 (case side2=>exact HC0_1.out)
 rintro e w13 ⟨rfl,hb⟩
 refine ⟨_,rfl,?_⟩
 replace BK315:=Aside0.mk (blkB_ BK315.out hb);replace HB:=Aside0.mk (below_step (h_HB HB.out) hb)
 (try clear hb)
 (try clear hb2)
 (try clear hk)
 (try clear hi)
 refine hK.out _ _ ⟨(blk_cell BK315.out 0).trans rfl,(blk_cell BK315.out 1).trans rfl⟩ (fun hHeld=>?_)
 clear hK K
 refine norm_ (a':=?_) ?_ ?_
 rotate_left
 ·show Act.put _ (some 12) _=_
  simp only [Act.put,List.setIfInBounds_toArray,List.set_cons_zero,List.set_cons_succ,i64_w,i32_w]
  rfl
 refine pu_ 7 (some 13) (bm_ 9 255) rfl rfl HT_.out ?_
 refine pu_ 8 (some 2) (bm_ 9 511) rfl rfl HT_.out ?_
 refine done_ (done_of HT_.out krT_) ?_
 try go_wp2
 go_ret
 exact ⟨eT_,h_HB HB.out⟩
/-! ### spec_ParseMatroid: function 78 -/
def spec_ParseMatroid.f (k:Nat) (a0:ByteArray):Option (Int × List Int × Bool):=(spec_SplitByte.f k a0 32).bind fun t320=>(if (t320.length:Int)=2 then (if 0<(t320.length:Int) then ((spec_ParseInt.f k (rdOf ByteArray.empty t320 0)).bind fun bt324=>(if 1<(t320.length:Int) then ((spec_ParseFamily.f k bt324.1 (rdOf ByteArray.empty t320 1)).bind fun bt327=>(if bt324.2=true then (if bt327.2=true then ((spec_MatroidText.f k bt324.1 bt327.1).bind fun t332=>(if t332.toList=a0.toList then (some (bt324.1,bt327.1,true)) else (some (0,([]:List Int),false)))) else (some (0,([]:List Int),false))) else (some (0,([]:List Int),false)))) else (none))) else (none)) else (some (0,([]:List Int),false)))
set_option maxHeartbeats 8000000 in
set_option maxRecDepth 100000 in
theorem spec_ParseMatroid.calls (k:Nat) (a0:ByteArray) (r1:Int) (r2:List Int) (r3:Bool) (w:World) (h:spec_ParseMatroid.f k a0=some (r1,r2,r3)) :
    Calls Try.prog 78 #[.string a0] w fun e w'=>∃ v1_:Value,e=.returned (.tuple #[.agg #[.int .i64 r1,v1_],.bool r3])∧Kd.R (Kd.int .i64) 3 w' w.heap.size (fun _=>True) v1_ r2∧Below w.heap.size w w':=by
 have hu26:=Try.underlying26
 have HB:=Aside0.mk (Below.refl w.heap.size w)
 unfold spec_ParseMatroid.f at h
 have H:=h
 clear h
 replace H:=bnd_ H;obtain ⟨t320,A2,H⟩:=H
 by_cases c3:(t320.length:Int)=2
 ·rw [if_pos c3] at H
  have c3b0:((t320.length:Int)==2)=true:=beq_iff_eq.mpr c3
  have c3b1:((t320.length:Int) != 2)=false:=bne_eq_false_iff_eq.mpr c3
  clear c3
  by_cases c4:0<(t320.length:Int)
  ·rw [if_pos c4] at H
   have c4b0:decide (0<(t320.length:Int))=true:=decide_eq_true c4
   have c4b1:decide (0<t320.length)=true:=decide_eq_true (by omega)
   clear c4
   replace H:=bnd_ H;obtain ⟨⟨t324,t325⟩,A5,H⟩:=H;dsimp only at H
   by_cases c6:1<(t320.length:Int)
   ·rw [if_pos c6] at H
    have c6b0:decide (1<(t320.length:Int))=true:=decide_eq_true c6
    have c6b1:decide (1<t320.length)=true:=decide_eq_true (by omega)
    clear c6
    replace H:=bnd_ H;obtain ⟨⟨t327,t328⟩,A7,H⟩:=H;dsimp only at H
    by_cases c8:t325=true
    ·subst c8
     replace H:=bT_ H
     by_cases c9:t328=true
     ·subst c9
      replace H:=bT_ H
      replace H:=bnd_ H;obtain ⟨t332,A10,H⟩:=H
      by_cases c11:t332.toList=a0.toList
      ·rw [if_pos c11] at H
       have c11b0:(t332.toList==a0.toList)=true:=beq_iff_eq.mpr c11
       have c11b1:(t332.toList != a0.toList)=false:=bne_eq_false_iff_eq.mpr c11
       clear c11
       simp only [Option.some.injEq,Prod.mk.injEq] at H
       obtain ⟨rfl,rfl,rfl⟩:=H
       go_enter Try.func78,Try.ntmps78
       go_wp2_with (first|((with_reducible refine gate_dst (N:=2) rfl ?_);refine bx_ (N:=2) (cs:=#[.int .i64 0,.slice none 0 0]) (t:=26) ?_;intro gb319 hg w12 hbox hb;have BK319:=Aside0.mk (hbox);have GW319:=Aside0.mk (gw_ hg (h_HB HB.out));have GE319:=Aside0.mk (gw_ hg (h_HB HB.out));replace HB:=Aside0.mk (below_step (h_HB HB.out) hb);clear hb hbox hg)|((with_reducible refine gate_callee (f:=85) rfl ?_);refine goesL_ (some 11) rfl rfl Try.func85 krT_ rfl #[.string a0,.int .u8 32] rfl agT_ ?_;(with_reducible refine (spec_SplitByte.calls k a0 32 t320 _ A2.out).mono ?_);rintro e w13 ⟨v321,rfl,ho0,hb⟩;refine ⟨_,rfl,?_⟩;have HO322:=Aside0.mk (Kd.R_lower ho0 (below_size (h_HB HB.out)));replace BK319:=Aside0.mk (blkB_ BK319.out hb);replace HB:=Aside0.mk (below_step (h_HB HB.out) hb);(try clear hb);(try clear hb2);(try clear hk);(try clear hi);(try clear ho0);obtain ⟨Ao14,co14,eo14⟩:=Kd.R_slice HO322.out;subst eo14;have p323:0≤(0:Int):=(by omega);have q323:0<(t320.length:Int):=odT_;obtain ⟨ad323,e323,hx323_0⟩:=Kd.at_string (Kd.R_reads' HO322.out).2.2 0 p323 q323;cases e323;have qi323:(0<t320.length)=True:=eq_true (by omega);(try rw [show ((0:Int)).toNat=0 from rfl] at hx323_0);(try rw [Addr.add_zero'] at hx323_0);replace p323:=eq_true p323;replace q323:=eq_true q323)|((with_reducible refine gate_callee (f:=86) rfl ?_);refine goesL_ (some 20) rfl rfl Try.func86 krT_ rfl #[.string (rdOf ByteArray.empty t320 0)] rfl agT_ ?_;(with_reducible refine (spec_ParseInt.calls k (rdOf ByteArray.empty t320 0) t324 true _ A5.out).mono ?_);rintro e w15 ⟨rfl,hb⟩;refine ⟨_,rfl,?_⟩;replace HO322:=Aside0.mk (Kd.R_below (kRC_ HO322.out) hb);replace BK319:=Aside0.mk (blkB_ BK319.out hb);replace HB:=Aside0.mk (below_step (h_HB HB.out) hb);(try clear hb);have p326:0≤(1:Int):=(by omega);have q326:1<(t320.length:Int):=odT_;obtain ⟨ad326,e326,hx326_0⟩:=Kd.at_string (Kd.R_reads' HO322.out).2.2 1 p326 q326;obtain rfl:ad323=ad326:=(by injection e326);(try simp only [show (1:Int).toNat=1 from rfl,Nat.reduceMul,Nat.reduceEqDiff,Go.Addr.add,↓reduceIte] at hx326_0);have qi326:(1<t320.length)=True:=eq_true (by omega);(try rw [show ((1:Int)).toNat=1 from rfl] at hx326_0);replace p326:=eq_true p326;replace q326:=eq_true q326)|((with_reducible refine gate_callee (f:=87) rfl ?_);refine goesL_ (some 28) rfl rfl Try.func87 krT_ rfl #[.int .i64 t324,.string (rdOf ByteArray.empty t320 1)] rfl agT_ ?_;(with_reducible refine (spec_ParseFamily.calls k t324 (rdOf ByteArray.empty t320 1) t327 true _ A7.out).mono ?_);rintro e w16 ⟨v329,rfl,ho0,hb⟩;refine ⟨_,rfl,?_⟩;replace HO322:=Aside0.mk (Kd.R_below (kRC_ HO322.out) hb);have HO330:=Aside0.mk (Kd.R_lower ho0 (below_size (h_HB HB.out)));replace BK319:=Aside0.mk (blkB_ BK319.out hb);replace HB:=Aside0.mk (below_step (h_HB HB.out) hb);(try clear hb);(try clear hb2);(try clear hk);(try clear hi);(try clear ho0);obtain ⟨Ao17,co17,eo17⟩:=Kd.R_slice HO330.out;subst eo17)|((with_reducible refine gate_dst (N:=9) rfl ?_);refine bx_ (N:=9) (cs:=#[.int .i64 0,.slice none 0 0]) (t:=26) ?_;intro gb331 hg w18 hbox hb;replace HO322:=Aside0.mk (Kd.R_below (kRC_ HO322.out) hb);replace HO330:=Aside0.mk (Kd.R_below (kRC_ HO330.out) hb);have BK331:=Aside0.mk (hbox);have GW331:=Aside0.mk (gw_ hg (h_HB HB.out));have GE331:=Aside0.mk (gw_ hg (h_HB HB.out));replace HB:=Aside0.mk (below_step (h_HB HB.out) hb);have NB319_331:=Aside0.mk (nbl_ hg (bkC_ BK319.out));have NB331_319:=Aside0.mk (nbg_ hg (bkC_ BK319.out));replace BK319:=Aside0.mk (blkB_ BK319.out hb);clear hb hbox hg;have hnb19:=NB331_319.out;have hnc19:=NB319_331.out;obtain ⟨hcz20_0,hcz20_1,hfz20_0,hfz20_1⟩:=bz2_ BK331.out)|(go_at_call 88;(with_reducible refine (spec_MatroidText.calls k t324 _ _ t327 t332 _ ?side1 ?side2 A10.out).mono ?_);(case side1=>refine (Kd.R_reads' (e:=3) (base:=w.heap.size) (ok:=fun k_=>True) (n:=t327.length) (c:=co17) ?_).2.2;exact (by (with_reducible repeat (first|apply Kd.R_alloc|apply Kd.R_drewN|apply Kd.R_drew));exact (Kd.R_mono (Kd.R_far (p:=⟨gb331,1,none⟩) (Kd.R_far (p:=⟨gb331,0,none⟩) (Kd.R_types HO330.out BK331.out (by decide)) (fun _ hk=>hk.2) (.int .i64 t324)) (fun _ hk=>hk.2) (.slice Ao17 t327.length co17)) (fun _ h_=>h_.1))));(case side2=>exact (Kd.R_reads' HO330.out).2.1);rintro e w21 ⟨rfl,hb⟩;replace HO322:=Aside0.mk (Kd.R_below (by (with_reducible repeat (first|apply Kd.R_alloc|apply Kd.R_drewN|apply Kd.R_drew));exact (Kd.R_mono (Kd.R_far (p:=⟨gb331,1,none⟩) (Kd.R_far (p:=⟨gb331,0,none⟩) (Kd.R_types HO322.out BK331.out (by decide)) (fun _ hk=>hk.2) (.int .i64 t324)) (fun _ hk=>hk.2) (.slice Ao17 t327.length co17)) (fun _ h_=>h_.1))) hb);replace HO330:=Aside0.mk (Kd.R_below (by (with_reducible repeat (first|apply Kd.R_alloc|apply Kd.R_drewN|apply Kd.R_drew));exact (Kd.R_mono (Kd.R_far (p:=⟨gb331,1,none⟩) (Kd.R_far (p:=⟨gb331,0,none⟩) (Kd.R_types HO330.out BK331.out (by decide)) (fun _ hk=>hk.2) (.int .i64 t324)) (fun _ hk=>hk.2) (.slice Ao17 t327.length co17)) (fun _ h_=>h_.1))) hb);replace BK319:=Aside0.mk (blkB_ BK319.out hb);replace BK331:=Aside0.mk (blk_below (g:=gb331) (o:=.cells #[.int .i64 t324,.slice Ao17 t327.length co17] 26 (0,0)) (by (with_reducible repeat (first|refine blk_drewN ?_ _|refine blk_drew ?_|refine blk_alloc ?_ _));refine blk_put (cs:=#[.int .i64 t324,.slice none 0 0]) ?_ 1 _ rfl;(with_reducible repeat (first|refine blk_drewN ?_ _|refine blk_drew ?_|refine blk_alloc ?_ _));refine blk_put (cs:=#[.int .i64 0,.slice none 0 0]) ?_ 0 _ rfl;exact bkC_ BK331.out) hb);replace HB:=Aside0.mk (below_step (h_HB HB.out) hb);(try clear hb);(try clear hb2);(try clear hk);(try clear hi);obtain ⟨hcz22_0,hcz22_1,hfz22_0,hfz22_1⟩:=bz2_ BK331.out;obtain ⟨hcz23_0,hcz23_1,hfz23_0,hfz23_1⟩:=bz2_ BK319.out))
       refine bodyPost_ret (results_ct rfl _ _ gb319 26 #[.int .i64 t324,.slice Ao17 t327.length co17] (0,0) _ rfl (by (with_reducible repeat (first|refine blk_drewN ?_ _|refine blk_drew ?_|refine blk_alloc ?_ _));refine blk_put (cs:=#[.int .i64 t324,.slice none 0 0]) ?_ 1 _ rfl;(with_reducible repeat (first|refine blk_drewN ?_ _|refine blk_drew ?_|refine blk_alloc ?_ _));refine blk_put (cs:=#[.int .i64 0,.slice none 0 0]) ?_ 0 _ rfl;exact bkC_ BK319.out) Try.underlying26 rfl krT_) rfl ?_
       exact ⟨_,eT_,by (with_reducible repeat (first|apply Kd.R_alloc|apply Kd.R_drewN|apply Kd.R_drew));exact Kd.R_mono (Kd.R_far (p:=⟨gb319,1,none⟩) (Kd.R_far (p:=⟨gb319,0,none⟩) (Kd.R_types HO330.out BK319.out (by decide)) (fun _ hk=>hk.2) (.int .i64 t324)) (fun _ hk=>hk.2) (.slice Ao17 t327.length co17)) (fun _ hk=>trivial),h_HB HB.out⟩
      ·rw [if_neg c11] at H
       have c11b0:(t332.toList==a0.toList)=false:=beq_eq_false_iff_ne.mpr c11
       have c11b1:(t332.toList != a0.toList)=true:=bne_iff_ne.mpr c11
       simp only [Option.some.injEq,Prod.mk.injEq] at H
       obtain ⟨rfl,rfl,rfl⟩:=H
       go_enter Try.func78,Try.ntmps78
       go_wp2_with (first|((with_reducible refine gate_dst (N:=2) rfl ?_);refine bx_ (N:=2) (cs:=#[.int .i64 0,.slice none 0 0]) (t:=26) ?_;intro gb319 hg w24 hbox hb;have BK319:=Aside0.mk (hbox);have GW319:=Aside0.mk (gw_ hg (h_HB HB.out));have GE319:=Aside0.mk (gw_ hg (h_HB HB.out));replace HB:=Aside0.mk (below_step (h_HB HB.out) hb);clear hb hbox hg)|((with_reducible refine gate_callee (f:=85) rfl ?_);refine goesL_ (some 11) rfl rfl Try.func85 krT_ rfl #[.string a0,.int .u8 32] rfl agT_ ?_;(with_reducible refine (spec_SplitByte.calls k a0 32 t320 _ A2.out).mono ?_);rintro e w25 ⟨v321,rfl,ho0,hb⟩;refine ⟨_,rfl,?_⟩;have HO322:=Aside0.mk (Kd.R_lower ho0 (below_size (h_HB HB.out)));replace BK319:=Aside0.mk (blkB_ BK319.out hb);replace HB:=Aside0.mk (below_step (h_HB HB.out) hb);(try clear hb);(try clear hb2);(try clear hk);(try clear hi);(try clear ho0);obtain ⟨Ao26,co26,eo26⟩:=Kd.R_slice HO322.out;subst eo26;have p323:0≤(0:Int):=(by omega);have q323:0<(t320.length:Int):=odT_;obtain ⟨ad323,e323,hx323_0⟩:=Kd.at_string (Kd.R_reads' HO322.out).2.2 0 p323 q323;cases e323;have qi323:(0<t320.length)=True:=eq_true (by omega);(try rw [show ((0:Int)).toNat=0 from rfl] at hx323_0);(try rw [Addr.add_zero'] at hx323_0);replace p323:=eq_true p323;replace q323:=eq_true q323)|((with_reducible refine gate_callee (f:=86) rfl ?_);refine goesL_ (some 20) rfl rfl Try.func86 krT_ rfl #[.string (rdOf ByteArray.empty t320 0)] rfl agT_ ?_;(with_reducible refine (spec_ParseInt.calls k (rdOf ByteArray.empty t320 0) t324 true _ A5.out).mono ?_);rintro e w27 ⟨rfl,hb⟩;refine ⟨_,rfl,?_⟩;replace HO322:=Aside0.mk (Kd.R_below (kRC_ HO322.out) hb);replace BK319:=Aside0.mk (blkB_ BK319.out hb);replace HB:=Aside0.mk (below_step (h_HB HB.out) hb);(try clear hb);have p326:0≤(1:Int):=(by omega);have q326:1<(t320.length:Int):=odT_;obtain ⟨ad326,e326,hx326_0⟩:=Kd.at_string (Kd.R_reads' HO322.out).2.2 1 p326 q326;obtain rfl:ad323=ad326:=(by injection e326);(try simp only [show (1:Int).toNat=1 from rfl,Nat.reduceMul,Nat.reduceEqDiff,Go.Addr.add,↓reduceIte] at hx326_0);have qi326:(1<t320.length)=True:=eq_true (by omega);(try rw [show ((1:Int)).toNat=1 from rfl] at hx326_0);replace p326:=eq_true p326;replace q326:=eq_true q326)|((with_reducible refine gate_callee (f:=87) rfl ?_);refine goesL_ (some 28) rfl rfl Try.func87 krT_ rfl #[.int .i64 t324,.string (rdOf ByteArray.empty t320 1)] rfl agT_ ?_;(with_reducible refine (spec_ParseFamily.calls k t324 (rdOf ByteArray.empty t320 1) t327 true _ A7.out).mono ?_);rintro e w28 ⟨v329,rfl,ho0,hb⟩;refine ⟨_,rfl,?_⟩;replace HO322:=Aside0.mk (Kd.R_below (kRC_ HO322.out) hb);have HO330:=Aside0.mk (Kd.R_lower ho0 (below_size (h_HB HB.out)));replace BK319:=Aside0.mk (blkB_ BK319.out hb);replace HB:=Aside0.mk (below_step (h_HB HB.out) hb);(try clear hb);(try clear hb2);(try clear hk);(try clear hi);(try clear ho0);obtain ⟨Ao29,co29,eo29⟩:=Kd.R_slice HO330.out;subst eo29)|((with_reducible refine gate_dst (N:=9) rfl ?_);refine bx_ (N:=9) (cs:=#[.int .i64 0,.slice none 0 0]) (t:=26) ?_;intro gb331 hg w30 hbox hb;replace HO322:=Aside0.mk (Kd.R_below (kRC_ HO322.out) hb);replace HO330:=Aside0.mk (Kd.R_below (kRC_ HO330.out) hb);have BK331:=Aside0.mk (hbox);have GW331:=Aside0.mk (gw_ hg (h_HB HB.out));have GE331:=Aside0.mk (gw_ hg (h_HB HB.out));replace HB:=Aside0.mk (below_step (h_HB HB.out) hb);have NB319_331:=Aside0.mk (nbl_ hg (bkC_ BK319.out));have NB331_319:=Aside0.mk (nbg_ hg (bkC_ BK319.out));replace BK319:=Aside0.mk (blkB_ BK319.out hb);clear hb hbox hg;have hnb31:=NB331_319.out;have hnc31:=NB319_331.out;obtain ⟨hcz32_0,hcz32_1,hfz32_0,hfz32_1⟩:=bz2_ BK331.out)|(go_at_call 88;(with_reducible refine (spec_MatroidText.calls k t324 _ _ t327 t332 _ ?side1 ?side2 A10.out).mono ?_);(case side1=>refine (Kd.R_reads' (e:=3) (base:=w.heap.size) (ok:=fun k_=>True) (n:=t327.length) (c:=co29) ?_).2.2;exact (by (with_reducible repeat (first|apply Kd.R_alloc|apply Kd.R_drewN|apply Kd.R_drew));exact (Kd.R_mono (Kd.R_far (p:=⟨gb331,1,none⟩) (Kd.R_far (p:=⟨gb331,0,none⟩) (Kd.R_types HO330.out BK331.out (by decide)) (fun _ hk=>hk.2) (.int .i64 t324)) (fun _ hk=>hk.2) (.slice Ao29 t327.length co29)) (fun _ h_=>h_.1))));(case side2=>exact (Kd.R_reads' HO330.out).2.1);rintro e w33 ⟨rfl,hb⟩;replace HO322:=Aside0.mk (Kd.R_below (by (with_reducible repeat (first|apply Kd.R_alloc|apply Kd.R_drewN|apply Kd.R_drew));exact (Kd.R_mono (Kd.R_far (p:=⟨gb331,1,none⟩) (Kd.R_far (p:=⟨gb331,0,none⟩) (Kd.R_types HO322.out BK331.out (by decide)) (fun _ hk=>hk.2) (.int .i64 t324)) (fun _ hk=>hk.2) (.slice Ao29 t327.length co29)) (fun _ h_=>h_.1))) hb);replace HO330:=Aside0.mk (Kd.R_below (by (with_reducible repeat (first|apply Kd.R_alloc|apply Kd.R_drewN|apply Kd.R_drew));exact (Kd.R_mono (Kd.R_far (p:=⟨gb331,1,none⟩) (Kd.R_far (p:=⟨gb331,0,none⟩) (Kd.R_types HO330.out BK331.out (by decide)) (fun _ hk=>hk.2) (.int .i64 t324)) (fun _ hk=>hk.2) (.slice Ao29 t327.length co29)) (fun _ h_=>h_.1))) hb);replace BK319:=Aside0.mk (blkB_ BK319.out hb);replace BK331:=Aside0.mk (blk_below (g:=gb331) (o:=.cells #[.int .i64 t324,.slice Ao29 t327.length co29] 26 (0,0)) (by (with_reducible repeat (first|refine blk_drewN ?_ _|refine blk_drew ?_|refine blk_alloc ?_ _));refine blk_put (cs:=#[.int .i64 t324,.slice none 0 0]) ?_ 1 _ rfl;(with_reducible repeat (first|refine blk_drewN ?_ _|refine blk_drew ?_|refine blk_alloc ?_ _));refine blk_put (cs:=#[.int .i64 0,.slice none 0 0]) ?_ 0 _ rfl;exact bkC_ BK331.out) hb);replace HB:=Aside0.mk (below_step (h_HB HB.out) hb);(try clear hb);(try clear hb2);(try clear hk);(try clear hi);obtain ⟨hcz34_0,hcz34_1,hfz34_0,hfz34_1⟩:=bz2_ BK319.out))
       refine bodyPost_ret (results_ct rfl _ _ gb319 26 #[.int .i64 0,.slice none 0 0] (0,0) _ rfl (by (with_reducible repeat (first|refine blk_drewN ?_ _|refine blk_drew ?_|refine blk_alloc ?_ _));refine blk_put (cs:=#[.int .i64 0,.slice none 0 0]) ?_ 1 _ rfl;(with_reducible repeat (first|refine blk_drewN ?_ _|refine blk_drew ?_|refine blk_alloc ?_ _));refine blk_put (cs:=#[.int .i64 0,.slice none 0 0]) ?_ 0 _ rfl;exact bkC_ BK319.out) Try.underlying26 rfl krT_) rfl ?_
       exact ⟨_,eT_,by first|exact Kd.R_nil _ _ _ _ _|exact Kd.N_nil _ _ _ _ _|exact Kd.V_nil _ _ _ _ _|exact Kd.Q_nil _ _ _ _ _|exact Kd.S_nil _ _ _ _ _,h_HB HB.out⟩
     ·replace c9:=Bool.eq_false_iff.mpr c9
      subst c9
      replace H:=bF_ H
      simp only [Option.some.injEq,Prod.mk.injEq] at H
      obtain ⟨rfl,rfl,rfl⟩:=H
      go_enter Try.func78,Try.ntmps78
      go_wp2_with (first|((with_reducible refine gate_dst (N:=2) rfl ?_);refine bx_ (N:=2) (cs:=#[.int .i64 0,.slice none 0 0]) (t:=26) ?_;intro gb319 hg w35 hbox hb;have BK319:=Aside0.mk (hbox);have GW319:=Aside0.mk (gw_ hg (h_HB HB.out));have GE319:=Aside0.mk (gw_ hg (h_HB HB.out));replace HB:=Aside0.mk (below_step (h_HB HB.out) hb);clear hb hbox hg)|((with_reducible refine gate_callee (f:=85) rfl ?_);refine goesL_ (some 11) rfl rfl Try.func85 krT_ rfl #[.string a0,.int .u8 32] rfl agT_ ?_;(with_reducible refine (spec_SplitByte.calls k a0 32 t320 _ A2.out).mono ?_);rintro e w36 ⟨v321,rfl,ho0,hb⟩;refine ⟨_,rfl,?_⟩;have HO322:=Aside0.mk (Kd.R_lower ho0 (below_size (h_HB HB.out)));replace BK319:=Aside0.mk (blkB_ BK319.out hb);replace HB:=Aside0.mk (below_step (h_HB HB.out) hb);(try clear hb);(try clear hb2);(try clear hk);(try clear hi);(try clear ho0);obtain ⟨Ao37,co37,eo37⟩:=Kd.R_slice HO322.out;subst eo37;have p323:0≤(0:Int):=(by omega);have q323:0<(t320.length:Int):=odT_;obtain ⟨ad323,e323,hx323_0⟩:=Kd.at_string (Kd.R_reads' HO322.out).2.2 0 p323 q323;cases e323;have qi323:(0<t320.length)=True:=eq_true (by omega);(try rw [show ((0:Int)).toNat=0 from rfl] at hx323_0);(try rw [Addr.add_zero'] at hx323_0);replace p323:=eq_true p323;replace q323:=eq_true q323)|((with_reducible refine gate_callee (f:=86) rfl ?_);refine goesL_ (some 20) rfl rfl Try.func86 krT_ rfl #[.string (rdOf ByteArray.empty t320 0)] rfl agT_ ?_;(with_reducible refine (spec_ParseInt.calls k (rdOf ByteArray.empty t320 0) t324 true _ A5.out).mono ?_);rintro e w38 ⟨rfl,hb⟩;refine ⟨_,rfl,?_⟩;replace HO322:=Aside0.mk (Kd.R_below (kRC_ HO322.out) hb);replace BK319:=Aside0.mk (blkB_ BK319.out hb);replace HB:=Aside0.mk (below_step (h_HB HB.out) hb);(try clear hb);have p326:0≤(1:Int):=(by omega);have q326:1<(t320.length:Int):=odT_;obtain ⟨ad326,e326,hx326_0⟩:=Kd.at_string (Kd.R_reads' HO322.out).2.2 1 p326 q326;obtain rfl:ad323=ad326:=(by injection e326);(try simp only [show (1:Int).toNat=1 from rfl,Nat.reduceMul,Nat.reduceEqDiff,Go.Addr.add,↓reduceIte] at hx326_0);have qi326:(1<t320.length)=True:=eq_true (by omega);(try rw [show ((1:Int)).toNat=1 from rfl] at hx326_0);replace p326:=eq_true p326;replace q326:=eq_true q326)|((with_reducible refine gate_callee (f:=87) rfl ?_);refine goesL_ (some 28) rfl rfl Try.func87 krT_ rfl #[.int .i64 t324,.string (rdOf ByteArray.empty t320 1)] rfl agT_ ?_;(with_reducible refine (spec_ParseFamily.calls k t324 (rdOf ByteArray.empty t320 1) t327 false _ A7.out).mono ?_);rintro e w39 ⟨v329,rfl,ho0,hb⟩;refine ⟨_,rfl,?_⟩;replace HO322:=Aside0.mk (Kd.R_below (kRC_ HO322.out) hb);have HO330:=Aside0.mk (Kd.R_lower ho0 (below_size (h_HB HB.out)));replace BK319:=Aside0.mk (blkB_ BK319.out hb);replace HB:=Aside0.mk (below_step (h_HB HB.out) hb);(try clear hb);(try clear hb2);(try clear hk);(try clear hi);(try clear ho0);obtain ⟨Ao40,co40,eo40⟩:=Kd.R_slice HO330.out;subst eo40)|((with_reducible refine gate_dst (N:=9) rfl ?_);refine bx_ (N:=9) (cs:=#[.int .i64 0,.slice none 0 0]) (t:=26) ?_;intro gb331 hg w41 hbox hb;replace HO322:=Aside0.mk (Kd.R_below (kRC_ HO322.out) hb);replace HO330:=Aside0.mk (Kd.R_below (kRC_ HO330.out) hb);have BK331:=Aside0.mk (hbox);have GW331:=Aside0.mk (gw_ hg (h_HB HB.out));have GE331:=Aside0.mk (gw_ hg (h_HB HB.out));replace HB:=Aside0.mk (below_step (h_HB HB.out) hb);have NB319_331:=Aside0.mk (nbl_ hg (bkC_ BK319.out));have NB331_319:=Aside0.mk (nbg_ hg (bkC_ BK319.out));replace BK319:=Aside0.mk (blkB_ BK319.out hb);clear hb hbox hg;have hnb42:=NB331_319.out;have hnc42:=NB319_331.out;obtain ⟨hcz43_0,hcz43_1,hfz43_0,hfz43_1⟩:=bz2_ BK331.out;obtain ⟨hcz44_0,hcz44_1,hfz44_0,hfz44_1⟩:=bz2_ BK319.out))
      refine bodyPost_ret (results_ct rfl _ _ gb319 26 #[.int .i64 0,.slice none 0 0] (0,0) _ rfl (by (with_reducible repeat (first|refine blk_drewN ?_ _|refine blk_drew ?_|refine blk_alloc ?_ _));refine blk_put (cs:=#[.int .i64 0,.slice none 0 0]) ?_ 1 _ rfl;(with_reducible repeat (first|refine blk_drewN ?_ _|refine blk_drew ?_|refine blk_alloc ?_ _));refine blk_put (cs:=#[.int .i64 0,.slice none 0 0]) ?_ 0 _ rfl;exact bkC_ BK319.out) Try.underlying26 rfl krT_) rfl ?_
      exact ⟨_,eT_,by first|exact Kd.R_nil _ _ _ _ _|exact Kd.N_nil _ _ _ _ _|exact Kd.V_nil _ _ _ _ _|exact Kd.Q_nil _ _ _ _ _|exact Kd.S_nil _ _ _ _ _,h_HB HB.out⟩
    ·replace c8:=Bool.eq_false_iff.mpr c8
     subst c8
     replace H:=bF_ H
     simp only [Option.some.injEq,Prod.mk.injEq] at H
     obtain ⟨rfl,rfl,rfl⟩:=H
     go_enter Try.func78,Try.ntmps78
     go_wp2_with (first|((with_reducible refine gate_dst (N:=2) rfl ?_);refine bx_ (N:=2) (cs:=#[.int .i64 0,.slice none 0 0]) (t:=26) ?_;intro gb319 hg w45 hbox hb;have BK319:=Aside0.mk (hbox);have GW319:=Aside0.mk (gw_ hg (h_HB HB.out));have GE319:=Aside0.mk (gw_ hg (h_HB HB.out));replace HB:=Aside0.mk (below_step (h_HB HB.out) hb);clear hb hbox hg)|((with_reducible refine gate_callee (f:=85) rfl ?_);refine goesL_ (some 11) rfl rfl Try.func85 krT_ rfl #[.string a0,.int .u8 32] rfl agT_ ?_;(with_reducible refine (spec_SplitByte.calls k a0 32 t320 _ A2.out).mono ?_);rintro e w46 ⟨v321,rfl,ho0,hb⟩;refine ⟨_,rfl,?_⟩;have HO322:=Aside0.mk (Kd.R_lower ho0 (below_size (h_HB HB.out)));replace BK319:=Aside0.mk (blkB_ BK319.out hb);replace HB:=Aside0.mk (below_step (h_HB HB.out) hb);(try clear hb);(try clear hb2);(try clear hk);(try clear hi);(try clear ho0);obtain ⟨Ao47,co47,eo47⟩:=Kd.R_slice HO322.out;subst eo47;have p323:0≤(0:Int):=(by omega);have q323:0<(t320.length:Int):=odT_;obtain ⟨ad323,e323,hx323_0⟩:=Kd.at_string (Kd.R_reads' HO322.out).2.2 0 p323 q323;cases e323;have qi323:(0<t320.length)=True:=eq_true (by omega);(try rw [show ((0:Int)).toNat=0 from rfl] at hx323_0);(try rw [Addr.add_zero'] at hx323_0);replace p323:=eq_true p323;replace q323:=eq_true q323)|((with_reducible refine gate_callee (f:=86) rfl ?_);refine goesL_ (some 20) rfl rfl Try.func86 krT_ rfl #[.string (rdOf ByteArray.empty t320 0)] rfl agT_ ?_;(with_reducible refine (spec_ParseInt.calls k (rdOf ByteArray.empty t320 0) t324 false _ A5.out).mono ?_);rintro e w48 ⟨rfl,hb⟩;refine ⟨_,rfl,?_⟩;replace HO322:=Aside0.mk (Kd.R_below (kRC_ HO322.out) hb);replace BK319:=Aside0.mk (blkB_ BK319.out hb);replace HB:=Aside0.mk (below_step (h_HB HB.out) hb);(try clear hb);have p326:0≤(1:Int):=(by omega);have q326:1<(t320.length:Int):=odT_;obtain ⟨ad326,e326,hx326_0⟩:=Kd.at_string (Kd.R_reads' HO322.out).2.2 1 p326 q326;obtain rfl:ad323=ad326:=(by injection e326);(try simp only [show (1:Int).toNat=1 from rfl,Nat.reduceMul,Nat.reduceEqDiff,Go.Addr.add,↓reduceIte] at hx326_0);have qi326:(1<t320.length)=True:=eq_true (by omega);(try rw [show ((1:Int)).toNat=1 from rfl] at hx326_0);replace p326:=eq_true p326;replace q326:=eq_true q326)|((with_reducible refine gate_callee (f:=87) rfl ?_);refine goesL_ (some 28) rfl rfl Try.func87 krT_ rfl #[.int .i64 t324,.string (rdOf ByteArray.empty t320 1)] rfl agT_ ?_;(with_reducible refine (spec_ParseFamily.calls k t324 (rdOf ByteArray.empty t320 1) t327 t328 _ A7.out).mono ?_);rintro e w49 ⟨v329,rfl,ho0,hb⟩;refine ⟨_,rfl,?_⟩;replace HO322:=Aside0.mk (Kd.R_below (kRC_ HO322.out) hb);have HO330:=Aside0.mk (Kd.R_lower ho0 (below_size (h_HB HB.out)));replace BK319:=Aside0.mk (blkB_ BK319.out hb);replace HB:=Aside0.mk (below_step (h_HB HB.out) hb);(try clear hb);(try clear hb2);(try clear hk);(try clear hi);(try clear ho0);obtain ⟨Ao50,co50,eo50⟩:=Kd.R_slice HO330.out;subst eo50)|((with_reducible refine gate_dst (N:=9) rfl ?_);refine bx_ (N:=9) (cs:=#[.int .i64 0,.slice none 0 0]) (t:=26) ?_;intro gb331 hg w51 hbox hb;replace HO322:=Aside0.mk (Kd.R_below (kRC_ HO322.out) hb);replace HO330:=Aside0.mk (Kd.R_below (kRC_ HO330.out) hb);have BK331:=Aside0.mk (hbox);have GW331:=Aside0.mk (gw_ hg (h_HB HB.out));have GE331:=Aside0.mk (gw_ hg (h_HB HB.out));replace HB:=Aside0.mk (below_step (h_HB HB.out) hb);have NB319_331:=Aside0.mk (nbl_ hg (bkC_ BK319.out));have NB331_319:=Aside0.mk (nbg_ hg (bkC_ BK319.out));replace BK319:=Aside0.mk (blkB_ BK319.out hb);clear hb hbox hg;have hnb52:=NB331_319.out;have hnc52:=NB319_331.out;obtain ⟨hcz53_0,hcz53_1,hfz53_0,hfz53_1⟩:=bz2_ BK331.out;obtain ⟨hcz54_0,hcz54_1,hfz54_0,hfz54_1⟩:=bz2_ BK319.out))
     refine bodyPost_ret (results_ct rfl _ _ gb319 26 #[.int .i64 0,.slice none 0 0] (0,0) _ rfl (by (with_reducible repeat (first|refine blk_drewN ?_ _|refine blk_drew ?_|refine blk_alloc ?_ _));refine blk_put (cs:=#[.int .i64 0,.slice none 0 0]) ?_ 1 _ rfl;(with_reducible repeat (first|refine blk_drewN ?_ _|refine blk_drew ?_|refine blk_alloc ?_ _));refine blk_put (cs:=#[.int .i64 0,.slice none 0 0]) ?_ 0 _ rfl;exact bkC_ BK319.out) Try.underlying26 rfl krT_) rfl ?_
     exact ⟨_,eT_,by first|exact Kd.R_nil _ _ _ _ _|exact Kd.N_nil _ _ _ _ _|exact Kd.V_nil _ _ _ _ _|exact Kd.Q_nil _ _ _ _ _|exact Kd.S_nil _ _ _ _ _,h_HB HB.out⟩
   ·rw [if_neg c6] at H
    exact absurd H (by simp)
  ·rw [if_neg c4] at H
   exact absurd H (by simp)
 ·rw [if_neg c3] at H
  have c3b0:((t320.length:Int)==2)=false:=beq_eq_false_iff_ne.mpr c3
  have c3b1:((t320.length:Int) != 2)=true:=bne_iff_ne.mpr c3
  simp only [Option.some.injEq,Prod.mk.injEq] at H
  obtain ⟨rfl,rfl,rfl⟩:=H
  go_enter Try.func78,Try.ntmps78
  go_wp2_with (first|((with_reducible refine gate_dst (N:=2) rfl ?_);refine bx_ (N:=2) (cs:=#[.int .i64 0,.slice none 0 0]) (t:=26) ?_;intro gb319 hg w55 hbox hb;have BK319:=Aside0.mk (hbox);have GW319:=Aside0.mk (gw_ hg (h_HB HB.out));have GE319:=Aside0.mk (gw_ hg (h_HB HB.out));replace HB:=Aside0.mk (below_step (h_HB HB.out) hb);clear hb hbox hg)|((with_reducible refine gate_callee (f:=85) rfl ?_);refine goesL_ (some 11) rfl rfl Try.func85 krT_ rfl #[.string a0,.int .u8 32] rfl agT_ ?_;(with_reducible refine (spec_SplitByte.calls k a0 32 t320 _ A2.out).mono ?_);rintro e w56 ⟨v321,rfl,ho0,hb⟩;refine ⟨_,rfl,?_⟩;have HO322:=Aside0.mk (Kd.R_lower ho0 (below_size (h_HB HB.out)));replace BK319:=Aside0.mk (blkB_ BK319.out hb);replace HB:=Aside0.mk (below_step (h_HB HB.out) hb);(try clear hb);(try clear hb2);(try clear hk);(try clear hi);(try clear ho0);obtain ⟨Ao57,co57,eo57⟩:=Kd.R_slice HO322.out;subst eo57;obtain ⟨hcz58_0,hcz58_1,hfz58_0,hfz58_1⟩:=bz2_ BK319.out))
  refine bodyPost_ret (results_ct rfl _ _ gb319 26 #[.int .i64 0,.slice none 0 0] (0,0) _ rfl (by (with_reducible repeat (first|refine blk_drewN ?_ _|refine blk_drew ?_|refine blk_alloc ?_ _));refine blk_put (cs:=#[.int .i64 0,.slice none 0 0]) ?_ 1 _ rfl;(with_reducible repeat (first|refine blk_drewN ?_ _|refine blk_drew ?_|refine blk_alloc ?_ _));refine blk_put (cs:=#[.int .i64 0,.slice none 0 0]) ?_ 0 _ rfl;exact bkC_ BK319.out) Try.underlying26 rfl krT_) rfl ?_
  exact ⟨_,eT_,by first|exact Kd.R_nil _ _ _ _ _|exact Kd.N_nil _ _ _ _ _|exact Kd.V_nil _ _ _ _ _|exact Kd.Q_nil _ _ _ _ _|exact Kd.S_nil _ _ _ _ _,h_HB HB.out⟩
end Go.Proofs.Ytekegbacnagbcaa.P
