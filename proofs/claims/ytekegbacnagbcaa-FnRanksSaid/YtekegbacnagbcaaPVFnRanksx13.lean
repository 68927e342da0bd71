-- written by gprint (a program of this session's, round the kit's print), out of the translation and hand-written texts
import Derived.Test.YtekegbacnagbcaaPVFnRanksx0
import Derived.Test.YtekegbacnagbcaaPVFnRanksx12
namespace Go.Proofs.Ytekegbacnagbcaa.P
open Go.RowKit Go.Proofs.YtekegbacnagbcaaW.PrintWords Go.Proofs.YtekegbacnagbcaaW.PrintLast Go.Proofs.YtekegbacnagbcaaW.PrintMore
attribute [local go_sem] max2_int min2_int max_two min_two max_three min_three max_four min_four   -- for this text's walks alone
set_option linter.unusedVariables false
set_option linter.unusedSimpArgs false
/-! ### impl_FirstFailure: function 63 -/
mutual
def impl_FirstFailure.l0:Nat→List Int→Int→Int→Int→List Int→Option (Int × Int × Int × Bool)
 | 0,_,_,_,_,_=>none
 | k+1,x19,x20,x21,x565000,x565001=>if x21<x20 then (if 0≤x21 then (if x21<(x19.length:Int) then (impl_FirstFailure.l1 k x19 x20 x21 x565001 (x565001.length:Int) 0 x565000 x565001 (rd x19 x21)) else (none)) else (none)) else (some (0,0,0,false))
def impl_FirstFailure.l1:Nat→List Int→Int→Int→List Int→Int→Int→Int→List Int→Int→Option (Int × Int × Int × Bool)
 | 0,_,_,_,_,_,_,_,_,_=>none
 | k+1,x19,x20,x21,x26,x27,x28,x565000,x565001,x569000=>if x28<x27 then (if 0≤x28 then (if x28<(x26.length:Int) then ((impl_ElementsOf.f k (Go.bits .andNot .i64 x569000 (rd x26 x28))).bind fun t570=>(impl_FirstFailure.l2 k (rd x26 x28) x19 x20 x21 x26 x27 x28 t570 (t570.length:Int) 0 x565000 x565001 x569000)) else (none)) else (none)) else (impl_FirstFailure.l0 k x19 x20 (wrap64 (x21+1)) x565000 x565001)
def impl_FirstFailure.l2:Nat→Int→List Int→Int→Int→List Int→Int→Int→List Int→Int→Int→Int→List Int→Int→Option (Int × Int × Int × Bool)
 | 0,_,_,_,_,_,_,_,_,_,_,_,_,_=>none
 | k+1,x7,x19,x20,x21,x26,x27,x28,x35,x36,x37,x565000,x565001,x569000=>if x37<x36 then (if 0≤x37 then (if x37<(x35.length:Int) then ((impl_ElementsOf.f k (Go.bits .andNot .i64 x7 x569000)).bind fun t575=>((on_impl_FirstFailure_1.f k t575 x565000 x565001 x569000 (rd x35 x37)).bind fun t578=>(if t578=true then (impl_FirstFailure.l2 k x7 x19 x20 x21 x26 x27 x28 x35 x36 (wrap64 (x37+1)) x565000 x565001 x569000) else (some (x569000,x7,rd x35 x37,true))))) else (none)) else (none)) else (impl_FirstFailure.l1 k x19 x20 x21 x26 x27 (wrap64 (x28+1)) x565000 x565001 x569000)
end
def impl_FirstFailure.f (k:Nat) (a0_0:Int) (l0_1:List Int):Option (Int × Int × Int × Bool):=(impl_IsFamily.f k a0_0 l0_1).bind fun t566=>(if t566=true then (impl_FirstFailure.l0 k l0_1 (l0_1.length:Int) 0 a0_0 l0_1) else (some (0,0,0,false)))
set_option maxHeartbeats 8000000 in
set_option maxRecDepth 100000 in
theorem impl_FirstFailure.calls (k:Nat) (a0_0:Int) (A0_1:Option Addr) (c0_1:Nat) (l0_1:List Int) (r1:Int) (r2:Int) (r3:Int) (r4:Bool) (w:World) (hr0_1:Kd.C (Kd.int .i64) w A0_1 l0_1.length l0_1) (hc0_1:l0_1.length≤c0_1) (h:impl_FirstFailure.f k a0_0 l0_1=some (r1,r2,r3,r4)) :
    Calls Try.prog 63 #[.agg #[.int .i64 a0_0,.slice A0_1 l0_1.length c0_1]] w fun e w'=>e=.returned (.tuple #[.agg #[.int .i64 r1,.int .i64 r2,.int .i64 r3],.bool r4])∧Below w.heap.size w w':=by
 have hu26:=Try.underlying26
 have hu59:=Try.underlying59
 have HR0_1:=Aside0.mk hr0_1
 have HC0_1:=Aside0.mk hc0_1
 clear hr0_1 hc0_1
 have HB:=Aside0.mk (Below.refl w.heap.size w)
 unfold impl_FirstFailure.f at h
 have H:=h
 clear h
 replace H:=bnd_ H;obtain ⟨t566,A2,H⟩:=H
 by_cases c3:t566=true
 rotate_left
 ·replace c3:=Bool.eq_false_iff.mpr c3
  subst c3
  replace H:=bF_ H
  simp only [Option.some.injEq,Prod.mk.injEq] at H
  obtain ⟨rfl,rfl,rfl,rfl⟩:=H
  go_enter Try.func63,Try.ntmps63
  go_wp2_with (first|((with_reducible refine gate_dst (N:=1) rfl ?_);refine bx_ (N:=1) (cs:=#[.int .i64 a0_0,.slice A0_1 l0_1.length c0_1]) (t:=26) ?_;intro gb564 hg w59 hbox hb;have BK564:=Aside0.mk (hbox);have GW564:=Aside0.mk (gw_ hg (h_HB HB.out));have GE564:=Aside0.mk (gw_ hg (h_HB HB.out));replace HB:=Aside0.mk (below_step (h_HB HB.out) hb);clear hb hbox hg)|((with_reducible refine gate_dst (N:=2) rfl ?_);refine bx_ (N:=2) (cs:=#[.int .i64 0,.int .i64 0,.int .i64 0]) (t:=59) ?_;intro gb565 hg w60 hbox hb;have BK565:=Aside0.mk (hbox);have GW565:=Aside0.mk (gw_ hg (h_HB HB.out));have GE565:=Aside0.mk (gw_ hg (h_HB HB.out));replace HB:=Aside0.mk (below_step (h_HB HB.out) hb);have NB564_565:=Aside0.mk (nbl_ hg (bkC_ BK564.out));have NB565_564:=Aside0.mk (nbg_ hg (bkC_ BK564.out));replace BK564:=Aside0.mk (blkB_ BK564.out hb);clear hb hbox hg;have hnb61:=NB564_565.out;have hnc61:=NB565_564.out;obtain ⟨hcz62_0,hcz62_1,hfz62_0,hfz62_1⟩:=bz2_ BK564.out)|((with_reducible refine gate_callee (f:=64) rfl ?_);refine goesL_ (some 15) rfl rfl Try.func64 krT_ rfl #[.int .i64 a0_0,.slice A0_1 l0_1.length c0_1] rfl agT_ ?_;(with_reducible refine (impl_IsFamily.calls k a0_0 _ _ l0_1 false _ ?side1 ?side2 A2.out).mono ?_);(case side1=>exact cC_ HR0_1.out);(case side2=>exact HC0_1.out);rintro e w' ⟨rfl,⟨nd,rfl⟩⟩;refine ⟨_,rfl,?_⟩;(try (rw [drewN_self w60];generalize hq_:World.drewN w60 _=w60;replace BK564:Aside0 (w60.heap[gb564]?=some (.cells #[.int .i64 a0_0,.slice A0_1 l0_1.length c0_1] 26 (0,0))):=⟨by rw [← hq_];exact (bkC_ BK564.out)⟩;replace BK565:Aside0 (w60.heap[gb565]?=some (.cells #[.int .i64 0,.int .i64 0,.int .i64 0] 59 (0,0))):=⟨by rw [← hq_];exact (bkC_ BK565.out)⟩;replace HB:Aside0 (Below w.heap.size w w60):=⟨by rw [← hq_];exact (h_HB HB.out)⟩;clear hq_;have hcuz63_gb564_0:w60.cell? ⟨gb564,0,none⟩=some (.int .i64 a0_0):=(blk_cell BK564.out 0).trans rfl;have hfuz63_gb564_0:=blk_frozen BK564.out 0;have hcuz63_gb564_1:w60.cell? ⟨gb564,1,none⟩=some (.slice A0_1 l0_1.length c0_1):=(blk_cell BK564.out 1).trans rfl;have hfuz63_gb564_1:=blk_frozen BK564.out 1;have hcuz63_gb565_0:w60.cell? ⟨gb565,0,none⟩=some (.int .i64 0):=(blk_cell BK565.out 0).trans rfl;have hfuz63_gb565_0:=blk_frozen BK565.out 0;have hcuz63_gb565_1:w60.cell? ⟨gb565,1,none⟩=some (.int .i64 0):=(blk_cell BK565.out 1).trans rfl;have hfuz63_gb565_1:=blk_frozen BK565.out 1;have hcuz63_gb565_2:w60.cell? ⟨gb565,2,none⟩=some (.int .i64 0):=(blk_cell BK565.out 2).trans rfl;have hfuz63_gb565_2:=blk_frozen BK565.out 2));obtain ⟨hcz64_0,hcz64_1,hcz64_2,hfz64_0,hfz64_1,hfz64_2⟩:=bz3_ BK565.out))
  refine bodyPost_ret (results_ct rfl _ _ gb565 59 #[.int .i64 0,.int .i64 0,.int .i64 0] (0,0) _ rfl (by (with_reducible repeat (first|refine blk_drewN ?_ _|refine blk_drew ?_|refine blk_alloc ?_ _));refine blk_put (cs:=#[.int .i64 0,.int .i64 0,.int .i64 0]) ?_ 2 _ rfl;(with_reducible repeat (first|refine blk_drewN ?_ _|refine blk_drew ?_|refine blk_alloc ?_ _));refine blk_put (cs:=#[.int .i64 0,.int .i64 0,.int .i64 0]) ?_ 1 _ rfl;(with_reducible repeat (first|refine blk_drewN ?_ _|refine blk_drew ?_|refine blk_alloc ?_ _));refine blk_put (cs:=#[.int .i64 0,.int .i64 0,.int .i64 0]) ?_ 0 _ rfl;exact bkC_ BK565.out) Try.underlying59 rfl krT_) rfl ?_
  exact ⟨eT_,h_HB HB.out⟩
 subst c3
 replace H:=bT_ H
 have H':=Aside0.mk H
 clear H
 go_enter Try.func63,Try.ntmps63
 go_wp2_with (first|((with_reducible refine gate_dst (N:=1) rfl ?_);refine bx_ (N:=1) (cs:=#[.int .i64 a0_0,.slice A0_1 l0_1.length c0_1]) (t:=26) ?_;intro gb564 hg w4 hbox hb;have BK564:=Aside0.mk (hbox);have GW564:=Aside0.mk (gw_ hg (h_HB HB.out));have GE564:=Aside0.mk (gw_ hg (h_HB HB.out));replace HB:=Aside0.mk (below_step (h_HB HB.out) hb);clear hb hbox hg)|((with_reducible refine gate_dst (N:=2) rfl ?_);refine bx_ (N:=2) (cs:=#[.int .i64 0,.int .i64 0,.int .i64 0]) (t:=59) ?_;intro gb565 hg w5 hbox hb;have BK565:=Aside0.mk (hbox);have GW565:=Aside0.mk (gw_ hg (h_HB HB.out));have GE565:=Aside0.mk (gw_ hg (h_HB HB.out));replace HB:=Aside0.mk (below_step (h_HB HB.out) hb);have NB564_565:=Aside0.mk (nbl_ hg (bkC_ BK564.out));have NB565_564:=Aside0.mk (nbg_ hg (bkC_ BK564.out));replace BK564:=Aside0.mk (blkB_ BK564.out hb);clear hb hbox hg;have hnb6:=NB564_565.out;have hnc6:=NB565_564.out;obtain ⟨hcz7_0,hcz7_1,hfz7_0,hfz7_1⟩:=bz2_ BK564.out)|((with_reducible refine gate_callee (f:=64) rfl ?_);refine goesL_ (some 15) rfl rfl Try.func64 krT_ rfl #[.int .i64 a0_0,.slice A0_1 l0_1.length c0_1] rfl agT_ ?_;(with_reducible refine (impl_IsFamily.calls k a0_0 _ _ l0_1 true _ ?side1 ?side2 A2.out).mono ?_);(case side1=>exact cC_ HR0_1.out);(case side2=>exact HC0_1.out);rintro e w' ⟨rfl,⟨nd,rfl⟩⟩;refine ⟨_,rfl,?_⟩))
 go_loopg [21] k (fun kq v21 w'=>∃ (x21_1:Int) (x566000_1:Int) (x566001_1:Int) (x566002_1:Int),v21=.int .i64 x21_1∧Aside0 (impl_FirstFailure.l0 kq l0_1 (l0_1.length:Int) x21_1 a0_0 l0_1=some (r1,r2,r3,r4))∧Aside0 (kq≤k)∧Aside0 (w'.heap[gb564]?=some (.cells #[.int .i64 a0_0,(.slice A0_1 l0_1.length c0_1)] 26 (0,0)))∧Aside0 (w'.heap[gb565]?=some (.cells #[.int .i64 x566000_1,.int .i64 x566001_1,.int .i64 x566002_1] 59 (0,0)))∧Aside0 (Below w.heap.size w w'))
 case atStart=>exact ⟨(0),(0),(0),(0),sT_,H',⟨Nat.le_refl _⟩,⟨bkC_ BK564.out⟩,⟨bkC_ BK565.out⟩,⟨h_HB HB.out⟩⟩
 case round =>
 clear H'
 try clear p2
 try clear c3
 try clear c6
 try clear hcz7_0
 try clear hcz7_1
 try clear hfz7_0
 try clear hfz7_1
 obtain ⟨x21_1,x566000_1,x566001_1,x566002_1,rfl,HA,HK1,BK564,BK565,HB⟩:=hrel
 cases gk with
 | zero=>exact absurd HA.out (by simp [impl_FirstFailure.l0])
 | succ k1 =>
 have H:=HA.out
 clear HA
 simp only [impl_FirstFailure.l0] at H
 rcases gsn_ H with ⟨c8b0,H⟩|⟨c8b0,H⟩
 ·simp only [Option.some.injEq,Prod.mk.injEq] at H
  obtain ⟨rfl,rfl,rfl,rfl⟩:=H
  have hnb57:=NB565_564.out
  have hnc57:=NB564_565.out
  obtain ⟨hcz58_0,hcz58_1,hcz58_2,hfz58_0,hfz58_1,hfz58_2⟩:=bz3_ BK565.out
  go_wp2
  refine bodyPost_ret (results_ct rfl _ _ gb565 59 #[.int .i64 0,.int .i64 0,.int .i64 0] (0,0) _ rfl (by (with_reducible repeat (first|refine blk_drewN ?_ _|refine blk_drew ?_|refine blk_alloc ?_ _));refine blk_put (cs:=#[.int .i64 0,.int .i64 0,.int .i64 x566002_1]) ?_ 2 _ rfl;(with_reducible repeat (first|refine blk_drewN ?_ _|refine blk_drew ?_|refine blk_alloc ?_ _));refine blk_put (cs:=#[.int .i64 0,.int .i64 x566001_1,.int .i64 x566002_1]) ?_ 1 _ rfl;(with_reducible repeat (first|refine blk_drewN ?_ _|refine blk_drew ?_|refine blk_alloc ?_ _));refine blk_put (cs:=#[.int .i64 x566000_1,.int .i64 x566001_1,.int .i64 x566002_1]) ?_ 0 _ rfl;exact bkC_ BK565.out) Try.underlying59 rfl krT_) rfl ?_
  exact ⟨eT_,h_HB HB.out⟩
 replace H:=gsm_ H;obtain ⟨c9b0,H⟩:=H
 replace H:=gsm_ H;obtain ⟨c10b0,H⟩:=H
 have H':=Aside0.mk H
 clear H
 obtain ⟨ad567,e567,hx567_0,p567,q567⟩:=aiI_ HR0_1.out x21_1
 cases e567
 replace hx567_0:=(HB.out.cell (World.block_lt_of_cell? w _ hx567_0)).trans hx567_0
 go_wp2_with (first|((with_reducible refine gate_dst (N:=5) rfl ?_);refine bx_ (N:=5) (cs:=#[.int .i64 0]) (t:=3) ?_;intro gb568 hg w11 hbox hb;have BK568:=Aside0.mk (hbox);have GW568:=Aside0.mk (gw_ hg (h_HB HB.out));have GE568:=Aside0.mk (gw_ hg (h_HB HB.out));replace HB:=Aside0.mk (below_step (h_HB HB.out) hb);have NB564_568:=Aside0.mk (nbl_ hg (bkC_ BK564.out));have NB568_564:=Aside0.mk (nbg_ hg (bkC_ BK564.out));replace BK564:=Aside0.mk (blkB_ BK564.out hb);have NB565_568:=Aside0.mk (nbl_ hg (bkC_ BK565.out));have NB568_565:=Aside0.mk (nbg_ hg (bkC_ BK565.out));replace BK565:=Aside0.mk (blkB_ BK565.out hb);clear hb hbox hg;have hnb12:=NB568_564.out;have hnc12:=NB564_568.out;have hnb13:=NB568_565.out;have hnc13:=NB565_568.out;obtain ⟨hcz14_0,hfz14_0⟩:=bz1_ BK568.out;have hnb15:=NB564_565.out;have hnc15:=NB565_564.out;obtain ⟨hcz16_0,hcz16_1,hfz16_0,hfz16_1⟩:=bz2_ BK564.out))
 go_loopg [28] k1 (fun kq v28 w'=>∃ (x28_2:Int) (x566000_2:Int) (x566001_2:Int) (x566002_2:Int),v28=.int .i64 x28_2∧Aside0 (impl_FirstFailure.l1 kq l0_1 (l0_1.length:Int) x21_1 l0_1 (l0_1.length:Int) x28_2 a0_0 l0_1 (rd l0_1 x21_1)=some (r1,r2,r3,r4))∧Aside0 (kq≤k1)∧Aside0 (w'.heap[gb564]?=some (.cells #[.int .i64 a0_0,(.slice (some ad567) l0_1.length c0_1)] 26 (0,0)))∧Aside0 (w'.heap[gb565]?=some (.cells #[.int .i64 x566000_2,.int .i64 x566001_2,.int .i64 x566002_2] 59 (0,0)))∧Aside0 (w'.heap[gb568]?=some (.cells #[.int .i64 (rd l0_1 x21_1)] 3 (0,0)))∧Aside0 (Below w.heap.size w w'))
 case atStart=>exact ⟨(0),(x566000_1),(x566001_1),(x566002_1),sT_,H',⟨Nat.le_refl _⟩,⟨bkC_ BK564.out⟩,⟨bkC_ BK565.out⟩,⟨by (with_reducible repeat (first|refine blk_drewN ?_ _|refine blk_drew ?_|refine blk_alloc ?_ _));refine blk_put (cs:=#[.int .i64 0]) ?_ 0 _ rfl;exact bkC_ BK568.out⟩,⟨h_HB HB.out⟩⟩
 case round =>
 clear H'
 try clear c1
 try clear p2
 try clear c3
 try clear p5
 try clear q5
 try clear hx5
 try clear c6
 try clear c8
 try clear c8b0
 try clear c9
 try clear c9b0
 try clear c10
 try clear c10b0
 try clear c12
 try clear c13
 try clear c15
 try clear hcz14_0
 try clear hcz16_0
 try clear hcz16_1
 try clear hcz7_0
 try clear hcz7_1
 try clear hfz14_0
 try clear hfz16_0
 try clear hfz16_1
 try clear hfz7_0
 try clear hfz7_1
 try clear hx567_0
 try clear p2
 try clear p567
 try clear q567
 obtain ⟨x28_2,x566000_2,x566001_2,x566002_2,rfl,HA,HK2,BK564,BK565,BK568,HB⟩:=hrel
 cases gk with
 | zero=>exact absurd HA.out (by simp [impl_FirstFailure.l1])
 | succ k2 =>
 have H:=HA.out
 clear HA
 simp only [impl_FirstFailure.l1] at H
 rcases gsn_ H with ⟨c17b0,H⟩|⟨c17b0,H⟩
 ·have H':=Aside0.mk H
  clear H
  go_wp2
  go_roundg k2
  case measure=>have:=HK1.out;have:=HK2.out;omega
  case rel=>exact ⟨(wrap64 (x21_1+1)),(x566000_2),(x566001_2),(x566002_2),sT_,H',⟨by have:=HK1.out;have:=HK2.out;omega⟩,⟨bkC_ BK564.out⟩,⟨bkC_ BK565.out⟩,⟨h_HB HB.out⟩⟩
 replace H:=gsm_ H;obtain ⟨c18b0,H⟩:=H
 replace H:=gsm_ H;obtain ⟨c19b0,H⟩:=H
 replace H:=bnd_ H;obtain ⟨t570,A20,H⟩:=H
 have H':=Aside0.mk H
 clear H
 obtain ⟨ad569,e569,hx569_0,p569,q569⟩:=aiI_ HR0_1.out x28_2
 obtain rfl:ad567=ad569:=(by injection e569)
 replace hx569_0:=(HB.out.cell (World.block_lt_of_cell? w _ hx569_0)).trans hx569_0
 have hnb21:=NB568_564.out
 have hnc21:=NB564_568.out
 have hnb22:=NB568_565.out
 have hnc22:=NB565_568.out
 obtain ⟨hcz23_0,hfz23_0⟩:=bz1_ BK568.out
 go_wp2_with (first|((with_reducible refine gate_callee (f:=74) rfl ?_);refine goesL_ (some 35) rfl rfl Try.func74 krT_ rfl #[.int .i64 (Go.bits .andNot .i64 (rd l0_1 x21_1) (rd l0_1 x28_2))] rfl agT_ ?_;(with_reducible refine (impl_ElementsOf.calls k2 (Go.bits .andNot .i64 (rd l0_1 x21_1) (rd l0_1 x28_2)) t570 _ A20.out).mono ?_);rintro e w24 ⟨v571,rfl,ho0,hb⟩;refine ⟨_,rfl,?_⟩;have HO572:=Aside0.mk (Kd.R_lower (Kd.R_newB ho0 (bkC_ BK568.out)) (below_size (h_HB HB.out)));replace BK564:=Aside0.mk (blkB_ BK564.out hb);replace BK565:=Aside0.mk (blkB_ BK565.out hb);replace BK568:=Aside0.mk (blkB_ BK568.out hb);replace HB:=Aside0.mk (below_step (h_HB HB.out) hb);(try clear hb);(try clear hb2);(try clear hk);(try clear hi);(try clear ho0);obtain ⟨Ao25,co25,eo25⟩:=Kd.R_slice HO572.out;subst eo25))
 go_loopg [37] k2 (fun kq v37 w'=>∃ (x37_3:Int) (x566000_3:Int) (x566001_3:Int) (x566002_3:Int),v37=.int .i64 x37_3∧Aside0 (impl_FirstFailure.l2 kq (rd l0_1 x28_2) l0_1 (l0_1.length:Int) x21_1 l0_1 (l0_1.length:Int) x28_2 t570 (t570.length:Int) x37_3 a0_0 l0_1 (rd l0_1 x21_1)=some (r1,r2,r3,r4))∧Aside0 (kq≤k2)∧Aside0 (Kd.R (Kd.int .i64) 3 w' w.heap.size (fun k_=>k_≠gb568) (.slice Ao25 t570.length co25) t570)∧Aside0 (w'.heap[gb564]?=some (.cells #[.int .i64 a0_0,(.slice (some ad567) l0_1.length c0_1)] 26 (0,0)))∧Aside0 (w'.heap[gb565]?=some (.cells #[.int .i64 x566000_3,.int .i64 x566001_3,.int .i64 x566002_3] 59 (0,0)))∧Aside0 (w'.heap[gb568]?=some (.cells #[.int .i64 (rd l0_1 x21_1)] 3 (0,0)))∧Aside0 (Below w.heap.size w w'))
 case atStart=>exact ⟨(0),(x566000_2),(x566001_2),(x566002_2),sT_,H',⟨Nat.le_refl _⟩,⟨by (with_reducible repeat (first|apply Kd.R_alloc|apply Kd.R_drewN|apply Kd.R_drew));exact Kd.R_mono HO572.out (fun _ hk=>hk.2)⟩,⟨bkC_ BK564.out⟩,⟨bkC_ BK565.out⟩,⟨bkC_ BK568.out⟩,⟨h_HB HB.out⟩⟩
 case round =>
 clear H'
 try clear c1
 try clear c2
 try clear p2
 try clear c3
 try clear p5
 try clear q5
 try clear hx5
 try clear c6
 try clear c7
 try clear c8
 try clear c8b0
 try clear c9
 try clear c9b0
 try clear c10
 try clear c10b0
 try clear c12
 try clear c13
 try clear c15
 try clear c17
 try clear c17b0
 try clear c18
 try clear c18b0
 try clear c19
 try clear c19b0
 try clear c21
 try clear c22
 try clear hcz14_0
 try clear hcz16_0
 try clear hcz16_1
 try clear hcz23_0
 try clear hcz7_0
 try clear hcz7_1
 try clear hfz14_0
 try clear hfz16_0
 try clear hfz16_1
 try clear hfz23_0
 try clear hfz7_0
 try clear hfz7_1
 try clear hx567_0
 try clear hx569_0
 try clear p2
 try clear p5
 try clear p567
 try clear p569
 try clear q5
 try clear q567
 try clear q569
 obtain ⟨x37_3,x566000_3,x566001_3,x566002_3,rfl,HA,HK3,HO_35,BK564,BK565,BK568,HB⟩:=hrel
 cases gk with
 | zero=>exact absurd HA.out (by simp [impl_FirstFailure.l2])
 | succ k3 =>
 have H:=HA.out
 clear HA
 simp only [impl_FirstFailure.l2] at H
 rcases gsn_ H with ⟨c26b0,H⟩|⟨c26b0,H⟩
 ·have H':=Aside0.mk H
  clear H
  go_wp2
  go_roundg k3
  case measure=>have:=HK1.out;have:=HK2.out;have:=HK3.out;omega
  case rel=>exact ⟨(wrap64 (x28_2+1)),(x566000_3),(x566001_3),(x566002_3),sT_,H',⟨by have:=HK1.out;have:=HK2.out;have:=HK3.out;omega⟩,⟨bkC_ BK564.out⟩,⟨bkC_ BK565.out⟩,⟨bkC_ BK568.out⟩,⟨h_HB HB.out⟩⟩
 replace H:=gsm_ H;obtain ⟨c27b0,H⟩:=H
 replace H:=gsm_ H;obtain ⟨c28b0,H⟩:=H
 replace H:=bnd_ H;obtain ⟨t575,A29,H⟩:=H
 replace H:=bnd_ H;obtain ⟨t578,A30,H⟩:=H
 by_cases c31:t578=true
 ·subst c31
  replace H:=bT_ H
  have H':=Aside0.mk H
  clear H
  obtain ⟨ad573,e573,hx573_0,p573,q573⟩:=aiI_ (Kd.R_reads' HO_35.out).2.2 x37_3
  cases e573
  go_wp2_with (first|((with_reducible refine gate_dst (N:=9) rfl ?_);refine bx_ (N:=9) (cs:=#[.int .i64 0]) (t:=3) ?_;intro gb574 hg w32 hbox hb;have n0_:=Aside0.mk (Kd.R_below (Kd.R_elderB (kRC_ HO_35.out) gb574 (Nat.le_of_eq hg.symm)) hb);have n1_:=Aside0.mk (blkB_ BK564.out hb);have n2_:=Aside0.mk (blkB_ BK565.out hb);have n3_:=Aside0.mk (blkB_ BK568.out hb);have n4_:=Aside0.mk (below_step (h_HB HB.out) hb);have n5_:=Aside0.mk (hbox);have n6_:=Aside0.mk (gw_ hg (h_HB HB.out));have n7_:=Aside0.mk (gw_ hg (h_HB HB.out));have n8_:=Aside0.mk (nbl_ hg (bkC_ BK564.out));have n9_:=Aside0.mk (nbg_ hg (bkC_ BK564.out));have n10_:=Aside0.mk (nbl_ hg (bkC_ BK565.out));have n11_:=Aside0.mk (nbg_ hg (bkC_ BK565.out));have n12_:=Aside0.mk (nbl_ hg (bkC_ BK568.out));have n13_:=Aside0.mk (nbg_ hg (bkC_ BK568.out));clear HO_35;clear BK564;clear BK565;clear BK568;clear HB;have HO_35:=n0_;have BK564:=n1_;have BK565:=n2_;have BK568:=n3_;have HB:=n4_;have BK574:=n5_;have GW574:=n6_;have GE574:=n7_;have NB564_574:=n8_;have NB574_564:=n9_;have NB565_574:=n10_;have NB574_565:=n11_;have NB568_574:=n12_;have NB574_568:=n13_;clear n0_ n1_ n2_ n3_ n4_ n5_ n6_ n7_ n8_ n9_ n10_ n11_ n12_ n13_;clear hb hbox hg;have hnb33:=NB574_564.out;have hnc33:=NB564_574.out;have hnb34:=NB574_565.out;have hnc34:=NB565_574.out;have hnb35:=NB574_568.out;have hnc35:=NB568_574.out;obtain ⟨hcz36_0,hfz36_0⟩:=bz1_ BK574.out;have hnb37:=NB568_564.out;have hnc37:=NB564_568.out;have hnb38:=NB568_565.out;have hnc38:=NB565_568.out;obtain ⟨hcz39_0,hfz39_0⟩:=bz1_ BK568.out)|((with_reducible refine gate_callee (f:=74) rfl ?_);refine goesL_ (some 44) rfl rfl Try.func74 krT_ rfl #[.int .i64 (Go.bits .andNot .i64 (rd l0_1 x28_2) (rd l0_1 x21_1))] rfl agT_ ?_;(with_reducible refine (impl_ElementsOf.calls k3 (Go.bits .andNot .i64 (rd l0_1 x28_2) (rd l0_1 x21_1)) t575 _ A29.out).mono ?_);rintro e w40 ⟨v576,rfl,ho0,hb⟩;refine ⟨_,rfl,?_⟩;have HO577:=Aside0.mk (Kd.R_lower (Kd.R_newB (Kd.R_newB (Kd.R_new' ho0 (Kd.R_lt (by (with_reducible repeat (first|apply Kd.R_alloc|apply Kd.R_drewN|apply Kd.R_drew));exact (Kd.R_mono (Kd.R_far (p:=⟨gb574,0,none⟩) (Kd.R_mono HO_35.out (fun k_ hk=>(⟨hk,hk.2⟩:_∧k_≠gb574))) (fun _ hk=>hk.2) (.int .i64 (rd t570 x37_3))) (fun _ h_=>h_.1))))) (bkC_ BK568.out)) (g:=gb574) (o:=.cells #[.int .i64 (rd t570 x37_3)] 3 (0,0)) (by (with_reducible repeat (first|refine blk_drewN ?_ _|refine blk_drew ?_|refine blk_alloc ?_ _));refine blk_put (cs:=#[.int .i64 0]) ?_ 0 _ rfl;exact bkC_ BK574.out)) (below_size (h_HB HB.out)));replace HO_35:=Aside0.mk (Kd.R_elder' (by (with_reducible repeat (first|apply Kd.R_alloc|apply Kd.R_drewN|apply Kd.R_drew));exact (Kd.R_mono (Kd.R_far (p:=⟨gb574,0,none⟩) (Kd.R_mono HO_35.out (fun k_ hk=>(⟨hk,hk.2⟩:_∧k_≠gb574))) (fun _ hk=>hk.2) (.int .i64 (rd t570 x37_3))) (fun _ h_=>h_.1))) (Kd.R_base ho0) hb);replace BK564:=Aside0.mk (blkB_ BK564.out hb);replace BK565:=Aside0.mk (blkB_ BK565.out hb);replace BK568:=Aside0.mk (blkB_ BK568.out hb);replace BK574:=Aside0.mk (blk_below (g:=gb574) (o:=.cells #[.int .i64 (rd t570 x37_3)] 3 (0,0)) (by (with_reducible repeat (first|refine blk_drewN ?_ _|refine blk_drew ?_|refine blk_alloc ?_ _));refine blk_put (cs:=#[.int .i64 0]) ?_ 0 _ rfl;exact bkC_ BK574.out) hb);replace HB:=Aside0.mk (below_step (h_HB HB.out) hb);(try clear hb);(try clear hb2);(try clear hk);(try clear hi);(try clear ho0);obtain ⟨Ao41,co41,eo41⟩:=Kd.R_slice HO577.out;subst eo41)|((with_reducible refine gate_callee (f:=75) rfl ?_);refine goesL_ (some 46) rfl rfl Try.func75 krT_ rfl #[.slice Ao41 t575.length co41,.func (.func 76) #[] #[.pointer (some ⟨gb564,0,none⟩),.pointer (some ⟨gb568,0,none⟩),.pointer (some ⟨gb574,0,none⟩)]] rfl agT_ ?_;(with_reducible refine (on_impl_FirstFailure_1.calls k3 _ _ t575 a0_0 (some ad567) c0_1 l0_1 (rd l0_1 x21_1) (rd t570 x37_3) true _ ?side1 ?side2 ?side3 ?side4 A30.out gb564 gb568 gb574 ?side5 ?side6 ?side7).mono ?_);(case side1=>repeat (first|exact (Kd.R_reads' HO577.out).2.2|(with_reducible refine Kd.C_alloc ?_ _)|(with_reducible refine Kd.C_drewN ?_ _)|(with_reducible refine Kd.C_drew ?_)));(case side2=>exact (Kd.R_reads' HO577.out).2.1);(case side3=>exact cC_ HR0_1.out);(case side4=>exact HC0_1.out);(case side5=>exact (bkC_ BK564.out));(case side6=>exact (bkC_ BK568.out));(case side7=>exact (bkC_ BK574.out));rintro e w' ⟨rfl,⟨nd,rfl⟩⟩;refine ⟨_,rfl,?_⟩))
  go_roundg k3
  case measure=>have:=HK1.out;have:=HK2.out;have:=HK3.out;omega
  case rel=>exact ⟨(wrap64 (x37_3+1)),(x566000_3),(x566001_3),(x566002_3),sT_,H',⟨by have:=HK1.out;have:=HK2.out;have:=HK3.out;omega⟩,⟨by (with_reducible repeat (first|apply Kd.R_alloc|apply Kd.R_drewN|apply Kd.R_drew));exact Kd.R_mono HO_35.out (fun _ hk=>hk.1.1)⟩,⟨bkC_ BK564.out⟩,⟨bkC_ BK565.out⟩,⟨bkC_ BK568.out⟩,⟨h_HB HB.out⟩⟩
 replace c31:=Bool.eq_false_iff.mpr c31
 subst c31
 replace H:=bF_ H
 simp only [Option.some.injEq,Prod.mk.injEq] at H
 obtain ⟨rfl,rfl,rfl,rfl⟩:=H
 obtain ⟨ad573,e573,hx573_0,p573,q573⟩:=aiI_ (Kd.R_reads' HO_35.out).2.2 x37_3
 cases e573
 go_wp2_with (first|((with_reducible refine gate_dst (N:=9) rfl ?_);refine bx_ (N:=9) (cs:=#[.int .i64 0]) (t:=3) ?_;intro gb574 hg w42 hbox hb;have n0_:=Aside0.mk (Kd.R_below (Kd.R_elderB (kRC_ HO_35.out) gb574 (Nat.le_of_eq hg.symm)) hb);have n1_:=Aside0.mk (blkB_ BK564.out hb);have n2_:=Aside0.mk (blkB_ BK565.out hb);have n3_:=Aside0.mk (blkB_ BK568.out hb);have n4_:=Aside0.mk (below_step (h_HB HB.out) hb);have n5_:=Aside0.mk (hbox);have n6_:=Aside0.mk (gw_ hg (h_HB HB.out));have n7_:=Aside0.mk (gw_ hg (h_HB HB.out));have n8_:=Aside0.mk (nbl_ hg (bkC_ BK564.out));have n9_:=Aside0.mk (nbg_ hg (bkC_ BK564.out));have n10_:=Aside0.mk (nbl_ hg (bkC_ BK565.out));have n11_:=Aside0.mk (nbg_ hg (bkC_ BK565.out));have n12_:=Aside0.mk (nbl_ hg (bkC_ BK568.out));have n13_:=Aside0.mk (nbg_ hg (bkC_ BK568.out));clear HO_35;clear BK564;clear BK565;clear BK568;clear HB;have HO_35:=n0_;have BK564:=n1_;have BK565:=n2_;have BK568:=n3_;have HB:=n4_;have BK574:=n5_;have GW574:=n6_;have GE574:=n7_;have NB564_574:=n8_;have NB574_564:=n9_;have NB565_574:=n10_;have NB574_565:=n11_;have NB568_574:=n12_;have NB574_568:=n13_;clear n0_ n1_ n2_ n3_ n4_ n5_ n6_ n7_ n8_ n9_ n10_ n11_ n12_ n13_;clear hb hbox hg;have hnb43:=NB574_564.out;have hnc43:=NB564_574.out;have hnb44:=NB574_565.out;have hnc44:=NB565_574.out;have hnb45:=NB574_568.out;have hnc45:=NB568_574.out;obtain ⟨hcz46_0,hfz46_0⟩:=bz1_ BK574.out;have hnb47:=NB568_564.out;have hnc47:=NB564_568.out;have hnb48:=NB568_565.out;have hnc48:=NB565_568.out;obtain ⟨hcz49_0,hfz49_0⟩:=bz1_ BK568.out)|((with_reducible refine gate_callee (f:=74) rfl ?_);refine goesL_ (some 44) rfl rfl Try.func74 krT_ rfl #[.int .i64 (Go.bits .andNot .i64 (rd l0_1 x28_2) (rd l0_1 x21_1))] rfl agT_ ?_;(with_reducible refine (impl_ElementsOf.calls k3 (Go.bits .andNot .i64 (rd l0_1 x28_2) (rd l0_1 x21_1)) t575 _ A29.out).mono ?_);rintro e w50 ⟨v576,rfl,ho0,hb⟩;refine ⟨_,rfl,?_⟩;have HO577:=Aside0.mk (Kd.R_lower (Kd.R_newB (Kd.R_newB (Kd.R_new' ho0 (Kd.R_lt (by (with_reducible repeat (first|apply Kd.R_alloc|apply Kd.R_drewN|apply Kd.R_drew));exact (Kd.R_mono (Kd.R_far (p:=⟨gb574,0,none⟩) (Kd.R_mono HO_35.out (fun k_ hk=>(⟨hk,hk.2⟩:_∧k_≠gb574))) (fun _ hk=>hk.2) (.int .i64 (rd t570 x37_3))) (fun _ h_=>h_.1))))) (bkC_ BK568.out)) (g:=gb574) (o:=.cells #[.int .i64 (rd t570 x37_3)] 3 (0,0)) (by (with_reducible repeat (first|refine blk_drewN ?_ _|refine blk_drew ?_|refine blk_alloc ?_ _));refine blk_put (cs:=#[.int .i64 0]) ?_ 0 _ rfl;exact bkC_ BK574.out)) (below_size (h_HB HB.out)));replace HO_35:=Aside0.mk (Kd.R_elder' (by (with_reducible repeat (first|apply Kd.R_alloc|apply Kd.R_drewN|apply Kd.R_drew));exact (Kd.R_mono (Kd.R_far (p:=⟨gb574,0,none⟩) (Kd.R_mono HO_35.out (fun k_ hk=>(⟨hk,hk.2⟩:_∧k_≠gb574))) (fun _ hk=>hk.2) (.int .i64 (rd t570 x37_3))) (fun _ h_=>h_.1))) (Kd.R_base ho0) hb);replace BK564:=Aside0.mk (blkB_ BK564.out hb);replace BK565:=Aside0.mk (blkB_ BK565.out hb);replace BK568:=Aside0.mk (blkB_ BK568.out hb);replace BK574:=Aside0.mk (blk_below (g:=gb574) (o:=.cells #[.int .i64 (rd t570 x37_3)] 3 (0,0)) (by (with_reducible repeat (first|refine blk_drewN ?_ _|refine blk_drew ?_|refine blk_alloc ?_ _));refine blk_put (cs:=#[.int .i64 0]) ?_ 0 _ rfl;exact bkC_ BK574.out) hb);replace HB:=Aside0.mk (below_step (h_HB HB.out) hb);(try clear hb);(try clear hb2);(try clear hk);(try clear hi);(try clear ho0);obtain ⟨Ao51,co51,eo51⟩:=Kd.R_slice HO577.out;subst eo51)|((with_reducible refine gate_callee (f:=75) rfl ?_);refine goesL_ (some 46) rfl rfl Try.func75 krT_ rfl #[.slice Ao51 t575.length co51,.func (.func 76) #[] #[.pointer (some ⟨gb564,0,none⟩),.pointer (some ⟨gb568,0,none⟩),.pointer (some ⟨gb574,0,none⟩)]] rfl agT_ ?_;(with_reducible refine (on_impl_FirstFailure_1.calls k3 _ _ t575 a0_0 (some ad567) c0_1 l0_1 (rd l0_1 x21_1) (rd t570 x37_3) false _ ?side1 ?side2 ?side3 ?side4 A30.out gb564 gb568 gb574 ?side5 ?side6 ?side7).mono ?_);(case side1=>repeat (first|exact (Kd.R_reads' HO577.out).2.2|(with_reducible refine Kd.C_alloc ?_ _)|(with_reducible refine Kd.C_drewN ?_ _)|(with_reducible refine Kd.C_drew ?_)));(case side2=>exact (Kd.R_reads' HO577.out).2.1);(case side3=>exact cC_ HR0_1.out);(case side4=>exact HC0_1.out);(case side5=>exact (bkC_ BK564.out));(case side6=>exact (bkC_ BK568.out));(case side7=>exact (bkC_ BK574.out));rintro e w' ⟨rfl,⟨nd,rfl⟩⟩;refine ⟨_,rfl,?_⟩;(try (rw [drewN_self w50];generalize hq_:World.drewN w50 _=w50;replace HO577:Aside0 (Kd.R (Kd.int .i64) 3 w50 w.heap.size (fun k_=>some k_≠(.slice (some ad573) t570.length co25:Value).ownBlock∧k_≠gb568∧k_≠gb574) (.slice Ao51 t575.length co51) t575):=⟨by rw [← hq_];exact (by (with_reducible repeat (first|apply Kd.R_alloc|apply Kd.R_drewN|apply Kd.R_drew));exact Kd.R_mono HO577.out (fun _ hk=>by first|exact ⟨hk.1.1.2,⟨hk.1.2,hk.2⟩⟩|(simp [hk];done)))⟩;replace HO_35:Aside0 (Kd.R (Kd.int .i64) 3 w50 w.heap.size (fun k_=>some k_≠(.slice Ao51 t575.length co51:Value).ownBlock∧k_≠gb568∧k_≠gb574) (.slice (some ad573) t570.length co25) t570):=⟨by rw [← hq_];exact (by (with_reducible repeat (first|apply Kd.R_alloc|apply Kd.R_drewN|apply Kd.R_drew));exact Kd.R_mono HO_35.out (fun _ hk=>by first|exact ⟨hk.2,⟨hk.1.1,hk.1.2⟩⟩|(simp [hk];done)))⟩;replace BK564:Aside0 (w50.heap[gb564]?=some (.cells #[.int .i64 a0_0,.slice (some ad567) l0_1.length c0_1] 26 (0,0))):=⟨by rw [← hq_];exact (bkC_ BK564.out)⟩;replace BK565:Aside0 (w50.heap[gb565]?=some (.cells #[.int .i64 x566000_3,.int .i64 x566001_3,.int .i64 x566002_3] 59 (0,0))):=⟨by rw [← hq_];exact (bkC_ BK565.out)⟩;replace BK568:Aside0 (w50.heap[gb568]?=some (.cells #[.int .i64 (rd l0_1 x21_1)] 3 (0,0))):=⟨by rw [← hq_];exact (bkC_ BK568.out)⟩;replace BK574:Aside0 (w50.heap[gb574]?=some (.cells #[.int .i64 (rd t570 x37_3)] 3 (0,0))):=⟨by rw [← hq_];exact (bkC_ BK574.out)⟩;replace HB:Aside0 (Below w.heap.size w w50):=⟨by rw [← hq_];exact (h_HB HB.out)⟩;clear hq_;have hcuz52_gb564_0:w50.cell? ⟨gb564,0,none⟩=some (.int .i64 a0_0):=(blk_cell BK564.out 0).trans rfl;have hfuz52_gb564_0:=blk_frozen BK564.out 0;have hcuz52_gb564_1:w50.cell? ⟨gb564,1,none⟩=some (.slice (some ad567) l0_1.length c0_1):=(blk_cell BK564.out 1).trans rfl;have hfuz52_gb564_1:=blk_frozen BK564.out 1;have hcuz52_gb565_0:w50.cell? ⟨gb565,0,none⟩=some (.int .i64 x566000_3):=(blk_cell BK565.out 0).trans rfl;have hfuz52_gb565_0:=blk_frozen BK565.out 0;have hcuz52_gb565_1:w50.cell? ⟨gb565,1,none⟩=some (.int .i64 x566001_3):=(blk_cell BK565.out 1).trans rfl;have hfuz52_gb565_1:=blk_frozen BK565.out 1;have hcuz52_gb565_2:w50.cell? ⟨gb565,2,none⟩=some (.int .i64 x566002_3):=(blk_cell BK565.out 2).trans rfl;have hfuz52_gb565_2:=blk_frozen BK565.out 2;have hcuz52_gb568_0:w50.cell? ⟨gb568,0,none⟩=some (.int .i64 (rd l0_1 x21_1)):=(blk_cell BK568.out 0).trans rfl;have hfuz52_gb568_0:=blk_frozen BK568.out 0;have hcuz52_gb574_0:w50.cell? ⟨gb574,0,none⟩=some (.int .i64 (rd t570 x37_3)):=(blk_cell BK574.out 0).trans rfl;have hfuz52_gb574_0:=blk_frozen BK574.out 0));obtain ⟨hcz53_0,hfz53_0⟩:=bz1_ BK568.out;obtain ⟨hcz54_0,hfz54_0⟩:=bz1_ BK574.out;have hnb55:=NB565_564.out;have hnc55:=NB564_565.out;obtain ⟨hcz56_0,hcz56_1,hcz56_2,hfz56_0,hfz56_1,hfz56_2⟩:=bz3_ BK565.out))
 refine bodyPost_ret (results_ct rfl _ _ gb565 59 #[.int .i64 (rd l0_1 x21_1),.int .i64 (rd l0_1 x28_2),.int .i64 (rd t570 x37_3)] (0,0) _ rfl (by (with_reducible repeat (first|refine blk_drewN ?_ _|refine blk_drew ?_|refine blk_alloc ?_ _));refine blk_put (cs:=#[.int .i64 (rd l0_1 x21_1),.int .i64 (rd l0_1 x28_2),.int .i64 x566002_3]) ?_ 2 _ rfl;(with_reducible repeat (first|refine blk_drewN ?_ _|refine blk_drew ?_|refine blk_alloc ?_ _));refine blk_put (cs:=#[.int .i64 (rd l0_1 x21_1),.int .i64 x566001_3,.int .i64 x566002_3]) ?_ 1 _ rfl;(with_reducible repeat (first|refine blk_drewN ?_ _|refine blk_drew ?_|refine blk_alloc ?_ _));refine blk_put (cs:=#[.int .i64 x566000_3,.int .i64 x566001_3,.int .i64 x566002_3]) ?_ 0 _ rfl;exact bkC_ BK565.out) Try.underlying59 rfl krT_) rfl ?_
 exact ⟨eT_,h_HB HB.out⟩
/-! ### impl_IsMatroid: function 44 -/
def impl_IsMatroid.f (k:Nat) (a0_0:Int) (l0_1:List Int):Option (Bool):=(impl_FirstFailure.f k a0_0 l0_1).bind fun bt580=>((impl_IsFamily.f k a0_0 l0_1).bind fun t585=>(if t585=true then (if (l0_1.length:Int)>0 then (some (!bt580.2.2.2)) else (some false)) else (some false)))
set_option maxHeartbeats 8000000 in
set_option maxRecDepth 100000 in
theorem impl_IsMatroid.calls (k:Nat) (a0_0:Int) (A0_1:Option Addr) (c0_1:Nat) (l0_1:List Int) (r:Bool) (w:World) (hr0_1:Kd.C (Kd.int .i64) w A0_1 l0_1.length l0_1) (hc0_1:l0_1.length≤c0_1) (h:impl_IsMatroid.f k a0_0 l0_1=some r) :
    Calls Try.prog 44 #[.agg #[.int .i64 a0_0,.slice A0_1 l0_1.length c0_1]] w fun e w'=>e=.returned (.bool r)∧Below w.heap.size w w':=by
 have hu26:=Try.underlying26
 have hu59:=Try.underlying59
 have HR0_1:=Aside0.mk hr0_1
 have HC0_1:=Aside0.mk hc0_1
 clear hr0_1 hc0_1
 have HB:=Aside0.mk (Below.refl w.heap.size w)
 unfold impl_IsMatroid.f at h
 have H:=h
 clear h
 replace H:=bnd_ H;obtain ⟨⟨t580,t581,t582,t583⟩,A2,H⟩:=H;dsimp only at H
 replace H:=bnd_ H;obtain ⟨t585,A3,H⟩:=H
 by_cases c4:t585=true
 ·subst c4
  replace H:=bT_ H
  by_cases c5:(l0_1.length:Int)>0
  ·rw [if_pos c5] at H
   have c5b0:decide (0<(l0_1.length:Int))=true:=decide_eq_true c5
   have c5b1:decide (0<l0_1.length)=true:=decide_eq_true (by omega)
   clear c5
   obtain rfl:=Option.some.inj H
   go_enter Try.func44,Try.ntmps44
   go_wp2_with (first|((with_reducible refine gate_dst (N:=1) rfl ?_);(try (refine gate_guard (by rfl) ?_;dsimp only));refine bx_ (N:=1) (cs:=#[.int .i64 a0_0,.slice A0_1 l0_1.length c0_1]) (t:=26) ?_;intro gb579 hg w6 hbox hb;have BK579:=Aside0.mk (hbox);have GW579:=Aside0.mk (gw_ hg (h_HB HB.out));have GE579:=Aside0.mk (gw_ hg (h_HB HB.out));replace HB:=Aside0.mk (below_step (h_HB HB.out) hb);clear hb hbox hg;obtain ⟨hcz7_0,hcz7_1,hfz7_0,hfz7_1⟩:=bz2_ BK579.out)|((with_reducible refine gate_callee (f:=63) rfl ?_);refine goesL_ (some 7) rfl rfl Try.func63 krT_ rfl #[.agg #[.int .i64 a0_0,.slice A0_1 l0_1.length c0_1]] rfl agT_ ?_;(with_reducible refine (impl_FirstFailure.calls k a0_0 _ _ l0_1 t580 t581 t582 t583 _ ?side1 ?side2 A2.out).mono ?_);(case side1=>exact cC_ HR0_1.out);(case side2=>exact HC0_1.out);rintro e w8 ⟨rfl,hb⟩;refine ⟨_,rfl,?_⟩;replace BK579:=Aside0.mk (blkB_ BK579.out hb);replace HB:=Aside0.mk (below_step (h_HB HB.out) hb);(try clear hb))|((with_reducible refine gate_dst (N:=3) rfl ?_);(try (refine gate_guard (by rfl) ?_;dsimp only));refine bx_ (N:=3) (cs:=#[.int .i64 0,.int .i64 0,.int .i64 0]) (t:=59) ?_;intro gb584 hg w9 hbox hb;have BK584:=Aside0.mk (hbox);have GW584:=Aside0.mk (gw_ hg (h_HB HB.out));have GE584:=Aside0.mk (gw_ hg (h_HB HB.out));replace HB:=Aside0.mk (below_step (h_HB HB.out) hb);have NB579_584:=Aside0.mk (nbl_ hg (bkC_ BK579.out));have NB584_579:=Aside0.mk (nbg_ hg (bkC_ BK579.out));replace BK579:=Aside0.mk (blkB_ BK579.out hb);clear hb hbox hg;have hnb10:=NB584_579.out;have hnc10:=NB579_584.out;obtain ⟨hcz11_0,hcz11_1,hcz11_2,hfz11_0,hfz11_1,hfz11_2⟩:=bz3_ BK584.out;obtain ⟨hcz12_0,hcz12_1,hfz12_0,hfz12_1⟩:=bz2_ BK579.out)|((with_reducible refine gate_callee (f:=64) rfl ?_);refine goesL_ (some 14) rfl rfl Try.func64 krT_ rfl #[.int .i64 a0_0,.slice A0_1 l0_1.length c0_1] rfl agT_ ?_;(with_reducible refine (impl_IsFamily.calls k a0_0 _ _ l0_1 true _ ?side1 ?side2 A3.out).mono ?_);(case side1=>exact Kd.C_below HR0_1.out (h_HB HB.out));(case side2=>exact HC0_1.out);rintro e w' ⟨rfl,⟨nd,rfl⟩⟩;refine ⟨_,rfl,?_⟩))
   go_ret
   exact ⟨eT_,h_HB HB.out⟩
  rw [if_neg c5] at H
  have c5b0:decide (0<(l0_1.length:Int))=false:=decide_eq_false c5
  have c5b1:decide (0<l0_1.length)=false:=decide_eq_false (by omega)
  clear c5
  obtain rfl:=Option.some.inj H
  go_enter Try.func44,Try.ntmps44
  go_wp2_with (first|((with_reducible refine gate_dst (N:=1) rfl ?_);(try (refine gate_guard (by rfl) ?_;dsimp only));refine bx_ (N:=1) (cs:=#[.int .i64 a0_0,.slice A0_1 l0_1.length c0_1]) (t:=26) ?_;intro gb579 hg w13 hbox hb;have BK579:=Aside0.mk (hbox);have GW579:=Aside0.mk (gw_ hg (h_HB HB.out));have GE579:=Aside0.mk (gw_ hg (h_HB HB.out));replace HB:=Aside0.mk (below_step (h_HB HB.out) hb);clear hb hbox hg;obtain ⟨hcz14_0,hcz14_1,hfz14_0,hfz14_1⟩:=bz2_ BK579.out)|((with_reducible refine gate_callee (f:=63) rfl ?_);refine goesL_ (some 7) rfl rfl Try.func63 krT_ rfl #[.agg #[.int .i64 a0_0,.slice A0_1 l0_1.length c0_1]] rfl agT_ ?_;(with_reducible refine (impl_FirstFailure.calls k a0_0 _ _ l0_1 t580 t581 t582 t583 _ ?side1 ?side2 A2.out).mono ?_);(case side1=>exact cC_ HR0_1.out);(case side2=>exact HC0_1.out);rintro e w15 ⟨rfl,hb⟩;refine ⟨_,rfl,?_⟩;replace BK579:=Aside0.mk (blkB_ BK579.out hb);replace HB:=Aside0.mk (below_step (h_HB HB.out) hb);(try clear hb))|((with_reducible refine gate_dst (N:=3) rfl ?_);(try (refine gate_guard (by rfl) ?_;dsimp only));refine bx_ (N:=3) (cs:=#[.int .i64 0,.int .i64 0,.int .i64 0]) (t:=59) ?_;intro gb584 hg w16 hbox hb;have BK584:=Aside0.mk (hbox);have GW584:=Aside0.mk (gw_ hg (h_HB HB.out));have GE584:=Aside0.mk (gw_ hg (h_HB HB.out));replace HB:=Aside0.mk (below_step (h_HB HB.out) hb);have NB579_584:=Aside0.mk (nbl_ hg (bkC_ BK579.out));have NB584_579:=Aside0.mk (nbg_ hg (bkC_ BK579.out));replace BK579:=Aside0.mk (blkB_ BK579.out hb);clear hb hbox hg;have hnb17:=NB584_579.out;have hnc17:=NB579_584.out;obtain ⟨hcz18_0,hcz18_1,hcz18_2,hfz18_0,hfz18_1,hfz18_2⟩:=bz3_ BK584.out;obtain ⟨hcz19_0,hcz19_1,hfz19_0,hfz19_1⟩:=bz2_ BK579.out)|((with_reducible refine gate_callee (f:=64) rfl ?_);refine goesL_ (some 14) rfl rfl Try.func64 krT_ rfl #[.int .i64 a0_0,.slice A0_1 l0_1.length c0_1] rfl agT_ ?_;(with_reducible refine (impl_IsFamily.calls k a0_0 _ _ l0_1 true _ ?side1 ?side2 A3.out).mono ?_);(case side1=>exact Kd.C_below HR0_1.out (h_HB HB.out));(case side2=>exact HC0_1.out);rintro e w' ⟨rfl,⟨nd,rfl⟩⟩;refine ⟨_,rfl,?_⟩))
  go_ret
  exact ⟨eT_,h_HB HB.out⟩
 ·replace c4:=Bool.eq_false_iff.mpr c4
  subst c4
  replace H:=bF_ H
  obtain rfl:=Option.some.inj H
  go_enter Try.func44,Try.ntmps44
  go_wp2_with (first|((with_reducible refine gate_dst (N:=1) rfl ?_);(try (refine gate_guard (by rfl) ?_;dsimp only));refine bx_ (N:=1) (cs:=#[.int .i64 a0_0,.slice A0_1 l0_1.length c0_1]) (t:=26) ?_;intro gb579 hg w20 hbox hb;have BK579:=Aside0.mk (hbox);have GW579:=Aside0.mk (gw_ hg (h_HB HB.out));have GE579:=Aside0.mk (gw_ hg (h_HB HB.out));replace HB:=Aside0.mk (below_step (h_HB HB.out) hb);clear hb hbox hg;obtain ⟨hcz21_0,hcz21_1,hfz21_0,hfz21_1⟩:=bz2_ BK579.out)|((with_reducible refine gate_callee (f:=63) rfl ?_);refine goesL_ (some 7) rfl rfl Try.func63 krT_ rfl #[.agg #[.int .i64 a0_0,.slice A0_1 l0_1.length c0_1]] rfl agT_ ?_;(with_reducible refine (impl_FirstFailure.calls k a0_0 _ _ l0_1 t580 t581 t582 t583 _ ?side1 ?side2 A2.out).mono ?_);(case side1=>exact cC_ HR0_1.out);(case side2=>exact HC0_1.out);rintro e w22 ⟨rfl,hb⟩;refine ⟨_,rfl,?_⟩;replace BK579:=Aside0.mk (blkB_ BK579.out hb);replace HB:=Aside0.mk (below_step (h_HB HB.out) hb);(try clear hb))|((with_reducible refine gate_dst (N:=3) rfl ?_);(try (refine gate_guard (by rfl) ?_;dsimp only));refine bx_ (N:=3) (cs:=#[.int .i64 0,.int .i64 0,.int .i64 0]) (t:=59) ?_;intro gb584 hg w23 hbox hb;have BK584:=Aside0.mk (hbox);have GW584:=Aside0.mk (gw_ hg (h_HB HB.out));have GE584:=Aside0.mk (gw_ hg (h_HB HB.out));replace HB:=Aside0.mk (below_step (h_HB HB.out) hb);have NB579_584:=Aside0.mk (nbl_ hg (bkC_ BK579.out));have NB584_579:=Aside0.mk (nbg_ hg (bkC_ BK579.out));replace BK579:=Aside0.mk (blkB_ BK579.out hb);clear hb hbox hg;have hnb24:=NB584_579.out;have hnc24:=NB579_584.out;obtain ⟨hcz25_0,hcz25_1,hcz25_2,hfz25_0,hfz25_1,hfz25_2⟩:=bz3_ BK584.out;obtain ⟨hcz26_0,hcz26_1,hfz26_0,hfz26_1⟩:=bz2_ BK579.out)|((with_reducible refine gate_callee (f:=64) rfl ?_);refine goesL_ (some 14) rfl rfl Try.func64 krT_ rfl #[.int .i64 a0_0,.slice A0_1 l0_1.length c0_1] rfl agT_ ?_;(with_reducible refine (impl_IsFamily.calls k a0_0 _ _ l0_1 false _ ?side1 ?side2 A3.out).mono ?_);(case side1=>exact Kd.C_below HR0_1.out (h_HB HB.out));(case side2=>exact HC0_1.out);rintro e w' ⟨rfl,⟨nd,rfl⟩⟩;refine ⟨_,rfl,?_⟩))
  go_ret
  exact ⟨eT_,h_HB HB.out⟩
/-! ### impl_knows: function 31 -/
def impl_knows.f (k:Nat) (a0_0:Int) (l0_1:List Int) (a1:Int):Option (Bool):=(impl_IsMatroid.f k a0_0 l0_1).bind fun t587=>(if t587=true then ((impl_IsSet.f a0_0 a1).bind fun t588=>(some t588)) else (some false))
set_option maxHeartbeats 8000000 in
set_option maxRecDepth 100000 in
theorem impl_knows.calls (k:Nat) (a0_0:Int) (A0_1:Option Addr) (c0_1:Nat) (l0_1:List Int) (a1:Int) (r:Bool) (w:World) (hr0_1:Kd.C (Kd.int .i64) w A0_1 l0_1.length l0_1) (hc0_1:l0_1.length≤c0_1) (h:impl_knows.f k a0_0 l0_1 a1=some r) :
    Calls Try.prog 31 #[.agg #[.int .i64 a0_0,.slice A0_1 l0_1.length c0_1],.int .i64 a1] w fun e w'=>e=.returned (.bool r)∧Below w.heap.size w w':=by
 have hu26:=Try.underlying26
 have HR0_1:=Aside0.mk hr0_1
 have HC0_1:=Aside0.mk hc0_1
 clear hr0_1 hc0_1
 have HB:=Aside0.mk (Below.refl w.heap.size w)
 unfold impl_knows.f at h
 have H:=h
 clear h
 replace H:=bnd_ H;obtain ⟨t587,A3,H⟩:=H
 by_cases c4:t587=true
 ·subst c4
  replace H:=bT_ H
  replace H:=bnd_ H;obtain ⟨t588,A5,H⟩:=H
  obtain rfl:=Option.some.inj H
  go_enter Try.func31,Try.ntmps31
  go_wp2_with (first|((with_reducible refine gate_dst (N:=2) rfl ?_);refine bx_ (N:=2) (cs:=#[.int .i64 a0_0,.slice A0_1 l0_1.length c0_1]) (t:=26) ?_;intro gb586 hg w6 hbox hb;have BK586:=Aside0.mk (hbox);have GW586:=Aside0.mk (gw_ hg (h_HB HB.out));have GE586:=Aside0.mk (gw_ hg (h_HB HB.out));replace HB:=Aside0.mk (below_step (h_HB HB.out) hb);clear hb hbox hg;obtain ⟨hcz7_0,hcz7_1,hfz7_0,hfz7_1⟩:=bz2_ BK586.out)|((with_reducible refine gate_callee (f:=44) rfl ?_);refine goesL_ (some 6) rfl rfl Try.func44 krT_ rfl #[.agg #[.int .i64 a0_0,.slice A0_1 l0_1.length c0_1]] rfl agT_ ?_;(with_reducible refine (impl_IsMatroid.calls k a0_0 _ _ l0_1 true _ ?side1 ?side2 A3.out).mono ?_);(case side1=>exact cC_ HR0_1.out);(case side2=>exact HC0_1.out);rintro e w8 ⟨rfl,hb⟩;refine ⟨_,rfl,?_⟩;replace BK586:=Aside0.mk (blkB_ BK586.out hb);replace HB:=Aside0.mk (below_step (h_HB HB.out) hb);(try clear hb);obtain ⟨hcz9_0,hcz9_1,hfz9_0,hfz9_1⟩:=bz2_ BK586.out)|(go_at_call 55;(with_reducible refine (impl_IsSet.calls a0_0 a1 t588 _ A5.out).mono ?_);rintro e w' ⟨rfl,⟨nd,rfl⟩⟩))
  go_ret
  exact ⟨eT_,h_HB HB.out⟩
 replace c4:=Bool.eq_false_iff.mpr c4
 subst c4
 replace H:=bF_ H
 obtain rfl:=Option.some.inj H
 go_enter Try.func31,Try.ntmps31
 go_wp2_with (first|((with_reducible refine gate_dst (N:=2) rfl ?_);refine bx_ (N:=2) (cs:=#[.int .i64 a0_0,.slice A0_1 l0_1.length c0_1]) (t:=26) ?_;intro gb586 hg w10 hbox hb;have BK586:=Aside0.mk (hbox);have GW586:=Aside0.mk (gw_ hg (h_HB HB.out));have GE586:=Aside0.mk (gw_ hg (h_HB HB.out));replace HB:=Aside0.mk (below_step (h_HB HB.out) hb);clear hb hbox hg;obtain ⟨hcz11_0,hcz11_1,hfz11_0,hfz11_1⟩:=bz2_ BK586.out)|((with_reducible refine gate_callee (f:=44) rfl ?_);refine goesL_ (some 6) rfl rfl Try.func44 krT_ rfl #[.agg #[.int .i64 a0_0,.slice A0_1 l0_1.length c0_1]] rfl agT_ ?_;(with_reducible refine (impl_IsMatroid.calls k a0_0 _ _ l0_1 false _ ?side1 ?side2 A3.out).mono ?_);(case side1=>exact cC_ HR0_1.out);(case side2=>exact HC0_1.out);rintro e w12 ⟨rfl,hb⟩;refine ⟨_,rfl,?_⟩;replace BK586:=Aside0.mk (blkB_ BK586.out hb);replace HB:=Aside0.mk (below_step (h_HB HB.out) hb);(try clear hb)))
 go_ret
 exact ⟨eT_,h_HB HB.out⟩
/-! ### bits_OnesCount32: function 70 -/
-- (never reached: whole numbers have 64 bits here)
/-! ### bits_OnesCount64: function 71 -/
def bits_OnesCount64.f (a0:Int):Option (Int):=some (Go.bits .and .i64 (wrap64 (IntKind.u64.wrap ((IntKind.u64.wrap ((IntKind.u64.wrap ((Go.bits .and .u64 (IntKind.u64.wrap (((IntKind.u64.wrap ((Go.bits .and .u64 ((IntKind.u64.wrap ((Go.bits .and .u64 (a0 / 2) 6148914691236517205)+(Go.bits .and .u64 a0 6148914691236517205))) / 4) 3689348814741910323)+(Go.bits .and .u64 (IntKind.u64.wrap ((Go.bits .and .u64 (a0 / 2) 6148914691236517205)+(Go.bits .and .u64 a0 6148914691236517205))) 3689348814741910323))) / 16)+(IntKind.u64.wrap ((Go.bits .and .u64 ((IntKind.u64.wrap ((Go.bits .and .u64 (a0 / 2) 6148914691236517205)+(Go.bits .and .u64 a0 6148914691236517205))) / 4) 3689348814741910323)+(Go.bits .and .u64 (IntKind.u64.wrap ((Go.bits .and .u64 (a0 / 2) 6148914691236517205)+(Go.bits .and .u64 a0 6148914691236517205))) 3689348814741910323))))) 1085102592571150095)+((Go.bits .and .u64 (IntKind.u64.wrap (((IntKind.u64.wrap ((Go.bits .and .u64 ((IntKind.u64.wrap ((Go.bits .and .u64 (a0 / 2) 6148914691236517205)+(Go.bits .and .u64 a0 6148914691236517205))) / 4) 3689348814741910323)+(Go.bits .and .u64 (IntKind.u64.wrap ((Go.bits .and .u64 (a0 / 2) 6148914691236517205)+(Go.bits .and .u64 a0 6148914691236517205))) 3689348814741910323))) / 16)+(IntKind.u64.wrap ((Go.bits .and .u64 ((IntKind.u64.wrap ((Go.bits .and .u64 (a0 / 2) 6148914691236517205)+(Go.bits .and .u64 a0 6148914691236517205))) / 4) 3689348814741910323)+(Go.bits .and .u64 (IntKind.u64.wrap ((Go.bits .and .u64 (a0 / 2) 6148914691236517205)+(Go.bits .and .u64 a0 6148914691236517205))) 3689348814741910323))))) 1085102592571150095) / 256)))+((IntKind.u64.wrap ((Go.bits .and .u64 (IntKind.u64.wrap (((IntKind.u64.wrap ((Go.bits .and .u64 ((IntKind.u64.wrap ((Go.bits .and .u64 (a0 / 2) 6148914691236517205)+(Go.bits .and .u64 a0 6148914691236517205))) / 4) 3689348814741910323)+(Go.bits .and .u64 (IntKind.u64.wrap ((Go.bits .and .u64 (a0 / 2) 6148914691236517205)+(Go.bits .and .u64 a0 6148914691236517205))) 3689348814741910323))) / 16)+(IntKind.u64.wrap ((Go.bits .and .u64 ((IntKind.u64.wrap ((Go.bits .and .u64 (a0 / 2) 6148914691236517205)+(Go.bits .and .u64 a0 6148914691236517205))) / 4) 3689348814741910323)+(Go.bits .and .u64 (IntKind.u64.wrap ((Go.bits .and .u64 (a0 / 2) 6148914691236517205)+(Go.bits .and .u64 a0 6148914691236517205))) 3689348814741910323))))) 1085102592571150095)+((Go.bits .and .u64 (IntKind.u64.wrap (((IntKind.u64.wrap ((Go.bits .and .u64 ((IntKind.u64.wrap ((Go.bits .and .u64 (a0 / 2) 6148914691236517205)+(Go.bits .and .u64 a0 6148914691236517205))) / 4) 3689348814741910323)+(Go.bits .and .u64 (IntKind.u64.wrap ((Go.bits .and .u64 (a0 / 2) 6148914691236517205)+(Go.bits .and .u64 a0 6148914691236517205))) 3689348814741910323))) / 16)+(IntKind.u64.wrap ((Go.bits .and .u64 ((IntKind.u64.wrap ((Go.bits .and .u64 (a0 / 2) 6148914691236517205)+(Go.bits .and .u64 a0 6148914691236517205))) / 4) 3689348814741910323)+(Go.bits .and .u64 (IntKind.u64.wrap ((Go.bits .and .u64 (a0 / 2) 6148914691236517205)+(Go.bits .and .u64 a0 6148914691236517205))) 3689348814741910323))))) 1085102592571150095) / 256))) / 65536)))+((IntKind.u64.wrap ((IntKind.u64.wrap ((Go.bits .and .u64 (IntKind.u64.wrap (((IntKind.u64.wrap ((Go.bits .and .u64 ((IntKind.u64.wrap ((Go.bits .and .u64 (a0 / 2) 6148914691236517205)+(Go.bits .and .u64 a0 6148914691236517205))) / 4) 3689348814741910323)+(Go.bits .and .u64 (IntKind.u64.wrap ((Go.bits .and .u64 (a0 / 2) 6148914691236517205)+(Go.bits .and .u64 a0 6148914691236517205))) 3689348814741910323))) / 16)+(IntKind.u64.wrap ((Go.bits .and .u64 ((IntKind.u64.wrap ((Go.bits .and .u64 (a0 / 2) 6148914691236517205)+(Go.bits .and .u64 a0 6148914691236517205))) / 4) 3689348814741910323)+(Go.bits .and .u64 (IntKind.u64.wrap ((Go.bits .and .u64 (a0 / 2) 6148914691236517205)+(Go.bits .and .u64 a0 6148914691236517205))) 3689348814741910323))))) 1085102592571150095)+((Go.bits .and .u64 (IntKind.u64.wrap (((IntKind.u64.wrap ((Go.bits .and .u64 ((IntKind.u64.wrap ((Go.bits .and .u64 (a0 / 2) 6148914691236517205)+(Go.bits .and .u64 a0 6148914691236517205))) / 4) 3689348814741910323)+(Go.bits .and .u64 (IntKind.u64.wrap ((Go.bits .and .u64 (a0 / 2) 6148914691236517205)+(Go.bits .and .u64 a0 6148914691236517205))) 3689348814741910323))) / 16)+(IntKind.u64.wrap ((Go.bits .and .u64 ((IntKind.u64.wrap ((Go.bits .and .u64 (a0 / 2) 6148914691236517205)+(Go.bits .and .u64 a0 6148914691236517205))) / 4) 3689348814741910323)+(Go.bits .and .u64 (IntKind.u64.wrap ((Go.bits .and .u64 (a0 / 2) 6148914691236517205)+(Go.bits .and .u64 a0 6148914691236517205))) 3689348814741910323))))) 1085102592571150095) / 256)))+((IntKind.u64.wrap ((Go.bits .and .u64 (IntKind.u64.wrap (((IntKind.u64.wrap ((Go.bits .and .u64 ((IntKind.u64.wrap ((Go.bits .and .u64 (a0 / 2) 6148914691236517205)+(Go.bits .and .u64 a0 6148914691236517205))) / 4) 3689348814741910323)+(Go.bits .and .u64 (IntKind.u64.wrap ((Go.bits .and .u64 (a0 / 2) 6148914691236517205)+(Go.bits .and .u64 a0 6148914691236517205))) 3689348814741910323))) / 16)+(IntKind.u64.wrap ((Go.bits .and .u64 ((IntKind.u64.wrap ((Go.bits .and .u64 (a0 / 2) 6148914691236517205)+(Go.bits .and .u64 a0 6148914691236517205))) / 4) 3689348814741910323)+(Go.bits .and .u64 (IntKind.u64.wrap ((Go.bits .and .u64 (a0 / 2) 6148914691236517205)+(Go.bits .and .u64 a0 6148914691236517205))) 3689348814741910323))))) 1085102592571150095)+((Go.bits .and .u64 (IntKind.u64.wrap (((IntKind.u64.wrap ((Go.bits .and .u64 ((IntKind.u64.wrap ((Go.bits .and .u64 (a0 / 2) 6148914691236517205)+(Go.bits .and .u64 a0 6148914691236517205))) / 4) 3689348814741910323)+(Go.bits .and .u64 (IntKind.u64.wrap ((Go.bits .and .u64 (a0 / 2) 6148914691236517205)+(Go.bits .and .u64 a0 6148914691236517205))) 3689348814741910323))) / 16)+(IntKind.u64.wrap ((Go.bits .and .u64 ((IntKind.u64.wrap ((Go.bits .and .u64 (a0 / 2) 6148914691236517205)+(Go.bits .and .u64 a0 6148914691236517205))) / 4) 3689348814741910323)+(Go.bits .and .u64 (IntKind.u64.wrap ((Go.bits .and .u64 (a0 / 2) 6148914691236517205)+(Go.bits .and .u64 a0 6148914691236517205))) 3689348814741910323))))) 1085102592571150095) / 256))) / 65536))) / 4294967296)))) 127)
set_option maxHeartbeats 8000000 in
set_option maxRecDepth 100000 in
theorem bits_OnesCount64.calls (a0:Int) (r:Int) (w:World) (h:bits_OnesCount64.f a0=some r) :
    Calls Try.prog 71 #[.int .u64 a0] w fun e w'=>e=.returned (.int .i64 r)∧Drawn0 w w':=by
 unfold bits_OnesCount64.f at h
 have H:=h
 clear h
 obtain rfl:=Option.some.inj H
 go_enter Try.func71,Try.ntmps71
 go_wp2
 go_ret
 exact ⟨sT_,dT_⟩
/-! ### bits_OnesCount: function 60 -/
def bits_OnesCount.f (a0:Int):Option (Int):=(bits_OnesCount64.f a0).bind fun t589=>(some t589)
set_option maxHeartbeats 8000000 in
set_option maxRecDepth 100000 in
theorem bits_OnesCount.calls (a0:Int) (r:Int) (w:World) (h:bits_OnesCount.f a0=some r) :
    Calls Try.prog 60 #[.int .u64 a0] w fun e w'=>e=.returned (.int .i64 r)∧Drawn0 w w':=by
 have H:((bits_OnesCount64.f a0).bind fun t589=>(some t589))=some r:=h
 clear h
 replace H:=bnd_ H;obtain ⟨t589,A2,H⟩:=H
 obtain rfl:=Option.some.inj H
 go_enter Try.func60,Try.ntmps60
 go_wp2_with (first|((with_reducible refine gate_callee (f:=71) rfl ?_);refine goesL_ (some 7) rfl rfl Try.func71 krT_ rfl #[.int .u64 a0] rfl agT_ ?_;(with_reducible refine (bits_OnesCount64.calls a0 t589 _ A2.out).mono ?_);rintro e w' ⟨rfl,⟨nd,rfl⟩⟩;refine ⟨_,rfl,?_⟩))
 go_ret
 exact ⟨sT_,dT_⟩
/-! ### impl_CountOf: function 38 -/
def impl_CountOf.f (a0:Int):Option (Int):=(impl_isAny.f a0).bind fun t590=>(if t590=true then ((bits_OnesCount.f (IntKind.u64.wrap (a0))).bind fun t591=>(some t591)) else (some 0))
set_option maxHeartbeats 8000000 in
set_option maxRecDepth 100000 in
theorem impl_CountOf.calls (a0:Int) (r:Int) (w:World) (h:impl_CountOf.f a0=some r) :
    Calls Try.prog 38 #[.int .i64 a0] w fun e w'=>e=.returned (.int .i64 r)∧Drawn0 w w':=by
 unfold impl_CountOf.f at h
 have H:=h
 clear h
 replace H:=bnd_ H;obtain ⟨t590,A2,H⟩:=H
 by_cases c3:t590=true
 ·subst c3
  replace H:=bT_ H
  replace H:=bnd_ H;obtain ⟨t591,A4,H⟩:=H
  obtain rfl:=Option.some.inj H
  go_enter Try.func38,Try.ntmps38
  go_wp2_with (first|((with_reducible refine gate_callee (f:=59) rfl ?_);refine goesL_ (some 4) rfl rfl Try.func59 krT_ rfl #[.int .i64 a0] rfl agT_ ?_;(with_reducible refine (impl_isAny.calls a0 true _ A2.out).mono ?_);rintro e w' ⟨rfl,⟨nd,rfl⟩⟩;refine ⟨_,rfl,?_⟩)|((with_reducible refine gate_callee (f:=60) rfl ?_);refine goesL_ (some 8) rfl rfl Try.func60 krT_ rfl #[.int .u64 (IntKind.u64.wrap (a0))] rfl agT_ ?_;(with_reducible refine (bits_OnesCount.calls (IntKind.u64.wrap (a0)) t591 _ A4.out).mono ?_);rintro e w' ⟨rfl,⟨nd,rfl⟩⟩;refine ⟨_,rfl,?_⟩))
  go_ret
  exact ⟨sT_,dT_⟩
 replace c3:=Bool.eq_false_iff.mpr c3
 subst c3
 replace H:=bF_ H
 obtain rfl:=Option.some.inj H
 go_enter Try.func38,Try.ntmps38
 go_wp2_with (first|((with_reducible refine gate_callee (f:=59) rfl ?_);refine goesL_ (some 4) rfl rfl Try.func59 krT_ rfl #[.int .i64 a0] rfl agT_ ?_;(with_reducible refine (impl_isAny.calls a0 false _ A2.out).mono ?_);rintro e w' ⟨rfl,⟨nd,rfl⟩⟩;refine ⟨_,rfl,?_⟩))
 go_ret
 exact ⟨sT_,dT_⟩
/-! ### impl_rankIn: function 32 -/
def impl_rankIn.l0:Nat→Int→Int→List Int→Int→Int→Option (Int)
 | 0,_,_,_,_,_=>none
 | k+1,x1,x5,x9,x10,x11=>if x11<x10 then (if 0≤x11 then (if x11<(x9.length:Int) then ((impl_CountOf.f (Go.bits .and .i64 x1 (rd x9 x11))).bind fun t594=>(impl_rankIn.l0 k x1 (mx x5 t594) x9 x10 (wrap64 (x11+1)))) else (none)) else (none)) else (some x5)
def impl_rankIn.f (k:Nat) (a0_0:Int) (l0_1:List Int) (a1:Int):Option (Int):=impl_rankIn.l0 k a1 0 l0_1 (l0_1.length:Int) 0
set_option maxHeartbeats 8000000 in
set_option maxRecDepth 100000 in
theorem impl_rankIn.calls (k:Nat) (a0_0:Int) (A0_1:Option Addr) (c0_1:Nat) (l0_1:List Int) (a1:Int) (r:Int) (w:World) (hr0_1:Kd.C (Kd.int .i64) w A0_1 l0_1.length l0_1) (hc0_1:l0_1.length≤c0_1) (h:impl_rankIn.f k a0_0 l0_1 a1=some r) :
    Calls Try.prog 32 #[.agg #[.int .i64 a0_0,.slice A0_1 l0_1.length c0_1],.int .i64 a1] w fun e w'=>e=.returned (.int .i64 r)∧Below w.heap.size w w':=by
 have hu26:=Try.underlying26
 have HR0_1:=Aside0.mk hr0_1
 have HC0_1:=Aside0.mk hc0_1
 clear hr0_1 hc0_1
 have HB:=Aside0.mk (Below.refl w.heap.size w)
 have H:(impl_rankIn.l0 k a1 0 l0_1 (l0_1.length:Int) 0)=some r:=h
 clear h
 have H':=Aside0.mk H
 clear H
 go_enter Try.func32,Try.ntmps32
 go_wp2_with (first|((with_reducible refine gate_dst (N:=2) rfl ?_);refine bx_ (N:=2) (cs:=#[.int .i64 a0_0,.slice A0_1 l0_1.length c0_1]) (t:=26) ?_;intro gb592 hg w3 hbox hb;have BK592:=Aside0.mk (hbox);have GW592:=Aside0.mk (gw_ hg (h_HB HB.out));have GE592:=Aside0.mk (gw_ hg (h_HB HB.out));replace HB:=Aside0.mk (below_step (h_HB HB.out) hb);clear hb hbox hg;obtain ⟨hcz4_0,hcz4_1,hfz4_0,hfz4_1⟩:=bz2_ BK592.out))
 go_loopg [5,11] k (fun kq v5 v11 w'=>∃ (x5_1:Int) (x11_1:Int),v5=.int .i64 x5_1∧v11=.int .i64 x11_1∧Aside0 (impl_rankIn.l0 kq a1 x5_1 l0_1 (l0_1.length:Int) x11_1=some r)∧Aside0 (kq≤k)∧Aside0 (w'.heap[gb592]?=some (.cells #[.int .i64 a0_0,(.slice A0_1 l0_1.length c0_1)] 26 (0,0)))∧Aside0 (Below w.heap.size w w'))
 case atStart=>exact ⟨(0),(0),sT_,sT_,H',⟨Nat.le_refl _⟩,⟨bkC_ BK592.out⟩,⟨h_HB HB.out⟩⟩
 case round =>
 clear H'
 try clear p2
 try clear c3
 try clear hcz4_0
 try clear hcz4_1
 try clear hfz4_0
 try clear hfz4_1
 obtain ⟨x5_1,x11_1,rfl,rfl,HA,HK1,BK592,HB⟩:=hrel
 cases gk with
 | zero=>exact absurd HA.out (by simp [impl_rankIn.l0])
 | succ k1 =>
 have H:=HA.out
 clear HA
 simp only [impl_rankIn.l0] at H
 rcases gsn_ H with ⟨c5b0,H⟩|⟨c5b0,H⟩
 ·obtain rfl:=Option.some.inj H
  go_wp2
  go_ret
  exact ⟨eT_,h_HB HB.out⟩
 replace H:=gsm_ H;obtain ⟨c6b0,H⟩:=H
 replace H:=gsm_ H;obtain ⟨c7b0,H⟩:=H
 replace H:=bnd_ H;obtain ⟨t594,A8,H⟩:=H
 obtain ⟨ji9,hji9⟩:∃ j_:Int,(mx x5_1 t594)=j_:=⟨_,rfl⟩
 replace H:(impl_rankIn.l0 k1 a1 ji9 l0_1 (l0_1.length:Int) (wrap64 (x11_1+1)))=some r:=by first|(rw [hji9] at H;exact H)|(simp only [hji9] at H ⊢;exact H)
 (try rw [hji9] at A8)
 have hji9_:(if x5_1<t594 then t594 else x5_1)=ji9:=hji9
 have H':=Aside0.mk H
 clear H
 obtain ⟨ad593,e593,hx593_0,p593,q593⟩:=aiI_ HR0_1.out x11_1
 cases e593
 replace hx593_0:=(HB.out.cell (World.block_lt_of_cell? w _ hx593_0)).trans hx593_0
 go_wp2_with (first|((with_reducible refine gate_callee (f:=38) rfl ?_);refine goesL_ (some 19) rfl rfl Try.func38 krT_ rfl #[.int .i64 (Go.bits .and .i64 a1 (rd l0_1 x11_1))] rfl agT_ ?_;(with_reducible refine (impl_CountOf.calls (Go.bits .and .i64 a1 (rd l0_1 x11_1)) t594 _ A8.out).mono ?_);rintro e w' ⟨rfl,⟨nd,rfl⟩⟩;refine ⟨_,rfl,?_⟩))
 go_roundg k1
 case measure=>have:=HK1.out;omega
 case rel=>exact ⟨(ji9),(wrap64 (x11_1+1)),(by first|rfl|(simp;done)|(simp only [← hji9]<;>(first|rfl|simp))|(simp [*];done)),sT_,H',⟨by have:=HK1.out;omega⟩,⟨bkC_ BK592.out⟩,⟨h_HB HB.out⟩⟩
/-! ### impl_RankOf: function 7 -/
def impl_RankOf.f (k:Nat) (a0_0:Int) (l0_1:List Int) (a1:Int):Option (Int):=(impl_knows.f k a0_0 l0_1 a1).bind fun t596=>(if t596=true then ((impl_rankIn.f k a0_0 l0_1 a1).bind fun t597=>(some t597)) else (some (-1)))
set_option maxHeartbeats 8000000 in
set_option maxRecDepth 100000 in
theorem impl_RankOf.calls (k:Nat) (a0_0:Int) (A0_1:Option Addr) (c0_1:Nat) (l0_1:List Int) (a1:Int) (r:Int) (w:World) (hr0_1:Kd.C (Kd.int .i64) w A0_1 l0_1.length l0_1) (hc0_1:l0_1.length≤c0_1) (h:impl_RankOf.f k a0_0 l0_1 a1=some r) :
    Calls Try.prog 7 #[.agg #[.int .i64 a0_0,.slice A0_1 l0_1.length c0_1],.int .i64 a1] w fun e w'=>e=.returned (.int .i64 r)∧Below w.heap.size w w':=by
 have hu26:=Try.underlying26
 have HR0_1:=Aside0.mk hr0_1
 have HC0_1:=Aside0.mk hc0_1
 clear hr0_1 hc0_1
 have HB:=Aside0.mk (Below.refl w.heap.size w)
 unfold impl_RankOf.f at h
 have H:=h
 clear h
 replace H:=bnd_ H;obtain ⟨t596,A3,H⟩:=H
 by_cases c4:t596=true
 ·subst c4
  replace H:=bT_ H
  replace H:=bnd_ H;obtain ⟨t597,A5,H⟩:=H
  obtain rfl:=Option.some.inj H
  go_enter Try.func7,Try.ntmps7
  go_wp2_with (first|((with_reducible refine gate_dst (N:=2) rfl ?_);refine bx_ (N:=2) (cs:=#[.int .i64 a0_0,.slice A0_1 l0_1.length c0_1]) (t:=26) ?_;intro gb595 hg w6 hbox hb;have BK595:=Aside0.mk (hbox);have GW595:=Aside0.mk (gw_ hg (h_HB HB.out));have GE595:=Aside0.mk (gw_ hg (h_HB HB.out));replace HB:=Aside0.mk (below_step (h_HB HB.out) hb);clear hb hbox hg;obtain ⟨hcz7_0,hcz7_1,hfz7_0,hfz7_1⟩:=bz2_ BK595.out)|((with_reducible refine gate_callee (f:=31) rfl ?_);refine goesL_ (some 7) rfl rfl Try.func31 krT_ rfl #[.agg #[.int .i64 a0_0,.slice A0_1 l0_1.length c0_1],.int .i64 a1] rfl agT_ ?_;(with_reducible refine (impl_knows.calls k a0_0 _ _ l0_1 a1 true _ ?side1 ?side2 A3.out).mono ?_);(case side1=>exact cC_ HR0_1.out);(case side2=>exact HC0_1.out);rintro e w8 ⟨rfl,hb⟩;refine ⟨_,rfl,?_⟩;replace BK595:=Aside0.mk (blkB_ BK595.out hb);replace HB:=Aside0.mk (below_step (h_HB HB.out) hb);(try clear hb);obtain ⟨hcz9_0,hcz9_1,hfz9_0,hfz9_1⟩:=bz2_ BK595.out)|((with_reducible refine gate_callee (f:=32) rfl ?_);refine goesL_ (some 11) rfl rfl Try.func32 krT_ rfl #[.agg #[.int .i64 a0_0,.slice A0_1 l0_1.length c0_1],.int .i64 a1] rfl agT_ ?_;(with_reducible refine (impl_rankIn.calls k a0_0 _ _ l0_1 a1 t597 _ ?side1 ?side2 A5.out).mono ?_);(case side1=>exact cC_ HR0_1.out);(case side2=>exact HC0_1.out);rintro e w10 ⟨rfl,hb⟩;refine ⟨_,rfl,?_⟩;replace BK595:=Aside0.mk (blkB_ BK595.out hb);replace HB:=Aside0.mk (below_step (h_HB HB.out) hb);(try clear hb)))
  go_ret
  exact ⟨eT_,h_HB HB.out⟩
 ·replace c4:=Bool.eq_false_iff.mpr c4
  subst c4
  replace H:=bF_ H
  obtain rfl:=Option.some.inj H
  go_enter Try.func7,Try.ntmps7
  go_wp2_with (first|((with_reducible refine gate_dst (N:=2) rfl ?_);refine bx_ (N:=2) (cs:=#[.int .i64 a0_0,.slice A0_1 l0_1.length c0_1]) (t:=26) ?_;intro gb595 hg w11 hbox hb;have BK595:=Aside0.mk (hbox);have GW595:=Aside0.mk (gw_ hg (h_HB HB.out));have GE595:=Aside0.mk (gw_ hg (h_HB HB.out));replace HB:=Aside0.mk (below_step (h_HB HB.out) hb);clear hb hbox hg;obtain ⟨hcz12_0,hcz12_1,hfz12_0,hfz12_1⟩:=bz2_ BK595.out)|((with_reducible refine gate_callee (f:=31) rfl ?_);refine goesL_ (some 7) rfl rfl Try.func31 krT_ rfl #[.agg #[.int .i64 a0_0,.slice A0_1 l0_1.length c0_1],.int .i64 a1] rfl agT_ ?_;(with_reducible refine (impl_knows.calls k a0_0 _ _ l0_1 a1 false _ ?side1 ?side2 A3.out).mono ?_);(case side1=>exact cC_ HR0_1.out);(case side2=>exact HC0_1.out);rintro e w13 ⟨rfl,hb⟩;refine ⟨_,rfl,?_⟩;replace BK595:=Aside0.mk (blkB_ BK595.out hb);replace HB:=Aside0.mk (below_step (h_HB HB.out) hb);(try clear hb)))
  go_ret
  exact ⟨eT_,h_HB HB.out⟩
end Go.Proofs.Ytekegbacnagbcaa.P
