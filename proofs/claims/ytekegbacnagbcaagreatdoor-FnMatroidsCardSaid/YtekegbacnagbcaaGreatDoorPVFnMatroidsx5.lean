-- written by gprint (a program of this session's, round the kit's print), out of the translation and hand-written texts
import Derived.Test.YtekegbacnagbcaaGreatDoorPVFnMatroidsx0
import Derived.Test.YtekegbacnagbcaaGreatDoorPVFnMatroidsx2
import Derived.Test.YtekegbacnagbcaaGreatDoorPVFnMatroidsx4
namespace Go.Proofs.YtekegbacnagbcaaGreatDoor.P
open Go.RowKit Go.Proofs.YtekegbacnagbcaaGreatDoorW.PrintWords Go.Proofs.YtekegbacnagbcaaGreatDoorW.PrintLast Go.Proofs.YtekegbacnagbcaaGreatDoorW.PrintMore
attribute [local go_sem] max2_int min2_int max_two min_two max_three min_three max_four min_four   -- for this text's walks alone
set_option linter.unusedVariables false
set_option linter.unusedSimpArgs false
/-! ### spec_FirstFailure: function 40 -/
mutual
def spec_FirstFailure.l0:Nat→Int→Int→List Int→Option (Int × Int × Int × Bool)
 | 0,_,_,_=>none
 | k+1,x4,x192000,x192001=>if x4<(x192001.length:Int) then (spec_FirstFailure.l1 k x4 0 x192000 x192001) else (some (0,0,0,false))
def spec_FirstFailure.l1:Nat→Int→Int→Int→List Int→Option (Int × Int × Int × Bool)
 | 0,_,_,_,_=>none
 | k+1,x4,x5,x192000,x192001=>if x5<(x192001.length:Int) then (spec_FirstFailure.l2 k x4 x5 0 x192000 x192001) else (spec_FirstFailure.l0 k (wrap64 (x4+1)) x192000 x192001)
def spec_FirstFailure.l2:Nat→Int→Int→Int→Int→List Int→Option (Int × Int × Int × Bool)
 | 0,_,_,_,_,_=>none
 | k+1,x4,x5,x6,x192000,x192001=>if x6<x192000 then (if 0≤x4 then (if x4<(x192001.length:Int) then (if 0≤x5 then (if x5<(x192001.length:Int) then ((spec_l2Has.f (rd x192001 x4) x6).bind fun t196=>(if t196=true then ((spec_l2Has.f (rd x192001 x5) x6).bind fun t197=>(if t197=true then (spec_FirstFailure.l2 k x4 x5 (wrap64 (x6+1)) x192000 x192001) else ((spec_l4Exchange.f k x192000 x192001 (rd x192001 x4) (rd x192001 x5) x6).bind fun t198=>(if t198=true then (spec_FirstFailure.l2 k x4 x5 (wrap64 (x6+1)) x192000 x192001) else (some (rd x192001 x4,rd x192001 x5,x6,true)))))) else (spec_FirstFailure.l2 k x4 x5 (wrap64 (x6+1)) x192000 x192001))) else (none)) else (none)) else (none)) else (none)) else (spec_FirstFailure.l1 k x4 (wrap64 (x5+1)) x192000 x192001)
end
def spec_FirstFailure.f (k:Nat) (a0_0:Int) (l0_1:List Int):Option (Int × Int × Int × Bool):=(spec_IsFamily.f k a0_0 l0_1).bind fun t193=>(if t193=true then (spec_FirstFailure.l0 k 0 a0_0 l0_1) else (some (0,0,0,false)))
set_option maxHeartbeats 8000000 in
set_option maxRecDepth 100000 in
theorem spec_FirstFailure.calls (k:Nat) (a0_0:Int) (A0_1:Option Addr) (c0_1:Nat) (l0_1:List Int) (r1:Int) (r2:Int) (r3:Int) (r4:Bool) (w:World) (hr0_1:Kd.C (Kd.int .i64) w A0_1 l0_1.length l0_1) (hc0_1:l0_1.length≤c0_1) (h:spec_FirstFailure.f k a0_0 l0_1=some (r1,r2,r3,r4)) :
    Calls Tryz.prog 40 #[.agg #[.int .i64 a0_0,.slice A0_1 l0_1.length c0_1]] w fun e w'=>e=.returned (.tuple #[.agg #[.int .i64 r1,.int .i64 r2,.int .i64 r3],.bool r4])∧Below w.heap.size w w':=by
 have hu24:=Tryz.underlying24
 have hu49:=Tryz.underlying49
 have HR0_1:=Aside0.mk hr0_1
 have HC0_1:=Aside0.mk hc0_1
 clear hr0_1 hc0_1
 have HB:=Aside0.mk (Below.refl w.heap.size w)
 unfold spec_FirstFailure.f at h
 have H:=h
 clear h
 replace H:=bnd_ H;obtain ⟨t193,A2,H⟩:=H
 by_cases c3:t193=true
 rotate_left
 ·replace c3:=Bool.eq_false_iff.mpr c3
  subst c3
  replace H:=bF_ H
  simp only [Option.some.injEq,Prod.mk.injEq] at H
  obtain ⟨rfl,rfl,rfl,rfl⟩:=H
  go_enter Tryz.func40,Tryz.ntmps40
  go_wp2_with (first|((with_reducible refine gate_dst (N:=1) rfl ?_);refine bx_ (N:=1) (cs:=#[.int .i64 a0_0,.slice A0_1 l0_1.length c0_1]) (t:=24) ?_;intro gb191 hg w45 hbox hb;have BK191:=Aside0.mk (hbox);have GW191:=Aside0.mk (gw_ hg (h_HB HB.out));have GE191:=Aside0.mk (gw_ hg (h_HB HB.out));replace HB:=Aside0.mk (below_step (h_HB HB.out) hb);clear hb hbox hg)|((with_reducible refine gate_dst (N:=2) rfl ?_);refine bx_ (N:=2) (cs:=#[.int .i64 0,.int .i64 0,.int .i64 0]) (t:=49) ?_;intro gb192 hg w46 hbox hb;have BK192:=Aside0.mk (hbox);have GW192:=Aside0.mk (gw_ hg (h_HB HB.out));have GE192:=Aside0.mk (gw_ hg (h_HB HB.out));replace HB:=Aside0.mk (below_step (h_HB HB.out) hb);have NB191_192:=Aside0.mk (nbl_ hg (bkC_ BK191.out));have NB192_191:=Aside0.mk (nbg_ hg (bkC_ BK191.out));replace BK191:=Aside0.mk (blkB_ BK191.out hb);clear hb hbox hg;have hnb47:=NB191_192.out;have hnc47:=NB192_191.out;obtain ⟨hcz48_0,hcz48_1,hfz48_0,hfz48_1⟩:=bz2_ BK191.out)|((with_reducible refine gate_callee (f:=22) rfl ?_);refine goesL_ (some 13) rfl rfl Tryz.func22 krT_ rfl #[.int .i64 a0_0,.slice A0_1 l0_1.length c0_1] rfl agT_ ?_;(with_reducible refine (spec_IsFamily.calls k a0_0 _ _ l0_1 false _ ?side1 ?side2 A2.out).mono ?_);(case side1=>exact cC_ HR0_1.out);(case side2=>exact HC0_1.out);rintro e w' ⟨rfl,⟨nd,rfl⟩⟩;refine ⟨_,rfl,?_⟩;(try (rw [drewN_self w46];generalize hq_:World.drewN w46 _=w46;replace BK191:Aside0 (w46.heap[gb191]?=some (.cells #[.int .i64 a0_0,.slice A0_1 l0_1.length c0_1] 24 (0,0))):=⟨by rw [← hq_];exact (bkC_ BK191.out)⟩;replace BK192:Aside0 (w46.heap[gb192]?=some (.cells #[.int .i64 0,.int .i64 0,.int .i64 0] 49 (0,0))):=⟨by rw [← hq_];exact (bkC_ BK192.out)⟩;replace HB:Aside0 (Below w.heap.size w w46):=⟨by rw [← hq_];exact (h_HB HB.out)⟩;clear hq_;have hcuz49_gb191_0:w46.cell? ⟨gb191,0,none⟩=some (.int .i64 a0_0):=(blk_cell BK191.out 0).trans rfl;have hfuz49_gb191_0:=blk_frozen BK191.out 0;have hcuz49_gb191_1:w46.cell? ⟨gb191,1,none⟩=some (.slice A0_1 l0_1.length c0_1):=(blk_cell BK191.out 1).trans rfl;have hfuz49_gb191_1:=blk_frozen BK191.out 1;have hcuz49_gb192_0:w46.cell? ⟨gb192,0,none⟩=some (.int .i64 0):=(blk_cell BK192.out 0).trans rfl;have hfuz49_gb192_0:=blk_frozen BK192.out 0;have hcuz49_gb192_1:w46.cell? ⟨gb192,1,none⟩=some (.int .i64 0):=(blk_cell BK192.out 1).trans rfl;have hfuz49_gb192_1:=blk_frozen BK192.out 1;have hcuz49_gb192_2:w46.cell? ⟨gb192,2,none⟩=some (.int .i64 0):=(blk_cell BK192.out 2).trans rfl;have hfuz49_gb192_2:=blk_frozen BK192.out 2));obtain ⟨hcz50_0,hcz50_1,hcz50_2,hfz50_0,hfz50_1,hfz50_2⟩:=bz3_ BK192.out))
  refine bodyPost_ret (results_ct rfl _ _ gb192 49 #[.int .i64 0,.int .i64 0,.int .i64 0] (0,0) _ rfl (by (with_reducible repeat (first|refine blk_drewN ?_ _|refine blk_drew ?_|refine blk_alloc ?_ _));refine blk_put (cs:=#[.int .i64 0,.int .i64 0,.int .i64 0]) ?_ 2 _ rfl;(with_reducible repeat (first|refine blk_drewN ?_ _|refine blk_drew ?_|refine blk_alloc ?_ _));refine blk_put (cs:=#[.int .i64 0,.int .i64 0,.int .i64 0]) ?_ 1 _ rfl;(with_reducible repeat (first|refine blk_drewN ?_ _|refine blk_drew ?_|refine blk_alloc ?_ _));refine blk_put (cs:=#[.int .i64 0,.int .i64 0,.int .i64 0]) ?_ 0 _ rfl;exact bkC_ BK192.out) Tryz.underlying49 rfl krT_) rfl ?_
  exact ⟨eT_,h_HB HB.out⟩
 subst c3
 replace H:=bT_ H
 have H':=Aside0.mk H
 clear H
 go_enter Tryz.func40,Tryz.ntmps40
 go_wp2_with (first|((with_reducible refine gate_dst (N:=1) rfl ?_);refine bx_ (N:=1) (cs:=#[.int .i64 a0_0,.slice A0_1 l0_1.length c0_1]) (t:=24) ?_;intro gb191 hg w4 hbox hb;have BK191:=Aside0.mk (hbox);have GW191:=Aside0.mk (gw_ hg (h_HB HB.out));have GE191:=Aside0.mk (gw_ hg (h_HB HB.out));replace HB:=Aside0.mk (below_step (h_HB HB.out) hb);clear hb hbox hg)|((with_reducible refine gate_dst (N:=2) rfl ?_);refine bx_ (N:=2) (cs:=#[.int .i64 0,.int .i64 0,.int .i64 0]) (t:=49) ?_;intro gb192 hg w5 hbox hb;have BK192:=Aside0.mk (hbox);have GW192:=Aside0.mk (gw_ hg (h_HB HB.out));have GE192:=Aside0.mk (gw_ hg (h_HB HB.out));replace HB:=Aside0.mk (below_step (h_HB HB.out) hb);have NB191_192:=Aside0.mk (nbl_ hg (bkC_ BK191.out));have NB192_191:=Aside0.mk (nbg_ hg (bkC_ BK191.out));replace BK191:=Aside0.mk (blkB_ BK191.out hb);clear hb hbox hg;have hnb6:=NB191_192.out;have hnc6:=NB192_191.out;obtain ⟨hcz7_0,hcz7_1,hfz7_0,hfz7_1⟩:=bz2_ BK191.out)|((with_reducible refine gate_callee (f:=22) rfl ?_);refine goesL_ (some 13) rfl rfl Tryz.func22 krT_ rfl #[.int .i64 a0_0,.slice A0_1 l0_1.length c0_1] rfl agT_ ?_;(with_reducible refine (spec_IsFamily.calls k a0_0 _ _ l0_1 true _ ?side1 ?side2 A2.out).mono ?_);(case side1=>exact cC_ HR0_1.out);(case side2=>exact HC0_1.out);rintro e w' ⟨rfl,⟨nd,rfl⟩⟩;refine ⟨_,rfl,?_⟩))
 go_loopg [4] k (fun kq v4 w'=>∃ (x4_1:Int) (x193000_1:Int) (x193001_1:Int) (x193002_1:Int),v4=.int .i64 x4_1∧Aside0 (spec_FirstFailure.l0 kq x4_1 a0_0 l0_1=some (r1,r2,r3,r4))∧Aside0 (kq≤k)∧Aside0 (w'.heap[gb191]?=some (.cells #[.int .i64 a0_0,(.slice A0_1 l0_1.length c0_1)] 24 (0,0)))∧Aside0 (w'.heap[gb192]?=some (.cells #[.int .i64 x193000_1,.int .i64 x193001_1,.int .i64 x193002_1] 49 (0,0)))∧Aside0 (Below w.heap.size w w'))
 case atStart=>exact ⟨(0),(0),(0),(0),sT_,H',⟨Nat.le_refl _⟩,⟨bkC_ BK191.out⟩,⟨bkC_ BK192.out⟩,⟨h_HB HB.out⟩⟩
 case round =>
 clear H'
 try clear c2
 try clear p2
 try clear c3
 try clear c4
 try clear c6
 try clear hcz7_0
 try clear hcz7_1
 try clear hfz7_0
 try clear hfz7_1
 obtain ⟨x4_1,x193000_1,x193001_1,x193002_1,rfl,HA,HK1,BK191,BK192,HB⟩:=hrel
 cases gk with
 | zero=>exact absurd HA.out (by simp [spec_FirstFailure.l0])
 | succ k1 =>
 have H:=HA.out
 clear HA
 simp only [spec_FirstFailure.l0] at H
 rcases gsn_ H with ⟨c8b0,H⟩|⟨c8b0,H⟩
 ·simp only [Option.some.injEq,Prod.mk.injEq] at H
  obtain ⟨rfl,rfl,rfl,rfl⟩:=H
  have hnb42:=NB191_192.out
  have hnc42:=NB192_191.out
  obtain ⟨hcz43_0,hcz43_1,hfz43_0,hfz43_1⟩:=bz2_ BK191.out
  obtain ⟨hcz44_0,hcz44_1,hcz44_2,hfz44_0,hfz44_1,hfz44_2⟩:=bz3_ BK192.out
  go_wp2
  refine bodyPost_ret (results_ct rfl _ _ gb192 49 #[.int .i64 0,.int .i64 0,.int .i64 0] (0,0) _ rfl (by (with_reducible repeat (first|refine blk_drewN ?_ _|refine blk_drew ?_|refine blk_alloc ?_ _));refine blk_put (cs:=#[.int .i64 0,.int .i64 0,.int .i64 x193002_1]) ?_ 2 _ rfl;(with_reducible repeat (first|refine blk_drewN ?_ _|refine blk_drew ?_|refine blk_alloc ?_ _));refine blk_put (cs:=#[.int .i64 0,.int .i64 x193001_1,.int .i64 x193002_1]) ?_ 1 _ rfl;(with_reducible repeat (first|refine blk_drewN ?_ _|refine blk_drew ?_|refine blk_alloc ?_ _));refine blk_put (cs:=#[.int .i64 x193000_1,.int .i64 x193001_1,.int .i64 x193002_1]) ?_ 0 _ rfl;exact bkC_ BK192.out) Tryz.underlying49 rfl krT_) rfl ?_
  exact ⟨eT_,h_HB HB.out⟩
 have H':=Aside0.mk H
 clear H
 have hnb9:=NB191_192.out
 have hnc9:=NB192_191.out
 obtain ⟨hcz10_0,hcz10_1,hfz10_0,hfz10_1⟩:=bz2_ BK191.out
 go_wp2
 go_loopg [5] k1 (fun kq v5 w'=>∃ (x5_2:Int) (x193000_2:Int) (x193001_2:Int) (x193002_2:Int),v5=.int .i64 x5_2∧Aside0 (spec_FirstFailure.l1 kq x4_1 x5_2 a0_0 l0_1=some (r1,r2,r3,r4))∧Aside0 (kq≤k1)∧Aside0 (w'.heap[gb191]?=some (.cells #[.int .i64 a0_0,(.slice A0_1 l0_1.length c0_1)] 24 (0,0)))∧Aside0 (w'.heap[gb192]?=some (.cells #[.int .i64 x193000_2,.int .i64 x193001_2,.int .i64 x193002_2] 49 (0,0)))∧Aside0 (Below w.heap.size w w'))
 case atStart=>exact ⟨(0),(x193000_1),(x193001_1),(x193002_1),sT_,H',⟨Nat.le_refl _⟩,⟨bkC_ BK191.out⟩,⟨bkC_ BK192.out⟩,⟨h_HB HB.out⟩⟩
 case round =>
 clear H'
 try clear c2
 try clear p2
 try clear c3
 try clear c4
 try clear c6
 try clear c8
 try clear c8b0
 try clear c9
 try clear hcz10_0
 try clear hcz10_1
 try clear hcz7_0
 try clear hcz7_1
 try clear hfz10_0
 try clear hfz10_1
 try clear hfz7_0
 try clear hfz7_1
 try clear p2
 obtain ⟨x5_2,x193000_2,x193001_2,x193002_2,rfl,HA,HK2,BK191,BK192,HB⟩:=hrel
 cases gk with
 | zero=>exact absurd HA.out (by simp [spec_FirstFailure.l1])
 | succ k2 =>
 have H:=HA.out
 clear HA
 simp only [spec_FirstFailure.l1] at H
 rcases gsn_ H with ⟨c11b0,H⟩|⟨c11b0,H⟩
 ·have H':=Aside0.mk H
  clear H
  have hnb40:=NB191_192.out
  have hnc40:=NB192_191.out
  obtain ⟨hcz41_0,hcz41_1,hfz41_0,hfz41_1⟩:=bz2_ BK191.out
  go_wp2
  go_roundg k2
  case measure=>have:=HK1.out;have:=HK2.out;omega
  case rel=>exact ⟨(wrap64 (x4_1+1)),(x193000_2),(x193001_2),(x193002_2),sT_,H',⟨by have:=HK1.out;have:=HK2.out;omega⟩,⟨bkC_ BK191.out⟩,⟨bkC_ BK192.out⟩,⟨h_HB HB.out⟩⟩
 have H':=Aside0.mk H
 clear H
 have hnb12:=NB191_192.out
 have hnc12:=NB192_191.out
 obtain ⟨hcz13_0,hcz13_1,hfz13_0,hfz13_1⟩:=bz2_ BK191.out
 go_wp2
 go_loopg [6] k2 (fun kq v6 w'=>∃ (x6_3:Int) (x193000_3:Int) (x193001_3:Int) (x193002_3:Int),v6=.int .i64 x6_3∧Aside0 (spec_FirstFailure.l2 kq x4_1 x5_2 x6_3 a0_0 l0_1=some (r1,r2,r3,r4))∧Aside0 (kq≤k2)∧Aside0 (w'.heap[gb191]?=some (.cells #[.int .i64 a0_0,(.slice A0_1 l0_1.length c0_1)] 24 (0,0)))∧Aside0 (w'.heap[gb192]?=some (.cells #[.int .i64 x193000_3,.int .i64 x193001_3,.int .i64 x193002_3] 49 (0,0)))∧Aside0 (Below w.heap.size w w'))
 case atStart=>exact ⟨(0),(x193000_2),(x193001_2),(x193002_2),sT_,H',⟨Nat.le_refl _⟩,⟨bkC_ BK191.out⟩,⟨bkC_ BK192.out⟩,⟨h_HB HB.out⟩⟩
 case round =>
 clear H'
 try clear c1
 try clear c2
 try clear p2
 try clear c3
 try clear c4
 try clear c6
 try clear c8
 try clear c8b0
 try clear c9
 try clear c11
 try clear c11b0
 try clear c12
 try clear hcz10_0
 try clear hcz10_1
 try clear hcz13_0
 try clear hcz13_1
 try clear hcz7_0
 try clear hcz7_1
 try clear hfz10_0
 try clear hfz10_1
 try clear hfz13_0
 try clear hfz13_1
 try clear hfz7_0
 try clear hfz7_1
 try clear p2
 obtain ⟨x6_3,x193000_3,x193001_3,x193002_3,rfl,HA,HK3,BK191,BK192,HB⟩:=hrel
 cases gk with
 | zero=>exact absurd HA.out (by simp [spec_FirstFailure.l2])
 | succ k3 =>
 have H:=HA.out
 clear HA
 simp only [spec_FirstFailure.l2] at H
 rcases gsn_ H with ⟨c14b0,H⟩|⟨c14b0,H⟩
 ·have H':=Aside0.mk H
  clear H
  have hnb38:=NB191_192.out
  have hnc38:=NB192_191.out
  obtain ⟨hcz39_0,hcz39_1,hfz39_0,hfz39_1⟩:=bz2_ BK191.out
  go_wp2
  go_roundg k3
  case measure=>have:=HK1.out;have:=HK2.out;have:=HK3.out;omega
  case rel=>exact ⟨(wrap64 (x5_2+1)),(x193000_3),(x193001_3),(x193002_3),sT_,H',⟨by have:=HK1.out;have:=HK2.out;have:=HK3.out;omega⟩,⟨bkC_ BK191.out⟩,⟨bkC_ BK192.out⟩,⟨h_HB HB.out⟩⟩
 replace H:=gsm_ H;obtain ⟨c15b0,H⟩:=H
 replace H:=gsm_ H;obtain ⟨c16b0,H⟩:=H
 replace H:=gsm_ H;obtain ⟨c17b0,H⟩:=H
 replace H:=gsm_ H;obtain ⟨c18b0,H⟩:=H
 replace H:=bnd_ H;obtain ⟨t196,A19,H⟩:=H
 by_cases c20:t196=true
 rotate_left
 ·replace c20:=Bool.eq_false_iff.mpr c20
  subst c20
  replace H:=bF_ H
  have H':=Aside0.mk H
  clear H
  have hnb36:=NB191_192.out
  have hnc36:=NB192_191.out
  obtain ⟨hcz37_0,hcz37_1,hfz37_0,hfz37_1⟩:=bz2_ BK191.out
  obtain ⟨ad194,e194,hx194_0,p194,q194⟩:=aiI_ HR0_1.out x4_1
  cases e194
  replace hx194_0:=(HB.out.cell (World.block_lt_of_cell? w _ hx194_0)).trans hx194_0
  obtain ⟨ad195,e195,hx195_0,p195,q195⟩:=aiI_ HR0_1.out x5_2
  obtain rfl:ad194=ad195:=(by injection e195)
  replace hx195_0:=(HB.out.cell (World.block_lt_of_cell? w _ hx195_0)).trans hx195_0
  go_wp2_with (first|((with_reducible refine gate_callee (f:=100) rfl ?_);refine goesL_ (some 48) rfl rfl Tryz.func100 krT_ rfl #[.int .i64 (rd l0_1 x4_1),.int .i64 x6_3] rfl agT_ ?_;(with_reducible refine (spec_l2Has.calls (rd l0_1 x4_1) x6_3 false _ A19.out).mono ?_);rintro e w' ⟨rfl,⟨nd,rfl⟩⟩;refine ⟨_,rfl,?_⟩))
  go_roundg k3
  case measure=>have:=HK1.out;have:=HK2.out;have:=HK3.out;omega
  case rel=>exact ⟨(wrap64 (x6_3+1)),(x193000_3),(x193001_3),(x193002_3),sT_,H',⟨by have:=HK1.out;have:=HK2.out;have:=HK3.out;omega⟩,⟨bkC_ BK191.out⟩,⟨bkC_ BK192.out⟩,⟨h_HB HB.out⟩⟩
 subst c20
 replace H:=bT_ H
 replace H:=bnd_ H;obtain ⟨t197,A21,H⟩:=H
 by_cases c22:t197=true
 ·subst c22
  replace H:=bT_ H
  have H':=Aside0.mk H
  clear H
  have hnb23:=NB191_192.out
  have hnc23:=NB192_191.out
  obtain ⟨hcz24_0,hcz24_1,hfz24_0,hfz24_1⟩:=bz2_ BK191.out
  obtain ⟨ad194,e194,hx194_0,p194,q194⟩:=aiI_ HR0_1.out x4_1
  cases e194
  replace hx194_0:=(HB.out.cell (World.block_lt_of_cell? w _ hx194_0)).trans hx194_0
  obtain ⟨ad195,e195,hx195_0,p195,q195⟩:=aiI_ HR0_1.out x5_2
  obtain rfl:ad194=ad195:=(by injection e195)
  replace hx195_0:=(HB.out.cell (World.block_lt_of_cell? w _ hx195_0)).trans hx195_0
  go_wp2_with (first|((with_reducible refine gate_callee (f:=100) rfl ?_);refine goesL_ (some 48) rfl rfl Tryz.func100 krT_ rfl #[.int .i64 (rd l0_1 x4_1),.int .i64 x6_3] rfl agT_ ?_;(with_reducible refine (spec_l2Has.calls (rd l0_1 x4_1) x6_3 true _ A19.out).mono ?_);rintro e w' ⟨rfl,⟨nd,rfl⟩⟩;refine ⟨_,rfl,?_⟩)|(go_at_call 100;(with_reducible refine (spec_l2Has.calls (rd l0_1 x5_2) x6_3 true _ A21.out).mono ?_);rintro e w' ⟨rfl,⟨nd,rfl⟩⟩))
  go_roundg k3
  case measure=>have:=HK1.out;have:=HK2.out;have:=HK3.out;omega
  case rel=>exact ⟨(wrap64 (x6_3+1)),(x193000_3),(x193001_3),(x193002_3),sT_,H',⟨by have:=HK1.out;have:=HK2.out;have:=HK3.out;omega⟩,⟨bkC_ BK191.out⟩,⟨bkC_ BK192.out⟩,⟨h_HB HB.out⟩⟩
 replace c22:=Bool.eq_false_iff.mpr c22
 subst c22
 replace H:=bF_ H
 replace H:=bnd_ H;obtain ⟨t198,A25,H⟩:=H
 by_cases c26:t198=true
 ·subst c26
  replace H:=bT_ H
  have H':=Aside0.mk H
  clear H
  have hnb27:=NB191_192.out
  have hnc27:=NB192_191.out
  obtain ⟨hcz28_0,hcz28_1,hfz28_0,hfz28_1⟩:=bz2_ BK191.out
  obtain ⟨ad194,e194,hx194_0,p194,q194⟩:=aiI_ HR0_1.out x4_1
  cases e194
  replace hx194_0:=(HB.out.cell (World.block_lt_of_cell? w _ hx194_0)).trans hx194_0
  obtain ⟨ad195,e195,hx195_0,p195,q195⟩:=aiI_ HR0_1.out x5_2
  obtain rfl:ad194=ad195:=(by injection e195)
  replace hx195_0:=(HB.out.cell (World.block_lt_of_cell? w _ hx195_0)).trans hx195_0
  go_wp2_with (first|((with_reducible refine gate_callee (f:=100) rfl ?_);refine goesL_ (some 48) rfl rfl Tryz.func100 krT_ rfl #[.int .i64 (rd l0_1 x4_1),.int .i64 x6_3] rfl agT_ ?_;(with_reducible refine (spec_l2Has.calls (rd l0_1 x4_1) x6_3 true _ A19.out).mono ?_);rintro e w' ⟨rfl,⟨nd,rfl⟩⟩;refine ⟨_,rfl,?_⟩)|(go_at_call 100;(with_reducible refine (spec_l2Has.calls (rd l0_1 x5_2) x6_3 false _ A21.out).mono ?_);rintro e w' ⟨rfl,⟨nd,rfl⟩⟩)|(go_at_call 101;(with_reducible refine (spec_l4Exchange.calls k3 a0_0 _ _ l0_1 (rd l0_1 x4_1) (rd l0_1 x5_2) x6_3 true _ ?side1 ?side2 A25.out).mono ?_);(case side1=>repeat (first|exact (Kd.C_below HR0_1.out (h_HB HB.out))|(with_reducible refine Kd.C_alloc ?_ _)|(with_reducible refine Kd.C_drewN ?_ _)|(with_reducible refine Kd.C_drew ?_)));(case side2=>exact HC0_1.out);rintro e w29 ⟨rfl,hb⟩;replace BK191:=Aside0.mk (blkB_ BK191.out hb);replace BK192:=Aside0.mk (blkB_ BK192.out hb);replace HB:=Aside0.mk (below_step (h_HB HB.out) hb);(try clear hb)))
  go_roundg k3
  case measure=>have:=HK1.out;have:=HK2.out;have:=HK3.out;omega
  case rel=>exact ⟨(wrap64 (x6_3+1)),(x193000_3),(x193001_3),(x193002_3),sT_,H',⟨by have:=HK1.out;have:=HK2.out;have:=HK3.out;omega⟩,⟨bkC_ BK191.out⟩,⟨bkC_ BK192.out⟩,⟨h_HB HB.out⟩⟩
 replace c26:=Bool.eq_false_iff.mpr c26
 subst c26
 replace H:=bF_ H
 simp only [Option.some.injEq,Prod.mk.injEq] at H
 obtain ⟨rfl,rfl,rfl,rfl⟩:=H
 have hnb30:=NB191_192.out
 have hnc30:=NB192_191.out
 obtain ⟨hcz31_0,hcz31_1,hfz31_0,hfz31_1⟩:=bz2_ BK191.out
 obtain ⟨ad194,e194,hx194_0,p194,q194⟩:=aiI_ HR0_1.out x4_1
 cases e194
 replace hx194_0:=(HB.out.cell (World.block_lt_of_cell? w _ hx194_0)).trans hx194_0
 obtain ⟨ad195,e195,hx195_0,p195,q195⟩:=aiI_ HR0_1.out x5_2
 obtain rfl:ad194=ad195:=(by injection e195)
 replace hx195_0:=(HB.out.cell (World.block_lt_of_cell? w _ hx195_0)).trans hx195_0
 go_wp2_with (first|((with_reducible refine gate_callee (f:=100) rfl ?_);refine goesL_ (some 48) rfl rfl Tryz.func100 krT_ rfl #[.int .i64 (rd l0_1 x4_1),.int .i64 x6_3] rfl agT_ ?_;(with_reducible refine (spec_l2Has.calls (rd l0_1 x4_1) x6_3 true _ A19.out).mono ?_);rintro e w' ⟨rfl,⟨nd,rfl⟩⟩;refine ⟨_,rfl,?_⟩;(try (rw [drewN_self wr];generalize hq_:World.drewN wr _=wr;replace BK191:Aside0 (wr.heap[gb191]?=some (.cells #[.int .i64 a0_0,.slice (some ad194) l0_1.length c0_1] 24 (0,0))):=⟨by rw [← hq_];exact (bkC_ BK191.out)⟩;replace BK192:Aside0 (wr.heap[gb192]?=some (.cells #[.int .i64 x193000_3,.int .i64 x193001_3,.int .i64 x193002_3] 49 (0,0))):=⟨by rw [← hq_];exact (bkC_ BK192.out)⟩;replace HB:Aside0 (Below w.heap.size w wr):=⟨by rw [← hq_];exact (h_HB HB.out)⟩;clear hq_;have hcuz32_gb191_0:wr.cell? ⟨gb191,0,none⟩=some (.int .i64 a0_0):=(blk_cell BK191.out 0).trans rfl;have hfuz32_gb191_0:=blk_frozen BK191.out 0;have hcuz32_gb191_1:wr.cell? ⟨gb191,1,none⟩=some (.slice (some ad194) l0_1.length c0_1):=(blk_cell BK191.out 1).trans rfl;have hfuz32_gb191_1:=blk_frozen BK191.out 1;have hcuz32_gb192_0:wr.cell? ⟨gb192,0,none⟩=some (.int .i64 x193000_3):=(blk_cell BK192.out 0).trans rfl;have hfuz32_gb192_0:=blk_frozen BK192.out 0;have hcuz32_gb192_1:wr.cell? ⟨gb192,1,none⟩=some (.int .i64 x193001_3):=(blk_cell BK192.out 1).trans rfl;have hfuz32_gb192_1:=blk_frozen BK192.out 1;have hcuz32_gb192_2:wr.cell? ⟨gb192,2,none⟩=some (.int .i64 x193002_3):=(blk_cell BK192.out 2).trans rfl;have hfuz32_gb192_2:=blk_frozen BK192.out 2)))|(go_at_call 100;(with_reducible refine (spec_l2Has.calls (rd l0_1 x5_2) x6_3 false _ A21.out).mono ?_);rintro e w' ⟨rfl,⟨nd,rfl⟩⟩;(try (rw [drewN_self wr];generalize hq_:World.drewN wr _=wr;replace BK191:Aside0 (wr.heap[gb191]?=some (.cells #[.int .i64 a0_0,.slice (some ad194) l0_1.length c0_1] 24 (0,0))):=⟨by rw [← hq_];exact (bkC_ BK191.out)⟩;replace BK192:Aside0 (wr.heap[gb192]?=some (.cells #[.int .i64 x193000_3,.int .i64 x193001_3,.int .i64 x193002_3] 49 (0,0))):=⟨by rw [← hq_];exact (bkC_ BK192.out)⟩;replace HB:Aside0 (Below w.heap.size w wr):=⟨by rw [← hq_];exact (h_HB HB.out)⟩;clear hq_;have hcuz33_gb191_0:wr.cell? ⟨gb191,0,none⟩=some (.int .i64 a0_0):=(blk_cell BK191.out 0).trans rfl;have hfuz33_gb191_0:=blk_frozen BK191.out 0;have hcuz33_gb191_1:wr.cell? ⟨gb191,1,none⟩=some (.slice (some ad194) l0_1.length c0_1):=(blk_cell BK191.out 1).trans rfl;have hfuz33_gb191_1:=blk_frozen BK191.out 1;have hcuz33_gb192_0:wr.cell? ⟨gb192,0,none⟩=some (.int .i64 x193000_3):=(blk_cell BK192.out 0).trans rfl;have hfuz33_gb192_0:=blk_frozen BK192.out 0;have hcuz33_gb192_1:wr.cell? ⟨gb192,1,none⟩=some (.int .i64 x193001_3):=(blk_cell BK192.out 1).trans rfl;have hfuz33_gb192_1:=blk_frozen BK192.out 1;have hcuz33_gb192_2:wr.cell? ⟨gb192,2,none⟩=some (.int .i64 x193002_3):=(blk_cell BK192.out 2).trans rfl;have hfuz33_gb192_2:=blk_frozen BK192.out 2)))|(go_at_call 101;(with_reducible refine (spec_l4Exchange.calls k3 a0_0 _ _ l0_1 (rd l0_1 x4_1) (rd l0_1 x5_2) x6_3 false _ ?side1 ?side2 A25.out).mono ?_);(case side1=>exact cC_ HR0_1.out);(case side2=>exact HC0_1.out);rintro e w34 ⟨rfl,hb⟩;replace BK191:=Aside0.mk (blkB_ BK191.out hb);replace BK192:=Aside0.mk (blkB_ BK192.out hb);replace HB:=Aside0.mk (below_step (h_HB HB.out) hb);(try clear hb);obtain ⟨hcz35_0,hcz35_1,hcz35_2,hfz35_0,hfz35_1,hfz35_2⟩:=bz3_ BK192.out))
 refine bodyPost_ret (results_ct rfl _ _ gb192 49 #[.int .i64 (rd l0_1 x4_1),.int .i64 (rd l0_1 x5_2),.int .i64 x6_3] (0,0) _ rfl (by (with_reducible repeat (first|refine blk_drewN ?_ _|refine blk_drew ?_|refine blk_alloc ?_ _));refine blk_put (cs:=#[.int .i64 (rd l0_1 x4_1),.int .i64 (rd l0_1 x5_2),.int .i64 x193002_3]) ?_ 2 _ rfl;(with_reducible repeat (first|refine blk_drewN ?_ _|refine blk_drew ?_|refine blk_alloc ?_ _));refine blk_put (cs:=#[.int .i64 (rd l0_1 x4_1),.int .i64 x193001_3,.int .i64 x193002_3]) ?_ 1 _ rfl;(with_reducible repeat (first|refine blk_drewN ?_ _|refine blk_drew ?_|refine blk_alloc ?_ _));refine blk_put (cs:=#[.int .i64 x193000_3,.int .i64 x193001_3,.int .i64 x193002_3]) ?_ 0 _ rfl;exact bkC_ BK192.out) Tryz.underlying49 rfl krT_) rfl ?_
 exact ⟨eT_,h_HB HB.out⟩
/-! ### spec_IsMatroid: function 45 -/
def spec_IsMatroid.f (k:Nat) (a0_0:Int) (l0_1:List Int):Option (Bool):=(spec_FirstFailure.f k a0_0 l0_1).bind fun bt200=>((spec_IsFamily.f k a0_0 l0_1).bind fun t205=>(if t205=true then (if (l0_1.length:Int)>0 then (some (!bt200.2.2.2)) else (some false)) else (some false)))
set_option maxHeartbeats 8000000 in
set_option maxRecDepth 100000 in
theorem spec_IsMatroid.calls (k:Nat) (a0_0:Int) (A0_1:Option Addr) (c0_1:Nat) (l0_1:List Int) (r:Bool) (w:World) (hr0_1:Kd.C (Kd.int .i64) w A0_1 l0_1.length l0_1) (hc0_1:l0_1.length≤c0_1) (h:spec_IsMatroid.f k a0_0 l0_1=some r) :
    Calls Tryz.prog 45 #[.agg #[.int .i64 a0_0,.slice A0_1 l0_1.length c0_1]] w fun e w'=>e=.returned (.bool r)∧Below w.heap.size w w':=by
 have hu24:=Tryz.underlying24
 have hu49:=Tryz.underlying49
 have HR0_1:=Aside0.mk hr0_1
 have HC0_1:=Aside0.mk hc0_1
 clear hr0_1 hc0_1
 have HB:=Aside0.mk (Below.refl w.heap.size w)
 unfold spec_IsMatroid.f at h
 have H:=h
 clear h
 replace H:=bnd_ H;obtain ⟨⟨t200,t201,t202,t203⟩,A2,H⟩:=H;dsimp only at H
 replace H:=bnd_ H;obtain ⟨t205,A3,H⟩:=H
 by_cases c4:t205=true
 ·subst c4
  replace H:=bT_ H
  by_cases c5:(l0_1.length:Int)>0
  ·rw [if_pos c5] at H
   have c5b0:decide (0<(l0_1.length:Int))=true:=decide_eq_true c5
   have c5b1:decide (0<l0_1.length)=true:=decide_eq_true (by omega)
   clear c5
   obtain rfl:=Option.some.inj H
   go_enter Tryz.func45,Tryz.ntmps45
   go_wp2_with (first|((with_reducible refine gate_dst (N:=1) rfl ?_);(try (refine gate_guard (by rfl) ?_;dsimp only));refine bx_ (N:=1) (cs:=#[.int .i64 a0_0,.slice A0_1 l0_1.length c0_1]) (t:=24) ?_;intro gb199 hg w6 hbox hb;have BK199:=Aside0.mk (hbox);have GW199:=Aside0.mk (gw_ hg (h_HB HB.out));have GE199:=Aside0.mk (gw_ hg (h_HB HB.out));replace HB:=Aside0.mk (below_step (h_HB HB.out) hb);clear hb hbox hg;obtain ⟨hcz7_0,hcz7_1,hfz7_0,hfz7_1⟩:=bz2_ BK199.out)|((with_reducible refine gate_callee (f:=40) rfl ?_);refine goesL_ (some 7) rfl rfl Tryz.func40 krT_ rfl #[.agg #[.int .i64 a0_0,.slice A0_1 l0_1.length c0_1]] rfl agT_ ?_;(with_reducible refine (spec_FirstFailure.calls k a0_0 _ _ l0_1 t200 t201 t202 t203 _ ?side1 ?side2 A2.out).mono ?_);(case side1=>exact cC_ HR0_1.out);(case side2=>exact HC0_1.out);rintro e w8 ⟨rfl,hb⟩;refine ⟨_,rfl,?_⟩;replace BK199:=Aside0.mk (blkB_ BK199.out hb);replace HB:=Aside0.mk (below_step (h_HB HB.out) hb);(try clear hb))|((with_reducible refine gate_dst (N:=3) rfl ?_);(try (refine gate_guard (by rfl) ?_;dsimp only));refine bx_ (N:=3) (cs:=#[.int .i64 0,.int .i64 0,.int .i64 0]) (t:=49) ?_;intro gb204 hg w9 hbox hb;have BK204:=Aside0.mk (hbox);have GW204:=Aside0.mk (gw_ hg (h_HB HB.out));have GE204:=Aside0.mk (gw_ hg (h_HB HB.out));replace HB:=Aside0.mk (below_step (h_HB HB.out) hb);have NB199_204:=Aside0.mk (nbl_ hg (bkC_ BK199.out));have NB204_199:=Aside0.mk (nbg_ hg (bkC_ BK199.out));replace BK199:=Aside0.mk (blkB_ BK199.out hb);clear hb hbox hg;have hnb10:=NB204_199.out;have hnc10:=NB199_204.out;obtain ⟨hcz11_0,hcz11_1,hcz11_2,hfz11_0,hfz11_1,hfz11_2⟩:=bz3_ BK204.out;obtain ⟨hcz12_0,hcz12_1,hfz12_0,hfz12_1⟩:=bz2_ BK199.out)|((with_reducible refine gate_callee (f:=22) rfl ?_);refine goesL_ (some 14) rfl rfl Tryz.func22 krT_ rfl #[.int .i64 a0_0,.slice A0_1 l0_1.length c0_1] rfl agT_ ?_;(with_reducible refine (spec_IsFamily.calls k a0_0 _ _ l0_1 true _ ?side1 ?side2 A3.out).mono ?_);(case side1=>exact Kd.C_below HR0_1.out (h_HB HB.out));(case side2=>exact HC0_1.out);rintro e w' ⟨rfl,⟨nd,rfl⟩⟩;refine ⟨_,rfl,?_⟩))
   go_ret
   exact ⟨eT_,h_HB HB.out⟩
  rw [if_neg c5] at H
  have c5b0:decide (0<(l0_1.length:Int))=false:=decide_eq_false c5
  have c5b1:decide (0<l0_1.length)=false:=decide_eq_false (by omega)
  clear c5
  obtain rfl:=Option.some.inj H
  go_enter Tryz.func45,Tryz.ntmps45
  go_wp2_with (first|((with_reducible refine gate_dst (N:=1) rfl ?_);(try (refine gate_guard (by rfl) ?_;dsimp only));refine bx_ (N:=1) (cs:=#[.int .i64 a0_0,.slice A0_1 l0_1.length c0_1]) (t:=24) ?_;intro gb199 hg w13 hbox hb;have BK199:=Aside0.mk (hbox);have GW199:=Aside0.mk (gw_ hg (h_HB HB.out));have GE199:=Aside0.mk (gw_ hg (h_HB HB.out));replace HB:=Aside0.mk (below_step (h_HB HB.out) hb);clear hb hbox hg;obtain ⟨hcz14_0,hcz14_1,hfz14_0,hfz14_1⟩:=bz2_ BK199.out)|((with_reducible refine gate_callee (f:=40) rfl ?_);refine goesL_ (some 7) rfl rfl Tryz.func40 krT_ rfl #[.agg #[.int .i64 a0_0,.slice A0_1 l0_1.length c0_1]] rfl agT_ ?_;(with_reducible refine (spec_FirstFailure.calls k a0_0 _ _ l0_1 t200 t201 t202 t203 _ ?side1 ?side2 A2.out).mono ?_);(case side1=>exact cC_ HR0_1.out);(case side2=>exact HC0_1.out);rintro e w15 ⟨rfl,hb⟩;refine ⟨_,rfl,?_⟩;replace BK199:=Aside0.mk (blkB_ BK199.out hb);replace HB:=Aside0.mk (below_step (h_HB HB.out) hb);(try clear hb))|((with_reducible refine gate_dst (N:=3) rfl ?_);(try (refine gate_guard (by rfl) ?_;dsimp only));refine bx_ (N:=3) (cs:=#[.int .i64 0,.int .i64 0,.int .i64 0]) (t:=49) ?_;intro gb204 hg w16 hbox hb;have BK204:=Aside0.mk (hbox);have GW204:=Aside0.mk (gw_ hg (h_HB HB.out));have GE204:=Aside0.mk (gw_ hg (h_HB HB.out));replace HB:=Aside0.mk (below_step (h_HB HB.out) hb);have NB199_204:=Aside0.mk (nbl_ hg (bkC_ BK199.out));have NB204_199:=Aside0.mk (nbg_ hg (bkC_ BK199.out));replace BK199:=Aside0.mk (blkB_ BK199.out hb);clear hb hbox hg;have hnb17:=NB204_199.out;have hnc17:=NB199_204.out;obtain ⟨hcz18_0,hcz18_1,hcz18_2,hfz18_0,hfz18_1,hfz18_2⟩:=bz3_ BK204.out;obtain ⟨hcz19_0,hcz19_1,hfz19_0,hfz19_1⟩:=bz2_ BK199.out)|((with_reducible refine gate_callee (f:=22) rfl ?_);refine goesL_ (some 14) rfl rfl Tryz.func22 krT_ rfl #[.int .i64 a0_0,.slice A0_1 l0_1.length c0_1] rfl agT_ ?_;(with_reducible refine (spec_IsFamily.calls k a0_0 _ _ l0_1 true _ ?side1 ?side2 A3.out).mono ?_);(case side1=>exact Kd.C_below HR0_1.out (h_HB HB.out));(case side2=>exact HC0_1.out);rintro e w' ⟨rfl,⟨nd,rfl⟩⟩;refine ⟨_,rfl,?_⟩))
  go_ret
  exact ⟨eT_,h_HB HB.out⟩
 ·replace c4:=Bool.eq_false_iff.mpr c4
  subst c4
  replace H:=bF_ H
  obtain rfl:=Option.some.inj H
  go_enter Tryz.func45,Tryz.ntmps45
  go_wp2_with (first|((with_reducible refine gate_dst (N:=1) rfl ?_);(try (refine gate_guard (by rfl) ?_;dsimp only));refine bx_ (N:=1) (cs:=#[.int .i64 a0_0,.slice A0_1 l0_1.length c0_1]) (t:=24) ?_;intro gb199 hg w20 hbox hb;have BK199:=Aside0.mk (hbox);have GW199:=Aside0.mk (gw_ hg (h_HB HB.out));have GE199:=Aside0.mk (gw_ hg (h_HB HB.out));replace HB:=Aside0.mk (below_step (h_HB HB.out) hb);clear hb hbox hg;obtain ⟨hcz21_0,hcz21_1,hfz21_0,hfz21_1⟩:=bz2_ BK199.out)|((with_reducible refine gate_callee (f:=40) rfl ?_);refine goesL_ (some 7) rfl rfl Tryz.func40 krT_ rfl #[.agg #[.int .i64 a0_0,.slice A0_1 l0_1.length c0_1]] rfl agT_ ?_;(with_reducible refine (spec_FirstFailure.calls k a0_0 _ _ l0_1 t200 t201 t202 t203 _ ?side1 ?side2 A2.out).mono ?_);(case side1=>exact cC_ HR0_1.out);(case side2=>exact HC0_1.out);rintro e w22 ⟨rfl,hb⟩;refine ⟨_,rfl,?_⟩;replace BK199:=Aside0.mk (blkB_ BK199.out hb);replace HB:=Aside0.mk (below_step (h_HB HB.out) hb);(try clear hb))|((with_reducible refine gate_dst (N:=3) rfl ?_);(try (refine gate_guard (by rfl) ?_;dsimp only));refine bx_ (N:=3) (cs:=#[.int .i64 0,.int .i64 0,.int .i64 0]) (t:=49) ?_;intro gb204 hg w23 hbox hb;have BK204:=Aside0.mk (hbox);have GW204:=Aside0.mk (gw_ hg (h_HB HB.out));have GE204:=Aside0.mk (gw_ hg (h_HB HB.out));replace HB:=Aside0.mk (below_step (h_HB HB.out) hb);have NB199_204:=Aside0.mk (nbl_ hg (bkC_ BK199.out));have NB204_199:=Aside0.mk (nbg_ hg (bkC_ BK199.out));replace BK199:=Aside0.mk (blkB_ BK199.out hb);clear hb hbox hg;have hnb24:=NB204_199.out;have hnc24:=NB199_204.out;obtain ⟨hcz25_0,hcz25_1,hcz25_2,hfz25_0,hfz25_1,hfz25_2⟩:=bz3_ BK204.out;obtain ⟨hcz26_0,hcz26_1,hfz26_0,hfz26_1⟩:=bz2_ BK199.out)|((with_reducible refine gate_callee (f:=22) rfl ?_);refine goesL_ (some 14) rfl rfl Tryz.func22 krT_ rfl #[.int .i64 a0_0,.slice A0_1 l0_1.length c0_1] rfl agT_ ?_;(with_reducible refine (spec_IsFamily.calls k a0_0 _ _ l0_1 false _ ?side1 ?side2 A3.out).mono ?_);(case side1=>exact Kd.C_below HR0_1.out (h_HB HB.out));(case side2=>exact HC0_1.out);rintro e w' ⟨rfl,⟨nd,rfl⟩⟩;refine ⟨_,rfl,?_⟩))
  go_ret
  exact ⟨eT_,h_HB HB.out⟩
/-! ### spec_FormatInt: function 109 -/
def spec_FormatInt.l0:Nat→Int→Bool→ByteArray→Option (ByteArray)
 | 0,_,_,_=>none
 | k+1,x0,x3,x4=>if x0=0 then (if x3=true then (if 1+x4.size≤9223372036854775807 then (some ((⟨#[45]⟩:ByteArray)++x4)) else (none)) else (some x4)) else (if (Int.tmod x0 10)<0 then ((some (([(wrap64 (48+(wrap64 (-(Int.tmod x0 10))))) % 256]:List Int):List Int)).bind fun y206=>(if (strOfNums y206).size+x4.size≤9223372036854775807 then (spec_FormatInt.l0 k (wrap64 (Int.tdiv x0 10)) x3 ((strOfNums y206)++x4)) else (none))) else ((some (([(wrap64 (48+(Int.tmod x0 10))) % 256]:List Int):List Int)).bind fun y209=>(if (strOfNums y209).size+x4.size≤9223372036854775807 then (spec_FormatInt.l0 k (wrap64 (Int.tdiv x0 10)) x3 ((strOfNums y209)++x4)) else (none))))
def spec_FormatInt.f (k:Nat) (a0:Int):Option (ByteArray):=if a0=0 then (some (⟨#[48]⟩:ByteArray)) else (spec_FormatInt.l0 k a0 (decide (a0<0)) (⟨#[]⟩:ByteArray))
set_option maxHeartbeats 8000000 in
set_option maxRecDepth 100000 in
theorem spec_FormatInt.calls (k:Nat) (a0:Int) (r:ByteArray) (w:World) (h:spec_FormatInt.f k a0=some r) :
    Calls Tryz.prog 109 #[.int .i64 a0] w fun e w'=>e=.returned (.string r)∧Below w.heap.size w w':=by
 have HB:=Aside0.mk (Below.refl w.heap.size w)
 have H:(if a0=0 then (some (⟨#[48]⟩:ByteArray)) else (spec_FormatInt.l0 k a0 (decide (a0<0)) (⟨#[]⟩:ByteArray)))=some r:=h
 clear h
 by_cases c2:a0=0
 ·rw [if_pos c2] at H
  have c2b0:(a0==0)=true:=beq_iff_eq.mpr c2
  have c2b1:(a0 != 0)=false:=bne_eq_false_iff_eq.mpr c2
  clear c2
  obtain rfl:=Option.some.inj H
  go_enter Tryz.func109,Tryz.ntmps109
  go_wp2
  go_ret
  exact ⟨eT_,h_HB HB.out⟩
 rw [if_neg c2] at H
 have c2b0:(a0==0)=false:=beq_eq_false_iff_ne.mpr c2
 have c2b1:(a0 != 0)=true:=bne_iff_ne.mpr c2
 have H':=Aside0.mk H
 clear H
 go_enter Tryz.func109,Tryz.ntmps109
 go_wp2
 go_loopg [0,4] k (fun kq v0 v4 w'=>∃ (x0_1:Int) (x4_1:ByteArray),v0=.int .i64 x0_1∧v4=.string x4_1∧Aside0 (spec_FormatInt.l0 kq x0_1 (decide (a0<0)) x4_1=some r)∧Aside0 (kq≤k)∧Aside0 (Below w.heap.size w w'))
 case atStart=>exact ⟨(a0),((⟨#[]⟩:ByteArray)),sT_,sT_,H',⟨Nat.le_refl _⟩,⟨h_HB HB.out⟩⟩
 case round =>
 clear H'
 try clear c1
 try clear c2
 try clear c2b0
 try clear c2b1
 try clear p2
 obtain ⟨x0_1,x4_1,rfl,rfl,HA,HK1,HB⟩:=hrel
 cases gk with
 | zero=>exact absurd HA.out (by simp [spec_FormatInt.l0])
 | succ k1 =>
 have H:=HA.out
 clear HA
 simp only [spec_FormatInt.l0] at H
 by_cases c3:x0_1=0
 ·rw [if_pos c3] at H
  have c3b0:(x0_1==0)=true:=beq_iff_eq.mpr c3
  have c3b1:(x0_1 != 0)=false:=bne_eq_false_iff_eq.mpr c3
  clear c3
  by_cases c4:(decide (a0<0))=true
  ·rw [if_pos c4] at H
   have c4b0:(decide (a0<0))=true:=c4
   have c4n:a0<0:=of_decide_eq_true c4b0
   clear c4
   by_cases c5:1+x4_1.size≤9223372036854775807
   ·rw [if_pos c5] at H
    have c5b0:=eq_true c5
    have c5b1:decide (1+x4_1.size≤9223372036854775807)=true:=decide_eq_true c5
    try have c5b2:(9223372036854775807<1+x4_1.size)=False:=eq_false (Nat.not_lt.2 c5)
    obtain rfl:=Option.some.inj H
    (go_wp2)<;>try (exfalso;omega)
    go_ret
    exact ⟨eT_,h_HB HB.out⟩
   ·rw [if_neg c5] at H
    exact absurd H (by simp)
  ·rw [if_neg c4] at H
   have c4b0:(decide (a0<0))=false:=by simpa using c4
   have c4n:¬ (a0<0):=of_decide_eq_false c4b0
   clear c4
   obtain rfl:=Option.some.inj H
   (go_wp2)<;>try (exfalso;omega)
   go_ret
   exact ⟨eT_,h_HB HB.out⟩
 rw [if_neg c3] at H
 have c3b0:(x0_1==0)=false:=beq_eq_false_iff_ne.mpr c3
 have c3b1:(x0_1 != 0)=true:=bne_iff_ne.mpr c3
 rcases gsb_ H with ⟨c6b0,H⟩|⟨c6b0,H⟩
 ·replace H:=sy_ H;obtain ⟨y206,Ny206,H⟩:=H
  by_cases c7:(strOfNums y206).size+x4_1.size≤9223372036854775807
  ·rw [if_pos c7] at H
   have c7b0:=eq_true c7
   have c7b1:decide ((strOfNums y206).size+x4_1.size≤9223372036854775807)=true:=decide_eq_true c7
   try have c7b2:(9223372036854775807<(strOfNums y206).size+x4_1.size)=False:=eq_false (Nat.not_lt.2 c7)
   have H':=Aside0.mk H
   clear H
   go_wp2_with (first|((with_reducible refine gate_dst (N:=21) rfl ?_);refine Kd.R_lit (Kd.int .u8) _ 5 ?hg (N:=21) ?hd (xs:=([(wrap64 (48+(wrap64 (-(Int.tmod x0_1 10))))) % 256]:List Int)) (inner:=[.int .u8 ((wrap64 (48+(wrap64 (-(Int.tmod x0_1 10))))) % 256)]) (ok:=fun _=>True) (okp:=fun _=>True) ?hr ?hp (fun _ hk=>hk) trivial (Below.refl _ _) (Nat.le_refl _) (by simp) ?_;(case hd=>rfl);(case hg=>rfl);(case hr=>exact hrT_);(case hp=>exact (Reps.one (show Kd.M (Kd.int .u8) _ _ _ ((wrap64 (48+(wrap64 (-(Int.tmod x0_1 10))))) % 256) [.int .u8 ((wrap64 (48+(wrap64 (-(Int.tmod x0_1 10))))) % 256)] from rfl) (Reps.none _ _)));intro v207 w8 ho9 hb hg_ hnew_;clear hg_ hnew_;(first|rw [← Ny206.out] at ho9|(simp only [Int.reduceToNat] at ho9;rw [← Ny206.out] at ho9));have HO208:=Aside0.mk (Kd.R_lower ho9 (below_size (h_HB HB.out)));replace HB:=Aside0.mk (below_step (h_HB HB.out) hb);clear hb ho9;have hcv10:=own_string (P:=Tryz.prog) Tryz.underlying30 Tryz.underlying5 Tryz.underlying9 (Kd.own_of_R HO208.out)))
   go_roundg k1
   case measure=>have:=HK1.out;omega
   case rel=>exact ⟨(wrap64 (Int.tdiv x0_1 10)),((strOfNums y206)++x4_1),sT_,sT_,H',⟨by have:=HK1.out;omega⟩,⟨h_HB HB.out⟩⟩
  ·rw [if_neg c7] at H
   exact absurd H (by simp)
 replace H:=sy_ H;obtain ⟨y209,Ny209,H⟩:=H
 by_cases c11:(strOfNums y209).size+x4_1.size≤9223372036854775807
 ·rw [if_pos c11] at H
  have c11b0:=eq_true c11
  have c11b1:decide ((strOfNums y209).size+x4_1.size≤9223372036854775807)=true:=decide_eq_true c11
  try have c11b2:(9223372036854775807<(strOfNums y209).size+x4_1.size)=False:=eq_false (Nat.not_lt.2 c11)
  have H':=Aside0.mk H
  clear H
  go_wp2_with (first|((with_reducible refine gate_dst (N:=21) rfl ?_);refine Kd.R_lit (Kd.int .u8) _ 5 ?hg (N:=21) ?hd (xs:=([(wrap64 (48+(Int.tmod x0_1 10))) % 256]:List Int)) (inner:=[.int .u8 ((wrap64 (48+(Int.tmod x0_1 10))) % 256)]) (ok:=fun _=>True) (okp:=fun _=>True) ?hr ?hp (fun _ hk=>hk) trivial (Below.refl _ _) (Nat.le_refl _) (by simp) ?_;(case hd=>rfl);(case hg=>rfl);(case hr=>exact hrT_);(case hp=>exact (Reps.one (show Kd.M (Kd.int .u8) _ _ _ ((wrap64 (48+(Int.tmod x0_1 10))) % 256) [.int .u8 ((wrap64 (48+(Int.tmod x0_1 10))) % 256)] from rfl) (Reps.none _ _)));intro v210 w12 ho13 hb hg_ hnew_;clear hg_ hnew_;(first|rw [← Ny209.out] at ho13|(simp only [Int.reduceToNat] at ho13;rw [← Ny209.out] at ho13));have HO211:=Aside0.mk (Kd.R_lower ho13 (below_size (h_HB HB.out)));replace HB:=Aside0.mk (below_step (h_HB HB.out) hb);clear hb ho13;have hcv14:=own_string (P:=Tryz.prog) Tryz.underlying30 Tryz.underlying5 Tryz.underlying9 (Kd.own_of_R HO211.out)))
  go_roundg k1
  case measure=>have:=HK1.out;omega
  case rel=>exact ⟨(wrap64 (Int.tdiv x0_1 10)),((strOfNums y209)++x4_1),sT_,sT_,H',⟨by have:=HK1.out;omega⟩,⟨h_HB HB.out⟩⟩
 ·rw [if_neg c11] at H
  exact absurd H (by simp)
end Go.Proofs.YtekegbacnagbcaaGreatDoor.P
