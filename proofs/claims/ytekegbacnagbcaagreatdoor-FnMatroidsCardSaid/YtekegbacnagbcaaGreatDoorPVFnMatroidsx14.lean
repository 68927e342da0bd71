-- written by gprint (a program of this session's, round the kit's print), out of the translation and hand-written texts
import Derived.Test.YtekegbacnagbcaaGreatDoorPVFnMatroidsx0
import Derived.Test.YtekegbacnagbcaaGreatDoorPVFnMatroidsx10
import Derived.Test.YtekegbacnagbcaaGreatDoorPVFnMatroidsx12
import Derived.Test.YtekegbacnagbcaaGreatDoorPVFnMatroidsx13
namespace Go.Proofs.YtekegbacnagbcaaGreatDoor.P
open Go.RowKit Go.Proofs.YtekegbacnagbcaaGreatDoorW.PrintWords Go.Proofs.YtekegbacnagbcaaGreatDoorW.PrintLast Go.Proofs.YtekegbacnagbcaaGreatDoorW.PrintMore
attribute [local go_sem] max2_int min2_int max_two min_two max_three min_three max_four min_four   -- for this text's walks alone
set_option linter.unusedVariables false
set_option linter.unusedSimpArgs false
/-! ### spec_l4Matrix: function 146 -/
def spec_l4Matrix.l0:Nat→Int→Int→Int→List Int→Int→Int→Int→List Int→Option (Int × List Int)
 | 0,_,_,_,_,_,_,_,_=>none
 | k+1,x0,x1,x2,x3,x10,x11,x463000,x463001=>(spec_FullSet.f x2).bind fun t465=>(if x11≤t465 then ((spec_CountOf.f k x11).bind fun t466=>(if t466=x10 then ((spec_l4Rank.f k x0 x1 x2 x3 x11).bind fun t467=>(if t467=x10 then (if x463001.length<17592186044416 then (spec_l4Matrix.l0 k x0 x1 x2 x3 x10 (wrap64 (x11+1)) x463000 (x463001++[x11])) else (none)) else (spec_l4Matrix.l0 k x0 x1 x2 x3 x10 (wrap64 (x11+1)) x463000 x463001))) else (spec_l4Matrix.l0 k x0 x1 x2 x3 x10 (wrap64 (x11+1)) x463000 x463001))) else (some (x463000,x463001)))
def spec_l4Matrix.f (k:Nat) (a0:Int) (a1:Int) (a2:Int) (l3:List Int):Option (Int × List Int):=(spec_FullSet.f a2).bind fun t463=>((spec_l4Rank.f k a0 a1 a2 l3 t463).bind fun t464=>(spec_l4Matrix.l0 k a0 a1 a2 l3 t464 0 a2 ([]:List Int)))
set_option maxHeartbeats 8000000 in
set_option maxRecDepth 100000 in
theorem spec_l4Matrix.calls (k:Nat) (a0:Int) (a1:Int) (a2:Int) (A3:Option Addr) (c3:Nat) (l3:List Int) (r1:Int) (r2:List Int) (w:World) (hr3:Kd.C (Kd.int .i64) w A3 l3.length l3) (hc3:l3.length≤c3) (h:spec_l4Matrix.f k a0 a1 a2 l3=some (r1,r2)) :
    Calls Tryz.prog 146 #[.int .i64 a0,.int .i64 a1,.int .i64 a2,.slice A3 l3.length c3] w fun e w'=>∃ v1_:Value,e=.returned (.agg #[.int .i64 r1,v1_])∧Kd.R (Kd.int .i64) 3 w' w.heap.size (fun _=>True) v1_ r2∧Below w.heap.size w w':=by
 have hu24:=Tryz.underlying24
 have HR3:=Aside0.mk hr3
 have HC3:=Aside0.mk hc3
 clear hr3 hc3
 have HB:=Aside0.mk (Below.refl w.heap.size w)
 unfold spec_l4Matrix.f at h
 have H:=h
 clear h
 replace H:=bnd_ H;obtain ⟨t463,A5,H⟩:=H
 replace H:=bnd_ H;obtain ⟨t464,A6,H⟩:=H
 have H':=Aside0.mk H
 clear H
 go_enter Tryz.func146,Tryz.ntmps146
 go_wp2_with (first|((with_reducible refine gate_dst (N:=8) rfl ?_);refine bx_ (N:=8) (cs:=#[.int .i64 0,.slice none 0 0]) (t:=24) ?_;intro gb461 hg w7 hbox hb;have BK461:=Aside0.mk (hbox);have GW461:=Aside0.mk (gw_ hg (h_HB HB.out));have GE461:=Aside0.mk (gw_ hg (h_HB HB.out));replace HB:=Aside0.mk (below_step (h_HB HB.out) hb);clear hb hbox hg)|((with_reducible refine gate_dst (N:=9) rfl ?_);refine bx_ (N:=9) (cs:=#[.int .i64 0,.slice none 0 0]) (t:=24) ?_;intro gb462 hg w8 hbox hb;have BK462:=Aside0.mk (hbox);have GW462:=Aside0.mk (gw_ hg (h_HB HB.out));have GE462:=Aside0.mk (gw_ hg (h_HB HB.out));replace HB:=Aside0.mk (below_step (h_HB HB.out) hb);have NB461_462:=Aside0.mk (nbl_ hg (bkC_ BK461.out));have NB462_461:=Aside0.mk (nbg_ hg (bkC_ BK461.out));replace BK461:=Aside0.mk (blkB_ BK461.out hb);clear hb hbox hg;have hnb9:=NB462_461.out;have hnc9:=NB461_462.out;obtain ⟨hcz10_0,hcz10_1,hfz10_0,hfz10_1⟩:=bz2_ BK462.out)|((with_reducible refine gate_callee (f:=77) rfl ?_);refine goesL_ (some 19) rfl rfl Tryz.func77 krT_ rfl #[.int .i64 a2] rfl agT_ ?_;(with_reducible refine (spec_FullSet.calls a2 t463 _ A5.out).mono ?_);rintro e w' ⟨rfl,⟨nd,rfl⟩⟩;refine ⟨_,rfl,?_⟩)|((with_reducible refine gate_callee (f:=163) rfl ?_);refine goesL_ (some 20) rfl rfl Tryz.func163 krT_ rfl #[.int .i64 a0,.int .i64 a1,.int .i64 a2,.slice A3 l3.length c3,.int .i64 t463] rfl agT_ ?_;(with_reducible refine (spec_l4Rank.calls k a0 a1 a2 _ _ l3 t463 t464 _ ?side1 ?side2 A6.out).mono ?_);(case side1=>exact Kd.C_below HR3.out (h_HB HB.out));(case side2=>exact HC3.out);rintro e w11 ⟨rfl,hb⟩;refine ⟨_,rfl,?_⟩;replace BK461:=Aside0.mk (blkB_ BK461.out hb);replace BK462:=Aside0.mk (blk_below (g:=gb462) (o:=.cells #[.int .i64 a2,.slice none 0 0] 24 (0,0)) (by (with_reducible repeat (first|refine blk_drewN ?_ _|refine blk_drew ?_|refine blk_alloc ?_ _));refine blk_put (cs:=#[.int .i64 a2,.slice none 0 0]) ?_ 1 _ rfl;(with_reducible repeat (first|refine blk_drewN ?_ _|refine blk_drew ?_|refine blk_alloc ?_ _));refine blk_put (cs:=#[.int .i64 0,.slice none 0 0]) ?_ 0 _ rfl;exact bkC_ BK462.out) hb);replace HB:=Aside0.mk (below_step (h_HB HB.out) hb);(try clear hb);(try clear hb2);(try clear hk);(try clear hi)))
 go_loopg [11] k (fun kq v11 w'=>∃ (x11_1:Int) (x463001_1:List Int) (u463001:Value),v11=.int .i64 x11_1∧Aside0 (spec_l4Matrix.l0 kq a0 a1 a2 l3 t464 x11_1 a2 x463001_1=some (r1,r2))∧Aside0 (kq≤k)∧Aside0 (Kd.R (Kd.int .i64) 3 w' w.heap.size (fun _=>True) u463001 x463001_1)∧Aside0 (w'.heap[gb461]?=some (.cells #[.int .i64 0,(.slice none 0 0)] 24 (0,0)))∧Aside0 (w'.heap[gb462]?=some (.cells #[.int .i64 a2,u463001] 24 (0,0)))∧Aside0 (Below w.heap.size w w'))
 case atStart=>exact ⟨(0),(([]:List Int)),(.slice none 0 0),sT_,H',⟨Nat.le_refl _⟩,⟨by first|exact Kd.R_nil _ _ _ _ _|exact Kd.N_nil _ _ _ _ _|exact Kd.V_nil _ _ _ _ _|exact Kd.Q_nil _ _ _ _ _|exact Kd.S_nil _ _ _ _ _⟩,⟨bkC_ BK461.out⟩,⟨bkC_ BK462.out⟩,⟨h_HB HB.out⟩⟩
 case round =>
 clear H'
 try clear c1
 try clear p2
 try clear c3
 try clear c7
 try clear c9
 try clear hcz10_0
 try clear hcz10_1
 try clear hfz10_0
 try clear hfz10_1
 obtain ⟨x11_1,x463001_1,u463001,rfl,HA,HK1,HO_463001,BK461,BK462,HB⟩:=hrel
 cases gk with
 | zero=>exact absurd HA.out (by simp [spec_l4Matrix.l0])
 | succ k1 =>
 have H:=HA.out
 clear HA
 simp only [spec_l4Matrix.l0] at H
 replace H:=bnd_ H;obtain ⟨t465,A12,H⟩:=H
 rcases gsn_ H with ⟨c13b0,H⟩|⟨c13b0,H⟩
 ·simp only [Option.some.injEq,Prod.mk.injEq] at H
  obtain ⟨rfl,rfl⟩:=H
  go_wp2_with (first|((with_reducible refine gate_callee (f:=77) rfl ?_);refine goesL_ (some 23) rfl rfl Tryz.func77 krT_ rfl #[.int .i64 a2] rfl agT_ ?_;(with_reducible refine (spec_FullSet.calls a2 t465 _ A12.out).mono ?_);rintro e w' ⟨rfl,⟨nd,rfl⟩⟩;refine ⟨_,rfl,?_⟩;(try (rw [drewN_self wr];generalize hq_:World.drewN wr _=wr;replace HO_463001:Aside0 (Kd.R (Kd.int .i64) 3 wr w.heap.size (fun _=>True) u463001 x463001_1):=⟨by rw [← hq_];exact (kRC_ HO_463001.out)⟩;replace BK461:Aside0 (wr.heap[gb461]?=some (.cells #[.int .i64 0,.slice none 0 0] 24 (0,0))):=⟨by rw [← hq_];exact (bkC_ BK461.out)⟩;replace BK462:Aside0 (wr.heap[gb462]?=some (.cells #[.int .i64 a2,u463001] 24 (0,0))):=⟨by rw [← hq_];exact (bkC_ BK462.out)⟩;replace HB:Aside0 (Below w.heap.size w wr):=⟨by rw [← hq_];exact (h_HB HB.out)⟩;clear hq_;have hcuz28_gb461_0:wr.cell? ⟨gb461,0,none⟩=some (.int .i64 0):=(blk_cell BK461.out 0).trans rfl;have hfuz28_gb461_0:=blk_frozen BK461.out 0;have hcuz28_gb461_1:wr.cell? ⟨gb461,1,none⟩=some (.slice none 0 0):=(blk_cell BK461.out 1).trans rfl;have hfuz28_gb461_1:=blk_frozen BK461.out 1;have hcuz28_gb462_0:wr.cell? ⟨gb462,0,none⟩=some (.int .i64 a2):=(blk_cell BK462.out 0).trans rfl;have hfuz28_gb462_0:=blk_frozen BK462.out 0;have hcuz28_gb462_1:wr.cell? ⟨gb462,1,none⟩=some (u463001):=(blk_cell BK462.out 1).trans rfl;have hfuz28_gb462_1:=blk_frozen BK462.out 1));have hnb29:=NB462_461.out;have hnc29:=NB461_462.out;obtain ⟨hcz30_0,hcz30_1,hfz30_0,hfz30_1⟩:=bz2_ BK462.out;obtain ⟨hcz31_0,hcz31_1,hfz31_0,hfz31_1⟩:=bz2_ BK461.out;obtain ⟨Ao32,co32,eo32⟩:=Kd.R_slice HO_463001.out;subst eo32))
  refine bodyPost_ret (results_cell_row rfl _ _ gb461 24 #[.int .i64 a2,.slice Ao32 x463001_1.length co32] (0,0) _ rfl (by (with_reducible repeat (first|refine blk_drewN ?_ _|refine blk_drew ?_|refine blk_alloc ?_ _));refine blk_put (cs:=#[.int .i64 a2,.slice none 0 0]) ?_ 1 _ rfl;(with_reducible repeat (first|refine blk_drewN ?_ _|refine blk_drew ?_|refine blk_alloc ?_ _));refine blk_put (cs:=#[.int .i64 0,.slice none 0 0]) ?_ 0 _ rfl;exact bkC_ BK461.out) Tryz.underlying24 rfl krT_) rfl ?_
  exact ⟨_,eT_,by (with_reducible repeat (first|apply Kd.R_alloc|apply Kd.R_drewN|apply Kd.R_drew));exact Kd.R_mono (Kd.R_far (p:=⟨gb461,1,none⟩) (Kd.R_far (p:=⟨gb461,0,none⟩) (Kd.R_types HO_463001.out BK461.out (by decide)) (fun _ hk=>hk.2) (.int .i64 a2)) (fun _ hk=>hk.2) (.slice Ao32 x463001_1.length co32)) (fun _ hk=>trivial),h_HB HB.out⟩
 replace H:=bnd_ H;obtain ⟨t466,A14,H⟩:=H
 by_cases c15:t466=t464
 rotate_left
 ·rw [if_neg c15] at H
  have c15b0:(t466==t464)=false:=beq_eq_false_iff_ne.mpr c15
  have c15b1:(t466 != t464)=true:=bne_iff_ne.mpr c15
  have H':=Aside0.mk H
  clear H
  go_wp2_with (first|((with_reducible refine gate_callee (f:=77) rfl ?_);refine goesL_ (some 23) rfl rfl Tryz.func77 krT_ rfl #[.int .i64 a2] rfl agT_ ?_;(with_reducible refine (spec_FullSet.calls a2 t465 _ A12.out).mono ?_);rintro e w' ⟨rfl,⟨nd,rfl⟩⟩;refine ⟨_,rfl,?_⟩)|((with_reducible refine gate_callee (f:=107) rfl ?_);refine goesL_ (some 28) rfl rfl Tryz.func107 krT_ rfl #[.int .i64 x11_1] rfl agT_ ?_;(with_reducible refine (spec_CountOf.calls k1 x11_1 t466 _ A14.out).mono ?_);rintro e w' ⟨rfl,⟨nd,rfl⟩⟩;refine ⟨_,rfl,?_⟩))
  go_roundg k1
  case measure=>have:=HK1.out;omega
  case rel=>exact ⟨(wrap64 (x11_1+1)),(x463001_1),(u463001),sT_,H',⟨by have:=HK1.out;omega⟩,⟨kRC_ HO_463001.out⟩,⟨bkC_ BK461.out⟩,⟨bkC_ BK462.out⟩,⟨h_HB HB.out⟩⟩
 rw [if_pos c15] at H
 have c15b0:(t466==t464)=true:=beq_iff_eq.mpr c15
 have c15b1:(t466 != t464)=false:=bne_eq_false_iff_eq.mpr c15
 clear c15
 replace H:=bnd_ H;obtain ⟨t467,A16,H⟩:=H
 by_cases c17:t467=t464
 ·rw [if_pos c17] at H
  have c17b0:(t467==t464)=true:=beq_iff_eq.mpr c17
  have c17b1:(t467 != t464)=false:=bne_eq_false_iff_eq.mpr c17
  clear c17
  by_cases c18:x463001_1.length<17592186044416
  ·rw [if_pos c18] at H
   have LMc18:=Aside0.mk c18
   clear c18
   obtain ⟨y468,hy468⟩:∃ y_:List Int,y_=(x463001_1++[x11_1]):=⟨_,rfl⟩
   rw [← hy468] at H
   have Ny468:=Aside0.mk hy468
   clear hy468
   have H':=Aside0.mk H
   clear H
   go_wp2_with (first|((with_reducible refine gate_callee (f:=77) rfl ?_);refine goesL_ (some 23) rfl rfl Tryz.func77 krT_ rfl #[.int .i64 a2] rfl agT_ ?_;(with_reducible refine (spec_FullSet.calls a2 t465 _ A12.out).mono ?_);rintro e w' ⟨rfl,⟨nd,rfl⟩⟩;refine ⟨_,rfl,?_⟩;(try (rw [drewN_self wr];generalize hq_:World.drewN wr _=wr;replace HO_463001:Aside0 (Kd.R (Kd.int .i64) 3 wr w.heap.size (fun _=>True) u463001 x463001_1):=⟨by rw [← hq_];exact (kRC_ HO_463001.out)⟩;replace BK461:Aside0 (wr.heap[gb461]?=some (.cells #[.int .i64 0,.slice none 0 0] 24 (0,0))):=⟨by rw [← hq_];exact (bkC_ BK461.out)⟩;replace BK462:Aside0 (wr.heap[gb462]?=some (.cells #[.int .i64 a2,u463001] 24 (0,0))):=⟨by rw [← hq_];exact (bkC_ BK462.out)⟩;replace HB:Aside0 (Below w.heap.size w wr):=⟨by rw [← hq_];exact (h_HB HB.out)⟩;clear hq_;have hcuz19_gb461_0:wr.cell? ⟨gb461,0,none⟩=some (.int .i64 0):=(blk_cell BK461.out 0).trans rfl;have hfuz19_gb461_0:=blk_frozen BK461.out 0;have hcuz19_gb461_1:wr.cell? ⟨gb461,1,none⟩=some (.slice none 0 0):=(blk_cell BK461.out 1).trans rfl;have hfuz19_gb461_1:=blk_frozen BK461.out 1;have hcuz19_gb462_0:wr.cell? ⟨gb462,0,none⟩=some (.int .i64 a2):=(blk_cell BK462.out 0).trans rfl;have hfuz19_gb462_0:=blk_frozen BK462.out 0;have hcuz19_gb462_1:wr.cell? ⟨gb462,1,none⟩=some (u463001):=(blk_cell BK462.out 1).trans rfl;have hfuz19_gb462_1:=blk_frozen BK462.out 1)))|((with_reducible refine gate_callee (f:=107) rfl ?_);refine goesL_ (some 28) rfl rfl Tryz.func107 krT_ rfl #[.int .i64 x11_1] rfl agT_ ?_;(with_reducible refine (spec_CountOf.calls k1 x11_1 t466 _ A14.out).mono ?_);rintro e w' ⟨rfl,⟨nd,rfl⟩⟩;refine ⟨_,rfl,?_⟩;(try (rw [drewN_self wr];generalize hq_:World.drewN wr _=wr;replace HO_463001:Aside0 (Kd.R (Kd.int .i64) 3 wr w.heap.size (fun _=>True) u463001 x463001_1):=⟨by rw [← hq_];exact (kRC_ HO_463001.out)⟩;replace BK461:Aside0 (wr.heap[gb461]?=some (.cells #[.int .i64 0,.slice none 0 0] 24 (0,0))):=⟨by rw [← hq_];exact (bkC_ BK461.out)⟩;replace BK462:Aside0 (wr.heap[gb462]?=some (.cells #[.int .i64 a2,u463001] 24 (0,0))):=⟨by rw [← hq_];exact (bkC_ BK462.out)⟩;replace HB:Aside0 (Below w.heap.size w wr):=⟨by rw [← hq_];exact (h_HB HB.out)⟩;clear hq_;have hcuz20_gb461_0:wr.cell? ⟨gb461,0,none⟩=some (.int .i64 0):=(blk_cell BK461.out 0).trans rfl;have hfuz20_gb461_0:=blk_frozen BK461.out 0;have hcuz20_gb461_1:wr.cell? ⟨gb461,1,none⟩=some (.slice none 0 0):=(blk_cell BK461.out 1).trans rfl;have hfuz20_gb461_1:=blk_frozen BK461.out 1;have hcuz20_gb462_0:wr.cell? ⟨gb462,0,none⟩=some (.int .i64 a2):=(blk_cell BK462.out 0).trans rfl;have hfuz20_gb462_0:=blk_frozen BK462.out 0;have hcuz20_gb462_1:wr.cell? ⟨gb462,1,none⟩=some (u463001):=(blk_cell BK462.out 1).trans rfl;have hfuz20_gb462_1:=blk_frozen BK462.out 1)))|(go_at_call 163;(with_reducible refine (spec_l4Rank.calls k1 a0 a1 a2 _ _ l3 x11_1 t467 _ ?side1 ?side2 A16.out).mono ?_);(case side1=>exact cC_ HR3.out);(case side2=>exact HC3.out);rintro e w21 ⟨rfl,hb⟩;replace HO_463001:=Aside0.mk (Kd.R_below (kRC_ HO_463001.out) hb);replace BK461:=Aside0.mk (blkB_ BK461.out hb);replace BK462:=Aside0.mk (blkB_ BK462.out hb);replace HB:=Aside0.mk (below_step (h_HB HB.out) hb);(try clear hb);have hnb22:=NB462_461.out;have hnc22:=NB461_462.out;obtain ⟨hcz23_0,hcz23_1,hfz23_0,hfz23_1⟩:=bz2_ BK462.out)|((with_reducible refine gate_builtin (b:=.append) (xs:=#[.tmp 42,.tmp 44]) rfl ?_);at_builtin;refine Kd.R_append (Kd.int .i64) (w0:=w) w.heap.size rfl (.tmp 42) (.tmp 44) 22 3 (.int .i64 0) 8 rfl Tryz.underlying22 info3 rfl (by decide) (by omega) u463001 x463001_1 x11_1 [.int .i64 x11_1] (fun _=>True) (fun _=>False) rfl rfl ?aP (fun _ hk=>hk.elim) ?aF ?aO ?aB ?aS ?aL ?_;(case aP=>exact rfl);(case aB=>exact (h_HB HB.out));(case aF=>exact (fun _ _=>trivial));(case aO=>exact (kRC_ HO_463001.out));(case aS=>exact (below_size (h_HB HB.out)));(case aL=>have:=LMc18.out;omega);intro v469 w24 ho hb hg hat;rw [← Ny468.out] at ho;replace BK461:=Aside0.mk (blk_grown (bkC_ BK461.out) hg (Kd.R_ne HO_463001.out BK461.out (by decide)));replace BK462:=Aside0.mk (blk_grown (bkC_ BK462.out) hg (Kd.R_ne HO_463001.out BK462.out (by decide)));replace HB:=Aside0.mk (hb);have HO470:=Aside0.mk (ho);clear HO_463001;clear ho hb hg hat;obtain ⟨Ao25,co25,eo25⟩:=Kd.R_slice HO470.out;subst eo25;obtain ⟨hcz26_0,hcz26_1,hfz26_0,hfz26_1⟩:=bz2_ BK462.out))
   go_roundg k1
   case measure=>have:=HK1.out;omega
   case rel=>exact ⟨(wrap64 (x11_1+1)),(y468),(.slice Ao25 y468.length co25),sT_,H',⟨by have:=HK1.out;omega⟩,⟨by (with_reducible repeat (first|apply Kd.R_alloc|apply Kd.R_drewN|apply Kd.R_drew));exact Kd.R_mono (Kd.R_far (p:=⟨gb462,1,none⟩) (Kd.R_types HO470.out BK462.out (by decide)) (fun _ hk=>hk.2) (.slice Ao25 y468.length co25)) (fun _ hk=>trivial)⟩,⟨bkC_ BK461.out⟩,⟨by (with_reducible repeat (first|refine blk_drewN ?_ _|refine blk_drew ?_|refine blk_alloc ?_ _));refine blk_put (cs:=#[.int .i64 a2,u463001]) ?_ 1 _ rfl;exact bkC_ BK462.out⟩,⟨h_HB HB.out⟩⟩
  ·rw [if_neg c18] at H
   exact absurd H (by simp)
 ·rw [if_neg c17] at H
  have c17b0:(t467==t464)=false:=beq_eq_false_iff_ne.mpr c17
  have c17b1:(t467 != t464)=true:=bne_iff_ne.mpr c17
  have H':=Aside0.mk H
  clear H
  go_wp2_with (first|((with_reducible refine gate_callee (f:=77) rfl ?_);refine goesL_ (some 23) rfl rfl Tryz.func77 krT_ rfl #[.int .i64 a2] rfl agT_ ?_;(with_reducible refine (spec_FullSet.calls a2 t465 _ A12.out).mono ?_);rintro e w' ⟨rfl,⟨nd,rfl⟩⟩;refine ⟨_,rfl,?_⟩)|((with_reducible refine gate_callee (f:=107) rfl ?_);refine goesL_ (some 28) rfl rfl Tryz.func107 krT_ rfl #[.int .i64 x11_1] rfl agT_ ?_;(with_reducible refine (spec_CountOf.calls k1 x11_1 t466 _ A14.out).mono ?_);rintro e w' ⟨rfl,⟨nd,rfl⟩⟩;refine ⟨_,rfl,?_⟩)|(go_at_call 163;(with_reducible refine (spec_l4Rank.calls k1 a0 a1 a2 _ _ l3 x11_1 t467 _ ?side1 ?side2 A16.out).mono ?_);(case side1=>repeat (first|exact (Kd.C_below HR3.out (h_HB HB.out))|(with_reducible refine Kd.C_alloc ?_ _)|(with_reducible refine Kd.C_drewN ?_ _)|(with_reducible refine Kd.C_drew ?_)));(case side2=>exact HC3.out);rintro e w27 ⟨rfl,hb⟩;replace HO_463001:=Aside0.mk (Kd.R_below (kRC_ HO_463001.out) hb);replace BK461:=Aside0.mk (blkB_ BK461.out hb);replace BK462:=Aside0.mk (blkB_ BK462.out hb);replace HB:=Aside0.mk (below_step (h_HB HB.out) hb);(try clear hb)))
  go_roundg k1
  case measure=>have:=HK1.out;omega
  case rel=>exact ⟨(wrap64 (x11_1+1)),(x463001_1),(u463001),sT_,H',⟨by have:=HK1.out;omega⟩,⟨kRC_ HO_463001.out⟩,⟨bkC_ BK461.out⟩,⟨bkC_ BK462.out⟩,⟨h_HB HB.out⟩⟩
/-! ### spec_l4Columns: function 126 -/
def spec_l4Columns.l0:Nat→Int→Int→Int→List Int→Int→List Int→Int→Int→Option (Int × List Int × Int × Int)
 | 0,_,_,_,_,_,_,_,_=>none
 | k+1,x1,x5,x6,x7,x8,x1000,x1001,x1002=>if x8<(wrap64 (x6*x1)) then ((spec_l1Below.f x1000 x1001 x1002 x5).bind fun bt484=>(if x7.length<17592186044416 then (spec_l4Columns.l0 k x1 x5 x6 (x7++[bt484.1]) (wrap64 (x8+1)) x1000 bt484.2.1 bt484.2.2) else (none))) else ((spec_l4Matrix.f k x5 x6 x1 x7).bind fun bt490=>(some (bt490.1,bt490.2,x1001,x1002)))
def spec_l4Columns.f (k:Nat) (s0_0:List Int) (s0_1:Int) (s0_2:Int) (a1:Int):Option (Int × List Int × Int × Int):=(spec_l1PickInt.f s0_0 s0_1 s0_2 (([2,3,5,2]:List Int))).bind fun bt475=>((spec_l1Below.f s0_0 bt475.2.1 bt475.2.2 3).bind fun bt478=>(spec_l4Columns.l0 k a1 bt475.1 (wrap64 (1+bt478.1)) (([]:List Int)) 0 s0_0 bt478.2.1 bt478.2.2))
set_option maxHeartbeats 8000000 in
set_option maxRecDepth 100000 in
theorem spec_l4Columns.calls (k:Nat) (g:Nat) (s0_0:List Int) (s0_1:Int) (s0_2:Int) (a1:Int) (r1:Int) (r2:List Int) (r3:Int) (r4:Int) (w0 w:World) (hI:IsS94 w0 w g s0_0 s0_1 s0_2) (hB:Below w0.heap.size w0 w) (h:spec_l4Columns.f k s0_0 s0_1 s0_2 a1=some (r1,r2,r3,r4)) :
    Calls Tryz.prog 126 #[.pointer (some ⟨g,0,none⟩),.int .i64 a1] w fun e w'=>∃ v1_:Value,e=.returned (.agg #[.int .i64 r1,v1_])∧Kd.R (Kd.int .i64) 3 w' w.heap.size (fun _=>True) v1_ r2∧IsS94 w0 w' g s0_0 r3 r4∧Below w0.heap.size w0 w'∧KeepBut w w' g none:=by
 have hu24:=Tryz.underlying24
 have HI0:=Aside0.mk hI
 have HK:=Aside0.mk (KeepBut.refl w g none)
 have HL:=Aside0.mk hB.size
 clear hI
 have HW0:=Aside0.mk hB.size
 have HB:=Aside0.mk hB
 clear hB
 unfold spec_l4Columns.f at h
 have H:=h
 clear h
 obtain ⟨y472,hy472⟩:∃ y_:List Int,y_=(([2,3,5,2]:List Int)):=⟨_,rfl⟩
 rw [← hy472] at H
 have Ny472:=Aside0.mk hy472
 clear hy472
 replace H:=bnd_ H;obtain ⟨⟨t475,t476,t477⟩,A3,H⟩:=H;dsimp only at H
 replace H:=bnd_ H;obtain ⟨⟨t478,t479,t480⟩,A4,H⟩:=H;dsimp only at H
 obtain ⟨y481,hy481⟩:∃ y_:List Int,y_=(([]:List Int)):=⟨_,rfl⟩
 rw [← hy481] at H
 have Ny481:=Aside0.mk hy481
 clear hy481
 have H':=Aside0.mk H
 clear H
 go_enter Tryz.func126,Tryz.ntmps126
 go_wp2_with (first|((with_reducible refine gate_dst (N:=4) rfl ?_);refine bx_ (N:=4) (cs:=#[.int .i64 0,.slice none 0 0]) (t:=24) ?_;intro gb471 hg w5 hbox hb;replace HB:=Aside0.mk (below_step (h_HB HB.out) hb);have BK471:=Aside0.mk (hbox);have GW471:=Aside0.mk ((by rw [hg];exact (keep_size (w:=w) (g:=g) (row:=none) (h_HK HK.out)):w.heap.size≤gb471));have GE471:=Aside0.mk ((Nat.le_trans HW0.out (by rw [hg];exact (keep_size (w:=w) (g:=g) (row:=none) (h_HK HK.out)):w.heap.size≤gb471):w0.heap.size≤gb471));replace HK:=Aside0.mk (KeepBut.trans (h_HK HK.out) (KeepBut.of_below hb g none) (.inl rfl));have NB0_471:=Aside0.mk ((by rw [hg];exact Nat.ne_of_lt (IsS94.lt (show IsS94 w0 _ g s0_0 s0_1 s0_2 from h_HI0 HI0.out)):g≠gb471));have NB471_0:=Aside0.mk ((by rw [hg];exact Nat.ne_of_gt (IsS94.lt (show IsS94 w0 _ g s0_0 s0_1 s0_2 from h_HI0 HI0.out)):gb471≠g));replace HI0:=Aside0.mk (IsS94.below (h_HI0 HI0.out) hb);clear hb hbox hg)|((with_reducible refine gate_dst (N:=10) rfl ?_);refine Kd.R_lit (Kd.int .i64) _ 3 ?hg (N:=10) ?hd (xs:=([2,3,5,2]:List Int)) (inner:=[.int .i64 2,.int .i64 3,.int .i64 5,.int .i64 2]) (ok:=fun _=>True) (okp:=fun _=>True) ?hr ?hp (fun _ hk=>hk) trivial (Below.refl _ _) (Nat.le_refl _) (by simp) ?_;(case hd=>rfl);(case hg=>rfl);(case hr=>exact hrT_);(case hp=>exact (Reps.one (show Kd.M (Kd.int .i64) _ _ _ 2 [.int .i64 2] from rfl) (Reps.one (show Kd.M (Kd.int .i64) _ _ _ 3 [.int .i64 3] from rfl) (Reps.one (show Kd.M (Kd.int .i64) _ _ _ 5 [.int .i64 5] from rfl) (Reps.one (show Kd.M (Kd.int .i64) _ _ _ 2 [.int .i64 2] from rfl) (Reps.none _ _))))));intro v473 w6 ho7 hb hg_ hnew_;clear hg_ hnew_;(first|rw [← Ny472.out] at ho7|(simp only [Int.reduceToNat] at ho7;rw [← Ny472.out] at ho7));have HO474:=Aside0.mk (Kd.R_lower ho7 (keep_size (w:=w) (g:=g) (row:=none) (h_HK HK.out)));replace HI0:=Aside0.mk (IsS94.below (h_HI0 HI0.out) hb);replace BK471:=Aside0.mk (blkB_ BK471.out hb);replace HK:=Aside0.mk (KeepBut.trans (h_HK HK.out) (KeepBut.of_below hb g none) (.inl rfl));replace HB:=Aside0.mk (below_step (h_HB HB.out) hb);clear hb ho7;obtain ⟨Ao8,co8,eo8⟩:=Kd.R_slice HO474.out;subst eo8)|((with_reducible refine gate_callee (f:=74) rfl ?_);refine goesL_ (some 11) rfl rfl Tryz.func74 krT_ rfl #[.pointer (some ⟨g,0,none⟩),.slice Ao8 y472.length co8] rfl agT_ ?_;(with_reducible refine (spec_l1PickInt.calls g s0_0 s0_1 s0_2 _ _ y472 t475 t476 t477 w0 _ ?side1 ?side2 ?side3 ?side4 ?side5 A3.out).mono ?_);(case side1=>exact h_HI0 HI0.out);(case side2=>exact h_HB HB.out);(case side3=>repeat (first|exact (Kd.R_reads' HO474.out).2.2|(with_reducible refine Kd.C_alloc ?_ _)|(with_reducible refine Kd.C_drewN ?_ _)|(with_reducible refine Kd.C_drew ?_)));(case side4=>exact (Kd.R_reads' HO474.out).2.1);(case side5=>exact far_slice (IsS94.own_ne HI0.out HO474.out (by decide)));rintro e w9 ⟨rfl,hi,hb,hk⟩;refine ⟨_,rfl,?_⟩;replace BK471:=Aside0.mk (KeepBut.blk hk (bkC_ BK471.out) NB471_0.out (by simp));replace HO474:=Aside0.mk (Kd.R_mono (Kd.R_keep (IsS94.apart (show IsS94 w0 _ g s0_0 s0_1 s0_2 from h_HI0 HI0.out) (kRC_ HO474.out) (by decide)) hk (fun _ h=>h.2)) (fun _ h=>h.1));replace HK:=Aside0.mk (KeepBut.trans (h_HK HK.out) hk (.inl rfl));replace HB:=Aside0.mk (hb);replace HI0:=Aside0.mk (hi);(try clear hb);(try clear hb2);(try clear hk);(try clear hi))|((with_reducible refine gate_callee (f:=70) rfl ?_);refine goesL_ (some 13) rfl rfl Tryz.func70 krT_ rfl #[.pointer (some ⟨g,0,none⟩),.int .i64 3] rfl agT_ ?_;(with_reducible refine (spec_l1Below.calls g s0_0 t476 t477 3 t478 t479 t480 w0 _ ?side1 ?side2 A4.out).mono ?_);(case side1=>exact h_HI0 HI0.out);(case side2=>exact h_HB HB.out);rintro e w10 ⟨rfl,hi,hb,hk⟩;refine ⟨_,rfl,?_⟩;replace BK471:=Aside0.mk (KeepBut.blk hk (bkC_ BK471.out) NB471_0.out (by simp));replace HO474:=Aside0.mk (Kd.R_mono (Kd.R_keep (IsS94.apart (show IsS94 w0 _ g s0_0 t476 t477 from h_HI0 HI0.out) (kRC_ HO474.out) (by decide)) hk (fun _ h=>h.2)) (fun _ h=>h.1));replace HK:=Aside0.mk (KeepBut.trans (h_HK HK.out) hk (.inl rfl));replace HB:=Aside0.mk (hb);replace HI0:=Aside0.mk (hi);(try clear hb);(try clear hb2);(try clear hk);(try clear hi))|((with_reducible refine gate_dst (N:=15) rfl ?_);refine Kd.R_lit (Kd.int .i64) _ 3 ?hg (N:=15) ?hd (xs:=([]:List Int)) (inner:=[]) (ok:=fun _=>True) (okp:=fun _=>True) ?hr ?hp (fun _ hk=>hk) trivial (Below.refl _ _) (Nat.le_refl _) (by simp) ?_;(case hd=>rfl);(case hg=>rfl);(case hr=>exact hrT_);(case hp=>exact (Reps.none _ _));intro v482 w11 ho12 hb hg_ hnew_;clear hg_ hnew_;(first|rw [← Ny481.out] at ho12|(simp only [Int.reduceToNat] at ho12;rw [← Ny481.out] at ho12));have HO483:=Aside0.mk (Kd.R_lower (Kd.R_new' ho12 (Kd.R_lt (kRC_ HO474.out))) (keep_size (w:=w) (g:=g) (row:=none) (h_HK HK.out)));replace HO474:=Aside0.mk (Kd.R_elder' (kRC_ HO474.out) (Kd.R_base ho12) hb);replace HI0:=Aside0.mk (IsS94.below (h_HI0 HI0.out) hb);replace BK471:=Aside0.mk (blkB_ BK471.out hb);replace HK:=Aside0.mk (KeepBut.trans (h_HK HK.out) (KeepBut.of_below hb g none) (.inl rfl));replace HB:=Aside0.mk (below_step (h_HB HB.out) hb);clear hb ho12))
 go_loopg [7,8] k (fun kq v7 v8 w'=>∃ (x7_1:List Int) (x8_1:Int) (x1001_1:Int) (x1002_1:Int),v8=.int .i64 x8_1∧Aside0 (spec_l4Columns.l0 kq a1 t475 (wrap64 (1+t478)) x7_1 x8_1 s0_0 x1001_1 x1002_1=some (r1,r2,r3,r4))∧Aside0 (kq≤k)∧Aside0 (Kd.R (Kd.int .i64) 3 w' w.heap.size (fun _=>True) v7 x7_1)∧Aside0 (w'.heap[gb471]?=some (.cells #[.int .i64 0,(.slice none 0 0)] 24 (0,0)))∧Aside0 (IsS94 w0 w' g s0_0 x1001_1 x1002_1)∧Aside0 (KeepBut w w' g none)∧Aside0 (Below w0.heap.size w0 w'))
 case atStart=>exact ⟨(y481),(0),(t479),(t480),sT_,H',⟨Nat.le_refl _⟩,⟨by (with_reducible repeat (first|apply Kd.R_alloc|apply Kd.R_drewN|apply Kd.R_drew));exact Kd.R_mono HO483.out (fun _ hk=>trivial)⟩,⟨bkC_ BK471.out⟩,⟨h_HI0 HI0.out⟩,⟨h_HK HK.out⟩,⟨h_HB HB.out⟩⟩
 case round =>
 clear H'
 try clear c1
 try clear p2
 try clear p6
 try clear c7
 try clear c12
 obtain ⟨x7_1,x8_1,x1001_1,x1002_1,rfl,HA,HK1,HO_7,BK471,HI0,HK,HB⟩:=hrel
 cases gk with
 | zero=>exact absurd HA.out (by simp [spec_l4Columns.l0])
 | succ k1 =>
 have H:=HA.out
 clear HA
 simp only [spec_l4Columns.l0] at H
 rcases gsn_ H with ⟨c13b0,H⟩|⟨c13b0,H⟩
 ·replace H:=bnd_ H;obtain ⟨⟨t490,t491⟩,A18,H⟩:=H;dsimp only at H
  simp only [Option.some.injEq,Prod.mk.injEq] at H
  obtain ⟨rfl,rfl,rfl,rfl⟩:=H
  obtain ⟨Ao19,co19,eo19⟩:=Kd.R_slice HO_7.out
  subst eo19
  go_wp2_with (first|((with_reducible refine gate_callee (f:=146) rfl ?_);refine goesL_ (some 33) rfl rfl Tryz.func146 krT_ rfl #[.int .i64 t475,.int .i64 (wrap64 (1+t478)),.int .i64 a1,.slice Ao19 x7_1.length co19] rfl agT_ ?_;(with_reducible refine (spec_l4Matrix.calls k1 t475 (wrap64 (1+t478)) a1 _ _ x7_1 t490 t491 _ ?side1 ?side2 A18.out).mono ?_);(case side1=>repeat (first|exact (Kd.R_reads' HO_7.out).2.2|(with_reducible refine Kd.C_alloc ?_ _)|(with_reducible refine Kd.C_drewN ?_ _)|(with_reducible refine Kd.C_drew ?_)));(case side2=>exact (Kd.R_reads' HO_7.out).2.1);rintro e w20 ⟨v492,rfl,ho0,hb⟩;refine ⟨_,rfl,?_⟩;have HO493:=Aside0.mk (Kd.R_lower (Kd.R_new' ho0 (Kd.R_lt (kRC_ HO_7.out))) (keep_size (w:=w) (g:=g) (row:=none) (h_HK HK.out)));replace HO_7:=Aside0.mk (Kd.R_elder' (kRC_ HO_7.out) (Kd.R_base ho0) hb);replace BK471:=Aside0.mk (blkB_ BK471.out hb);replace HI0:=Aside0.mk (IsS94.below (h_HI0 HI0.out) hb);replace HK:=Aside0.mk (KeepBut.trans (h_HK HK.out) (KeepBut.of_below hb g none) (.inl rfl));replace HB:=Aside0.mk (below_step (h_HB HB.out) hb);(try clear hb);(try clear hb2);(try clear hk);(try clear hi);(try clear ho0);have hnb21:=NB471_0.out;have hnc21:=NB0_471.out;obtain ⟨hcz22_0,hcz22_1,hfz22_0,hfz22_1⟩:=bz2_ BK471.out;obtain ⟨Ao23,co23,eo23⟩:=Kd.R_slice HO493.out;subst eo23))
  refine bodyPost_ret (results_cell_row rfl _ _ gb471 24 #[.int .i64 t490,.slice Ao23 t491.length co23] (0,0) _ rfl (by (with_reducible repeat (first|refine blk_drewN ?_ _|refine blk_drew ?_|refine blk_alloc ?_ _));refine blk_put (cs:=#[.int .i64 t490,.slice none 0 0]) ?_ 1 _ rfl;(with_reducible repeat (first|refine blk_drewN ?_ _|refine blk_drew ?_|refine blk_alloc ?_ _));refine blk_put (cs:=#[.int .i64 0,.slice none 0 0]) ?_ 0 _ rfl;exact bkC_ BK471.out) Tryz.underlying24 rfl krT_) rfl ?_
  exact ⟨_,eT_,by (with_reducible repeat (first|apply Kd.R_alloc|apply Kd.R_drewN|apply Kd.R_drew));exact Kd.R_mono (Kd.R_far (p:=⟨gb471,1,none⟩) (Kd.R_far (p:=⟨gb471,0,none⟩) (Kd.R_types HO493.out BK471.out (by decide)) (fun _ hk=>hk.2) (.int .i64 t490)) (fun _ hk=>hk.2) (.slice Ao23 t491.length co23)) (fun _ hk=>trivial),h_HI0 HI0.out,h_HB HB.out,h_HK HK.out⟩
 replace H:=bnd_ H;obtain ⟨⟨t484,t485,t486⟩,A14,H⟩:=H;dsimp only at H
 by_cases c15:x7_1.length<17592186044416
 ·rw [if_pos c15] at H
  have LMc15:=Aside0.mk c15
  clear c15
  obtain ⟨y487,hy487⟩:∃ y_:List Int,y_=(x7_1++[t484]):=⟨_,rfl⟩
  rw [← hy487] at H
  have Ny487:=Aside0.mk hy487
  clear hy487
  have H':=Aside0.mk H
  clear H
  go_wp2_with (first|((with_reducible refine gate_callee (f:=70) rfl ?_);refine goesL_ (some 26) rfl rfl Tryz.func70 krT_ rfl #[.pointer (some ⟨g,0,none⟩),.int .i64 t475] rfl agT_ ?_;(with_reducible refine (spec_l1Below.calls g s0_0 x1001_1 x1002_1 t475 t484 t485 t486 w0 _ ?side1 ?side2 A14.out).mono ?_);(case side1=>exact h_HI0 HI0.out);(case side2=>exact h_HB HB.out);rintro e w16 ⟨rfl,hi,hb,hk⟩;refine ⟨_,rfl,?_⟩;replace HO_7:=Aside0.mk (Kd.R_mono (Kd.R_keep (IsS94.apart (show IsS94 w0 _ g s0_0 x1001_1 x1002_1 from h_HI0 HI0.out) (kRC_ HO_7.out) (by decide)) hk (fun _ h=>h.2)) (fun _ h=>h.1));replace BK471:=Aside0.mk (KeepBut.blk hk (bkC_ BK471.out) NB471_0.out (by simp));replace HK:=Aside0.mk (KeepBut.trans (h_HK HK.out) hk (.inl rfl));replace HB:=Aside0.mk (hb);replace HI0:=Aside0.mk (hi);(try clear hb);(try clear hb2);(try clear hk);(try clear hi))|((with_reducible refine gate_builtin (b:=.append) (xs:=#[.tmp 23,.tmp 27]) rfl ?_);at_builtin;refine Kd.R_append (Kd.int .i64) w.heap.size rfl (.tmp 23) (.tmp 27) 22 3 (.int .i64 0) 8 rfl Tryz.underlying22 info3 rfl (by decide) (by omega) u7 x7_1 t484 [.int .i64 t484] (fun _=>True) (fun _=>False) rfl rfl ?aP (fun _ hk=>hk.elim) ?aF ?aO (Below.refl _ _) ?aS ?aL ?_;(case aP=>exact rfl);(case aF=>exact (fun _ _=>trivial));(case aO=>exact (kRC_ HO_7.out));(case aS=>exact (keep_size (w:=w) (g:=g) (row:=none) (h_HK HK.out)));(case aL=>have:=LMc15.out;omega);intro v488 w17 ho hb hg hat;rw [← Ny487.out] at ho;replace BK471:=Aside0.mk (blk_grown (bkC_ BK471.out) hg (Kd.R_ne HO_7.out BK471.out (by decide)));replace HI0:=Aside0.mk (IsS94.grown (h_HI0 HI0.out) hg (IsS94.own_ne HI0.out HO_7.out (by decide)));replace HB:=Aside0.mk (below_weaken (h_HB HB.out) HL.out hb);replace HK:=Aside0.mk (KeepBut.trans (h_HK HK.out) (KeepBut.of_grown hg g) (Kd.R_base2 HO_7.out));have HO489:=Aside0.mk (ho);clear HO_7;clear ho hb hg hat))
  go_roundg k1
  case measure=>have:=HK1.out;omega
  case rel=>exact ⟨(y487),(wrap64 (x8_1+1)),(t485),(t486),sT_,H',⟨by have:=HK1.out;omega⟩,⟨kRC_ HO489.out⟩,⟨bkC_ BK471.out⟩,⟨h_HI0 HI0.out⟩,⟨h_HK HK.out⟩,⟨h_HB HB.out⟩⟩
 ·rw [if_neg c15] at H
  exact absurd H (by simp)
/-! ### spec_l4Draw: function 103 -/
def spec_l4Draw.f (k:Nat) (s0_0:List Int) (s0_1:Int) (s0_2:Int) (a1:Int):Option (Int × List Int × Int × Int):=(spec_l1Below.f s0_0 s0_1 s0_2 6).bind fun bt495=>(if bt495.1=0 then ((spec_l1Below.f s0_0 bt495.2.1 bt495.2.2 (wrap64 (a1+1))).bind fun bt498=>((spec_l1Below.f s0_0 bt498.2.1 bt498.2.2 (wrap64 (bt498.1+1))).bind fun bt501=>((spec_Uniform.f k bt501.1 bt498.1).bind fun bt504=>(some (bt504.1,bt504.2,bt501.2.1,bt501.2.2))))) else (if bt495.1=1 then ((spec_l4Named.f k s0_0 bt495.2.1 bt495.2.2).bind fun bt508=>(if bt508.1≤a1 then (some (bt508.1,bt508.2.1,bt508.2.2.1,bt508.2.2.2)) else ((spec_l1Below.f s0_0 bt508.2.2.1 bt508.2.2.2 (wrap64 (a1+1))).bind fun bt515=>((spec_l4Columns.f k s0_0 bt515.2.1 bt515.2.2 bt515.1).bind fun bt518=>(some (bt518.1,bt518.2.1,bt518.2.2.1,bt518.2.2.2)))))) else ((spec_l1Below.f s0_0 bt495.2.1 bt495.2.2 (wrap64 (a1+1))).bind fun bt524=>((spec_l4Columns.f k s0_0 bt524.2.1 bt524.2.2 bt524.1).bind fun bt527=>(some (bt527.1,bt527.2.1,bt527.2.2.1,bt527.2.2.2))))))
set_option maxHeartbeats 8000000 in
set_option maxRecDepth 100000 in
theorem spec_l4Draw.calls (k:Nat) (g:Nat) (s0_0:List Int) (s0_1:Int) (s0_2:Int) (a1:Int) (r1:Int) (r2:List Int) (r3:Int) (r4:Int) (w0 w:World) (hI:IsS94 w0 w g s0_0 s0_1 s0_2) (hB:Below w0.heap.size w0 w) (h:spec_l4Draw.f k s0_0 s0_1 s0_2 a1=some (r1,r2,r3,r4)) :
    Calls Tryz.prog 103 #[.pointer (some ⟨g,0,none⟩),.int .i64 a1] w fun e w'=>∃ v1_:Value,e=.returned (.agg #[.int .i64 r1,v1_])∧Kd.R (Kd.int .i64) 3 w' w.heap.size (fun _=>True) v1_ r2∧IsS94 w0 w' g s0_0 r3 r4∧Below w0.heap.size w0 w'∧KeepBut w w' g none:=by
 have hu24:=Tryz.underlying24
 have HI0:=Aside0.mk hI
 have HK:=Aside0.mk (KeepBut.refl w g none)
 have HL:=Aside0.mk hB.size
 clear hI
 have HW0:=Aside0.mk hB.size
 have HB:=Aside0.mk hB
 clear hB
 unfold spec_l4Draw.f at h
 have H:=h
 clear h
 replace H:=bnd_ H;obtain ⟨⟨t495,t496,t497⟩,A3,H⟩:=H;dsimp only at H
 by_cases c4:t495=0
 ·rw [if_pos c4] at H
  have c4b0:(t495==0)=true:=beq_iff_eq.mpr c4
  have c4b1:(t495 != 0)=false:=bne_eq_false_iff_eq.mpr c4
  clear c4
  replace H:=bnd_ H;obtain ⟨⟨t498,t499,t500⟩,A5,H⟩:=H;dsimp only at H
  replace H:=bnd_ H;obtain ⟨⟨t501,t502,t503⟩,A6,H⟩:=H;dsimp only at H
  replace H:=bnd_ H;obtain ⟨⟨t504,t505⟩,A7,H⟩:=H;dsimp only at H
  simp only [Option.some.injEq,Prod.mk.injEq] at H
  obtain ⟨rfl,rfl,rfl,rfl⟩:=H
  go_enter Tryz.func103,Tryz.ntmps103
  go_wp2_with (first|((with_reducible refine gate_dst (N:=4) rfl ?_);refine bx_ (N:=4) (cs:=#[.int .i64 0,.slice none 0 0]) (t:=24) ?_;intro gb494 hg w8 hbox hb;replace HB:=Aside0.mk (below_step (h_HB HB.out) hb);have BK494:=Aside0.mk (hbox);have GW494:=Aside0.mk ((by rw [hg];exact (keep_size (w:=w) (g:=g) (row:=none) (h_HK HK.out)):w.heap.size≤gb494));have GE494:=Aside0.mk ((Nat.le_trans HW0.out (by rw [hg];exact (keep_size (w:=w) (g:=g) (row:=none) (h_HK HK.out)):w.heap.size≤gb494):w0.heap.size≤gb494));replace HK:=Aside0.mk (KeepBut.trans (h_HK HK.out) (KeepBut.of_below hb g none) (.inl rfl));have NB0_494:=Aside0.mk ((by rw [hg];exact Nat.ne_of_lt (IsS94.lt (show IsS94 w0 _ g s0_0 s0_1 s0_2 from h_HI0 HI0.out)):g≠gb494));have NB494_0:=Aside0.mk ((by rw [hg];exact Nat.ne_of_gt (IsS94.lt (show IsS94 w0 _ g s0_0 s0_1 s0_2 from h_HI0 HI0.out)):gb494≠g));replace HI0:=Aside0.mk (IsS94.below (h_HI0 HI0.out) hb);clear hb hbox hg)|((with_reducible refine gate_callee (f:=70) rfl ?_);refine goesL_ (some 8) rfl rfl Tryz.func70 krT_ rfl #[.pointer (some ⟨g,0,none⟩),.int .i64 6] rfl agT_ ?_;(with_reducible refine (spec_l1Below.calls g s0_0 s0_1 s0_2 6 t495 t496 t497 w0 _ ?side1 ?side2 A3.out).mono ?_);(case side1=>exact h_HI0 HI0.out);(case side2=>exact h_HB HB.out);rintro e w9 ⟨rfl,hi,hb,hk⟩;refine ⟨_,rfl,?_⟩;replace BK494:=Aside0.mk (KeepBut.blk hk (bkC_ BK494.out) NB494_0.out (by simp));replace HK:=Aside0.mk (KeepBut.trans (h_HK HK.out) hk (.inl rfl));replace HB:=Aside0.mk (hb);replace HI0:=Aside0.mk (hi);(try clear hb);(try clear hb2);(try clear hk);(try clear hi))|((with_reducible refine gate_callee (f:=70) rfl ?_);refine goesL_ (some 14) rfl rfl Tryz.func70 krT_ rfl #[.pointer (some ⟨g,0,none⟩),.int .i64 (wrap64 (a1+1))] rfl agT_ ?_;(with_reducible refine (spec_l1Below.calls g s0_0 t496 t497 (wrap64 (a1+1)) t498 t499 t500 w0 _ ?side1 ?side2 A5.out).mono ?_);(case side1=>exact h_HI0 HI0.out);(case side2=>exact h_HB HB.out);rintro e w10 ⟨rfl,hi,hb,hk⟩;refine ⟨_,rfl,?_⟩;replace BK494:=Aside0.mk (KeepBut.blk hk (bkC_ BK494.out) NB494_0.out (by simp));replace HK:=Aside0.mk (KeepBut.trans (h_HK HK.out) hk (.inl rfl));replace HB:=Aside0.mk (hb);replace HI0:=Aside0.mk (hi);(try clear hb);(try clear hb2);(try clear hk);(try clear hi))|((with_reducible refine gate_callee (f:=70) rfl ?_);refine goesL_ (some 18) rfl rfl Tryz.func70 krT_ rfl #[.pointer (some ⟨g,0,none⟩),.int .i64 (wrap64 (t498+1))] rfl agT_ ?_;(with_reducible refine (spec_l1Below.calls g s0_0 t499 t500 (wrap64 (t498+1)) t501 t502 t503 w0 _ ?side1 ?side2 A6.out).mono ?_);(case side1=>exact h_HI0 HI0.out);(case side2=>exact h_HB HB.out);rintro e w11 ⟨rfl,hi,hb,hk⟩;refine ⟨_,rfl,?_⟩;replace BK494:=Aside0.mk (KeepBut.blk hk (bkC_ BK494.out) NB494_0.out (by simp));replace HK:=Aside0.mk (KeepBut.trans (h_HK HK.out) hk (.inl rfl));replace HB:=Aside0.mk (hb);replace HI0:=Aside0.mk (hi);(try clear hb);(try clear hb2);(try clear hk);(try clear hi))|((with_reducible refine gate_callee (f:=49) rfl ?_);refine goesL_ (some 20) rfl rfl Tryz.func49 krT_ rfl #[.int .i64 t501,.int .i64 t498] rfl agT_ ?_;(with_reducible refine (spec_Uniform.calls k t501 t498 t504 t505 _ A7.out).mono ?_);rintro e w12 ⟨v506,rfl,ho0,hb⟩;refine ⟨_,rfl,?_⟩;have HO507:=Aside0.mk (Kd.R_lower ho0 (keep_size (w:=w) (g:=g) (row:=none) (h_HK HK.out)));replace HI0:=Aside0.mk (IsS94.below (h_HI0 HI0.out) hb);replace BK494:=Aside0.mk (blkB_ BK494.out hb);replace HK:=Aside0.mk (KeepBut.trans (h_HK HK.out) (KeepBut.of_below hb g none) (.inl rfl));replace HB:=Aside0.mk (below_step (h_HB HB.out) hb);(try clear hb);(try clear hb2);(try clear hk);(try clear hi);(try clear ho0);have hnb13:=NB494_0.out;have hnc13:=NB0_494.out;obtain ⟨hcz14_0,hcz14_1,hfz14_0,hfz14_1⟩:=bz2_ BK494.out;obtain ⟨Ao15,co15,eo15⟩:=Kd.R_slice HO507.out;subst eo15))
  refine bodyPost_ret (results_cell_row rfl _ _ gb494 24 #[.int .i64 t504,.slice Ao15 t505.length co15] (0,0) _ rfl (by (with_reducible repeat (first|refine blk_drewN ?_ _|refine blk_drew ?_|refine blk_alloc ?_ _));refine blk_put (cs:=#[.int .i64 t504,.slice none 0 0]) ?_ 1 _ rfl;(with_reducible repeat (first|refine blk_drewN ?_ _|refine blk_drew ?_|refine blk_alloc ?_ _));refine blk_put (cs:=#[.int .i64 0,.slice none 0 0]) ?_ 0 _ rfl;exact bkC_ BK494.out) Tryz.underlying24 rfl krT_) rfl ?_
  exact ⟨_,eT_,by (with_reducible repeat (first|apply Kd.R_alloc|apply Kd.R_drewN|apply Kd.R_drew));exact Kd.R_mono (Kd.R_far (p:=⟨gb494,1,none⟩) (Kd.R_far (p:=⟨gb494,0,none⟩) (Kd.R_types HO507.out BK494.out (by decide)) (fun _ hk=>hk.2) (.int .i64 t504)) (fun _ hk=>hk.2) (.slice Ao15 t505.length co15)) (fun _ hk=>trivial),h_HI0 HI0.out,h_HB HB.out,h_HK HK.out⟩
 rw [if_neg c4] at H
 have c4b0:(t495==0)=false:=beq_eq_false_iff_ne.mpr c4
 have c4b1:(t495 != 0)=true:=bne_iff_ne.mpr c4
 by_cases c16:t495=1
 ·rw [if_pos c16] at H
  have c16b0:(t495==1)=true:=beq_iff_eq.mpr c16
  have c16b1:(t495 != 1)=false:=bne_eq_false_iff_eq.mpr c16
  clear c16
  replace H:=bnd_ H;obtain ⟨⟨t508,t509,t512,t513⟩,A17,H⟩:=H;dsimp only at H
  rcases gsb_ H with ⟨c18b0,H⟩|⟨c18b0,H⟩
  ·simp only [Option.some.injEq,Prod.mk.injEq] at H
   obtain ⟨rfl,rfl,rfl,rfl⟩:=H
   go_enter Tryz.func103,Tryz.ntmps103
   go_wp2_with (first|((with_reducible refine gate_dst (N:=4) rfl ?_);refine bx_ (N:=4) (cs:=#[.int .i64 0,.slice none 0 0]) (t:=24) ?_;intro gb494 hg w19 hbox hb;replace HB:=Aside0.mk (below_step (h_HB HB.out) hb);have BK494:=Aside0.mk (hbox);have GW494:=Aside0.mk ((by rw [hg];exact (keep_size (w:=w) (g:=g) (row:=none) (h_HK HK.out)):w.heap.size≤gb494));have GE494:=Aside0.mk ((Nat.le_trans HW0.out (by rw [hg];exact (keep_size (w:=w) (g:=g) (row:=none) (h_HK HK.out)):w.heap.size≤gb494):w0.heap.size≤gb494));replace HK:=Aside0.mk (KeepBut.trans (h_HK HK.out) (KeepBut.of_below hb g none) (.inl rfl));have NB0_494:=Aside0.mk ((by rw [hg];exact Nat.ne_of_lt (IsS94.lt (show IsS94 w0 _ g s0_0 s0_1 s0_2 from h_HI0 HI0.out)):g≠gb494));have NB494_0:=Aside0.mk ((by rw [hg];exact Nat.ne_of_gt (IsS94.lt (show IsS94 w0 _ g s0_0 s0_1 s0_2 from h_HI0 HI0.out)):gb494≠g));replace HI0:=Aside0.mk (IsS94.below (h_HI0 HI0.out) hb);clear hb hbox hg)|((with_reducible refine gate_callee (f:=70) rfl ?_);refine goesL_ (some 8) rfl rfl Tryz.func70 krT_ rfl #[.pointer (some ⟨g,0,none⟩),.int .i64 6] rfl agT_ ?_;(with_reducible refine (spec_l1Below.calls g s0_0 s0_1 s0_2 6 t495 t496 t497 w0 _ ?side1 ?side2 A3.out).mono ?_);(case side1=>exact h_HI0 HI0.out);(case side2=>exact h_HB HB.out);rintro e w20 ⟨rfl,hi,hb,hk⟩;refine ⟨_,rfl,?_⟩;replace BK494:=Aside0.mk (KeepBut.blk hk (bkC_ BK494.out) NB494_0.out (by simp));replace HK:=Aside0.mk (KeepBut.trans (h_HK HK.out) hk (.inl rfl));replace HB:=Aside0.mk (hb);replace HI0:=Aside0.mk (hi);(try clear hb);(try clear hb2);(try clear hk);(try clear hi))|((with_reducible refine gate_callee (f:=125) rfl ?_);refine goesL_ (some 24) rfl rfl Tryz.func125 krT_ rfl #[.pointer (some ⟨g,0,none⟩)] rfl agT_ ?_;(with_reducible refine (spec_l4Named.calls k g s0_0 t496 t497 t508 t509 t512 t513 w0 _ ?side1 ?side2 A17.out).mono ?_);(case side1=>exact h_HI0 HI0.out);(case side2=>exact h_HB HB.out);rintro e w21 ⟨v510,rfl,ho0,hi,hb,hk⟩;refine ⟨_,rfl,?_⟩;replace BK494:=Aside0.mk (KeepBut.blk hk (bkC_ BK494.out) NB494_0.out (by simp));have HO511:=Aside0.mk (Kd.R_lower ho0 (keep_size (w:=w) (g:=g) (row:=none) (h_HK HK.out)));replace HK:=Aside0.mk (KeepBut.trans (h_HK HK.out) hk (.inl rfl));replace HB:=Aside0.mk (hb);replace HI0:=Aside0.mk (hi);(try clear hb);(try clear hb2);(try clear hk);(try clear hi);(try clear ho0))|((with_reducible refine gate_dst (N:=6) rfl ?_);refine bx_ (N:=6) (cs:=#[.int .i64 0,.slice none 0 0]) (t:=24) ?_;intro gb514 hg w22 hbox hb;have n0_:=Aside0.mk (Kd.R_below (kRC_ HO511.out) hb);have n1_:=Aside0.mk (IsS94.below (h_HI0 HI0.out) hb);have n2_:=Aside0.mk (blkB_ BK494.out hb);have n3_:=Aside0.mk (KeepBut.trans (h_HK HK.out) (KeepBut.of_below hb g none) (.inl rfl));have n4_:=Aside0.mk (below_step (h_HB HB.out) hb);have n5_:=Aside0.mk (hbox);have n6_:=Aside0.mk ((by rw [hg];exact (keep_size (w:=w) (g:=g) (row:=none) (h_HK HK.out)):w.heap.size≤gb514));have n7_:=Aside0.mk ((Nat.le_trans HW0.out (by rw [hg];exact (keep_size (w:=w) (g:=g) (row:=none) (h_HK HK.out)):w.heap.size≤gb514):w0.heap.size≤gb514));have n8_:=Aside0.mk (nbl_ hg (bkC_ BK494.out));have n9_:=Aside0.mk (nbg_ hg (bkC_ BK494.out));have n10_:=Aside0.mk ((by rw [hg];exact Nat.ne_of_lt (IsS94.lt (show IsS94 w0 _ g s0_0 t512 t513 from h_HI0 HI0.out)):g≠gb514));have n11_:=Aside0.mk ((by rw [hg];exact Nat.ne_of_gt (IsS94.lt (show IsS94 w0 _ g s0_0 t512 t513 from h_HI0 HI0.out)):gb514≠g));clear HO511;clear HI0;clear BK494;clear HK;clear HB;have HO511:=n0_;have HI0:=n1_;have BK494:=n2_;have HK:=n3_;have HB:=n4_;have BK514:=n5_;have GW514:=n6_;have GE514:=n7_;have NB494_514:=n8_;have NB514_494:=n9_;have NB0_514:=n10_;have NB514_0:=n11_;clear n0_ n1_ n2_ n3_ n4_ n5_ n6_ n7_ n8_ n9_ n10_ n11_;clear hb hbox hg;have hnb23:=NB514_494.out;have hnc23:=NB494_514.out;have hnb24:=NB514_0.out;have hnc24:=NB0_514.out;obtain ⟨hcz25_0,hcz25_1,hfz25_0,hfz25_1⟩:=bz2_ BK514.out;obtain ⟨Ao26,co26,eo26⟩:=Kd.R_slice HO511.out;subst eo26;have hnb27:=NB494_0.out;have hnc27:=NB0_494.out;obtain ⟨hcz28_0,hcz28_1,hfz28_0,hfz28_1⟩:=bz2_ BK494.out))
   refine bodyPost_ret (results_cell_row rfl _ _ gb494 24 #[.int .i64 t508,.slice Ao26 t509.length co26] (0,0) _ rfl (by (with_reducible repeat (first|refine blk_drewN ?_ _|refine blk_drew ?_|refine blk_alloc ?_ _));refine blk_put (cs:=#[.int .i64 t508,.slice none 0 0]) ?_ 1 _ rfl;(with_reducible repeat (first|refine blk_drewN ?_ _|refine blk_drew ?_|refine blk_alloc ?_ _));refine blk_put (cs:=#[.int .i64 0,.slice none 0 0]) ?_ 0 _ rfl;exact bkC_ BK494.out) Tryz.underlying24 rfl krT_) rfl ?_
   exact ⟨_,eT_,by (with_reducible repeat (first|apply Kd.R_alloc|apply Kd.R_drewN|apply Kd.R_drew));exact Kd.R_mono (Kd.R_far (p:=⟨gb494,1,none⟩) (Kd.R_far (p:=⟨gb494,0,none⟩) (Kd.R_far (p:=⟨gb514,1,none⟩) (Kd.R_far (p:=⟨gb514,0,none⟩) (Kd.R_types (Kd.R_types HO511.out BK514.out (by decide)) BK494.out (by decide)) (fun _ hk=>hk.1.2) (.int .i64 t508)) (fun _ hk=>hk.1.2) (.slice Ao26 t509.length co26)) (fun _ hk=>hk.2) (.int .i64 t508)) (fun _ hk=>hk.2) (.slice Ao26 t509.length co26)) (fun _ hk=>trivial),h_HI0 HI0.out,h_HB HB.out,h_HK HK.out⟩
  replace H:=bnd_ H;obtain ⟨⟨t515,t516,t517⟩,A29,H⟩:=H;dsimp only at H
  replace H:=bnd_ H;obtain ⟨⟨t518,t519,t522,t523⟩,A30,H⟩:=H;dsimp only at H
  simp only [Option.some.injEq,Prod.mk.injEq] at H
  obtain ⟨rfl,rfl,rfl,rfl⟩:=H
  go_enter Tryz.func103,Tryz.ntmps103
  go_wp2_with (first|((with_reducible refine gate_dst (N:=4) rfl ?_);refine bx_ (N:=4) (cs:=#[.int .i64 0,.slice none 0 0]) (t:=24) ?_;intro gb494 hg w31 hbox hb;replace HB:=Aside0.mk (below_step (h_HB HB.out) hb);have BK494:=Aside0.mk (hbox);have GW494:=Aside0.mk ((by rw [hg];exact (keep_size (w:=w) (g:=g) (row:=none) (h_HK HK.out)):w.heap.size≤gb494));have GE494:=Aside0.mk ((Nat.le_trans HW0.out (by rw [hg];exact (keep_size (w:=w) (g:=g) (row:=none) (h_HK HK.out)):w.heap.size≤gb494):w0.heap.size≤gb494));replace HK:=Aside0.mk (KeepBut.trans (h_HK HK.out) (KeepBut.of_below hb g none) (.inl rfl));have NB0_494:=Aside0.mk ((by rw [hg];exact Nat.ne_of_lt (IsS94.lt (show IsS94 w0 _ g s0_0 s0_1 s0_2 from h_HI0 HI0.out)):g≠gb494));have NB494_0:=Aside0.mk ((by rw [hg];exact Nat.ne_of_gt (IsS94.lt (show IsS94 w0 _ g s0_0 s0_1 s0_2 from h_HI0 HI0.out)):gb494≠g));replace HI0:=Aside0.mk (IsS94.below (h_HI0 HI0.out) hb);clear hb hbox hg)|((with_reducible refine gate_callee (f:=70) rfl ?_);refine goesL_ (some 8) rfl rfl Tryz.func70 krT_ rfl #[.pointer (some ⟨g,0,none⟩),.int .i64 6] rfl agT_ ?_;(with_reducible refine (spec_l1Below.calls g s0_0 s0_1 s0_2 6 t495 t496 t497 w0 _ ?side1 ?side2 A3.out).mono ?_);(case side1=>exact h_HI0 HI0.out);(case side2=>exact h_HB HB.out);rintro e w32 ⟨rfl,hi,hb,hk⟩;refine ⟨_,rfl,?_⟩;replace BK494:=Aside0.mk (KeepBut.blk hk (bkC_ BK494.out) NB494_0.out (by simp));replace HK:=Aside0.mk (KeepBut.trans (h_HK HK.out) hk (.inl rfl));replace HB:=Aside0.mk (hb);replace HI0:=Aside0.mk (hi);(try clear hb);(try clear hb2);(try clear hk);(try clear hi))|((with_reducible refine gate_callee (f:=125) rfl ?_);refine goesL_ (some 24) rfl rfl Tryz.func125 krT_ rfl #[.pointer (some ⟨g,0,none⟩)] rfl agT_ ?_;(with_reducible refine (spec_l4Named.calls k g s0_0 t496 t497 t508 t509 t512 t513 w0 _ ?side1 ?side2 A17.out).mono ?_);(case side1=>exact h_HI0 HI0.out);(case side2=>exact h_HB HB.out);rintro e w33 ⟨v510,rfl,ho0,hi,hb,hk⟩;refine ⟨_,rfl,?_⟩;replace BK494:=Aside0.mk (KeepBut.blk hk (bkC_ BK494.out) NB494_0.out (by simp));have HO511:=Aside0.mk (Kd.R_lower ho0 (keep_size (w:=w) (g:=g) (row:=none) (h_HK HK.out)));replace HK:=Aside0.mk (KeepBut.trans (h_HK HK.out) hk (.inl rfl));replace HB:=Aside0.mk (hb);replace HI0:=Aside0.mk (hi);(try clear hb);(try clear hb2);(try clear hk);(try clear hi);(try clear ho0))|((with_reducible refine gate_dst (N:=6) rfl ?_);refine bx_ (N:=6) (cs:=#[.int .i64 0,.slice none 0 0]) (t:=24) ?_;intro gb514 hg w34 hbox hb;have n0_:=Aside0.mk (Kd.R_below (kRC_ HO511.out) hb);have n1_:=Aside0.mk (IsS94.below (h_HI0 HI0.out) hb);have n2_:=Aside0.mk (blkB_ BK494.out hb);have n3_:=Aside0.mk (KeepBut.trans (h_HK HK.out) (KeepBut.of_below hb g none) (.inl rfl));have n4_:=Aside0.mk (below_step (h_HB HB.out) hb);have n5_:=Aside0.mk (hbox);have n6_:=Aside0.mk ((by rw [hg];exact (keep_size (w:=w) (g:=g) (row:=none) (h_HK HK.out)):w.heap.size≤gb514));have n7_:=Aside0.mk ((Nat.le_trans HW0.out (by rw [hg];exact (keep_size (w:=w) (g:=g) (row:=none) (h_HK HK.out)):w.heap.size≤gb514):w0.heap.size≤gb514));have n8_:=Aside0.mk (nbl_ hg (bkC_ BK494.out));have n9_:=Aside0.mk (nbg_ hg (bkC_ BK494.out));have n10_:=Aside0.mk ((by rw [hg];exact Nat.ne_of_lt (IsS94.lt (show IsS94 w0 _ g s0_0 t512 t513 from h_HI0 HI0.out)):g≠gb514));have n11_:=Aside0.mk ((by rw [hg];exact Nat.ne_of_gt (IsS94.lt (show IsS94 w0 _ g s0_0 t512 t513 from h_HI0 HI0.out)):gb514≠g));clear HO511;clear HI0;clear BK494;clear HK;clear HB;have HO511:=n0_;have HI0:=n1_;have BK494:=n2_;have HK:=n3_;have HB:=n4_;have BK514:=n5_;have GW514:=n6_;have GE514:=n7_;have NB494_514:=n8_;have NB514_494:=n9_;have NB0_514:=n10_;have NB514_0:=n11_;clear n0_ n1_ n2_ n3_ n4_ n5_ n6_ n7_ n8_ n9_ n10_ n11_;clear hb hbox hg;have hnb35:=NB514_494.out;have hnc35:=NB494_514.out;have hnb36:=NB514_0.out;have hnc36:=NB0_514.out;obtain ⟨hcz37_0,hcz37_1,hfz37_0,hfz37_1⟩:=bz2_ BK514.out;obtain ⟨Ao38,co38,eo38⟩:=Kd.R_slice HO511.out;subst eo38)|((with_reducible refine gate_callee (f:=70) rfl ?_);refine goesL_ (some 34) rfl rfl Tryz.func70 krT_ rfl #[.pointer (some ⟨g,0,none⟩),.int .i64 (wrap64 (a1+1))] rfl agT_ ?_;(with_reducible refine (spec_l1Below.calls g s0_0 t512 t513 (wrap64 (a1+1)) t515 t516 t517 w0 _ ?side1 ?side2 A29.out).mono ?_);(case side1=>exact h_HI0 HI0.out);(case side2=>exact h_HB HB.out);rintro e w39 ⟨rfl,hi,hb,hk⟩;refine ⟨_,rfl,?_⟩;replace BK494:=Aside0.mk (KeepBut.blk hk (bkC_ BK494.out) NB494_0.out (by simp));replace HO511:=Aside0.mk (Kd.R_mono (Kd.R_keep (IsS94.apart (show IsS94 w0 _ g s0_0 t512 t513 from h_HI0 HI0.out) (by (with_reducible repeat (first|apply Kd.R_alloc|apply Kd.R_drewN|apply Kd.R_drew));exact (Kd.R_mono (Kd.R_far (p:=⟨gb514,1,none⟩) (Kd.R_far (p:=⟨gb514,0,none⟩) (Kd.R_types HO511.out BK514.out (by decide)) (fun _ hk=>hk.2) (.int .i64 t508)) (fun _ hk=>hk.2) (.slice Ao38 t509.length co38)) (fun _ h_=>h_.1))) (by decide)) hk (fun _ h=>h.2)) (fun _ h=>h.1));replace BK514:=Aside0.mk (KeepBut.blk hk (g':=gb514) (o:=.cells #[.int .i64 t508,.slice Ao38 t509.length co38] 24 (0,0)) (by (with_reducible repeat (first|refine blk_drewN ?_ _|refine blk_drew ?_|refine blk_alloc ?_ _));refine blk_put (cs:=#[.int .i64 t508,.slice none 0 0]) ?_ 1 _ rfl;(with_reducible repeat (first|refine blk_drewN ?_ _|refine blk_drew ?_|refine blk_alloc ?_ _));refine blk_put (cs:=#[.int .i64 0,.slice none 0 0]) ?_ 0 _ rfl;exact bkC_ BK514.out) NB514_0.out (by simp));replace HK:=Aside0.mk (KeepBut.trans (h_HK HK.out) hk (.inl rfl));replace HB:=Aside0.mk (hb);replace HI0:=Aside0.mk (hi);(try clear hb);(try clear hb2);(try clear hk);(try clear hi))|((with_reducible refine gate_callee (f:=126) rfl ?_);refine goesL_ (some 35) rfl rfl Tryz.func126 krT_ rfl #[.pointer (some ⟨g,0,none⟩),.int .i64 t515] rfl agT_ ?_;(with_reducible refine (spec_l4Columns.calls k g s0_0 t516 t517 t515 t518 t519 t522 t523 w0 _ ?side1 ?side2 A30.out).mono ?_);(case side1=>exact h_HI0 HI0.out);(case side2=>exact h_HB HB.out);rintro e w40 ⟨v520,rfl,ho0,hi,hb,hk⟩;refine ⟨_,rfl,?_⟩;replace BK494:=Aside0.mk (KeepBut.blk hk (bkC_ BK494.out) NB494_0.out (by simp));replace BK514:=Aside0.mk (KeepBut.blk hk (bkC_ BK514.out) NB514_0.out (by simp));have HO521:=Aside0.mk (Kd.R_lower (Kd.R_new' ho0 (Kd.R_lt (kRC_ HO511.out))) (keep_size (w:=w) (g:=g) (row:=none) (h_HK HK.out)));replace HO511:=Aside0.mk (Kd.R_mono (Kd.R_told (Kd.R_oldK (IsS94.apart (show IsS94 w0 _ g s0_0 t516 t517 from h_HI0 HI0.out) (kRC_ HO511.out) (by decide)) hk) (Kd.R_base ho0)) (fun _ h_=>h_.1));replace HK:=Aside0.mk (KeepBut.trans (h_HK HK.out) hk (.inl rfl));replace HB:=Aside0.mk (hb);replace HI0:=Aside0.mk (hi);(try clear hb);(try clear hb2);(try clear hk);(try clear hi);(try clear ho0);have hnb41:=NB494_0.out;have hnc41:=NB0_494.out;obtain ⟨hcz42_0,hcz42_1,hfz42_0,hfz42_1⟩:=bz2_ BK494.out;obtain ⟨Ao43,co43,eo43⟩:=Kd.R_slice HO521.out;subst eo43))
  refine bodyPost_ret (results_cell_row rfl _ _ gb494 24 #[.int .i64 t518,.slice Ao43 t519.length co43] (0,0) _ rfl (by (with_reducible repeat (first|refine blk_drewN ?_ _|refine blk_drew ?_|refine blk_alloc ?_ _));refine blk_put (cs:=#[.int .i64 t518,.slice none 0 0]) ?_ 1 _ rfl;(with_reducible repeat (first|refine blk_drewN ?_ _|refine blk_drew ?_|refine blk_alloc ?_ _));refine blk_put (cs:=#[.int .i64 0,.slice none 0 0]) ?_ 0 _ rfl;exact bkC_ BK494.out) Tryz.underlying24 rfl krT_) rfl ?_
  exact ⟨_,eT_,by (with_reducible repeat (first|apply Kd.R_alloc|apply Kd.R_drewN|apply Kd.R_drew));exact Kd.R_mono (Kd.R_far (p:=⟨gb494,1,none⟩) (Kd.R_far (p:=⟨gb494,0,none⟩) (Kd.R_types HO521.out BK494.out (by decide)) (fun _ hk=>hk.2) (.int .i64 t518)) (fun _ hk=>hk.2) (.slice Ao43 t519.length co43)) (fun _ hk=>trivial),h_HI0 HI0.out,h_HB HB.out,h_HK HK.out⟩
 ·rw [if_neg c16] at H
  have c16b0:(t495==1)=false:=beq_eq_false_iff_ne.mpr c16
  have c16b1:(t495 != 1)=true:=bne_iff_ne.mpr c16
  replace H:=bnd_ H;obtain ⟨⟨t524,t525,t526⟩,A44,H⟩:=H;dsimp only at H
  replace H:=bnd_ H;obtain ⟨⟨t527,t528,t531,t532⟩,A45,H⟩:=H;dsimp only at H
  simp only [Option.some.injEq,Prod.mk.injEq] at H
  obtain ⟨rfl,rfl,rfl,rfl⟩:=H
  go_enter Tryz.func103,Tryz.ntmps103
  go_wp2_with (first|((with_reducible refine gate_dst (N:=4) rfl ?_);refine bx_ (N:=4) (cs:=#[.int .i64 0,.slice none 0 0]) (t:=24) ?_;intro gb494 hg w46 hbox hb;replace HB:=Aside0.mk (below_step (h_HB HB.out) hb);have BK494:=Aside0.mk (hbox);have GW494:=Aside0.mk ((by rw [hg];exact (keep_size (w:=w) (g:=g) (row:=none) (h_HK HK.out)):w.heap.size≤gb494));have GE494:=Aside0.mk ((Nat.le_trans HW0.out (by rw [hg];exact (keep_size (w:=w) (g:=g) (row:=none) (h_HK HK.out)):w.heap.size≤gb494):w0.heap.size≤gb494));replace HK:=Aside0.mk (KeepBut.trans (h_HK HK.out) (KeepBut.of_below hb g none) (.inl rfl));have NB0_494:=Aside0.mk ((by rw [hg];exact Nat.ne_of_lt (IsS94.lt (show IsS94 w0 _ g s0_0 s0_1 s0_2 from h_HI0 HI0.out)):g≠gb494));have NB494_0:=Aside0.mk ((by rw [hg];exact Nat.ne_of_gt (IsS94.lt (show IsS94 w0 _ g s0_0 s0_1 s0_2 from h_HI0 HI0.out)):gb494≠g));replace HI0:=Aside0.mk (IsS94.below (h_HI0 HI0.out) hb);clear hb hbox hg)|((with_reducible refine gate_callee (f:=70) rfl ?_);refine goesL_ (some 8) rfl rfl Tryz.func70 krT_ rfl #[.pointer (some ⟨g,0,none⟩),.int .i64 6] rfl agT_ ?_;(with_reducible refine (spec_l1Below.calls g s0_0 s0_1 s0_2 6 t495 t496 t497 w0 _ ?side1 ?side2 A3.out).mono ?_);(case side1=>exact h_HI0 HI0.out);(case side2=>exact h_HB HB.out);rintro e w47 ⟨rfl,hi,hb,hk⟩;refine ⟨_,rfl,?_⟩;replace BK494:=Aside0.mk (KeepBut.blk hk (bkC_ BK494.out) NB494_0.out (by simp));replace HK:=Aside0.mk (KeepBut.trans (h_HK HK.out) hk (.inl rfl));replace HB:=Aside0.mk (hb);replace HI0:=Aside0.mk (hi);(try clear hb);(try clear hb2);(try clear hk);(try clear hi))|((with_reducible refine gate_callee (f:=70) rfl ?_);refine goesL_ (some 34) rfl rfl Tryz.func70 krT_ rfl #[.pointer (some ⟨g,0,none⟩),.int .i64 (wrap64 (a1+1))] rfl agT_ ?_;(with_reducible refine (spec_l1Below.calls g s0_0 t496 t497 (wrap64 (a1+1)) t524 t525 t526 w0 _ ?side1 ?side2 A44.out).mono ?_);(case side1=>exact h_HI0 HI0.out);(case side2=>exact h_HB HB.out);rintro e w48 ⟨rfl,hi,hb,hk⟩;refine ⟨_,rfl,?_⟩;replace BK494:=Aside0.mk (KeepBut.blk hk (bkC_ BK494.out) NB494_0.out (by simp));replace HK:=Aside0.mk (KeepBut.trans (h_HK HK.out) hk (.inl rfl));replace HB:=Aside0.mk (hb);replace HI0:=Aside0.mk (hi);(try clear hb);(try clear hb2);(try clear hk);(try clear hi))|((with_reducible refine gate_callee (f:=126) rfl ?_);refine goesL_ (some 35) rfl rfl Tryz.func126 krT_ rfl #[.pointer (some ⟨g,0,none⟩),.int .i64 t524] rfl agT_ ?_;(with_reducible refine (spec_l4Columns.calls k g s0_0 t525 t526 t524 t527 t528 t531 t532 w0 _ ?side1 ?side2 A45.out).mono ?_);(case side1=>exact h_HI0 HI0.out);(case side2=>exact h_HB HB.out);rintro e w49 ⟨v529,rfl,ho0,hi,hb,hk⟩;refine ⟨_,rfl,?_⟩;replace BK494:=Aside0.mk (KeepBut.blk hk (bkC_ BK494.out) NB494_0.out (by simp));have HO530:=Aside0.mk (Kd.R_lower ho0 (keep_size (w:=w) (g:=g) (row:=none) (h_HK HK.out)));replace HK:=Aside0.mk (KeepBut.trans (h_HK HK.out) hk (.inl rfl));replace HB:=Aside0.mk (hb);replace HI0:=Aside0.mk (hi);(try clear hb);(try clear hb2);(try clear hk);(try clear hi);(try clear ho0);have hnb50:=NB494_0.out;have hnc50:=NB0_494.out;obtain ⟨hcz51_0,hcz51_1,hfz51_0,hfz51_1⟩:=bz2_ BK494.out;obtain ⟨Ao52,co52,eo52⟩:=Kd.R_slice HO530.out;subst eo52))
  refine bodyPost_ret (results_cell_row rfl _ _ gb494 24 #[.int .i64 t527,.slice Ao52 t528.length co52] (0,0) _ rfl (by (with_reducible repeat (first|refine blk_drewN ?_ _|refine blk_drew ?_|refine blk_alloc ?_ _));refine blk_put (cs:=#[.int .i64 t527,.slice none 0 0]) ?_ 1 _ rfl;(with_reducible repeat (first|refine blk_drewN ?_ _|refine blk_drew ?_|refine blk_alloc ?_ _));refine blk_put (cs:=#[.int .i64 0,.slice none 0 0]) ?_ 0 _ rfl;exact bkC_ BK494.out) Tryz.underlying24 rfl krT_) rfl ?_
  exact ⟨_,eT_,by (with_reducible repeat (first|apply Kd.R_alloc|apply Kd.R_drewN|apply Kd.R_drew));exact Kd.R_mono (Kd.R_far (p:=⟨gb494,1,none⟩) (Kd.R_far (p:=⟨gb494,0,none⟩) (Kd.R_types HO530.out BK494.out (by decide)) (fun _ hk=>hk.2) (.int .i64 t527)) (fun _ hk=>hk.2) (.slice Ao52 t528.length co52)) (fun _ hk=>trivial),h_HI0 HI0.out,h_HB HB.out,h_HK HK.out⟩
/-! ### spec_l1Once: function 73 -/
def spec_l1Once.f (s0_0:List Int) (s0_1:Int) (s0_2:Int) (a1:Int):Option (Bool × Int × Int):=(spec_l1Below.f s0_0 s0_1 s0_2 a1).bind fun bt533=>(some ((bt533.1==0),bt533.2.1,bt533.2.2))
set_option maxHeartbeats 8000000 in
set_option maxRecDepth 100000 in
theorem spec_l1Once.calls (g:Nat) (s0_0:List Int) (s0_1:Int) (s0_2:Int) (a1:Int) (r1:Bool) (r2:Int) (r3:Int) (w0 w:World) (hI:IsS94 w0 w g s0_0 s0_1 s0_2) (hB:Below w0.heap.size w0 w) (h:spec_l1Once.f s0_0 s0_1 s0_2 a1=some (r1,r2,r3)) :
    Calls Tryz.prog 73 #[.pointer (some ⟨g,0,none⟩),.int .i64 a1] w fun e w'=>e=.returned (.bool r1)∧IsS94 w0 w' g s0_0 r2 r3∧Below w0.heap.size w0 w'∧KeepBut w w' g none:=by
 have HI0:=Aside0.mk hI
 have HK:=Aside0.mk (KeepBut.refl w g none)
 have HL:=Aside0.mk hB.size
 clear hI
 have HW0:=Aside0.mk hB.size
 have HB:=Aside0.mk hB
 clear hB
 have H:((spec_l1Below.f s0_0 s0_1 s0_2 a1).bind fun bt533=>(some ((bt533.1==0),bt533.2.1,bt533.2.2)))=some (r1,r2,r3):=h
 clear h
 replace H:=bnd_ H;obtain ⟨⟨t533,t534,t535⟩,A3,H⟩:=H;dsimp only at H
 simp only [Option.some.injEq,Prod.mk.injEq] at H
 obtain ⟨rfl,rfl,rfl⟩:=H
 go_enter Tryz.func73,Tryz.ntmps73
 go_wp2_with (first|((with_reducible refine gate_callee (f:=70) rfl ?_);refine goesL_ (some 7) rfl rfl Tryz.func70 krT_ rfl #[.pointer (some ⟨g,0,none⟩),.int .i64 a1] rfl agT_ ?_;(with_reducible refine (spec_l1Below.calls g s0_0 s0_1 s0_2 a1 t533 t534 t535 w0 _ ?side1 ?side2 A3.out).mono ?_);(case side1=>exact h_HI0 HI0.out);(case side2=>exact h_HB HB.out);rintro e w4 ⟨rfl,hi,hb,hk⟩;refine ⟨_,rfl,?_⟩;replace HK:=Aside0.mk (KeepBut.trans (h_HK HK.out) hk (.inl rfl));replace HB:=Aside0.mk (hb);replace HI0:=Aside0.mk (hi);(try clear hb);(try clear hb2);(try clear hk);(try clear hi)))
 go_ret
 exact ⟨eT_,h_HI0 HI0.out,h_HB HB.out,h_HK HK.out⟩
/-! ### spec_l2Draw: function 131 -/
def spec_l2Draw.f (s0_0:List Int) (s0_1:Int) (s0_2:Int):Option (Int × Int × Int):=(spec_l1Below.f s0_0 s0_1 s0_2 256).bind fun bt536=>(some (bt536.1,bt536.2.1,bt536.2.2))
set_option maxHeartbeats 8000000 in
set_option maxRecDepth 100000 in
theorem spec_l2Draw.calls (g:Nat) (s0_0:List Int) (s0_1:Int) (s0_2:Int) (r1:Int) (r2:Int) (r3:Int) (w0 w:World) (hI:IsS94 w0 w g s0_0 s0_1 s0_2) (hB:Below w0.heap.size w0 w) (h:spec_l2Draw.f s0_0 s0_1 s0_2=some (r1,r2,r3)) :
    Calls Tryz.prog 131 #[.pointer (some ⟨g,0,none⟩)] w fun e w'=>e=.returned (.int .i64 r1)∧IsS94 w0 w' g s0_0 r2 r3∧Below w0.heap.size w0 w'∧KeepBut w w' g none:=by
 have HI0:=Aside0.mk hI
 have HK:=Aside0.mk (KeepBut.refl w g none)
 have HL:=Aside0.mk hB.size
 clear hI
 have HW0:=Aside0.mk hB.size
 have HB:=Aside0.mk hB
 clear hB
 have H:((spec_l1Below.f s0_0 s0_1 s0_2 256).bind fun bt536=>(some (bt536.1,bt536.2.1,bt536.2.2)))=some (r1,r2,r3):=h
 clear h
 replace H:=bnd_ H;obtain ⟨⟨t536,t537,t538⟩,A2,H⟩:=H;dsimp only at H
 simp only [Option.some.injEq,Prod.mk.injEq] at H
 obtain ⟨rfl,rfl,rfl⟩:=H
 go_enter Tryz.func131,Tryz.ntmps131
 go_wp2_with (first|((with_reducible refine gate_callee (f:=70) rfl ?_);refine goesL_ (some 4) rfl rfl Tryz.func70 krT_ rfl #[.pointer (some ⟨g,0,none⟩),.int .i64 256] rfl agT_ ?_;(with_reducible refine (spec_l1Below.calls g s0_0 s0_1 s0_2 256 t536 t537 t538 w0 _ ?side1 ?side2 A2.out).mono ?_);(case side1=>exact h_HI0 HI0.out);(case side2=>exact h_HB HB.out);rintro e w3 ⟨rfl,hi,hb,hk⟩;refine ⟨_,rfl,?_⟩;replace HK:=Aside0.mk (KeepBut.trans (h_HK HK.out) hk (.inl rfl));replace HB:=Aside0.mk (hb);replace HI0:=Aside0.mk (hi);(try clear hb);(try clear hb2);(try clear hk);(try clear hi)))
 go_ret
 exact ⟨eT_,h_HI0 HI0.out,h_HB HB.out,h_HK HK.out⟩
/-! ### spec_l2Bent: function 115 -/
def spec_l2Bent.f (s0_0:List Int) (s0_1:Int) (s0_2:Int):Option (Int × Int × Int):=(spec_l1Once.f s0_0 s0_1 s0_2 8).bind fun bt539=>(if bt539.1=true then ((spec_l1PickInt.f s0_0 bt539.2.1 bt539.2.2 (([(-1),256,1000,(-9223372036854775808)]:List Int))).bind fun bt545=>(some (bt545.1,bt545.2.1,bt545.2.2))) else ((spec_l2Draw.f s0_0 bt539.2.1 bt539.2.2).bind fun bt548=>(some (bt548.1,bt548.2.1,bt548.2.2))))
set_option maxHeartbeats 8000000 in
set_option maxRecDepth 100000 in
theorem spec_l2Bent.calls (g:Nat) (s0_0:List Int) (s0_1:Int) (s0_2:Int) (r1:Int) (r2:Int) (r3:Int) (w0 w:World) (hI:IsS94 w0 w g s0_0 s0_1 s0_2) (hB:Below w0.heap.size w0 w) (h:spec_l2Bent.f s0_0 s0_1 s0_2=some (r1,r2,r3)) :
    Calls Tryz.prog 115 #[.pointer (some ⟨g,0,none⟩)] w fun e w'=>e=.returned (.int .i64 r1)∧IsS94 w0 w' g s0_0 r2 r3∧Below w0.heap.size w0 w'∧KeepBut w w' g none:=by
 have HI0:=Aside0.mk hI
 have HK:=Aside0.mk (KeepBut.refl w g none)
 have HL:=Aside0.mk hB.size
 clear hI
 have HW0:=Aside0.mk hB.size
 have HB:=Aside0.mk hB
 clear hB
 unfold spec_l2Bent.f at h
 have H:=h
 clear h
 replace H:=bnd_ H;obtain ⟨⟨t539,t540,t541⟩,A2,H⟩:=H;dsimp only at H
 by_cases c3:t539=true
 ·subst c3
  replace H:=bT_ H
  obtain ⟨y542,hy542⟩:∃ y_:List Int,y_=(([(-1),256,1000,(-9223372036854775808)]:List Int)):=⟨_,rfl⟩
  rw [← hy542] at H
  have Ny542:=Aside0.mk hy542
  clear hy542
  replace H:=bnd_ H;obtain ⟨⟨t545,t546,t547⟩,A4,H⟩:=H;dsimp only at H
  simp only [Option.some.injEq,Prod.mk.injEq] at H
  obtain ⟨rfl,rfl,rfl⟩:=H
  go_enter Tryz.func115,Tryz.ntmps115
  go_wp2_with (first|((with_reducible refine gate_callee (f:=73) rfl ?_);refine goesL_ (some 4) rfl rfl Tryz.func73 krT_ rfl #[.pointer (some ⟨g,0,none⟩),.int .i64 8] rfl agT_ ?_;(with_reducible refine (spec_l1Once.calls g s0_0 s0_1 s0_2 8 true t540 t541 w0 _ ?side1 ?side2 A2.out).mono ?_);(case side1=>exact h_HI0 HI0.out);(case side2=>exact h_HB HB.out);rintro e w5 ⟨rfl,hi,hb,hk⟩;refine ⟨_,rfl,?_⟩;replace HK:=Aside0.mk (KeepBut.trans (h_HK HK.out) hk (.inl rfl));replace HB:=Aside0.mk (hb);replace HI0:=Aside0.mk (hi);(try clear hb);(try clear hb2);(try clear hk);(try clear hi))|((with_reducible refine gate_dst (N:=6) rfl ?_);refine Kd.R_lit (Kd.int .i64) _ 3 ?hg (N:=6) ?hd (xs:=([(-1),256,1000,(-9223372036854775808)]:List Int)) (inner:=[.int .i64 (-1),.int .i64 256,.int .i64 1000,.int .i64 (-9223372036854775808)]) (ok:=fun _=>True) (okp:=fun _=>True) ?hr ?hp (fun _ hk=>hk) trivial (Below.refl _ _) (Nat.le_refl _) (by simp) ?_;(case hd=>rfl);(case hg=>rfl);(case hr=>exact hrT_);(case hp=>exact (Reps.one (show Kd.M (Kd.int .i64) _ _ _ (-1) [.int .i64 (-1)] from rfl) (Reps.one (show Kd.M (Kd.int .i64) _ _ _ 256 [.int .i64 256] from rfl) (Reps.one (show Kd.M (Kd.int .i64) _ _ _ 1000 [.int .i64 1000] from rfl) (Reps.one (show Kd.M (Kd.int .i64) _ _ _ (-9223372036854775808) [.int .i64 (-9223372036854775808)] from rfl) (Reps.none _ _))))));intro v543 w6 ho7 hb hg_ hnew_;clear hg_ hnew_;(first|rw [← Ny542.out] at ho7|(simp only [Int.reduceToNat] at ho7;rw [← Ny542.out] at ho7));have HO544:=Aside0.mk (Kd.R_lower ho7 (keep_size (w:=w) (g:=g) (row:=none) (h_HK HK.out)));replace HI0:=Aside0.mk (IsS94.below (h_HI0 HI0.out) hb);replace HK:=Aside0.mk (KeepBut.trans (h_HK HK.out) (KeepBut.of_below hb g none) (.inl rfl));replace HB:=Aside0.mk (below_step (h_HB HB.out) hb);clear hb ho7;obtain ⟨Ao8,co8,eo8⟩:=Kd.R_slice HO544.out;subst eo8)|((with_reducible refine gate_callee (f:=74) rfl ?_);refine goesL_ (some 7) rfl rfl Tryz.func74 krT_ rfl #[.pointer (some ⟨g,0,none⟩),.slice Ao8 y542.length co8] rfl agT_ ?_;(with_reducible refine (spec_l1PickInt.calls g s0_0 t540 t541 _ _ y542 t545 t546 t547 w0 _ ?side1 ?side2 ?side3 ?side4 ?side5 A4.out).mono ?_);(case side1=>exact h_HI0 HI0.out);(case side2=>exact h_HB HB.out);(case side3=>repeat (first|exact (Kd.R_reads' HO544.out).2.2|(with_reducible refine Kd.C_alloc ?_ _)|(with_reducible refine Kd.C_drewN ?_ _)|(with_reducible refine Kd.C_drew ?_)));(case side4=>exact (Kd.R_reads' HO544.out).2.1);(case side5=>exact far_slice (IsS94.own_ne HI0.out HO544.out (by decide)));rintro e w9 ⟨rfl,hi,hb,hk⟩;refine ⟨_,rfl,?_⟩;replace HO544:=Aside0.mk (Kd.R_mono (Kd.R_keep (IsS94.apart (show IsS94 w0 _ g s0_0 t540 t541 from h_HI0 HI0.out) (kRC_ HO544.out) (by decide)) hk (fun _ h=>h.2)) (fun _ h=>h.1));replace HK:=Aside0.mk (KeepBut.trans (h_HK HK.out) hk (.inl rfl));replace HB:=Aside0.mk (hb);replace HI0:=Aside0.mk (hi);(try clear hb);(try clear hb2);(try clear hk);(try clear hi)))
  go_ret
  exact ⟨eT_,h_HI0 HI0.out,h_HB HB.out,h_HK HK.out⟩
 ·replace c3:=Bool.eq_false_iff.mpr c3
  subst c3
  replace H:=bF_ H
  replace H:=bnd_ H;obtain ⟨⟨t548,t549,t550⟩,A10,H⟩:=H;dsimp only at H
  simp only [Option.some.injEq,Prod.mk.injEq] at H
  obtain ⟨rfl,rfl,rfl⟩:=H
  go_enter Tryz.func115,Tryz.ntmps115
  go_wp2_with (first|((with_reducible refine gate_callee (f:=73) rfl ?_);refine goesL_ (some 4) rfl rfl Tryz.func73 krT_ rfl #[.pointer (some ⟨g,0,none⟩),.int .i64 8] rfl agT_ ?_;(with_reducible refine (spec_l1Once.calls g s0_0 s0_1 s0_2 8 false t540 t541 w0 _ ?side1 ?side2 A2.out).mono ?_);(case side1=>exact h_HI0 HI0.out);(case side2=>exact h_HB HB.out);rintro e w11 ⟨rfl,hi,hb,hk⟩;refine ⟨_,rfl,?_⟩;replace HK:=Aside0.mk (KeepBut.trans (h_HK HK.out) hk (.inl rfl));replace HB:=Aside0.mk (hb);replace HI0:=Aside0.mk (hi);(try clear hb);(try clear hb2);(try clear hk);(try clear hi))|((with_reducible refine gate_callee (f:=131) rfl ?_);refine goesL_ (some 9) rfl rfl Tryz.func131 krT_ rfl #[.pointer (some ⟨g,0,none⟩)] rfl agT_ ?_;(with_reducible refine (spec_l2Draw.calls g s0_0 t540 t541 t548 t549 t550 w0 _ ?side1 ?side2 A10.out).mono ?_);(case side1=>exact h_HI0 HI0.out);(case side2=>exact h_HB HB.out);rintro e w12 ⟨rfl,hi,hb,hk⟩;refine ⟨_,rfl,?_⟩;replace HK:=Aside0.mk (KeepBut.trans (h_HK HK.out) hk (.inl rfl));replace HB:=Aside0.mk (hb);replace HI0:=Aside0.mk (hi);(try clear hb);(try clear hb2);(try clear hk);(try clear hi)))
  go_ret
  exact ⟨eT_,h_HI0 HI0.out,h_HB HB.out,h_HK HK.out⟩
/-! ### spec_l1Max: function 123 -/
def spec_l1Max.f (a0:Int) (a1:Int):Option (Int):=if a0>a1 then (some a0) else (some a1)
set_option maxHeartbeats 8000000 in
set_option maxRecDepth 100000 in
theorem spec_l1Max.calls (a0:Int) (a1:Int) (r:Int) (w:World) (h:spec_l1Max.f a0 a1=some r) :
    Calls Tryz.prog 123 #[.int .i64 a0,.int .i64 a1] w fun e w'=>e=.returned (.int .i64 r)∧Drawn0 w w':=by
 have H:(if a0>a1 then (some a0) else (some a1))=some r:=h
 clear h
 by_cases c3:a0>a1
 ·rw [if_pos c3] at H
  have c3b0:decide (a1<a0)=true:=decide_eq_true c3
  clear c3
  obtain rfl:=Option.some.inj H
  go_enter Tryz.func123,Tryz.ntmps123
  go_wp2
  go_ret
  exact ⟨sT_,dT_⟩
 rw [if_neg c3] at H
 have c3b0:decide (a1<a0)=false:=decide_eq_false c3
 clear c3
 obtain rfl:=Option.some.inj H
 go_enter Tryz.func123,Tryz.ntmps123
 go_wp2
 go_ret
 exact ⟨sT_,dT_⟩
end Go.Proofs.YtekegbacnagbcaaGreatDoor.P
