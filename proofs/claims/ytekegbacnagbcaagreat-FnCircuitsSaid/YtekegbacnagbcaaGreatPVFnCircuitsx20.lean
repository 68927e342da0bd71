-- written by gprint (a program of this session's, round the kit's print), out of the translation and hand-written texts
import Derived.Test.YtekegbacnagbcaaGreatPVFnCircuitsx0
import Derived.Test.YtekegbacnagbcaaGreatPVFnCircuitsx4
import Derived.Test.YtekegbacnagbcaaGreatPVFnCircuitsx10
import Derived.Test.YtekegbacnagbcaaGreatPVFnCircuitsx12
import Derived.Test.YtekegbacnagbcaaGreatPVFnCircuitsx14
import Derived.Test.YtekegbacnagbcaaGreatPVFnCircuitsx19
namespace Go.Proofs.YtekegbacnagbcaaGreat.P
open Go.RowKit Go.Proofs.YtekegbacnagbcaaGreatW.PrintWords Go.Proofs.YtekegbacnagbcaaGreatW.PrintLast Go.Proofs.YtekegbacnagbcaaGreatW.PrintMore
attribute [local go_sem] max2_int min2_int max_two min_two max_three min_three max_four min_four
set_option linter.unusedVariables false
set_option maxHeartbeats 8000000
set_option maxRecDepth 100000
set_option linter.unusedSimpArgs false
def impl_FromCircuits.f (k:Nat) (a0:Int) (l1:List Int):Option (Int × List Int × Bool):=(impl_IsFamily.f k a0 l1).bind fun t732=>(if t732=true then ((on_impl_FromCircuits_1.f k a0 l1).bind fun t733=>((impl_fromIndependent.f k a0 t733).bind fun bt736=>(if bt736.2.2=true then ((impl_Circuits.f k bt736.1 bt736.2.1).bind fun t742=>((slices_Equal_int_int.f k t742 l1).bind fun t745=>(if t745=true then (some (bt736.1,bt736.2.1,true)) else (some (0,([]:List Int),false))))) else (some (0,([]:List Int),false))))) else (some (0,([]:List Int),false)))
def impl_FromCircuits.T4:Bool × List (List Nat × List Nat):=(true,[([],[]),([0],[0]),([1],[1]),([2],[2]),([3,2,2],[2,3]),([2],[2]),([4,5,4,2],[2,4,5]),([6,2],[2,6]),([2,7],[2,7])])
def impl_FromCircuits.B4:List Nat:=[0,1,3,7,15,7,63,127,255]
theorem impl_FromCircuits.tab4:rtab .any (opsOf Tryz.f10 4)=impl_FromCircuits.T4:=by kernel_rfl
theorem impl_FromCircuits.bits4:waitsOk impl_FromCircuits.T4.2 impl_FromCircuits.B4=true:=by kernel_rfl
theorem impl_FromCircuits.calls (k:Nat) (a0:Int) (A1:Option Addr) (c1:Nat) (l1:List Int) (r1:Int) (r2:List Int) (r3:Bool) (w:World) (hr1:Kd.C (Kd.int .i64) w A1 l1.length l1) (hc1:l1.length≤c1) (h:impl_FromCircuits.f k a0 l1=some (r1,r2,r3)) :
    Calls Tryz.prog 10 #[.int .i64 a0,.slice A1 l1.length c1] w fun e w'=>∃ v1_:Value,e=.returned (.tuple #[.agg #[.int .i64 r1,v1_],.bool r3])∧Kd.R (Kd.int .i64) 3 w' w.heap.size (fun _=>True) v1_ r2∧Below w.heap.size w w':=by
 have hu26:=Tryz.underlying26
 have HR1:=Aside0.mk hr1
 have HC1:=Aside0.mk hc1
 clear hr1 hc1
 have HB:=Aside0.mk (Below.refl w.heap.size w)
 unfold impl_FromCircuits.f at h
 have H:=h
 clear h
 replace H:=bnd_ H;obtain ⟨t732,A3,H⟩:=H
 replace H:=(gst_ H).symm;rcases H with ⟨rfl,H⟩|⟨rfl,H⟩
 ·simp only [Option.some.injEq,Prod.mk.injEq] at H
  obtain ⟨rfl,rfl,rfl⟩:=H
  go_enter Tryz.func10,Tryz.ntmps10
  go_wp2_with (first|((with_reducible refine gate_dst (N:=3) rfl ?_);refine bx_ (N:=3) (cs:=#[.slice A1 l1.length c1]) (t:=24) ?_;intro gb730 hg w64 hbox hb;have BK730:=Aside0.mk (hbox);have GW730:=Aside0.mk (gw_ hg (h_HB HB.out));have GE730:=GW730;replace HB:=s_HB HB.out hb;clear hb hbox hg)|((with_reducible refine gate_dst (N:=4) rfl ?_);refine bx_ (N:=4) (cs:=#[.int .i64 0,.slice none 0 0]) (t:=26) ?_;intro gb731 hg w65 hbox hb;have BK731:=Aside0.mk (hbox);have GW731:=Aside0.mk (gw_ hg (h_HB HB.out));have GE731:=GW731;replace HB:=s_HB HB.out hb;have NB730_731:=Aside0.mk (nbl_ hg (bkC_ BK730.out));have NB731_730:=Aside0.mk NB730_731.out.symm;replace BK730:=sBK_ BK730.out hb;clear hb hbox hg;have hnb66:=NB730_731.out;have hnc66:=NB731_730.out;obtain ⟨hcz67_0,hfz67_0⟩:=bz1_ BK730.out)|((with_reducible refine gate_callee (f:=31) rfl ?_);refine goesL_ (some 10) rfl rfl Tryz.func31 krT_ rfl #[.int .i64 a0,.slice A1 l1.length c1] rfl agT_ ?_;(with_reducible refine (impl_IsFamily.calls k a0 _ _ l1 false _ ?side1 ?side2 A3.out).mono ?_);(case side1=>exact cC_ HR1.out);(case side2=>exact HC1.out);rintro e w' ⟨rfl,⟨nd,rfl⟩⟩;refine ⟨_,rfl,?_⟩;(try (rw [drewN_self w65];generalize hq_:World.drewN w65 _=w65;replace BK730:Aside0 (w65.heap[gb730]?=some (.cells #[.slice A1 l1.length c1] 24 (0,0))):=⟨by rw [← hq_];exact (bkC_ BK730.out)⟩;replace BK731:Aside0 (w65.heap[gb731]?=some (.cells #[.int .i64 0,.slice none 0 0] 26 (0,0))):=⟨by rw [← hq_];exact (bkC_ BK731.out)⟩;replace HB:Aside0 (Below w.heap.size w w65):=⟨by rw [← hq_];exact (h_HB HB.out)⟩;clear hq_;have hcuz68_gb730_0:w65.cell? ⟨gb730,0,none⟩=some (.slice A1 l1.length c1):=(blk_cell BK730.out 0).trans rfl;have hfuz68_gb730_0:=blk_frozen BK730.out 0;have hcuz68_gb731_0:w65.cell? ⟨gb731,0,none⟩=some (.int .i64 0):=(blk_cell BK731.out 0).trans rfl;have hfuz68_gb731_0:=blk_frozen BK731.out 0;have hcuz68_gb731_1:w65.cell? ⟨gb731,1,none⟩=some (.slice none 0 0):=(blk_cell BK731.out 1).trans rfl;have hfuz68_gb731_1:=blk_frozen BK731.out 1));obtain ⟨hcz69_0,hcz69_1,hfz69_0,hfz69_1⟩:=bz2_ BK731.out))
  refine bodyPost_ret (results_ct rfl _ _ gb731 26 #[.int .i64 0,.slice none 0 0] (0,0) _ rfl (by (with_reducible repeat (first|refine blk_drewN ?_ _|refine blk_drew ?_|refine blk_alloc ?_ _));exact bp2_ (bkC_ BK731.out)) Tryz.underlying26 rfl krT_) rfl ?_
  exact ⟨_,eT_,by first|exact Kd.R_nil _ _ _ _ _|exact Kd.N_nil _ _ _ _ _|exact Kd.V_nil _ _ _ _ _|exact Kd.Q_nil _ _ _ _ _|exact Kd.S_nil _ _ _ _ _,h_HB HB.out⟩
 replace H:=bnd_ H;obtain ⟨t733,A5,H⟩:=H
 replace H:=bnd_ H;obtain ⟨⟨t736,t737,t740⟩,A6,H⟩:=H;dsimp only at H
 replace H:=(gst_ H).symm;rcases H with ⟨rfl,H⟩|⟨rfl,H⟩
 ·simp only [Option.some.injEq,Prod.mk.injEq] at H
  obtain ⟨rfl,rfl,rfl⟩:=H
  go_enter Tryz.func10,Tryz.ntmps10
  try go_wp2_with (first|((with_reducible refine gate_dst (N:=3) rfl ?_);refine bx_ (N:=3) (cs:=#[.slice A1 l1.length c1]) (t:=24) ?_;intro gb730 hg w48 hbox hb;have BK730:=Aside0.mk (hbox);have GW730:=Aside0.mk (gw_ hg (h_HB HB.out));have GE730:=GW730;replace HB:=s_HB HB.out hb;clear hb hbox hg)|((with_reducible refine gate_dst (N:=4) rfl ?_);refine bx_ (N:=4) (cs:=#[.int .i64 0,.slice none 0 0]) (t:=26) ?_;intro gb731 hg w49 hbox hb;have BK731:=Aside0.mk (hbox);have GW731:=Aside0.mk (gw_ hg (h_HB HB.out));have GE731:=GW731;replace HB:=s_HB HB.out hb;have NB730_731:=Aside0.mk (nbl_ hg (bkC_ BK730.out));have NB731_730:=Aside0.mk NB730_731.out.symm;replace BK730:=sBK_ BK730.out hb;clear hb hbox hg;have hnb50:=NB730_731.out;have hnc50:=NB731_730.out;obtain ⟨hcz51_0,hfz51_0⟩:=bz1_ BK730.out)|((with_reducible refine gate_callee (f:=31) rfl ?_);refine goesL_ (some 10) rfl rfl Tryz.func31 krT_ rfl #[.int .i64 a0,.slice A1 l1.length c1] rfl agT_ ?_;(with_reducible refine (impl_IsFamily.calls k a0 _ _ l1 true _ ?side1 ?side2 A3.out).mono ?_);(case side1=>exact cC_ HR1.out);(case side2=>exact HC1.out);rintro e w' ⟨rfl,⟨nd,rfl⟩⟩;refine ⟨_,rfl,?_⟩;(try (rw [drewN_self w49];generalize hq_:World.drewN w49 _=w49;replace BK730:Aside0 (w49.heap[gb730]?=some (.cells #[.slice A1 l1.length c1] 24 (0,0))):=⟨by rw [← hq_];exact (bkC_ BK730.out)⟩;replace BK731:Aside0 (w49.heap[gb731]?=some (.cells #[.int .i64 0,.slice none 0 0] 26 (0,0))):=⟨by rw [← hq_];exact (bkC_ BK731.out)⟩;replace HB:Aside0 (Below w.heap.size w w49):=⟨by rw [← hq_];exact (h_HB HB.out)⟩;clear hq_;have hcuz52_gb730_0:w49.cell? ⟨gb730,0,none⟩=some (.slice A1 l1.length c1):=(blk_cell BK730.out 0).trans rfl;have hfuz52_gb730_0:=blk_frozen BK730.out 0;have hcuz52_gb731_0:w49.cell? ⟨gb731,0,none⟩=some (.int .i64 0):=(blk_cell BK731.out 0).trans rfl;have hfuz52_gb731_0:=blk_frozen BK731.out 0;have hcuz52_gb731_1:w49.cell? ⟨gb731,1,none⟩=some (.slice none 0 0):=(blk_cell BK731.out 1).trans rfl;have hfuz52_gb731_1:=blk_frozen BK731.out 1)))|((with_reducible refine gate_callee (f:=27) rfl ?_);refine goesL_ (some 17) rfl rfl Tryz.func27 krT_ rfl #[.int .i64 a0,.func (.func 39) #[] #[.pointer (some ⟨gb730,0,none⟩)]] rfl agT_ ?_;(with_reducible refine (on_impl_FromCircuits_1.calls k a0 A1 c1 l1 t733 _ ?side1 ?side2 A5.out gb730 ?side3).mono ?_);(case side1=>exact cC_ HR1.out);(case side2=>exact HC1.out);(case side3=>exact (bkC_ BK730.out));rintro e w53 ⟨v734,rfl,ho0,hb⟩;refine ⟨_,rfl,?_⟩;have HO735:=Aside0.mk (Kd.R_lower ho0 (below_size (h_HB HB.out)));replace BK730:=sBK_ BK730.out hb;replace BK731:=sBK_ BK731.out hb;replace HB:=s_HB HB.out hb;(try clear hb);(try clear ho0);obtain ⟨Ao54,co54,eo54⟩:=Kd.R_slice HO735.out;subst eo54)|((with_reducible refine gate_callee (f:=38) rfl ?_);refine goesL_ (some 18) rfl rfl Tryz.func38 krT_ rfl #[.int .i64 a0,.slice Ao54 t733.length co54] rfl agT_ ?_;(with_reducible refine (impl_fromIndependent.calls k a0 _ _ t733 t736 t737 false _ ?side1 ?side2 A6.out).mono ?_);(case side1=>repeat (first|exact (Kd.R_reads' HO735.out).2.2|(with_reducible refine Kd.C_alloc ?_ _)|(with_reducible refine Kd.C_drewN ?_ _)|(with_reducible refine Kd.C_drew ?_)));(case side2=>exact (Kd.R_reads' HO735.out).2.1);rintro e w55 ⟨v738,rfl,ho0,hb⟩;refine ⟨_,rfl,?_⟩;have HO739:=Aside0.mk (Kd.R_lower (Kd.R_new' ho0 (Kd.R_lt (kRC_ HO735.out))) (below_size (h_HB HB.out)));replace HO735:=Aside0.mk (Kd.R_elder' (kRC_ HO735.out) (Kd.R_base ho0) hb);replace BK730:=sBK_ BK730.out hb;replace BK731:=sBK_ BK731.out hb;replace HB:=s_HB HB.out hb;(try clear hb);(try clear ho0))|((with_reducible refine gate_dst (N:=6) rfl ?_);refine bx_ (N:=6) (cs:=#[.int .i64 0,.slice none 0 0]) (t:=26) ?_;intro gb741 hg w56 hbox hb;replace HO735:=Aside0.mk (Kd.R_below (kRC_ HO735.out) hb);replace HO739:=Aside0.mk (Kd.R_below (kRC_ HO739.out) hb);have BK741:=Aside0.mk (hbox);have GW741:=Aside0.mk (gw_ hg (h_HB HB.out));have GE741:=GW741;replace HB:=s_HB HB.out hb;have NB730_741:=Aside0.mk (nbl_ hg (bkC_ BK730.out));have NB741_730:=Aside0.mk NB730_741.out.symm;replace BK730:=sBK_ BK730.out hb;have NB731_741:=Aside0.mk (nbl_ hg (bkC_ BK731.out));have NB741_731:=Aside0.mk NB731_741.out.symm;replace BK731:=sBK_ BK731.out hb;clear hb hbox hg;have hnb57:=NB741_730.out;have hnc57:=NB730_741.out;have hnb58:=NB741_731.out;have hnc58:=NB731_741.out;obtain ⟨hcz59_0,hcz59_1,hfz59_0,hfz59_1⟩:=bz2_ BK741.out;obtain ⟨Ao60,co60,eo60⟩:=Kd.R_slice HO739.out;subst eo60))
  have n0_:Aside0 (Kd.R (Kd.int .i64) 3 ((w56.setCell ⟨gb741,0,none⟩ (.int .i64 t736)).setCell ⟨gb741,1,none⟩ (.slice Ao60 t737.length co60)) w.heap.size (fun k_=>some k_≠(.slice Ao60 t737.length co60:Value).ownBlock) (.slice Ao54 t733.length co54) t733):=⟨by (with_reducible repeat (first|apply Kd.R_alloc|apply Kd.R_drewN|apply Kd.R_drew));exact Kd.R_mono (Kd.R_far (p:=⟨gb741,1,none⟩) (Kd.R_far (p:=⟨gb741,0,none⟩) (Kd.R_types HO735.out BK741.out (by decide)) (fun _ hk=>hk.2) (.int .i64 t736)) (fun _ hk=>hk.2) (.slice Ao60 t737.length co60)) (fun _ hk=>hk.1.2)⟩
  have n1_:Aside0 (Kd.R (Kd.int .i64) 3 ((w56.setCell ⟨gb741,0,none⟩ (.int .i64 t736)).setCell ⟨gb741,1,none⟩ (.slice Ao60 t737.length co60)) w.heap.size (fun k_=>some k_≠(.slice Ao54 t733.length co54:Value).ownBlock) (.slice Ao60 t737.length co60) t737):=⟨by (with_reducible repeat (first|apply Kd.R_alloc|apply Kd.R_drewN|apply Kd.R_drew));exact Kd.R_mono (Kd.R_far (p:=⟨gb741,1,none⟩) (Kd.R_far (p:=⟨gb741,0,none⟩) (Kd.R_types HO739.out BK741.out (by decide)) (fun _ hk=>hk.2) (.int .i64 t736)) (fun _ hk=>hk.2) (.slice Ao60 t737.length co60)) (fun _ hk=>hk.1.2)⟩
  have n2_:Aside0 (((w56.setCell ⟨gb741,0,none⟩ (.int .i64 t736)).setCell ⟨gb741,1,none⟩ (.slice Ao60 t737.length co60)).heap[gb730]?=some (.cells #[.slice A1 l1.length c1] 24 (0,0))):=⟨bkC_ BK730.out⟩
  have n3_:Aside0 (((w56.setCell ⟨gb741,0,none⟩ (.int .i64 t736)).setCell ⟨gb741,1,none⟩ (.slice Ao60 t737.length co60)).heap[gb731]?=some (.cells #[.int .i64 0,.slice none 0 0] 26 (0,0))):=⟨bkC_ BK731.out⟩
  have n4_:Aside0 (((w56.setCell ⟨gb741,0,none⟩ (.int .i64 t736)).setCell ⟨gb741,1,none⟩ (.slice Ao60 t737.length co60)).heap[gb741]?=some (.cells #[.int .i64 t736,.slice Ao60 t737.length co60] 26 (0,0))):=⟨by (with_reducible repeat (first|refine blk_drewN ?_ _|refine blk_drew ?_|refine blk_alloc ?_ _));exact bp2_ (bkC_ BK741.out)⟩
  have n5_:Aside0 (Below w.heap.size w ((w56.setCell ⟨gb741,0,none⟩ (.int .i64 t736)).setCell ⟨gb741,1,none⟩ (.slice Ao60 t737.length co60))):=⟨h_HB HB.out⟩
  (try clear HO735)
  (try clear HO739)
  (try clear BK730)
  (try clear BK731)
  (try clear BK741)
  (try clear HB)
  generalize ((w56.setCell ⟨gb741,0,none⟩ (.int .i64 t736)).setCell ⟨gb741,1,none⟩ (.slice Ao60 t737.length co60))=w61 at n0_ n1_ n2_ n3_ n4_ n5_ ⊢
  have HO735:=n0_
  have HO739:=n1_
  have BK730:=n2_
  have BK731:=n3_
  have BK741:=n4_
  have HB:=n5_
  clear n0_ n1_ n2_ n3_ n4_ n5_
  replace HO735:=Aside0.mk (Kd.R_drew HO735.out);replace HO739:=Aside0.mk (Kd.R_drew HO739.out);replace BK730:=Aside0.mk (blk_drew BK730.out);replace BK731:=Aside0.mk (blk_drew BK731.out);replace BK741:=Aside0.mk (blk_drew BK741.out);replace HB:=Aside0.mk (below_drew1 HB.out)
  refine start_ (n:=9) (S:=fun w'=>True) (ds:=[]) #[F_,F_,F_,F_,F_,F_,F_,F_,F_] krT_ rfl rfl trivial (fun hHeld=>?_);refine with_tabW impl_FromCircuits.tab4 impl_FromCircuits.bits4 (fun HT_ HW_=>?_)
  generalize w61.drew=w62 at HO735 HO739 BK730 BK731 BK741 HB hHeld ⊢
  refine pu_ 0 (some 21) (bm_ 9 1) rfl rfl HT_.out ?_
  refine pu_ 1 (some 22) (bm_ 9 3) rfl rfl HT_.out ?_
  refine pu_ 2 (some 23) (bm_ 9 7) rfl rfl HT_.out ?_
  refine pure_ (i:=3) (N:=some 24) (v:=undef) (a':=?_) (bm_ 9 15) rfl rfl (any_of HT_.out krT_) (fun _ _ _ h=>h) (Or.inr ⟨by rfl,rfl⟩) ?_ ?_
  rotate_left;exact apT_
  refine pure_ (i:=4) (N:=some 25) (v:=undef) (a':=?_) (bm_ 9 31) rfl rfl (any_of HT_.out krT_) (fun _ _ _ h=>h) (Or.inr ⟨by rfl,rfl⟩) ?_ ?_
  rotate_left;exact apT_
  refine pure_ (i:=5) (N:=some 26) (v:=undef) (a':=?_) (bm_ 9 63) rfl rfl (any_of HT_.out krT_) (fun _ _ _ h=>h) (Or.inr ⟨by rfl,rfl⟩) ?_ ?_
  rotate_left;exact apT_
  refine pure_ (i:=6) (N:=some 27) (v:=undef) (a':=?_) (bm_ 9 127) rfl rfl (any_of HT_.out krT_) (fun _ _ _ h=>h) (Or.inr ⟨by rfl,rfl⟩) ?_ ?_
  rotate_left;exact apT_
  refine pure_ (i:=7) (N:=some 28) (v:=undef) (a':=?_) (bm_ 9 255) rfl rfl (any_of HT_.out krT_) (fun _ _ _ h=>h) (Or.inr ⟨by rfl,rfl⟩) ?_ ?_
  rotate_left;exact apT_
  refine pu_ 8 (some 29) (bm_ 9 511) rfl rfl HT_.out ?_
  refine done_ (done_of HT_.out krT_) ?_
  obtain ⟨hcz63_0,hcz63_1,hfz63_0,hfz63_1⟩:=bz2_ BK731.out
  try go_wp2
  refine bodyPost_ret (results_ct rfl _ _ gb731 26 #[.int .i64 0,.slice none 0 0] (0,0) _ rfl (by (with_reducible repeat (first|refine blk_drewN ?_ _|refine blk_drew ?_|refine blk_alloc ?_ _));exact bp2_ (bkC_ BK731.out)) Tryz.underlying26 rfl krT_) rfl ?_
  exact ⟨_,eT_,by first|exact Kd.R_nil _ _ _ _ _|exact Kd.N_nil _ _ _ _ _|exact Kd.V_nil _ _ _ _ _|exact Kd.Q_nil _ _ _ _ _|exact Kd.S_nil _ _ _ _ _,h_HB HB.out⟩
 replace H:=bnd_ H;obtain ⟨t742,A8,H⟩:=H
 replace H:=bnd_ H;obtain ⟨t745,A9,H⟩:=H
 replace H:=(gst_ H).symm;rcases H with ⟨rfl,H⟩|⟨rfl,H⟩
 ·simp only [Option.some.injEq,Prod.mk.injEq] at H
  obtain ⟨rfl,rfl,rfl⟩:=H
  go_enter Tryz.func10,Tryz.ntmps10
  try go_wp2_with (first|((with_reducible refine gate_dst (N:=3) rfl ?_);refine bx_ (N:=3) (cs:=#[.slice A1 l1.length c1]) (t:=24) ?_;intro gb730 hg w30 hbox hb;have BK730:=Aside0.mk (hbox);have GW730:=Aside0.mk (gw_ hg (h_HB HB.out));have GE730:=GW730;replace HB:=s_HB HB.out hb;clear hb hbox hg)|((with_reducible refine gate_dst (N:=4) rfl ?_);refine bx_ (N:=4) (cs:=#[.int .i64 0,.slice none 0 0]) (t:=26) ?_;intro gb731 hg w31 hbox hb;have BK731:=Aside0.mk (hbox);have GW731:=Aside0.mk (gw_ hg (h_HB HB.out));have GE731:=GW731;replace HB:=s_HB HB.out hb;have NB730_731:=Aside0.mk (nbl_ hg (bkC_ BK730.out));have NB731_730:=Aside0.mk NB730_731.out.symm;replace BK730:=sBK_ BK730.out hb;clear hb hbox hg;have hnb32:=NB730_731.out;have hnc32:=NB731_730.out;obtain ⟨hcz33_0,hfz33_0⟩:=bz1_ BK730.out)|((with_reducible refine gate_callee (f:=31) rfl ?_);refine goesL_ (some 10) rfl rfl Tryz.func31 krT_ rfl #[.int .i64 a0,.slice A1 l1.length c1] rfl agT_ ?_;(with_reducible refine (impl_IsFamily.calls k a0 _ _ l1 true _ ?side1 ?side2 A3.out).mono ?_);(case side1=>exact cC_ HR1.out);(case side2=>exact HC1.out);rintro e w' ⟨rfl,⟨nd,rfl⟩⟩;refine ⟨_,rfl,?_⟩;(try (rw [drewN_self w31];generalize hq_:World.drewN w31 _=w31;replace BK730:Aside0 (w31.heap[gb730]?=some (.cells #[.slice A1 l1.length c1] 24 (0,0))):=⟨by rw [← hq_];exact (bkC_ BK730.out)⟩;replace BK731:Aside0 (w31.heap[gb731]?=some (.cells #[.int .i64 0,.slice none 0 0] 26 (0,0))):=⟨by rw [← hq_];exact (bkC_ BK731.out)⟩;replace HB:Aside0 (Below w.heap.size w w31):=⟨by rw [← hq_];exact (h_HB HB.out)⟩;clear hq_;have hcuz34_gb730_0:w31.cell? ⟨gb730,0,none⟩=some (.slice A1 l1.length c1):=(blk_cell BK730.out 0).trans rfl;have hfuz34_gb730_0:=blk_frozen BK730.out 0;have hcuz34_gb731_0:w31.cell? ⟨gb731,0,none⟩=some (.int .i64 0):=(blk_cell BK731.out 0).trans rfl;have hfuz34_gb731_0:=blk_frozen BK731.out 0;have hcuz34_gb731_1:w31.cell? ⟨gb731,1,none⟩=some (.slice none 0 0):=(blk_cell BK731.out 1).trans rfl;have hfuz34_gb731_1:=blk_frozen BK731.out 1)))|((with_reducible refine gate_callee (f:=27) rfl ?_);refine goesL_ (some 17) rfl rfl Tryz.func27 krT_ rfl #[.int .i64 a0,.func (.func 39) #[] #[.pointer (some ⟨gb730,0,none⟩)]] rfl agT_ ?_;(with_reducible refine (on_impl_FromCircuits_1.calls k a0 A1 c1 l1 t733 _ ?side1 ?side2 A5.out gb730 ?side3).mono ?_);(case side1=>exact cC_ HR1.out);(case side2=>exact HC1.out);(case side3=>exact (bkC_ BK730.out));rintro e w35 ⟨v734,rfl,ho0,hb⟩;refine ⟨_,rfl,?_⟩;have HO735:=Aside0.mk (Kd.R_lower ho0 (below_size (h_HB HB.out)));replace BK730:=sBK_ BK730.out hb;replace BK731:=sBK_ BK731.out hb;replace HB:=s_HB HB.out hb;(try clear hb);(try clear ho0);obtain ⟨Ao36,co36,eo36⟩:=Kd.R_slice HO735.out;subst eo36)|((with_reducible refine gate_callee (f:=38) rfl ?_);refine goesL_ (some 18) rfl rfl Tryz.func38 krT_ rfl #[.int .i64 a0,.slice Ao36 t733.length co36] rfl agT_ ?_;(with_reducible refine (impl_fromIndependent.calls k a0 _ _ t733 t736 t737 true _ ?side1 ?side2 A6.out).mono ?_);(case side1=>repeat (first|exact (Kd.R_reads' HO735.out).2.2|(with_reducible refine Kd.C_alloc ?_ _)|(with_reducible refine Kd.C_drewN ?_ _)|(with_reducible refine Kd.C_drew ?_)));(case side2=>exact (Kd.R_reads' HO735.out).2.1);rintro e w37 ⟨v738,rfl,ho0,hb⟩;refine ⟨_,rfl,?_⟩;have HO739:=Aside0.mk (Kd.R_lower (Kd.R_new' ho0 (Kd.R_lt (kRC_ HO735.out))) (below_size (h_HB HB.out)));replace HO735:=Aside0.mk (Kd.R_elder' (kRC_ HO735.out) (Kd.R_base ho0) hb);replace BK730:=sBK_ BK730.out hb;replace BK731:=sBK_ BK731.out hb;replace HB:=s_HB HB.out hb;(try clear hb);(try clear ho0))|((with_reducible refine gate_dst (N:=6) rfl ?_);refine bx_ (N:=6) (cs:=#[.int .i64 0,.slice none 0 0]) (t:=26) ?_;intro gb741 hg w38 hbox hb;replace HO735:=Aside0.mk (Kd.R_below (kRC_ HO735.out) hb);replace HO739:=Aside0.mk (Kd.R_below (kRC_ HO739.out) hb);have BK741:=Aside0.mk (hbox);have GW741:=Aside0.mk (gw_ hg (h_HB HB.out));have GE741:=GW741;replace HB:=s_HB HB.out hb;have NB730_741:=Aside0.mk (nbl_ hg (bkC_ BK730.out));have NB741_730:=Aside0.mk NB730_741.out.symm;replace BK730:=sBK_ BK730.out hb;have NB731_741:=Aside0.mk (nbl_ hg (bkC_ BK731.out));have NB741_731:=Aside0.mk NB731_741.out.symm;replace BK731:=sBK_ BK731.out hb;clear hb hbox hg;have hnb39:=NB741_730.out;have hnc39:=NB730_741.out;have hnb40:=NB741_731.out;have hnc40:=NB731_741.out;obtain ⟨hcz41_0,hcz41_1,hfz41_0,hfz41_1⟩:=bz2_ BK741.out;obtain ⟨Ao42,co42,eo42⟩:=Kd.R_slice HO739.out;subst eo42))
  have n0_:Aside0 (Kd.R (Kd.int .i64) 3 ((w38.setCell ⟨gb741,0,none⟩ (.int .i64 t736)).setCell ⟨gb741,1,none⟩ (.slice Ao42 t737.length co42)) w.heap.size (fun k_=>some k_≠(.slice Ao42 t737.length co42:Value).ownBlock) (.slice Ao36 t733.length co36) t733):=⟨by (with_reducible repeat (first|apply Kd.R_alloc|apply Kd.R_drewN|apply Kd.R_drew));exact Kd.R_mono (Kd.R_far (p:=⟨gb741,1,none⟩) (Kd.R_far (p:=⟨gb741,0,none⟩) (Kd.R_types HO735.out BK741.out (by decide)) (fun _ hk=>hk.2) (.int .i64 t736)) (fun _ hk=>hk.2) (.slice Ao42 t737.length co42)) (fun _ hk=>hk.1.2)⟩
  have n1_:Aside0 (Kd.R (Kd.int .i64) 3 ((w38.setCell ⟨gb741,0,none⟩ (.int .i64 t736)).setCell ⟨gb741,1,none⟩ (.slice Ao42 t737.length co42)) w.heap.size (fun k_=>some k_≠(.slice Ao36 t733.length co36:Value).ownBlock) (.slice Ao42 t737.length co42) t737):=⟨by (with_reducible repeat (first|apply Kd.R_alloc|apply Kd.R_drewN|apply Kd.R_drew));exact Kd.R_mono (Kd.R_far (p:=⟨gb741,1,none⟩) (Kd.R_far (p:=⟨gb741,0,none⟩) (Kd.R_types HO739.out BK741.out (by decide)) (fun _ hk=>hk.2) (.int .i64 t736)) (fun _ hk=>hk.2) (.slice Ao42 t737.length co42)) (fun _ hk=>hk.1.2)⟩
  have n2_:Aside0 (((w38.setCell ⟨gb741,0,none⟩ (.int .i64 t736)).setCell ⟨gb741,1,none⟩ (.slice Ao42 t737.length co42)).heap[gb730]?=some (.cells #[.slice A1 l1.length c1] 24 (0,0))):=⟨bkC_ BK730.out⟩
  have n3_:Aside0 (((w38.setCell ⟨gb741,0,none⟩ (.int .i64 t736)).setCell ⟨gb741,1,none⟩ (.slice Ao42 t737.length co42)).heap[gb731]?=some (.cells #[.int .i64 0,.slice none 0 0] 26 (0,0))):=⟨bkC_ BK731.out⟩
  have n4_:Aside0 (((w38.setCell ⟨gb741,0,none⟩ (.int .i64 t736)).setCell ⟨gb741,1,none⟩ (.slice Ao42 t737.length co42)).heap[gb741]?=some (.cells #[.int .i64 t736,.slice Ao42 t737.length co42] 26 (0,0))):=⟨by (with_reducible repeat (first|refine blk_drewN ?_ _|refine blk_drew ?_|refine blk_alloc ?_ _));exact bp2_ (bkC_ BK741.out)⟩
  have n5_:Aside0 (Below w.heap.size w ((w38.setCell ⟨gb741,0,none⟩ (.int .i64 t736)).setCell ⟨gb741,1,none⟩ (.slice Ao42 t737.length co42))):=⟨h_HB HB.out⟩
  (try clear HO735)
  (try clear HO739)
  (try clear BK730)
  (try clear BK731)
  (try clear BK741)
  (try clear HB)
  generalize ((w38.setCell ⟨gb741,0,none⟩ (.int .i64 t736)).setCell ⟨gb741,1,none⟩ (.slice Ao42 t737.length co42))=w43 at n0_ n1_ n2_ n3_ n4_ n5_ ⊢
  have HO735:=n0_
  have HO739:=n1_
  have BK730:=n2_
  have BK731:=n3_
  have BK741:=n4_
  have HB:=n5_
  clear n0_ n1_ n2_ n3_ n4_ n5_
  replace HO735:=Aside0.mk (Kd.R_drew HO735.out);replace HO739:=Aside0.mk (Kd.R_drew HO739.out);replace BK730:=Aside0.mk (blk_drew BK730.out);replace BK731:=Aside0.mk (blk_drew BK731.out);replace BK741:=Aside0.mk (blk_drew BK741.out);replace HB:=Aside0.mk (below_drew1 HB.out)
  refine start_ (n:=9) (S:=fun w'=>w'.cell? ⟨gb741,0,none⟩=some (.int .i64 t736)∧w'.cell? ⟨gb741,1,none⟩=some (.slice Ao42 t737.length co42)∧w'.cell? ⟨gb730,0,none⟩=some (.slice A1 l1.length c1)) (ds:=[]) #[F_,F_,F_,F_,F_,F_,F_,F_,F_] krT_ rfl rfl ⟨(blk_cell BK741.out 0).trans rfl,(blk_cell BK741.out 1).trans rfl,(blk_cell BK730.out 0).trans rfl⟩ (fun hHeld=>?_);refine with_tabW impl_FromCircuits.tab4 impl_FromCircuits.bits4 (fun HT_ HW_=>?_)
  generalize w43.drew=w44 at HO735 HO739 BK730 BK731 BK741 HB hHeld ⊢
  refine pu_ 0 (some 21) (bm_ 9 1) rfl rfl HT_.out ?_
  refine pu_ 1 (some 22) (bm_ 9 3) rfl rfl HT_.out ?_
  refine pu_ 2 (some 23) (bm_ 9 7) rfl rfl HT_.out ?_
  refine take_ (i:=3) (N:=some 24) (v:=?_) (a':=?_) (bm_ 9 15) rfl rfl (take_ofW HT_.out HW_.out krT_) (fun _ _ _ h=>h) (Or.inl ⟨by rfl,?_⟩) hHeld ?_ ?_
  rotate_left
  ·rintro w' ⟨s0,s1,s2⟩
   go_simp
   with_reducible rfl
  rotate_left;exact apT_
  refine take_ (i:=5) (N:=some 26) (v:=?_) (a':=?_) (bm_ 9 47) rfl rfl (take_ofW HT_.out HW_.out krT_) (fun _ _ _ h=>h) (Or.inl ⟨by rfl,?_⟩) hHeld ?_ ?_
  rotate_left
  ·rintro w' ⟨s0,s1,s2⟩
   go_simp
   with_reducible rfl
  rotate_left;exact apT_
  refine one_ (i:=4) (N:=some 25) (bm_ 9 63) rfl rfl (one_of HT_.out krT_) (by decide) (fun K hK=>?_)
  refine goes_ Tryz.func6 krT_ rfl #[.agg #[.int .i64 t736,.slice Ao42 t737.length co42]] (by rfl) rfl rfl agT_ ?_
  with_reducible refine (impl_Circuits.calls k t736 _ _ t737 t742 _ ?side1 ?side2 A8.out).mono ?_
  (case side1=>repeat (first|exact (Kd.R_reads' HO739.out).2.2|(with_reducible refine Kd.C_alloc ?_ _)|(with_reducible refine Kd.C_drewN ?_ _)|(with_reducible refine Kd.C_drew ?_)))
  (case side2=>exact (Kd.R_reads' HO739.out).2.1)
  rintro e w45 ⟨v743,rfl,ho0,hb⟩
  refine ⟨_,rfl,?_⟩
  have HO744:=Aside0.mk (Kd.R_lower (Kd.R_new' (Kd.R_new' ho0 (Kd.R_lt (kRC_ HO735.out))) (Kd.R_lt (kRC_ HO739.out))) (below_size (h_HB HB.out)));replace HO735:=Aside0.mk (Kd.R_elder' (kRC_ HO735.out) (Kd.R_base ho0) hb);replace HO739:=Aside0.mk (Kd.R_elder' (kRC_ HO739.out) (Kd.R_base ho0) hb);replace BK730:=sBK_ BK730.out hb;replace BK731:=sBK_ BK731.out hb;replace BK741:=sBK_ BK741.out hb;replace HB:=s_HB HB.out hb
  (try clear hb)
  (try clear hb2)
  (try clear hk)
  (try clear hi)
  (try clear ho0)
  obtain ⟨Ao46,co46,eo46⟩:=Kd.R_slice HO744.out
  (first|subst eo46|(injection eo46 with f1_ f2_ f3_;have f4_:=f1_.symm;have f5_:=f3_.symm;clear f1_ f2_ f3_;subst f4_;subst f5_))
  refine hK.out _ _ ⟨(blk_cell BK741.out 0).trans rfl,(blk_cell BK741.out 1).trans rfl,(blk_cell BK730.out 0).trans rfl⟩ (fun hHeld=>?_)
  clear hK K
  refine norm_ (a':=?_) ?_ ?_
  rotate_left
  ·show Act.put _ (some 25) _=_
   simp only [Act.put,List.setIfInBounds_toArray,List.set_cons_zero,List.set_cons_succ,i64_w,i32_w]
   rfl
  refine one_ (i:=6) (N:=some 27) (bm_ 9 127) rfl rfl (one_of HT_.out krT_) (by decide) (fun K hK=>?_)
  refine goes_ Tryz.func41 krT_ rfl #[.slice Ao46 t742.length co46,.slice A1 l1.length c1] (by rfl) rfl rfl agT_ ?_
  with_reducible refine (slices_Equal_int_int.calls k _ _ t742 _ _ l1 false _ ?side1 ?side2 ?side3 ?side4 A9.out).mono ?_
  (case side1=>repeat (first|exact (Kd.R_reads' HO744.out).2.2|(with_reducible refine Kd.C_alloc ?_ _)|(with_reducible refine Kd.C_drewN ?_ _)|(with_reducible refine Kd.C_drew ?_)))
  (case side2=>exact (Kd.R_reads' HO744.out).2.1)
  (case side3=>exact cC_ HR1.out)
  (case side4=>exact HC1.out)
  rintro e w' ⟨rfl,⟨nd,rfl⟩⟩
  refine ⟨_,rfl,?_⟩
  refine hK.out _ _ ⟨(blk_cell BK741.out 0).trans rfl,(blk_cell BK741.out 1).trans rfl,(blk_cell BK730.out 0).trans rfl⟩ (fun hHeld=>?_)
  clear hK K
  refine norm_ (a':=?_) ?_ ?_
  rotate_left
  ·show Act.put _ (some 27) _=_
   simp only [Act.put,List.setIfInBounds_toArray,List.set_cons_zero,List.set_cons_succ,i64_w,i32_w]
   rfl
  refine pu_ 7 (some 28) (bm_ 9 255) rfl rfl HT_.out ?_
  refine pu_ 8 (some 29) (bm_ 9 511) rfl rfl HT_.out ?_
  refine done_ (done_of HT_.out krT_) ?_
  obtain ⟨hcz47_0,hcz47_1,hfz47_0,hfz47_1⟩:=bz2_ BK731.out
  try go_wp2
  refine bodyPost_ret (results_ct rfl _ _ gb731 26 #[.int .i64 0,.slice none 0 0] (0,0) _ rfl (by (with_reducible repeat (first|refine blk_drewN ?_ _|refine blk_drew ?_|refine blk_alloc ?_ _));exact bp2_ (bkC_ BK731.out)) Tryz.underlying26 rfl krT_) rfl ?_
  exact ⟨_,eT_,by first|exact Kd.R_nil _ _ _ _ _|exact Kd.N_nil _ _ _ _ _|exact Kd.V_nil _ _ _ _ _|exact Kd.Q_nil _ _ _ _ _|exact Kd.S_nil _ _ _ _ _,h_HB HB.out⟩
 simp only [Option.some.injEq,Prod.mk.injEq] at H
 obtain ⟨rfl,rfl,rfl⟩:=H
 go_enter Tryz.func10,Tryz.ntmps10
 try go_wp2_with (first|((with_reducible refine gate_dst (N:=3) rfl ?_);refine bx_ (N:=3) (cs:=#[.slice A1 l1.length c1]) (t:=24) ?_;intro gb730 hg w11 hbox hb;have BK730:=Aside0.mk (hbox);have GW730:=Aside0.mk (gw_ hg (h_HB HB.out));have GE730:=GW730;replace HB:=s_HB HB.out hb;clear hb hbox hg)|((with_reducible refine gate_dst (N:=4) rfl ?_);refine bx_ (N:=4) (cs:=#[.int .i64 0,.slice none 0 0]) (t:=26) ?_;intro gb731 hg w12 hbox hb;have BK731:=Aside0.mk (hbox);have GW731:=Aside0.mk (gw_ hg (h_HB HB.out));have GE731:=GW731;replace HB:=s_HB HB.out hb;have NB730_731:=Aside0.mk (nbl_ hg (bkC_ BK730.out));have NB731_730:=Aside0.mk NB730_731.out.symm;replace BK730:=sBK_ BK730.out hb;clear hb hbox hg;have hnb13:=NB730_731.out;have hnc13:=NB731_730.out;obtain ⟨hcz14_0,hfz14_0⟩:=bz1_ BK730.out)|((with_reducible refine gate_callee (f:=31) rfl ?_);refine goesL_ (some 10) rfl rfl Tryz.func31 krT_ rfl #[.int .i64 a0,.slice A1 l1.length c1] rfl agT_ ?_;(with_reducible refine (impl_IsFamily.calls k a0 _ _ l1 true _ ?side1 ?side2 A3.out).mono ?_);(case side1=>exact cC_ HR1.out);(case side2=>exact HC1.out);rintro e w' ⟨rfl,⟨nd,rfl⟩⟩;refine ⟨_,rfl,?_⟩;(try (rw [drewN_self w12];generalize hq_:World.drewN w12 _=w12;replace BK730:Aside0 (w12.heap[gb730]?=some (.cells #[.slice A1 l1.length c1] 24 (0,0))):=⟨by rw [← hq_];exact (bkC_ BK730.out)⟩;replace BK731:Aside0 (w12.heap[gb731]?=some (.cells #[.int .i64 0,.slice none 0 0] 26 (0,0))):=⟨by rw [← hq_];exact (bkC_ BK731.out)⟩;replace HB:Aside0 (Below w.heap.size w w12):=⟨by rw [← hq_];exact (h_HB HB.out)⟩;clear hq_;have hcuz15_gb730_0:w12.cell? ⟨gb730,0,none⟩=some (.slice A1 l1.length c1):=(blk_cell BK730.out 0).trans rfl;have hfuz15_gb730_0:=blk_frozen BK730.out 0;have hcuz15_gb731_0:w12.cell? ⟨gb731,0,none⟩=some (.int .i64 0):=(blk_cell BK731.out 0).trans rfl;have hfuz15_gb731_0:=blk_frozen BK731.out 0;have hcuz15_gb731_1:w12.cell? ⟨gb731,1,none⟩=some (.slice none 0 0):=(blk_cell BK731.out 1).trans rfl;have hfuz15_gb731_1:=blk_frozen BK731.out 1)))|((with_reducible refine gate_callee (f:=27) rfl ?_);refine goesL_ (some 17) rfl rfl Tryz.func27 krT_ rfl #[.int .i64 a0,.func (.func 39) #[] #[.pointer (some ⟨gb730,0,none⟩)]] rfl agT_ ?_;(with_reducible refine (on_impl_FromCircuits_1.calls k a0 A1 c1 l1 t733 _ ?side1 ?side2 A5.out gb730 ?side3).mono ?_);(case side1=>exact cC_ HR1.out);(case side2=>exact HC1.out);(case side3=>exact (bkC_ BK730.out));rintro e w16 ⟨v734,rfl,ho0,hb⟩;refine ⟨_,rfl,?_⟩;have HO735:=Aside0.mk (Kd.R_lower ho0 (below_size (h_HB HB.out)));replace BK730:=sBK_ BK730.out hb;replace BK731:=sBK_ BK731.out hb;replace HB:=s_HB HB.out hb;(try clear hb);(try clear ho0);obtain ⟨Ao17,co17,eo17⟩:=Kd.R_slice HO735.out;subst eo17)|((with_reducible refine gate_callee (f:=38) rfl ?_);refine goesL_ (some 18) rfl rfl Tryz.func38 krT_ rfl #[.int .i64 a0,.slice Ao17 t733.length co17] rfl agT_ ?_;(with_reducible refine (impl_fromIndependent.calls k a0 _ _ t733 t736 t737 true _ ?side1 ?side2 A6.out).mono ?_);(case side1=>repeat (first|exact (Kd.R_reads' HO735.out).2.2|(with_reducible refine Kd.C_alloc ?_ _)|(with_reducible refine Kd.C_drewN ?_ _)|(with_reducible refine Kd.C_drew ?_)));(case side2=>exact (Kd.R_reads' HO735.out).2.1);rintro e w18 ⟨v738,rfl,ho0,hb⟩;refine ⟨_,rfl,?_⟩;have HO739:=Aside0.mk (Kd.R_lower (Kd.R_new' ho0 (Kd.R_lt (kRC_ HO735.out))) (below_size (h_HB HB.out)));replace HO735:=Aside0.mk (Kd.R_elder' (kRC_ HO735.out) (Kd.R_base ho0) hb);replace BK730:=sBK_ BK730.out hb;replace BK731:=sBK_ BK731.out hb;replace HB:=s_HB HB.out hb;(try clear hb);(try clear ho0))|((with_reducible refine gate_dst (N:=6) rfl ?_);refine bx_ (N:=6) (cs:=#[.int .i64 0,.slice none 0 0]) (t:=26) ?_;intro gb741 hg w19 hbox hb;replace HO735:=Aside0.mk (Kd.R_below (kRC_ HO735.out) hb);replace HO739:=Aside0.mk (Kd.R_below (kRC_ HO739.out) hb);have BK741:=Aside0.mk (hbox);have GW741:=Aside0.mk (gw_ hg (h_HB HB.out));have GE741:=GW741;replace HB:=s_HB HB.out hb;have NB730_741:=Aside0.mk (nbl_ hg (bkC_ BK730.out));have NB741_730:=Aside0.mk NB730_741.out.symm;replace BK730:=sBK_ BK730.out hb;have NB731_741:=Aside0.mk (nbl_ hg (bkC_ BK731.out));have NB741_731:=Aside0.mk NB731_741.out.symm;replace BK731:=sBK_ BK731.out hb;clear hb hbox hg;have hnb20:=NB741_730.out;have hnc20:=NB730_741.out;have hnb21:=NB741_731.out;have hnc21:=NB731_741.out;obtain ⟨hcz22_0,hcz22_1,hfz22_0,hfz22_1⟩:=bz2_ BK741.out;obtain ⟨Ao23,co23,eo23⟩:=Kd.R_slice HO739.out;subst eo23))
 have n0_:Aside0 (Kd.R (Kd.int .i64) 3 ((w19.setCell ⟨gb741,0,none⟩ (.int .i64 t736)).setCell ⟨gb741,1,none⟩ (.slice Ao23 t737.length co23)) w.heap.size (fun k_=>some k_≠(.slice Ao23 t737.length co23:Value).ownBlock) (.slice Ao17 t733.length co17) t733):=⟨by (with_reducible repeat (first|apply Kd.R_alloc|apply Kd.R_drewN|apply Kd.R_drew));exact Kd.R_mono (Kd.R_far (p:=⟨gb741,1,none⟩) (Kd.R_far (p:=⟨gb741,0,none⟩) (Kd.R_types HO735.out BK741.out (by decide)) (fun _ hk=>hk.2) (.int .i64 t736)) (fun _ hk=>hk.2) (.slice Ao23 t737.length co23)) (fun _ hk=>hk.1.2)⟩
 have n1_:Aside0 (Kd.R (Kd.int .i64) 3 ((w19.setCell ⟨gb741,0,none⟩ (.int .i64 t736)).setCell ⟨gb741,1,none⟩ (.slice Ao23 t737.length co23)) w.heap.size (fun k_=>some k_≠(.slice Ao17 t733.length co17:Value).ownBlock) (.slice Ao23 t737.length co23) t737):=⟨by (with_reducible repeat (first|apply Kd.R_alloc|apply Kd.R_drewN|apply Kd.R_drew));exact Kd.R_mono (Kd.R_far (p:=⟨gb741,1,none⟩) (Kd.R_far (p:=⟨gb741,0,none⟩) (Kd.R_types HO739.out BK741.out (by decide)) (fun _ hk=>hk.2) (.int .i64 t736)) (fun _ hk=>hk.2) (.slice Ao23 t737.length co23)) (fun _ hk=>hk.1.2)⟩
 have n2_:Aside0 (((w19.setCell ⟨gb741,0,none⟩ (.int .i64 t736)).setCell ⟨gb741,1,none⟩ (.slice Ao23 t737.length co23)).heap[gb730]?=some (.cells #[.slice A1 l1.length c1] 24 (0,0))):=⟨bkC_ BK730.out⟩
 have n3_:Aside0 (((w19.setCell ⟨gb741,0,none⟩ (.int .i64 t736)).setCell ⟨gb741,1,none⟩ (.slice Ao23 t737.length co23)).heap[gb731]?=some (.cells #[.int .i64 0,.slice none 0 0] 26 (0,0))):=⟨bkC_ BK731.out⟩
 have n4_:Aside0 (((w19.setCell ⟨gb741,0,none⟩ (.int .i64 t736)).setCell ⟨gb741,1,none⟩ (.slice Ao23 t737.length co23)).heap[gb741]?=some (.cells #[.int .i64 t736,.slice Ao23 t737.length co23] 26 (0,0))):=⟨by (with_reducible repeat (first|refine blk_drewN ?_ _|refine blk_drew ?_|refine blk_alloc ?_ _));exact bp2_ (bkC_ BK741.out)⟩
 have n5_:Aside0 (Below w.heap.size w ((w19.setCell ⟨gb741,0,none⟩ (.int .i64 t736)).setCell ⟨gb741,1,none⟩ (.slice Ao23 t737.length co23))):=⟨h_HB HB.out⟩
 (try clear HO735)
 (try clear HO739)
 (try clear BK730)
 (try clear BK731)
 (try clear BK741)
 (try clear HB)
 generalize ((w19.setCell ⟨gb741,0,none⟩ (.int .i64 t736)).setCell ⟨gb741,1,none⟩ (.slice Ao23 t737.length co23))=w24 at n0_ n1_ n2_ n3_ n4_ n5_ ⊢
 have HO735:=n0_
 have HO739:=n1_
 have BK730:=n2_
 have BK731:=n3_
 have BK741:=n4_
 have HB:=n5_
 clear n0_ n1_ n2_ n3_ n4_ n5_
 replace HO735:=Aside0.mk (Kd.R_drew HO735.out);replace HO739:=Aside0.mk (Kd.R_drew HO739.out);replace BK730:=Aside0.mk (blk_drew BK730.out);replace BK731:=Aside0.mk (blk_drew BK731.out);replace BK741:=Aside0.mk (blk_drew BK741.out);replace HB:=Aside0.mk (below_drew1 HB.out)
 refine start_ (n:=9) (S:=fun w'=>w'.cell? ⟨gb741,0,none⟩=some (.int .i64 t736)∧w'.cell? ⟨gb741,1,none⟩=some (.slice Ao23 t737.length co23)∧w'.cell? ⟨gb730,0,none⟩=some (.slice A1 l1.length c1)) (ds:=[]) #[F_,F_,F_,F_,F_,F_,F_,F_,F_] krT_ rfl rfl ⟨(blk_cell BK741.out 0).trans rfl,(blk_cell BK741.out 1).trans rfl,(blk_cell BK730.out 0).trans rfl⟩ (fun hHeld=>?_);refine with_tabW impl_FromCircuits.tab4 impl_FromCircuits.bits4 (fun HT_ HW_=>?_)
 generalize w24.drew=w25 at HO735 HO739 BK730 BK731 BK741 HB hHeld ⊢
 refine pu_ 0 (some 21) (bm_ 9 1) rfl rfl HT_.out ?_
 refine pu_ 1 (some 22) (bm_ 9 3) rfl rfl HT_.out ?_
 refine pu_ 2 (some 23) (bm_ 9 7) rfl rfl HT_.out ?_
 refine take_ (i:=3) (N:=some 24) (v:=?_) (a':=?_) (bm_ 9 15) rfl rfl (take_ofW HT_.out HW_.out krT_) (fun _ _ _ h=>h) (Or.inl ⟨by rfl,?_⟩) hHeld ?_ ?_
 rotate_left
 ·rintro w' ⟨s0,s1,s2⟩
  go_simp
  with_reducible rfl
 rotate_left;exact apT_
 refine take_ (i:=5) (N:=some 26) (v:=?_) (a':=?_) (bm_ 9 47) rfl rfl (take_ofW HT_.out HW_.out krT_) (fun _ _ _ h=>h) (Or.inl ⟨by rfl,?_⟩) hHeld ?_ ?_
 rotate_left
 ·rintro w' ⟨s0,s1,s2⟩
  go_simp
  with_reducible rfl
 rotate_left;exact apT_
 refine one_ (i:=4) (N:=some 25) (bm_ 9 63) rfl rfl (one_of HT_.out krT_) (by decide) (fun K hK=>?_)
 refine goes_ Tryz.func6 krT_ rfl #[.agg #[.int .i64 t736,.slice Ao23 t737.length co23]] (by rfl) rfl rfl agT_ ?_
 with_reducible refine (impl_Circuits.calls k t736 _ _ t737 t742 _ ?side1 ?side2 A8.out).mono ?_
 (case side1=>repeat (first|exact (Kd.R_reads' HO739.out).2.2|(with_reducible refine Kd.C_alloc ?_ _)|(with_reducible refine Kd.C_drewN ?_ _)|(with_reducible refine Kd.C_drew ?_)))
 (case side2=>exact (Kd.R_reads' HO739.out).2.1)
 rintro e w26 ⟨v743,rfl,ho0,hb⟩
 refine ⟨_,rfl,?_⟩
 have HO744:=Aside0.mk (Kd.R_lower (Kd.R_new' (Kd.R_new' ho0 (Kd.R_lt (kRC_ HO735.out))) (Kd.R_lt (kRC_ HO739.out))) (below_size (h_HB HB.out)));replace HO735:=Aside0.mk (Kd.R_elder' (kRC_ HO735.out) (Kd.R_base ho0) hb);replace HO739:=Aside0.mk (Kd.R_elder' (kRC_ HO739.out) (Kd.R_base ho0) hb);replace BK730:=sBK_ BK730.out hb;replace BK731:=sBK_ BK731.out hb;replace BK741:=sBK_ BK741.out hb;replace HB:=s_HB HB.out hb
 (try clear hb)
 (try clear hb2)
 (try clear hk)
 (try clear hi)
 (try clear ho0)
 obtain ⟨Ao27,co27,eo27⟩:=Kd.R_slice HO744.out
 (first|subst eo27|(injection eo27 with f1_ f2_ f3_;have f4_:=f1_.symm;have f5_:=f3_.symm;clear f1_ f2_ f3_;subst f4_;subst f5_))
 refine hK.out _ _ ⟨(blk_cell BK741.out 0).trans rfl,(blk_cell BK741.out 1).trans rfl,(blk_cell BK730.out 0).trans rfl⟩ (fun hHeld=>?_)
 clear hK K
 refine norm_ (a':=?_) ?_ ?_
 rotate_left
 ·show Act.put _ (some 25) _=_
  simp only [Act.put,List.setIfInBounds_toArray,List.set_cons_zero,List.set_cons_succ,i64_w,i32_w]
  rfl
 refine one_ (i:=6) (N:=some 27) (bm_ 9 127) rfl rfl (one_of HT_.out krT_) (by decide) (fun K hK=>?_)
 refine goes_ Tryz.func41 krT_ rfl #[.slice Ao27 t742.length co27,.slice A1 l1.length c1] (by rfl) rfl rfl agT_ ?_
 with_reducible refine (slices_Equal_int_int.calls k _ _ t742 _ _ l1 true _ ?side1 ?side2 ?side3 ?side4 A9.out).mono ?_
 (case side1=>repeat (first|exact (Kd.R_reads' HO744.out).2.2|(with_reducible refine Kd.C_alloc ?_ _)|(with_reducible refine Kd.C_drewN ?_ _)|(with_reducible refine Kd.C_drew ?_)))
 (case side2=>exact (Kd.R_reads' HO744.out).2.1)
 (case side3=>exact cC_ HR1.out)
 (case side4=>exact HC1.out)
 rintro e w' ⟨rfl,⟨nd,rfl⟩⟩
 refine ⟨_,rfl,?_⟩
 refine hK.out _ _ ⟨(blk_cell BK741.out 0).trans rfl,(blk_cell BK741.out 1).trans rfl,(blk_cell BK730.out 0).trans rfl⟩ (fun hHeld=>?_)
 clear hK K
 refine norm_ (a':=?_) ?_ ?_
 rotate_left
 ·show Act.put _ (some 27) _=_
  simp only [Act.put,List.setIfInBounds_toArray,List.set_cons_zero,List.set_cons_succ,i64_w,i32_w]
  rfl
 refine pu_ 7 (some 28) (bm_ 9 255) rfl rfl HT_.out ?_
 refine pu_ 8 (some 29) (bm_ 9 511) rfl rfl HT_.out ?_
 refine done_ (done_of HT_.out krT_) ?_
 obtain ⟨hcz28_0,hcz28_1,hfz28_0,hfz28_1⟩:=bz2_ BK741.out
 obtain ⟨hcz29_0,hcz29_1,hfz29_0,hfz29_1⟩:=bz2_ BK731.out
 try go_wp2
 refine bodyPost_ret (results_ct rfl _ _ gb731 26 #[.int .i64 t736,.slice Ao23 t737.length co23] (0,0) _ rfl (by (with_reducible repeat (first|refine blk_drewN ?_ _|refine blk_drew ?_|refine blk_alloc ?_ _));exact bp2_ (bkC_ BK731.out)) Tryz.underlying26 rfl krT_) rfl ?_
 exact ⟨_,eT_,by (with_reducible repeat (first|apply Kd.R_alloc|apply Kd.R_drewN|apply Kd.R_drew));exact Kd.R_mono (Kd.R_far (p:=⟨gb731,1,none⟩) (Kd.R_far (p:=⟨gb731,0,none⟩) (Kd.R_types HO739.out BK731.out (by decide)) (fun _ hk=>hk.2) (.int .i64 t736)) (fun _ hk=>hk.2) (.slice Ao23 t737.length co23)) (fun _ hk=>trivial),h_HB HB.out⟩
mutual
def spec_MaximalSets.l0:Nat→List Int→List Int→Int→Option (List Int)
 | 0,_,_,_=>none
 | k+1,x0,x3,x4=>if x4<(x0.length:Int) then (spec_MaximalSets.l1 k x0 x3 x4 true 0) else ((spec_SortSets.f k x3).bind fun t750=>(some t750))
def spec_MaximalSets.l1:Nat→List Int→List Int→Int→Bool→Int→Option (List Int)
 | 0,_,_,_,_,_=>none
 | k+1,x0,x3,x4,x5,x6=>if x6<(x0.length:Int) then (if x5=true then (if 0≤x6 then (if 0≤x4 then (if x4<(x0.length:Int) then (if (rd x0 x6)=(rd x0 x4) then (spec_MaximalSets.l1 k x0 x3 x4 true (wrap64 (x6+1))) else (spec_MaximalSets.l1 k x0 x3 x4 ((Go.bits .and .i64 (rd x0 x6) (rd x0 x4)) != (rd x0 x4)) (wrap64 (x6+1)))) else (none)) else (none)) else (none)) else (spec_MaximalSets.l1 k x0 x3 x4 false (wrap64 (x6+1)))) else (if x5=true then (if 0≤x4 then (if x4<(x0.length:Int) then (if x3.length<17592186044416 then (spec_MaximalSets.l0 k x0 (x3++[rd x0 x4]) (wrap64 (x4+1))) else (none)) else (none)) else (none)) else (spec_MaximalSets.l0 k x0 x3 (wrap64 (x4+1))))
end
def spec_MaximalSets.f (k:Nat) (l0:List Int):Option (List Int):=(some (([]:List Int):List Int)).bind fun y746=>((spec_l3Sets.f k 8 l0).bind fun t749=>(if t749=true then (spec_MaximalSets.l0 k l0 y746 0) else (some y746)))
theorem spec_MaximalSets.calls (k:Nat) (A0:Option Addr) (c0:Nat) (l0:List Int) (r:List Int) (w:World) (hr0:Kd.C (Kd.int .i64) w A0 l0.length l0) (hc0:l0.length≤c0) (h:spec_MaximalSets.f k l0=some r) :
    Calls Tryz.prog 44 #[.slice A0 l0.length c0] w fun e w'=>∃ v0_:Value,e=.returned (v0_)∧Kd.R (Kd.int .i64) 3 w' w.heap.size (fun _=>True) v0_ r∧Below w.heap.size w w':=by
 have HR0:=Aside0.mk hr0
 have HC0:=Aside0.mk hc0
 clear hr0 hc0
 have HB:=Aside0.mk (Below.refl w.heap.size w)
 unfold spec_MaximalSets.f at h
 have H:=h
 clear h
 replace H:=sy_ H;obtain ⟨y746,Ny746,H⟩:=H
 replace H:=bnd_ H;obtain ⟨t749,A2,H⟩:=H
 replace H:=(gst_ H).symm;rcases H with ⟨rfl,H⟩|⟨rfl,H⟩
 ·obtain rfl:=Option.some.inj H
  go_enter Tryz.func44,Tryz.ntmps44
  go_wp2_with (first|((with_reducible refine gate_dst (N:=7) rfl ?_);refine Kd.R_lit (Kd.int .i64) _ 3 ?hg (N:=7) ?hd (xs:=([]:List Int)) (inner:=[]) (ok:=fun _=>True) (okp:=fun _=>True) ?hr ?hp (fun _ hk=>hk) trivial (Below.refl _ _) (Nat.le_refl _) (by simp) ?_;(case hd=>rfl);(case hg=>rfl);(case hr=>exact hrT_);(case hp=>exact (Reps.none _ _));intro v747 w21 ho22 hb hg_ hnew_;clear hg_ hnew_;(first|rw [← Ny746.out] at ho22|(simp only [Int.reduceToNat] at ho22;rw [← Ny746.out] at ho22));have HO748:=Aside0.mk (Kd.R_lower ho22 (below_size (h_HB HB.out)));replace HB:=s_HB HB.out hb;clear hb ho22)|(go_at_call 76;(with_reducible refine (spec_l3Sets.calls k 8 _ _ l0 false _ ?side1 ?side2 A2.out).mono ?_);(case side1=>exact cC_ HR0.out);(case side2=>exact HC0.out);rintro e w' ⟨rfl,⟨nd,rfl⟩⟩;(try first|exact ⟨rfl,_,World.drewN_drewN _ _ _⟩|exact ⟨rfl,_,Eq.trans (World.drewN_drewN _ _ _) (congrArg (World.drewN _) (Nat.add_assoc _ _ _))⟩)))
  repeat (go_quiet (first|((with_reducible refine gate_dst (N:=7) rfl ?_);refine Kd.R_lit (Kd.int .i64) _ 3 ?hg (N:=7) ?hd (xs:=([]:List Int)) (inner:=[]) (ok:=fun _=>True) (okp:=fun _=>True) ?hr ?hp (fun _ hk=>hk) trivial (Below.refl _ _) (Nat.le_refl _) (by simp) ?_;(case hd=>rfl);(case hg=>rfl);(case hr=>exact hrT_);(case hp=>exact (Reps.none _ _));intro v747 w21 ho22 hb hg_ hnew_;clear hg_ hnew_;(first|rw [← Ny746.out] at ho22|(simp only [Int.reduceToNat] at ho22;rw [← Ny746.out] at ho22));have HO748:=Aside0.mk (Kd.R_lower ho22 (below_size (h_HB HB.out)));replace HB:=s_HB HB.out hb;clear hb ho22)|(go_at_call 76;(with_reducible refine (spec_l3Sets.calls k 8 _ _ l0 false _ ?side1 ?side2 A2.out).mono ?_);(case side1=>exact cC_ HR0.out);(case side2=>exact HC0.out);rintro e w' ⟨rfl,⟨nd,rfl⟩⟩;(try first|exact ⟨rfl,_,World.drewN_drewN _ _ _⟩|exact ⟨rfl,_,Eq.trans (World.drewN_drewN _ _ _) (congrArg (World.drewN _) (Nat.add_assoc _ _ _))⟩)));try go_wp2_with (first|((with_reducible refine gate_dst (N:=7) rfl ?_);refine Kd.R_lit (Kd.int .i64) _ 3 ?hg (N:=7) ?hd (xs:=([]:List Int)) (inner:=[]) (ok:=fun _=>True) (okp:=fun _=>True) ?hr ?hp (fun _ hk=>hk) trivial (Below.refl _ _) (Nat.le_refl _) (by simp) ?_;(case hd=>rfl);(case hg=>rfl);(case hr=>exact hrT_);(case hp=>exact (Reps.none _ _));intro v747 w21 ho22 hb hg_ hnew_;clear hg_ hnew_;(first|rw [← Ny746.out] at ho22|(simp only [Int.reduceToNat] at ho22;rw [← Ny746.out] at ho22));have HO748:=Aside0.mk (Kd.R_lower ho22 (below_size (h_HB HB.out)));replace HB:=s_HB HB.out hb;clear hb ho22)|(go_at_call 76;(with_reducible refine (spec_l3Sets.calls k 8 _ _ l0 false _ ?side1 ?side2 A2.out).mono ?_);(case side1=>exact cC_ HR0.out);(case side2=>exact HC0.out);rintro e w' ⟨rfl,⟨nd,rfl⟩⟩;(try first|exact ⟨rfl,_,World.drewN_drewN _ _ _⟩|exact ⟨rfl,_,Eq.trans (World.drewN_drewN _ _ _) (congrArg (World.drewN _) (Nat.add_assoc _ _ _))⟩))))
  go_ret
  exact ⟨_,eT_,kRC_ HO748.out,h_HB HB.out⟩
 have H':=Aside0.mk H
 clear H
 go_enter Tryz.func44,Tryz.ntmps44
 go_wp2_with (first|((with_reducible refine gate_dst (N:=7) rfl ?_);refine Kd.R_lit (Kd.int .i64) _ 3 ?hg (N:=7) ?hd (xs:=([]:List Int)) (inner:=[]) (ok:=fun _=>True) (okp:=fun _=>True) ?hr ?hp (fun _ hk=>hk) trivial (Below.refl _ _) (Nat.le_refl _) (by simp) ?_;(case hd=>rfl);(case hg=>rfl);(case hr=>exact hrT_);(case hp=>exact (Reps.none _ _));intro v747 w4 ho5 hb hg_ hnew_;clear hg_ hnew_;(first|rw [← Ny746.out] at ho5|(simp only [Int.reduceToNat] at ho5;rw [← Ny746.out] at ho5));have HO748:=Aside0.mk (Kd.R_lower ho5 (below_size (h_HB HB.out)));replace HB:=s_HB HB.out hb;clear hb ho5)|(go_at_call 76;(with_reducible refine (spec_l3Sets.calls k 8 _ _ l0 true _ ?side1 ?side2 A2.out).mono ?_);(case side1=>exact cC_ HR0.out);(case side2=>exact HC0.out);rintro e w' ⟨rfl,⟨nd,rfl⟩⟩;(try first|exact ⟨rfl,_,World.drewN_drewN _ _ _⟩|exact ⟨rfl,_,Eq.trans (World.drewN_drewN _ _ _) (congrArg (World.drewN _) (Nat.add_assoc _ _ _))⟩)))
 repeat (go_quiet (first|((with_reducible refine gate_dst (N:=7) rfl ?_);refine Kd.R_lit (Kd.int .i64) _ 3 ?hg (N:=7) ?hd (xs:=([]:List Int)) (inner:=[]) (ok:=fun _=>True) (okp:=fun _=>True) ?hr ?hp (fun _ hk=>hk) trivial (Below.refl _ _) (Nat.le_refl _) (by simp) ?_;(case hd=>rfl);(case hg=>rfl);(case hr=>exact hrT_);(case hp=>exact (Reps.none _ _));intro v747 w4 ho5 hb hg_ hnew_;clear hg_ hnew_;(first|rw [← Ny746.out] at ho5|(simp only [Int.reduceToNat] at ho5;rw [← Ny746.out] at ho5));have HO748:=Aside0.mk (Kd.R_lower ho5 (below_size (h_HB HB.out)));replace HB:=s_HB HB.out hb;clear hb ho5)|(go_at_call 76;(with_reducible refine (spec_l3Sets.calls k 8 _ _ l0 true _ ?side1 ?side2 A2.out).mono ?_);(case side1=>exact cC_ HR0.out);(case side2=>exact HC0.out);rintro e w' ⟨rfl,⟨nd,rfl⟩⟩;(try first|exact ⟨rfl,_,World.drewN_drewN _ _ _⟩|exact ⟨rfl,_,Eq.trans (World.drewN_drewN _ _ _) (congrArg (World.drewN _) (Nat.add_assoc _ _ _))⟩)));try go_wp2_with (first|((with_reducible refine gate_dst (N:=7) rfl ?_);refine Kd.R_lit (Kd.int .i64) _ 3 ?hg (N:=7) ?hd (xs:=([]:List Int)) (inner:=[]) (ok:=fun _=>True) (okp:=fun _=>True) ?hr ?hp (fun _ hk=>hk) trivial (Below.refl _ _) (Nat.le_refl _) (by simp) ?_;(case hd=>rfl);(case hg=>rfl);(case hr=>exact hrT_);(case hp=>exact (Reps.none _ _));intro v747 w4 ho5 hb hg_ hnew_;clear hg_ hnew_;(first|rw [← Ny746.out] at ho5|(simp only [Int.reduceToNat] at ho5;rw [← Ny746.out] at ho5));have HO748:=Aside0.mk (Kd.R_lower ho5 (below_size (h_HB HB.out)));replace HB:=s_HB HB.out hb;clear hb ho5)|(go_at_call 76;(with_reducible refine (spec_l3Sets.calls k 8 _ _ l0 true _ ?side1 ?side2 A2.out).mono ?_);(case side1=>exact cC_ HR0.out);(case side2=>exact HC0.out);rintro e w' ⟨rfl,⟨nd,rfl⟩⟩;(try first|exact ⟨rfl,_,World.drewN_drewN _ _ _⟩|exact ⟨rfl,_,Eq.trans (World.drewN_drewN _ _ _) (congrArg (World.drewN _) (Nat.add_assoc _ _ _))⟩))))
 go_loopg [3,4] k (fun kq v3 v4 w'=>∃ (x3_1:List Int) (x4_1:Int),v4=.int .i64 x4_1∧Aside0 (spec_MaximalSets.l0 kq l0 x3_1 x4_1=some r)∧Aside0 (kq≤k)∧Aside0 (Kd.R (Kd.int .i64) 3 w' w.heap.size (fun _=>True) v3 x3_1)∧Aside0 (Below w.heap.size w w'))
 case atStart=>exact ⟨(y746),(0),sT_,H',⟨Nat.le_refl _⟩,⟨kRC_ HO748.out⟩,⟨h_HB HB.out⟩⟩
 case round =>
 clear H'
 try clear p2
 try clear c3
 try clear c4
 obtain ⟨x3_1,x4_1,rfl,HA,HK1,HO_3,HB⟩:=hrel
 cases gk with
 | zero=>exact absurd HA.out (by simp [spec_MaximalSets.l0])
 | succ k1 =>
 have H:=HA.out
 clear HA
 simp only [spec_MaximalSets.l0] at H
 replace H:=gsn_ H;rcases H with ⟨c6b0,H⟩|⟨c6b0,H⟩
 ·replace H:=bnd_ H;obtain ⟨t750,A18,H⟩:=H
  obtain rfl:=Option.some.inj H
  obtain ⟨Ao19,co19,eo19⟩:=Kd.R_slice HO_3.out
  subst eo19
  go_wp2_with (first|(go_at_call 60;(with_reducible refine (spec_SortSets.calls k1 _ _ x3_1 t750 _ ?side1 ?side2 A18.out).mono ?_);(case side1=>repeat (first|exact (Kd.R_reads' HO_3.out).2.2|(with_reducible refine Kd.C_alloc ?_ _)|(with_reducible refine Kd.C_drewN ?_ _)|(with_reducible refine Kd.C_drew ?_)));(case side2=>exact (Kd.R_reads' HO_3.out).2.1);rintro e w20 ⟨v751,rfl,ho0,hb⟩;have HO752:=Aside0.mk (Kd.R_lower (Kd.R_new' ho0 (Kd.R_lt (kRC_ HO_3.out))) (below_size (h_HB HB.out)));replace HO_3:=Aside0.mk (Kd.R_elder' (kRC_ HO_3.out) (Kd.R_base ho0) hb);replace HB:=s_HB HB.out hb;(try clear hb);(try clear ho0)))
  repeat (go_quiet (first|(go_at_call 60;(with_reducible refine (spec_SortSets.calls k1 _ _ x3_1 t750 _ ?side1 ?side2 A18.out).mono ?_);(case side1=>repeat (first|exact (Kd.R_reads' HO_3.out).2.2|(with_reducible refine Kd.C_alloc ?_ _)|(with_reducible refine Kd.C_drewN ?_ _)|(with_reducible refine Kd.C_drew ?_)));(case side2=>exact (Kd.R_reads' HO_3.out).2.1);rintro e w20 ⟨v751,rfl,ho0,hb⟩;have HO752:=Aside0.mk (Kd.R_lower (Kd.R_new' ho0 (Kd.R_lt (kRC_ HO_3.out))) (below_size (h_HB HB.out)));replace HO_3:=Aside0.mk (Kd.R_elder' (kRC_ HO_3.out) (Kd.R_base ho0) hb);replace HB:=s_HB HB.out hb;(try clear hb);(try clear ho0)));try go_wp2_with (first|(go_at_call 60;(with_reducible refine (spec_SortSets.calls k1 _ _ x3_1 t750 _ ?side1 ?side2 A18.out).mono ?_);(case side1=>repeat (first|exact (Kd.R_reads' HO_3.out).2.2|(with_reducible refine Kd.C_alloc ?_ _)|(with_reducible refine Kd.C_drewN ?_ _)|(with_reducible refine Kd.C_drew ?_)));(case side2=>exact (Kd.R_reads' HO_3.out).2.1);rintro e w20 ⟨v751,rfl,ho0,hb⟩;have HO752:=Aside0.mk (Kd.R_lower (Kd.R_new' ho0 (Kd.R_lt (kRC_ HO_3.out))) (below_size (h_HB HB.out)));replace HO_3:=Aside0.mk (Kd.R_elder' (kRC_ HO_3.out) (Kd.R_base ho0) hb);replace HB:=s_HB HB.out hb;(try clear hb);(try clear ho0))))
  go_ret
  exact ⟨_,eT_,by (with_reducible repeat (first|apply Kd.R_alloc|apply Kd.R_drewN|apply Kd.R_drew));exact Kd.R_mono HO752.out (fun _ hk=>trivial),h_HB HB.out⟩
 have H':=Aside0.mk H
 clear H
 go_wp2
 repeat (go_quiet (fail);try go_wp2)
 go_loopg [5,6] k1 (fun kq v5 v6 w'=>∃ (x5_2:Bool) (x6_2:Int),v5=.bool x5_2∧v6=.int .i64 x6_2∧Aside0 (spec_MaximalSets.l1 kq l0 x3_1 x4_1 x5_2 x6_2=some r)∧Aside0 (kq≤k1)∧Aside0 (Kd.R (Kd.int .i64) 3 w' w.heap.size (fun _=>True) u3 x3_1)∧Aside0 (Below w.heap.size w w'))
 case atStart=>exact ⟨(true),(0),sT_,sT_,H',⟨Nat.le_refl _⟩,⟨kRC_ HO_3.out⟩,⟨h_HB HB.out⟩⟩
 case round =>
 clear H'
 try clear p2
 try clear c3
 try clear c4
 try clear c6
 try clear c6b0
 try clear p2
 obtain ⟨x5_2,x6_2,rfl,rfl,HA,HK2,HO_3,HB⟩:=hrel
 cases gk with
 | zero=>exact absurd HA.out (by simp [spec_MaximalSets.l1])
 | succ k2 =>
 have H:=HA.out
 clear HA
 simp only [spec_MaximalSets.l1] at H
 replace H:=gsn_ H;rcases H with ⟨c7b0,H⟩|⟨c7b0,H⟩
 ·replace H:=(gst_ H).symm;rcases H with ⟨rfl,H⟩|⟨rfl,H⟩
  ·have H':=Aside0.mk H
   clear H
   go_wp2
   repeat (go_quiet (fail);try go_wp2)
   go_roundg k2
   case measure=>have:=HK1.out;have:=HK2.out;omega
   case rel=>exact ⟨(x3_1),(wrap64 (x4_1+1)),sT_,H',⟨by have:=HK1.out;have:=HK2.out;omega⟩,⟨kRC_ HO_3.out⟩,⟨h_HB HB.out⟩⟩
  replace H:=gsm_ H;obtain ⟨c14b0,H⟩:=H
  replace H:=gsm_ H;obtain ⟨c15b0,H⟩:=H
  replace H:=gsl_ H;obtain ⟨LMc16,H⟩:=H
  obtain ⟨y759,hy759⟩:∃ y_:List Int,y_=(x3_1++[rd l0 x4_1]):=⟨_,rfl⟩
  rw [← hy759] at H
  have Ny759:=Aside0.mk hy759
  clear hy759
  have H':=Aside0.mk H
  clear H
  obtain ⟨ad758,e758,hx758_0,p758,q758⟩:=aiI_ HR0.out x4_1
  cases e758
  replace hx758_0:=(HB.out.cell (World.block_lt_of_cell? w _ hx758_0)).trans hx758_0
  go_wp2_with (first|((with_reducible refine gate_builtin (b:=.append) (xs:=#[.tmp 53,.tmp 58]) rfl ?_);at_builtin;refine Kd.R_append (Kd.int .i64) (w0:=w) w.heap.size rfl (.tmp 53) (.tmp 58) 24 3 (.int .i64 0) 8 rfl Tryz.underlying24 info3 rfl (by decide) (by omega) u3 x3_1 (rd l0 x4_1) [.int .i64 (rd l0 x4_1)] (fun _=>True) (fun _=>False) rfl rfl ?aP (fun _ hk=>hk.elim) ?aF ?aO ?aB ?aS ?aL ?_;(case aP=>exact rfl);(case aB=>exact (h_HB HB.out));(case aF=>exact (fun _ _=>trivial));(case aO=>exact (kRC_ HO_3.out));(case aS=>exact (below_size (h_HB HB.out)));(case aL=>have:=LMc16.out;omega);intro v760 w17 ho hb hg hat;rw [← Ny759.out] at ho;replace HB:=Aside0.mk (hb);have HO761:=Aside0.mk (ho);clear HO_3;clear ho hb hg hat))
  repeat (go_quiet (first|((with_reducible refine gate_builtin (b:=.append) (xs:=#[.tmp 53,.tmp 58]) rfl ?_);at_builtin;refine Kd.R_append (Kd.int .i64) (w0:=w) w.heap.size rfl (.tmp 53) (.tmp 58) 24 3 (.int .i64 0) 8 rfl Tryz.underlying24 info3 rfl (by decide) (by omega) u3 x3_1 (rd l0 x4_1) [.int .i64 (rd l0 x4_1)] (fun _=>True) (fun _=>False) rfl rfl ?aP (fun _ hk=>hk.elim) ?aF ?aO ?aB ?aS ?aL ?_;(case aP=>exact rfl);(case aB=>exact (h_HB HB.out));(case aF=>exact (fun _ _=>trivial));(case aO=>exact (kRC_ HO_3.out));(case aS=>exact (below_size (h_HB HB.out)));(case aL=>have:=LMc16.out;omega);intro v760 w17 ho hb hg hat;rw [← Ny759.out] at ho;replace HB:=Aside0.mk (hb);have HO761:=Aside0.mk (ho);clear HO_3;clear ho hb hg hat));try go_wp2_with (first|((with_reducible refine gate_builtin (b:=.append) (xs:=#[.tmp 53,.tmp 58]) rfl ?_);at_builtin;refine Kd.R_append (Kd.int .i64) (w0:=w) w.heap.size rfl (.tmp 53) (.tmp 58) 24 3 (.int .i64 0) 8 rfl Tryz.underlying24 info3 rfl (by decide) (by omega) u3 x3_1 (rd l0 x4_1) [.int .i64 (rd l0 x4_1)] (fun _=>True) (fun _=>False) rfl rfl ?aP (fun _ hk=>hk.elim) ?aF ?aO ?aB ?aS ?aL ?_;(case aP=>exact rfl);(case aB=>exact (h_HB HB.out));(case aF=>exact (fun _ _=>trivial));(case aO=>exact (kRC_ HO_3.out));(case aS=>exact (below_size (h_HB HB.out)));(case aL=>have:=LMc16.out;omega);intro v760 w17 ho hb hg hat;rw [← Ny759.out] at ho;replace HB:=Aside0.mk (hb);have HO761:=Aside0.mk (ho);clear HO_3;clear ho hb hg hat)))
  go_roundg k2
  case measure=>have:=HK1.out;have:=HK2.out;omega
  case rel=>exact ⟨(y759),(wrap64 (x4_1+1)),sT_,H',⟨by have:=HK1.out;have:=HK2.out;omega⟩,⟨kRC_ HO761.out⟩,⟨h_HB HB.out⟩⟩
 replace H:=(gst_ H).symm;rcases H with ⟨rfl,H⟩|⟨rfl,H⟩
 ·have H':=Aside0.mk H
  clear H
  go_wp2
  repeat (go_quiet (fail);try go_wp2)
  go_roundg k2
  case measure=>have:=HK1.out;have:=HK2.out;omega
  case rel=>exact ⟨(false),(wrap64 (x6_2+1)),sT_,sT_,H',⟨by have:=HK1.out;have:=HK2.out;omega⟩,⟨kRC_ HO_3.out⟩,⟨h_HB HB.out⟩⟩
 replace H:=gsm_ H;obtain ⟨c9b0,H⟩:=H
 replace H:=gsm_ H;obtain ⟨c10b0,H⟩:=H
 replace H:=gsm_ H;obtain ⟨c11b0,H⟩:=H
 replace H:=gse_ H;rcases H with ⟨c12b0,c12b1,H⟩|⟨c12b0,c12b1,c12,H⟩
 ·have H':=Aside0.mk H
  clear H
  obtain ⟨ad753,e753,hx753_0,p753,q753⟩:=aiI_ HR0.out x6_2
  cases e753
  replace hx753_0:=(HB.out.cell (World.block_lt_of_cell? w _ hx753_0)).trans hx753_0
  obtain ⟨ad754,e754,hx754_0,p754,q754⟩:=aiI_ HR0.out x4_1
  obtain rfl:ad753=ad754:=(by injection e754)
  replace hx754_0:=(HB.out.cell (World.block_lt_of_cell? w _ hx754_0)).trans hx754_0
  go_wp2
  repeat (go_quiet (fail);try go_wp2)
  go_roundg k2
  case measure=>have:=HK1.out;have:=HK2.out;omega
  case rel=>exact ⟨(true),(wrap64 (x6_2+1)),sT_,sT_,H',⟨by have:=HK1.out;have:=HK2.out;omega⟩,⟨kRC_ HO_3.out⟩,⟨h_HB HB.out⟩⟩
 have H':=Aside0.mk H
 clear H
 obtain ⟨ad753,e753,hx753_0,p753,q753⟩:=aiI_ HR0.out x6_2
 cases e753
 replace hx753_0:=(HB.out.cell (World.block_lt_of_cell? w _ hx753_0)).trans hx753_0
 obtain ⟨ad754,e754,hx754_0,p754,q754⟩:=aiI_ HR0.out x4_1
 obtain rfl:ad753=ad754:=(by injection e754)
 replace hx754_0:=(HB.out.cell (World.block_lt_of_cell? w _ hx754_0)).trans hx754_0
 obtain ⟨ad755,e755,hx755_0,p755,q755⟩:=aiI_ HR0.out x6_2
 obtain rfl:ad753=ad755:=(by injection e755)
 replace hx755_0:=(HB.out.cell (World.block_lt_of_cell? w _ hx755_0)).trans hx755_0
 obtain ⟨ad756,e756,hx756_0,p756,q756⟩:=aiI_ HR0.out x4_1
 obtain rfl:ad753=ad756:=(by injection e756)
 replace hx756_0:=(HB.out.cell (World.block_lt_of_cell? w _ hx756_0)).trans hx756_0
 obtain ⟨ad757,e757,hx757_0,p757,q757⟩:=aiI_ HR0.out x4_1
 obtain rfl:ad753=ad757:=(by injection e757)
 replace hx757_0:=(HB.out.cell (World.block_lt_of_cell? w _ hx757_0)).trans hx757_0
 go_wp2
 repeat (go_quiet (fail);try go_wp2)
 go_roundg k2
 case measure=>have:=HK1.out;have:=HK2.out;omega
 case rel=>exact ⟨(((Go.bits .and .i64 (rd l0 x6_2) (rd l0 x4_1)) != (rd l0 x4_1))),(wrap64 (x6_2+1)),sT_,sT_,H',⟨by have:=HK1.out;have:=HK2.out;omega⟩,⟨kRC_ HO_3.out⟩,⟨h_HB HB.out⟩⟩
end Go.Proofs.YtekegbacnagbcaaGreat.P
