-- written by gprint (a program of this session's, round the kit's print), out of the translation and hand-written texts
import Derived.Test.YtekegbacnagbcaaPVFnRanksx0
import Derived.Test.YtekegbacnagbcaaPVFnRanksx1
import Derived.Test.YtekegbacnagbcaaPVFnRanksx3
import Derived.Test.YtekegbacnagbcaaPVFnRanksx8
import Derived.Test.YtekegbacnagbcaaPVFnRanksx9
namespace Go.Proofs.Ytekegbacnagbcaa.P
open Go.RowKit Go.Proofs.YtekegbacnagbcaaW.PrintWords Go.Proofs.YtekegbacnagbcaaW.PrintLast Go.Proofs.YtekegbacnagbcaaW.PrintMore
attribute [local go_sem] max2_int min2_int max_two min_two max_three min_three max_four min_four   -- for this text's walks alone
set_option linter.unusedVariables false
set_option linter.unusedSimpArgs false
/-! ### spec_l4Matrix: function 80 -/
def spec_l4Matrix.l0:Nat→Int→Int→Int→List Int→Int→Int→Int→List Int→Option (Int × List Int)
 | 0,_,_,_,_,_,_,_,_=>none
 | k+1,x0,x1,x2,x3,x10,x11,x369000,x369001=>(spec_FullSet.f x2).bind fun t371=>(if x11≤t371 then ((spec_CountOf.f k x11).bind fun t372=>(if t372=x10 then ((spec_l4Rank.f k x0 x1 x2 x3 x11).bind fun t373=>(if t373=x10 then (if x369001.length<17592186044416 then (spec_l4Matrix.l0 k x0 x1 x2 x3 x10 (wrap64 (x11+1)) x369000 (x369001++[x11])) else (none)) else (spec_l4Matrix.l0 k x0 x1 x2 x3 x10 (wrap64 (x11+1)) x369000 x369001))) else (spec_l4Matrix.l0 k x0 x1 x2 x3 x10 (wrap64 (x11+1)) x369000 x369001))) else (some (x369000,x369001)))
def spec_l4Matrix.f (k:Nat) (a0:Int) (a1:Int) (a2:Int) (l3:List Int):Option (Int × List Int):=(spec_FullSet.f a2).bind fun t369=>((spec_l4Rank.f k a0 a1 a2 l3 t369).bind fun t370=>(spec_l4Matrix.l0 k a0 a1 a2 l3 t370 0 a2 ([]:List Int)))
set_option maxHeartbeats 8000000 in
set_option maxRecDepth 100000 in
theorem spec_l4Matrix.calls (k:Nat) (a0:Int) (a1:Int) (a2:Int) (A3:Option Addr) (c3:Nat) (l3:List Int) (r1:Int) (r2:List Int) (w:World) (hr3:Kd.C (Kd.int .i64) w A3 l3.length l3) (hc3:l3.length≤c3) (h:spec_l4Matrix.f k a0 a1 a2 l3=some (r1,r2)) :
    Calls Try.prog 80 #[.int .i64 a0,.int .i64 a1,.int .i64 a2,.slice A3 l3.length c3] w fun e w'=>∃ v1_:Value,e=.returned (.agg #[.int .i64 r1,v1_])∧Kd.R (Kd.int .i64) 3 w' w.heap.size (fun _=>True) v1_ r2∧Below w.heap.size w w':=by
 have hu26:=Try.underlying26
 have HR3:=Aside0.mk hr3
 have HC3:=Aside0.mk hc3
 clear hr3 hc3
 have HB:=Aside0.mk (Below.refl w.heap.size w)
 unfold spec_l4Matrix.f at h
 have H:=h
 clear h
 replace H:=bnd_ H;obtain ⟨t369,A5,H⟩:=H
 replace H:=bnd_ H;obtain ⟨t370,A6,H⟩:=H
 have H':=Aside0.mk H
 clear H
 go_enter Try.func80,Try.ntmps80
 go_wp2_with (first|((with_reducible refine gate_dst (N:=8) rfl ?_);refine bx_ (N:=8) (cs:=#[.int .i64 0,.slice none 0 0]) (t:=26) ?_;intro gb367 hg w7 hbox hb;have BK367:=Aside0.mk (hbox);have GW367:=Aside0.mk (gw_ hg (h_HB HB.out));have GE367:=Aside0.mk (gw_ hg (h_HB HB.out));replace HB:=Aside0.mk (below_step (h_HB HB.out) hb);clear hb hbox hg)|((with_reducible refine gate_dst (N:=9) rfl ?_);refine bx_ (N:=9) (cs:=#[.int .i64 0,.slice none 0 0]) (t:=26) ?_;intro gb368 hg w8 hbox hb;have BK368:=Aside0.mk (hbox);have GW368:=Aside0.mk (gw_ hg (h_HB HB.out));have GE368:=Aside0.mk (gw_ hg (h_HB HB.out));replace HB:=Aside0.mk (below_step (h_HB HB.out) hb);have NB367_368:=Aside0.mk (nbl_ hg (bkC_ BK367.out));have NB368_367:=Aside0.mk (nbg_ hg (bkC_ BK367.out));replace BK367:=Aside0.mk (blkB_ BK367.out hb);clear hb hbox hg;have hnb9:=NB368_367.out;have hnc9:=NB367_368.out;obtain ⟨hcz10_0,hcz10_1,hfz10_0,hfz10_1⟩:=bz2_ BK368.out)|((with_reducible refine gate_callee (f:=25) rfl ?_);refine goesL_ (some 19) rfl rfl Try.func25 krT_ rfl #[.int .i64 a2] rfl agT_ ?_;(with_reducible refine (spec_FullSet.calls a2 t369 _ A5.out).mono ?_);rintro e w' ⟨rfl,⟨nd,rfl⟩⟩;refine ⟨_,rfl,?_⟩)|((with_reducible refine gate_callee (f:=89) rfl ?_);refine goesL_ (some 20) rfl rfl Try.func89 krT_ rfl #[.int .i64 a0,.int .i64 a1,.int .i64 a2,.slice A3 l3.length c3,.int .i64 t369] rfl agT_ ?_;(with_reducible refine (spec_l4Rank.calls k a0 a1 a2 _ _ l3 t369 t370 _ ?side1 ?side2 A6.out).mono ?_);(case side1=>exact Kd.C_below HR3.out (h_HB HB.out));(case side2=>exact HC3.out);rintro e w11 ⟨rfl,hb⟩;refine ⟨_,rfl,?_⟩;replace BK367:=Aside0.mk (blkB_ BK367.out hb);replace BK368:=Aside0.mk (blk_below (g:=gb368) (o:=.cells #[.int .i64 a2,.slice none 0 0] 26 (0,0)) (by (with_reducible repeat (first|refine blk_drewN ?_ _|refine blk_drew ?_|refine blk_alloc ?_ _));refine blk_put (cs:=#[.int .i64 a2,.slice none 0 0]) ?_ 1 _ rfl;(with_reducible repeat (first|refine blk_drewN ?_ _|refine blk_drew ?_|refine blk_alloc ?_ _));refine blk_put (cs:=#[.int .i64 0,.slice none 0 0]) ?_ 0 _ rfl;exact bkC_ BK368.out) hb);replace HB:=Aside0.mk (below_step (h_HB HB.out) hb);(try clear hb);(try clear hb2);(try clear hk);(try clear hi)))
 go_loopg [11] k (fun kq v11 w'=>∃ (x11_1:Int) (x369001_1:List Int) (u369001:Value),v11=.int .i64 x11_1∧Aside0 (spec_l4Matrix.l0 kq a0 a1 a2 l3 t370 x11_1 a2 x369001_1=some (r1,r2))∧Aside0 (kq≤k)∧Aside0 (Kd.R (Kd.int .i64) 3 w' w.heap.size (fun _=>True) u369001 x369001_1)∧Aside0 (w'.heap[gb367]?=some (.cells #[.int .i64 0,(.slice none 0 0)] 26 (0,0)))∧Aside0 (w'.heap[gb368]?=some (.cells #[.int .i64 a2,u369001] 26 (0,0)))∧Aside0 (Below w.heap.size w w'))
 case atStart=>exact ⟨(0),(([]:List Int)),(.slice none 0 0),sT_,H',⟨Nat.le_refl _⟩,⟨by first|exact Kd.R_nil _ _ _ _ _|exact Kd.N_nil _ _ _ _ _|exact Kd.V_nil _ _ _ _ _|exact Kd.Q_nil _ _ _ _ _|exact Kd.S_nil _ _ _ _ _⟩,⟨bkC_ BK367.out⟩,⟨bkC_ BK368.out⟩,⟨h_HB HB.out⟩⟩
 case round =>
 clear H'
 try clear c2
 try clear p2
 try clear c3
 try clear c8
 try clear c9
 try clear hcz10_0
 try clear hcz10_1
 try clear hfz10_0
 try clear hfz10_1
 obtain ⟨x11_1,x369001_1,u369001,rfl,HA,HK1,HO_369001,BK367,BK368,HB⟩:=hrel
 cases gk with
 | zero=>exact absurd HA.out (by simp [spec_l4Matrix.l0])
 | succ k1 =>
 have H:=HA.out
 clear HA
 simp only [spec_l4Matrix.l0] at H
 replace H:=bnd_ H;obtain ⟨t371,A12,H⟩:=H
 rcases gsn_ H with ⟨c13b0,H⟩|⟨c13b0,H⟩
 ·simp only [Option.some.injEq,Prod.mk.injEq] at H
  obtain ⟨rfl,rfl⟩:=H
  go_wp2_with (first|((with_reducible refine gate_callee (f:=25) rfl ?_);refine goesL_ (some 23) rfl rfl Try.func25 krT_ rfl #[.int .i64 a2] rfl agT_ ?_;(with_reducible refine (spec_FullSet.calls a2 t371 _ A12.out).mono ?_);rintro e w' ⟨rfl,⟨nd,rfl⟩⟩;refine ⟨_,rfl,?_⟩;(try (rw [drewN_self wr];generalize hq_:World.drewN wr _=wr;replace HO_369001:Aside0 (Kd.R (Kd.int .i64) 3 wr w.heap.size (fun _=>True) u369001 x369001_1):=⟨by rw [← hq_];exact (kRC_ HO_369001.out)⟩;replace BK367:Aside0 (wr.heap[gb367]?=some (.cells #[.int .i64 0,.slice none 0 0] 26 (0,0))):=⟨by rw [← hq_];exact (bkC_ BK367.out)⟩;replace BK368:Aside0 (wr.heap[gb368]?=some (.cells #[.int .i64 a2,u369001] 26 (0,0))):=⟨by rw [← hq_];exact (bkC_ BK368.out)⟩;replace HB:Aside0 (Below w.heap.size w wr):=⟨by rw [← hq_];exact (h_HB HB.out)⟩;clear hq_;have hcuz28_gb367_0:wr.cell? ⟨gb367,0,none⟩=some (.int .i64 0):=(blk_cell BK367.out 0).trans rfl;have hfuz28_gb367_0:=blk_frozen BK367.out 0;have hcuz28_gb367_1:wr.cell? ⟨gb367,1,none⟩=some (.slice none 0 0):=(blk_cell BK367.out 1).trans rfl;have hfuz28_gb367_1:=blk_frozen BK367.out 1;have hcuz28_gb368_0:wr.cell? ⟨gb368,0,none⟩=some (.int .i64 a2):=(blk_cell BK368.out 0).trans rfl;have hfuz28_gb368_0:=blk_frozen BK368.out 0;have hcuz28_gb368_1:wr.cell? ⟨gb368,1,none⟩=some (u369001):=(blk_cell BK368.out 1).trans rfl;have hfuz28_gb368_1:=blk_frozen BK368.out 1));have hnb29:=NB368_367.out;have hnc29:=NB367_368.out;obtain ⟨hcz30_0,hcz30_1,hfz30_0,hfz30_1⟩:=bz2_ BK368.out;obtain ⟨hcz31_0,hcz31_1,hfz31_0,hfz31_1⟩:=bz2_ BK367.out;obtain ⟨Ao32,co32,eo32⟩:=Kd.R_slice HO_369001.out;subst eo32))
  refine bodyPost_ret (results_cell_row rfl _ _ gb367 26 #[.int .i64 a2,.slice Ao32 x369001_1.length co32] (0,0) _ rfl (by (with_reducible repeat (first|refine blk_drewN ?_ _|refine blk_drew ?_|refine blk_alloc ?_ _));refine blk_put (cs:=#[.int .i64 a2,.slice none 0 0]) ?_ 1 _ rfl;(with_reducible repeat (first|refine blk_drewN ?_ _|refine blk_drew ?_|refine blk_alloc ?_ _));refine blk_put (cs:=#[.int .i64 0,.slice none 0 0]) ?_ 0 _ rfl;exact bkC_ BK367.out) Try.underlying26 rfl krT_) rfl ?_
  exact ⟨_,eT_,by (with_reducible repeat (first|apply Kd.R_alloc|apply Kd.R_drewN|apply Kd.R_drew));exact Kd.R_mono (Kd.R_far (p:=⟨gb367,1,none⟩) (Kd.R_far (p:=⟨gb367,0,none⟩) (Kd.R_types HO_369001.out BK367.out (by decide)) (fun _ hk=>hk.2) (.int .i64 a2)) (fun _ hk=>hk.2) (.slice Ao32 x369001_1.length co32)) (fun _ hk=>trivial),h_HB HB.out⟩
 replace H:=bnd_ H;obtain ⟨t372,A14,H⟩:=H
 by_cases c15:t372=t370
 rotate_left
 ·rw [if_neg c15] at H
  have c15b0:(t372==t370)=false:=beq_eq_false_iff_ne.mpr c15
  have c15b1:(t372 != t370)=true:=bne_iff_ne.mpr c15
  have H':=Aside0.mk H
  clear H
  go_wp2_with (first|((with_reducible refine gate_callee (f:=25) rfl ?_);refine goesL_ (some 23) rfl rfl Try.func25 krT_ rfl #[.int .i64 a2] rfl agT_ ?_;(with_reducible refine (spec_FullSet.calls a2 t371 _ A12.out).mono ?_);rintro e w' ⟨rfl,⟨nd,rfl⟩⟩;refine ⟨_,rfl,?_⟩)|((with_reducible refine gate_callee (f:=26) rfl ?_);refine goesL_ (some 28) rfl rfl Try.func26 krT_ rfl #[.int .i64 x11_1] rfl agT_ ?_;(with_reducible refine (spec_CountOf.calls k1 x11_1 t372 _ A14.out).mono ?_);rintro e w' ⟨rfl,⟨nd,rfl⟩⟩;refine ⟨_,rfl,?_⟩))
  go_roundg k1
  case measure=>have:=HK1.out;omega
  case rel=>exact ⟨(wrap64 (x11_1+1)),(x369001_1),(u369001),sT_,H',⟨by have:=HK1.out;omega⟩,⟨kRC_ HO_369001.out⟩,⟨bkC_ BK367.out⟩,⟨bkC_ BK368.out⟩,⟨h_HB HB.out⟩⟩
 rw [if_pos c15] at H
 have c15b0:(t372==t370)=true:=beq_iff_eq.mpr c15
 have c15b1:(t372 != t370)=false:=bne_eq_false_iff_eq.mpr c15
 clear c15
 replace H:=bnd_ H;obtain ⟨t373,A16,H⟩:=H
 by_cases c17:t373=t370
 ·rw [if_pos c17] at H
  have c17b0:(t373==t370)=true:=beq_iff_eq.mpr c17
  have c17b1:(t373 != t370)=false:=bne_eq_false_iff_eq.mpr c17
  clear c17
  by_cases c18:x369001_1.length<17592186044416
  ·rw [if_pos c18] at H
   have LMc18:=Aside0.mk c18
   clear c18
   obtain ⟨y374,hy374⟩:∃ y_:List Int,y_=(x369001_1++[x11_1]):=⟨_,rfl⟩
   replace H:(spec_l4Matrix.l0 k1 a0 a1 a2 l3 t370 (wrap64 (x11_1+1)) a2 y374)=some (r1,r2):=by first|(rw [hy374];with_reducible exact H)|(have H2_:=(Option.bind_some _ _).symm.trans H;rw [hy374];with_reducible exact H2_)|(have H2_:=(Option.bind_some _ _).symm.trans H;with_reducible exact H2_)|with_reducible exact H|(rw [hy374];exact H)|exact H
   have Ny374:=Aside0.mk hy374
   clear hy374
   have H':=Aside0.mk H
   clear H
   go_wp2_with (first|((with_reducible refine gate_callee (f:=25) rfl ?_);refine goesL_ (some 23) rfl rfl Try.func25 krT_ rfl #[.int .i64 a2] rfl agT_ ?_;(with_reducible refine (spec_FullSet.calls a2 t371 _ A12.out).mono ?_);rintro e w' ⟨rfl,⟨nd,rfl⟩⟩;refine ⟨_,rfl,?_⟩;(try (rw [drewN_self wr];generalize hq_:World.drewN wr _=wr;replace HO_369001:Aside0 (Kd.R (Kd.int .i64) 3 wr w.heap.size (fun _=>True) u369001 x369001_1):=⟨by rw [← hq_];exact (kRC_ HO_369001.out)⟩;replace BK367:Aside0 (wr.heap[gb367]?=some (.cells #[.int .i64 0,.slice none 0 0] 26 (0,0))):=⟨by rw [← hq_];exact (bkC_ BK367.out)⟩;replace BK368:Aside0 (wr.heap[gb368]?=some (.cells #[.int .i64 a2,u369001] 26 (0,0))):=⟨by rw [← hq_];exact (bkC_ BK368.out)⟩;replace HB:Aside0 (Below w.heap.size w wr):=⟨by rw [← hq_];exact (h_HB HB.out)⟩;clear hq_;have hcuz19_gb367_0:wr.cell? ⟨gb367,0,none⟩=some (.int .i64 0):=(blk_cell BK367.out 0).trans rfl;have hfuz19_gb367_0:=blk_frozen BK367.out 0;have hcuz19_gb367_1:wr.cell? ⟨gb367,1,none⟩=some (.slice none 0 0):=(blk_cell BK367.out 1).trans rfl;have hfuz19_gb367_1:=blk_frozen BK367.out 1;have hcuz19_gb368_0:wr.cell? ⟨gb368,0,none⟩=some (.int .i64 a2):=(blk_cell BK368.out 0).trans rfl;have hfuz19_gb368_0:=blk_frozen BK368.out 0;have hcuz19_gb368_1:wr.cell? ⟨gb368,1,none⟩=some (u369001):=(blk_cell BK368.out 1).trans rfl;have hfuz19_gb368_1:=blk_frozen BK368.out 1)))|((with_reducible refine gate_callee (f:=26) rfl ?_);refine goesL_ (some 28) rfl rfl Try.func26 krT_ rfl #[.int .i64 x11_1] rfl agT_ ?_;(with_reducible refine (spec_CountOf.calls k1 x11_1 t372 _ A14.out).mono ?_);rintro e w' ⟨rfl,⟨nd,rfl⟩⟩;refine ⟨_,rfl,?_⟩;(try (rw [drewN_self wr];generalize hq_:World.drewN wr _=wr;replace HO_369001:Aside0 (Kd.R (Kd.int .i64) 3 wr w.heap.size (fun _=>True) u369001 x369001_1):=⟨by rw [← hq_];exact (kRC_ HO_369001.out)⟩;replace BK367:Aside0 (wr.heap[gb367]?=some (.cells #[.int .i64 0,.slice none 0 0] 26 (0,0))):=⟨by rw [← hq_];exact (bkC_ BK367.out)⟩;replace BK368:Aside0 (wr.heap[gb368]?=some (.cells #[.int .i64 a2,u369001] 26 (0,0))):=⟨by rw [← hq_];exact (bkC_ BK368.out)⟩;replace HB:Aside0 (Below w.heap.size w wr):=⟨by rw [← hq_];exact (h_HB HB.out)⟩;clear hq_;have hcuz20_gb367_0:wr.cell? ⟨gb367,0,none⟩=some (.int .i64 0):=(blk_cell BK367.out 0).trans rfl;have hfuz20_gb367_0:=blk_frozen BK367.out 0;have hcuz20_gb367_1:wr.cell? ⟨gb367,1,none⟩=some (.slice none 0 0):=(blk_cell BK367.out 1).trans rfl;have hfuz20_gb367_1:=blk_frozen BK367.out 1;have hcuz20_gb368_0:wr.cell? ⟨gb368,0,none⟩=some (.int .i64 a2):=(blk_cell BK368.out 0).trans rfl;have hfuz20_gb368_0:=blk_frozen BK368.out 0;have hcuz20_gb368_1:wr.cell? ⟨gb368,1,none⟩=some (u369001):=(blk_cell BK368.out 1).trans rfl;have hfuz20_gb368_1:=blk_frozen BK368.out 1)))|(go_at_call 89;(with_reducible refine (spec_l4Rank.calls k1 a0 a1 a2 _ _ l3 x11_1 t373 _ ?side1 ?side2 A16.out).mono ?_);(case side1=>exact cC_ HR3.out);(case side2=>exact HC3.out);rintro e w21 ⟨rfl,hb⟩;replace HO_369001:=Aside0.mk (Kd.R_below (kRC_ HO_369001.out) hb);replace BK367:=Aside0.mk (blkB_ BK367.out hb);replace BK368:=Aside0.mk (blkB_ BK368.out hb);replace HB:=Aside0.mk (below_step (h_HB HB.out) hb);(try clear hb);have hnb22:=NB368_367.out;have hnc22:=NB367_368.out;obtain ⟨hcz23_0,hcz23_1,hfz23_0,hfz23_1⟩:=bz2_ BK368.out)|((with_reducible refine gate_builtin (b:=.append) (xs:=#[.tmp 42,.tmp 44]) rfl ?_);at_builtin;refine Kd.R_append (Kd.int .i64) (w0:=w) w.heap.size rfl (.tmp 42) (.tmp 44) 24 3 (.int .i64 0) 8 rfl Try.underlying24 info3 rfl (by decide) (by omega) u369001 x369001_1 x11_1 [.int .i64 x11_1] (fun _=>True) (fun _=>False) rfl rfl ?aP (fun _ hk=>hk.elim) ?aF ?aO ?aB ?aS ?aL ?_;(case aP=>exact rfl);(case aB=>exact (h_HB HB.out));(case aF=>exact (fun _ _=>trivial));(case aO=>exact (kRC_ HO_369001.out));(case aS=>exact (below_size (h_HB HB.out)));(case aL=>have:=LMc18.out;omega);intro v375 w24 ho hb hg hat;rw [← Ny374.out] at ho;replace BK367:=Aside0.mk (blk_grown (bkC_ BK367.out) hg (Kd.R_ne HO_369001.out BK367.out (by decide)));replace BK368:=Aside0.mk (blk_grown (bkC_ BK368.out) hg (Kd.R_ne HO_369001.out BK368.out (by decide)));replace HB:=Aside0.mk (hb);have HO376:=Aside0.mk (ho);clear HO_369001;clear ho hb hg hat;obtain ⟨Ao25,co25,eo25⟩:=Kd.R_slice HO376.out;subst eo25;obtain ⟨hcz26_0,hcz26_1,hfz26_0,hfz26_1⟩:=bz2_ BK368.out))
   go_roundg k1
   case measure=>have:=HK1.out;omega
   case rel=>exact ⟨(wrap64 (x11_1+1)),(y374),(.slice Ao25 y374.length co25),sT_,H',⟨by have:=HK1.out;omega⟩,⟨by (with_reducible repeat (first|apply Kd.R_alloc|apply Kd.R_drewN|apply Kd.R_drew));exact Kd.R_mono (Kd.R_far (p:=⟨gb368,1,none⟩) (Kd.R_types HO376.out BK368.out (by decide)) (fun _ hk=>hk.2) (.slice Ao25 y374.length co25)) (fun _ hk=>trivial)⟩,⟨bkC_ BK367.out⟩,⟨by (with_reducible repeat (first|refine blk_drewN ?_ _|refine blk_drew ?_|refine blk_alloc ?_ _));refine blk_put (cs:=#[.int .i64 a2,u369001]) ?_ 1 _ rfl;exact bkC_ BK368.out⟩,⟨h_HB HB.out⟩⟩
  ·rw [if_neg c18] at H
   exact absurd H (by simp)
 ·rw [if_neg c17] at H
  have c17b0:(t373==t370)=false:=beq_eq_false_iff_ne.mpr c17
  have c17b1:(t373 != t370)=true:=bne_iff_ne.mpr c17
  have H':=Aside0.mk H
  clear H
  go_wp2_with (first|((with_reducible refine gate_callee (f:=25) rfl ?_);refine goesL_ (some 23) rfl rfl Try.func25 krT_ rfl #[.int .i64 a2] rfl agT_ ?_;(with_reducible refine (spec_FullSet.calls a2 t371 _ A12.out).mono ?_);rintro e w' ⟨rfl,⟨nd,rfl⟩⟩;refine ⟨_,rfl,?_⟩)|((with_reducible refine gate_callee (f:=26) rfl ?_);refine goesL_ (some 28) rfl rfl Try.func26 krT_ rfl #[.int .i64 x11_1] rfl agT_ ?_;(with_reducible refine (spec_CountOf.calls k1 x11_1 t372 _ A14.out).mono ?_);rintro e w' ⟨rfl,⟨nd,rfl⟩⟩;refine ⟨_,rfl,?_⟩)|(go_at_call 89;(with_reducible refine (spec_l4Rank.calls k1 a0 a1 a2 _ _ l3 x11_1 t373 _ ?side1 ?side2 A16.out).mono ?_);(case side1=>repeat (first|exact (Kd.C_below HR3.out (h_HB HB.out))|(with_reducible refine Kd.C_alloc ?_ _)|(with_reducible refine Kd.C_drewN ?_ _)|(with_reducible refine Kd.C_drew ?_)));(case side2=>exact HC3.out);rintro e w27 ⟨rfl,hb⟩;replace HO_369001:=Aside0.mk (Kd.R_below (kRC_ HO_369001.out) hb);replace BK367:=Aside0.mk (blkB_ BK367.out hb);replace BK368:=Aside0.mk (blkB_ BK368.out hb);replace HB:=Aside0.mk (below_step (h_HB HB.out) hb);(try clear hb)))
  go_roundg k1
  case measure=>have:=HK1.out;omega
  case rel=>exact ⟨(wrap64 (x11_1+1)),(x369001_1),(u369001),sT_,H',⟨by have:=HK1.out;omega⟩,⟨kRC_ HO_369001.out⟩,⟨bkC_ BK367.out⟩,⟨bkC_ BK368.out⟩,⟨h_HB HB.out⟩⟩
/-! ### spec_l4Columns: function 68 -/
def spec_l4Columns.l0:Nat→Int→Int→Int→List Int→Int→List Int→Int→Int→Option (Int × List Int × Int × Int)
 | 0,_,_,_,_,_,_,_,_=>none
 | k+1,x1,x5,x6,x7,x8,x1000,x1001,x1002=>if x8<(wrap64 (x6*x1)) then ((spec_l1Below.f x1000 x1001 x1002 x5).bind fun bt390=>(if x7.length<17592186044416 then (spec_l4Columns.l0 k x1 x5 x6 (x7++[bt390.1]) (wrap64 (x8+1)) x1000 bt390.2.1 bt390.2.2) else (none))) else ((spec_l4Matrix.f k x5 x6 x1 x7).bind fun bt396=>(some (bt396.1,bt396.2,x1001,x1002)))
def spec_l4Columns.f (k:Nat) (s0_0:List Int) (s0_1:Int) (s0_2:Int) (a1:Int):Option (Int × List Int × Int × Int):=(spec_l1PickInt.f s0_0 s0_1 s0_2 (([2,3,5,2]:List Int))).bind fun bt381=>((spec_l1Below.f s0_0 bt381.2.1 bt381.2.2 3).bind fun bt384=>(spec_l4Columns.l0 k a1 bt381.1 (wrap64 (1+bt384.1)) (([]:List Int)) 0 s0_0 bt384.2.1 bt384.2.2))
set_option maxHeartbeats 8000000 in
set_option maxRecDepth 100000 in
theorem spec_l4Columns.calls (k:Nat) (g:Nat) (s0_0:List Int) (s0_1:Int) (s0_2:Int) (a1:Int) (r1:Int) (r2:List Int) (r3:Int) (r4:Int) (w0 w:World) (hI:IsS52 w0 w g s0_0 s0_1 s0_2) (hB:Below w0.heap.size w0 w) (h:spec_l4Columns.f k s0_0 s0_1 s0_2 a1=some (r1,r2,r3,r4)) :
    Calls Try.prog 68 #[.pointer (some ⟨g,0,none⟩),.int .i64 a1] w fun e w'=>∃ v1_:Value,e=.returned (.agg #[.int .i64 r1,v1_])∧Kd.R (Kd.int .i64) 3 w' w.heap.size (fun _=>True) v1_ r2∧IsS52 w0 w' g s0_0 r3 r4∧Below w0.heap.size w0 w'∧KeepBut w w' g none:=by
 have hu26:=Try.underlying26
 have HI0:=Aside0.mk hI
 have HK:=Aside0.mk (KeepBut.refl w g none)
 have HL:=Aside0.mk hB.size
 clear hI
 have HW0:=Aside0.mk hB.size
 have HB:=Aside0.mk hB
 clear hB
 unfold spec_l4Columns.f at h
 have H:=h
 clear h
 obtain ⟨y378,hy378⟩:∃ y_:List Int,y_=(([2,3,5,2]:List Int)):=⟨_,rfl⟩
 replace H:((spec_l1PickInt.f s0_0 s0_1 s0_2 y378).bind fun bt381=>((spec_l1Below.f s0_0 bt381.2.1 bt381.2.2 3).bind fun bt384=>(spec_l4Columns.l0 k a1 bt381.1 (wrap64 (1+bt384.1)) (([]:List Int)) 0 s0_0 bt384.2.1 bt384.2.2)))=some (r1,r2,r3,r4):=by first|(rw [hy378];with_reducible exact H)|(have H2_:=(Option.bind_some _ _).symm.trans H;rw [hy378];with_reducible exact H2_)|(have H2_:=(Option.bind_some _ _).symm.trans H;with_reducible exact H2_)|with_reducible exact H|(rw [hy378];exact H)|exact H
 have Ny378:=Aside0.mk hy378
 clear hy378
 replace H:=bnd_ H;obtain ⟨⟨t381,t382,t383⟩,A3,H⟩:=H;dsimp only at H
 replace H:=bnd_ H;obtain ⟨⟨t384,t385,t386⟩,A4,H⟩:=H;dsimp only at H
 obtain ⟨y387,hy387⟩:∃ y_:List Int,y_=(([]:List Int)):=⟨_,rfl⟩
 replace H:(spec_l4Columns.l0 k a1 t381 (wrap64 (1+t384)) y387 0 s0_0 t385 t386)=some (r1,r2,r3,r4):=by first|(rw [hy387];with_reducible exact H)|(have H2_:=(Option.bind_some _ _).symm.trans H;rw [hy387];with_reducible exact H2_)|(have H2_:=(Option.bind_some _ _).symm.trans H;with_reducible exact H2_)|with_reducible exact H|(rw [hy387];exact H)|exact H
 have Ny387:=Aside0.mk hy387
 clear hy387
 have H':=Aside0.mk H
 clear H
 go_enter Try.func68,Try.ntmps68
 go_wp2_with (first|((with_reducible refine gate_dst (N:=4) rfl ?_);refine bx_ (N:=4) (cs:=#[.int .i64 0,.slice none 0 0]) (t:=26) ?_;intro gb377 hg w5 hbox hb;replace HB:=Aside0.mk (below_step (h_HB HB.out) hb);have BK377:=Aside0.mk (hbox);have GW377:=Aside0.mk ((by rw [hg];exact (keep_size (w:=w) (g:=g) (row:=none) (h_HK HK.out)):w.heap.size≤gb377));have GE377:=Aside0.mk ((Nat.le_trans HW0.out (by rw [hg];exact (keep_size (w:=w) (g:=g) (row:=none) (h_HK HK.out)):w.heap.size≤gb377):w0.heap.size≤gb377));replace HK:=Aside0.mk (KeepBut.trans (h_HK HK.out) (KeepBut.of_below hb g none) (.inl rfl));have NB0_377:=Aside0.mk ((by rw [hg];exact Nat.ne_of_lt (IsS52.lt (show IsS52 w0 _ g s0_0 s0_1 s0_2 from h_HI0 HI0.out)):g≠gb377));have NB377_0:=Aside0.mk ((by rw [hg];exact Nat.ne_of_gt (IsS52.lt (show IsS52 w0 _ g s0_0 s0_1 s0_2 from h_HI0 HI0.out)):gb377≠g));replace HI0:=Aside0.mk (IsS52.below (h_HI0 HI0.out) hb);clear hb hbox hg)|((with_reducible refine gate_dst (N:=10) rfl ?_);refine Kd.R_lit (Kd.int .i64) _ 3 ?hg (N:=10) ?hd (xs:=([2,3,5,2]:List Int)) (inner:=[.int .i64 2,.int .i64 3,.int .i64 5,.int .i64 2]) (ok:=fun _=>True) (okp:=fun _=>True) ?hr ?hp (fun _ hk=>hk) trivial (Below.refl _ _) (Nat.le_refl _) (by simp) ?_;(case hd=>rfl);(case hg=>rfl);(case hr=>exact hrT_);(case hp=>exact (Reps.one (show Kd.M (Kd.int .i64) _ _ _ 2 [.int .i64 2] from rfl) (Reps.one (show Kd.M (Kd.int .i64) _ _ _ 3 [.int .i64 3] from rfl) (Reps.one (show Kd.M (Kd.int .i64) _ _ _ 5 [.int .i64 5] from rfl) (Reps.one (show Kd.M (Kd.int .i64) _ _ _ 2 [.int .i64 2] from rfl) (Reps.none _ _))))));intro v379 w6 ho7 hb hg_ hnew_;clear hg_ hnew_;(first|rw [← Ny378.out] at ho7|(simp only [Int.reduceToNat] at ho7;rw [← Ny378.out] at ho7));have HO380:=Aside0.mk (Kd.R_lower ho7 (keep_size (w:=w) (g:=g) (row:=none) (h_HK HK.out)));replace HI0:=Aside0.mk (IsS52.below (h_HI0 HI0.out) hb);replace BK377:=Aside0.mk (blkB_ BK377.out hb);replace HK:=Aside0.mk (KeepBut.trans (h_HK HK.out) (KeepBut.of_below hb g none) (.inl rfl));replace HB:=Aside0.mk (below_step (h_HB HB.out) hb);clear hb ho7;obtain ⟨Ao8,co8,eo8⟩:=Kd.R_slice HO380.out;subst eo8)|((with_reducible refine gate_callee (f:=53) rfl ?_);refine goesL_ (some 11) rfl rfl Try.func53 krT_ rfl #[.pointer (some ⟨g,0,none⟩),.slice Ao8 y378.length co8] rfl agT_ ?_;(with_reducible refine (spec_l1PickInt.calls g s0_0 s0_1 s0_2 _ _ y378 t381 t382 t383 w0 _ ?side1 ?side2 ?side3 ?side4 ?side5 A3.out).mono ?_);(case side1=>exact h_HI0 HI0.out);(case side2=>exact h_HB HB.out);(case side3=>repeat (first|exact (Kd.R_reads' HO380.out).2.2|(with_reducible refine Kd.C_alloc ?_ _)|(with_reducible refine Kd.C_drewN ?_ _)|(with_reducible refine Kd.C_drew ?_)));(case side4=>exact (Kd.R_reads' HO380.out).2.1);(case side5=>exact far_slice (IsS52.own_ne HI0.out HO380.out (by decide)));rintro e w9 ⟨rfl,hi,hb,hk⟩;refine ⟨_,rfl,?_⟩;replace BK377:=Aside0.mk (KeepBut.blk hk (bkC_ BK377.out) NB377_0.out (by simp));replace HO380:=Aside0.mk (Kd.R_mono (Kd.R_keep (IsS52.apart (show IsS52 w0 _ g s0_0 s0_1 s0_2 from h_HI0 HI0.out) (kRC_ HO380.out) (by decide)) hk (fun _ h=>h.2)) (fun _ h=>h.1));replace HK:=Aside0.mk (KeepBut.trans (h_HK HK.out) hk (.inl rfl));replace HB:=Aside0.mk (hb);replace HI0:=Aside0.mk (hi);(try clear hb);(try clear hb2);(try clear hk);(try clear hi))|((with_reducible refine gate_callee (f:=51) rfl ?_);refine goesL_ (some 13) rfl rfl Try.func51 krT_ rfl #[.pointer (some ⟨g,0,none⟩),.int .i64 3] rfl agT_ ?_;(with_reducible refine (spec_l1Below.calls g s0_0 t382 t383 3 t384 t385 t386 w0 _ ?side1 ?side2 A4.out).mono ?_);(case side1=>exact h_HI0 HI0.out);(case side2=>exact h_HB HB.out);rintro e w10 ⟨rfl,hi,hb,hk⟩;refine ⟨_,rfl,?_⟩;replace BK377:=Aside0.mk (KeepBut.blk hk (bkC_ BK377.out) NB377_0.out (by simp));replace HO380:=Aside0.mk (Kd.R_mono (Kd.R_keep (IsS52.apart (show IsS52 w0 _ g s0_0 t382 t383 from h_HI0 HI0.out) (kRC_ HO380.out) (by decide)) hk (fun _ h=>h.2)) (fun _ h=>h.1));replace HK:=Aside0.mk (KeepBut.trans (h_HK HK.out) hk (.inl rfl));replace HB:=Aside0.mk (hb);replace HI0:=Aside0.mk (hi);(try clear hb);(try clear hb2);(try clear hk);(try clear hi))|((with_reducible refine gate_dst (N:=15) rfl ?_);refine Kd.R_lit (Kd.int .i64) _ 3 ?hg (N:=15) ?hd (xs:=([]:List Int)) (inner:=[]) (ok:=fun _=>True) (okp:=fun _=>True) ?hr ?hp (fun _ hk=>hk) trivial (Below.refl _ _) (Nat.le_refl _) (by simp) ?_;(case hd=>rfl);(case hg=>rfl);(case hr=>exact hrT_);(case hp=>exact (Reps.none _ _));intro v388 w11 ho12 hb hg_ hnew_;clear hg_ hnew_;(first|rw [← Ny387.out] at ho12|(simp only [Int.reduceToNat] at ho12;rw [← Ny387.out] at ho12));have HO389:=Aside0.mk (Kd.R_lower (Kd.R_new' ho12 (Kd.R_lt (kRC_ HO380.out))) (keep_size (w:=w) (g:=g) (row:=none) (h_HK HK.out)));replace HO380:=Aside0.mk (Kd.R_elder' (kRC_ HO380.out) (Kd.R_base ho12) hb);replace HI0:=Aside0.mk (IsS52.below (h_HI0 HI0.out) hb);replace BK377:=Aside0.mk (blkB_ BK377.out hb);replace HK:=Aside0.mk (KeepBut.trans (h_HK HK.out) (KeepBut.of_below hb g none) (.inl rfl));replace HB:=Aside0.mk (below_step (h_HB HB.out) hb);clear hb ho12))
 go_loopg [7,8] k (fun kq v7 v8 w'=>∃ (x7_1:List Int) (x8_1:Int) (x1001_1:Int) (x1002_1:Int),v8=.int .i64 x8_1∧Aside0 (spec_l4Columns.l0 kq a1 t381 (wrap64 (1+t384)) x7_1 x8_1 s0_0 x1001_1 x1002_1=some (r1,r2,r3,r4))∧Aside0 (kq≤k)∧Aside0 (Kd.R (Kd.int .i64) 3 w' w.heap.size (fun _=>True) v7 x7_1)∧Aside0 (w'.heap[gb377]?=some (.cells #[.int .i64 0,(.slice none 0 0)] 26 (0,0)))∧Aside0 (IsS52 w0 w' g s0_0 x1001_1 x1002_1)∧Aside0 (KeepBut w w' g none)∧Aside0 (Below w0.heap.size w0 w'))
 case atStart=>exact ⟨(y387),(0),(t385),(t386),sT_,H',⟨Nat.le_refl _⟩,⟨by (with_reducible repeat (first|apply Kd.R_alloc|apply Kd.R_drewN|apply Kd.R_drew));exact Kd.R_mono HO389.out (fun _ hk=>trivial)⟩,⟨bkC_ BK377.out⟩,⟨h_HI0 HI0.out⟩,⟨h_HK HK.out⟩,⟨h_HB HB.out⟩⟩
 case round =>
 clear H'
 try clear p2
 try clear c5
 try clear c6
 try clear p6
 obtain ⟨x7_1,x8_1,x1001_1,x1002_1,rfl,HA,HK1,HO_7,BK377,HI0,HK,HB⟩:=hrel
 cases gk with
 | zero=>exact absurd HA.out (by simp [spec_l4Columns.l0])
 | succ k1 =>
 have H:=HA.out
 clear HA
 simp only [spec_l4Columns.l0] at H
 rcases gsn_ H with ⟨c13b0,H⟩|⟨c13b0,H⟩
 ·replace H:=bnd_ H;obtain ⟨⟨t396,t397⟩,A18,H⟩:=H;dsimp only at H
  simp only [Option.some.injEq,Prod.mk.injEq] at H
  obtain ⟨rfl,rfl,rfl,rfl⟩:=H
  obtain ⟨Ao19,co19,eo19⟩:=Kd.R_slice HO_7.out
  subst eo19
  go_wp2_with (first|((with_reducible refine gate_callee (f:=80) rfl ?_);refine goesL_ (some 33) rfl rfl Try.func80 krT_ rfl #[.int .i64 t381,.int .i64 (wrap64 (1+t384)),.int .i64 a1,.slice Ao19 x7_1.length co19] rfl agT_ ?_;(with_reducible refine (spec_l4Matrix.calls k1 t381 (wrap64 (1+t384)) a1 _ _ x7_1 t396 t397 _ ?side1 ?side2 A18.out).mono ?_);(case side1=>repeat (first|exact (Kd.R_reads' HO_7.out).2.2|(with_reducible refine Kd.C_alloc ?_ _)|(with_reducible refine Kd.C_drewN ?_ _)|(with_reducible refine Kd.C_drew ?_)));(case side2=>exact (Kd.R_reads' HO_7.out).2.1);rintro e w20 ⟨v398,rfl,ho0,hb⟩;refine ⟨_,rfl,?_⟩;have HO399:=Aside0.mk (Kd.R_lower (Kd.R_new' ho0 (Kd.R_lt (kRC_ HO_7.out))) (keep_size (w:=w) (g:=g) (row:=none) (h_HK HK.out)));replace HO_7:=Aside0.mk (Kd.R_elder' (kRC_ HO_7.out) (Kd.R_base ho0) hb);replace BK377:=Aside0.mk (blkB_ BK377.out hb);replace HI0:=Aside0.mk (IsS52.below (h_HI0 HI0.out) hb);replace HK:=Aside0.mk (KeepBut.trans (h_HK HK.out) (KeepBut.of_below hb g none) (.inl rfl));replace HB:=Aside0.mk (below_step (h_HB HB.out) hb);(try clear hb);(try clear hb2);(try clear hk);(try clear hi);(try clear ho0);have hnb21:=NB377_0.out;have hnc21:=NB0_377.out;obtain ⟨hcz22_0,hcz22_1,hfz22_0,hfz22_1⟩:=bz2_ BK377.out;obtain ⟨Ao23,co23,eo23⟩:=Kd.R_slice HO399.out;subst eo23))
  refine bodyPost_ret (results_cell_row rfl _ _ gb377 26 #[.int .i64 t396,.slice Ao23 t397.length co23] (0,0) _ rfl (by (with_reducible repeat (first|refine blk_drewN ?_ _|refine blk_drew ?_|refine blk_alloc ?_ _));refine blk_put (cs:=#[.int .i64 t396,.slice none 0 0]) ?_ 1 _ rfl;(with_reducible repeat (first|refine blk_drewN ?_ _|refine blk_drew ?_|refine blk_alloc ?_ _));refine blk_put (cs:=#[.int .i64 0,.slice none 0 0]) ?_ 0 _ rfl;exact bkC_ BK377.out) Try.underlying26 rfl krT_) rfl ?_
  exact ⟨_,eT_,by (with_reducible repeat (first|apply Kd.R_alloc|apply Kd.R_drewN|apply Kd.R_drew));exact Kd.R_mono (Kd.R_far (p:=⟨gb377,1,none⟩) (Kd.R_far (p:=⟨gb377,0,none⟩) (Kd.R_types HO399.out BK377.out (by decide)) (fun _ hk=>hk.2) (.int .i64 t396)) (fun _ hk=>hk.2) (.slice Ao23 t397.length co23)) (fun _ hk=>trivial),h_HI0 HI0.out,h_HB HB.out,h_HK HK.out⟩
 replace H:=bnd_ H;obtain ⟨⟨t390,t391,t392⟩,A14,H⟩:=H;dsimp only at H
 by_cases c15:x7_1.length<17592186044416
 ·rw [if_pos c15] at H
  have LMc15:=Aside0.mk c15
  clear c15
  obtain ⟨y393,hy393⟩:∃ y_:List Int,y_=(x7_1++[t390]):=⟨_,rfl⟩
  replace H:(spec_l4Columns.l0 k1 a1 t381 (wrap64 (1+t384)) y393 (wrap64 (x8_1+1)) s0_0 t391 t392)=some (r1,r2,r3,r4):=by first|(rw [hy393];with_reducible exact H)|(have H2_:=(Option.bind_some _ _).symm.trans H;rw [hy393];with_reducible exact H2_)|(have H2_:=(Option.bind_some _ _).symm.trans H;with_reducible exact H2_)|with_reducible exact H|(rw [hy393];exact H)|exact H
  have Ny393:=Aside0.mk hy393
  clear hy393
  have H':=Aside0.mk H
  clear H
  go_wp2_with (first|((with_reducible refine gate_callee (f:=51) rfl ?_);refine goesL_ (some 26) rfl rfl Try.func51 krT_ rfl #[.pointer (some ⟨g,0,none⟩),.int .i64 t381] rfl agT_ ?_;(with_reducible refine (spec_l1Below.calls g s0_0 x1001_1 x1002_1 t381 t390 t391 t392 w0 _ ?side1 ?side2 A14.out).mono ?_);(case side1=>exact h_HI0 HI0.out);(case side2=>exact h_HB HB.out);rintro e w16 ⟨rfl,hi,hb,hk⟩;refine ⟨_,rfl,?_⟩;replace HO_7:=Aside0.mk (Kd.R_mono (Kd.R_keep (IsS52.apart (show IsS52 w0 _ g s0_0 x1001_1 x1002_1 from h_HI0 HI0.out) (kRC_ HO_7.out) (by decide)) hk (fun _ h=>h.2)) (fun _ h=>h.1));replace BK377:=Aside0.mk (KeepBut.blk hk (bkC_ BK377.out) NB377_0.out (by simp));replace HK:=Aside0.mk (KeepBut.trans (h_HK HK.out) hk (.inl rfl));replace HB:=Aside0.mk (hb);replace HI0:=Aside0.mk (hi);(try clear hb);(try clear hb2);(try clear hk);(try clear hi))|((with_reducible refine gate_builtin (b:=.append) (xs:=#[.tmp 23,.tmp 27]) rfl ?_);at_builtin;refine Kd.R_append (Kd.int .i64) w.heap.size rfl (.tmp 23) (.tmp 27) 24 3 (.int .i64 0) 8 rfl Try.underlying24 info3 rfl (by decide) (by omega) u7 x7_1 t390 [.int .i64 t390] (fun _=>True) (fun _=>False) rfl rfl ?aP (fun _ hk=>hk.elim) ?aF ?aO (Below.refl _ _) ?aS ?aL ?_;(case aP=>exact rfl);(case aF=>exact (fun _ _=>trivial));(case aO=>exact (kRC_ HO_7.out));(case aS=>exact (keep_size (w:=w) (g:=g) (row:=none) (h_HK HK.out)));(case aL=>have:=LMc15.out;omega);intro v394 w17 ho hb hg hat;rw [← Ny393.out] at ho;replace BK377:=Aside0.mk (blk_grown (bkC_ BK377.out) hg (Kd.R_ne HO_7.out BK377.out (by decide)));replace HI0:=Aside0.mk (IsS52.grown (h_HI0 HI0.out) hg (IsS52.own_ne HI0.out HO_7.out (by decide)));replace HB:=Aside0.mk (below_weaken (h_HB HB.out) HL.out hb);replace HK:=Aside0.mk (KeepBut.trans (h_HK HK.out) (KeepBut.of_grown hg g) (Kd.R_base2 HO_7.out));have HO395:=Aside0.mk (ho);clear HO_7;clear ho hb hg hat))
  go_roundg k1
  case measure=>have:=HK1.out;omega
  case rel=>exact ⟨(y393),(wrap64 (x8_1+1)),(t391),(t392),sT_,H',⟨by have:=HK1.out;omega⟩,⟨kRC_ HO395.out⟩,⟨bkC_ BK377.out⟩,⟨h_HI0 HI0.out⟩,⟨h_HK HK.out⟩,⟨h_HB HB.out⟩⟩
 ·rw [if_neg c15] at H
  exact absurd H (by simp)
/-! ### spec_l4Draw: function 50 -/
def spec_l4Draw.f (k:Nat) (s0_0:List Int) (s0_1:Int) (s0_2:Int) (a1:Int):Option (Int × List Int × Int × Int):=(spec_l1Below.f s0_0 s0_1 s0_2 6).bind fun bt401=>(if bt401.1=0 then ((spec_l1Below.f s0_0 bt401.2.1 bt401.2.2 (wrap64 (a1+1))).bind fun bt404=>((spec_l1Below.f s0_0 bt404.2.1 bt404.2.2 (wrap64 (bt404.1+1))).bind fun bt407=>((spec_Uniform.f k bt407.1 bt404.1).bind fun bt410=>(some (bt410.1,bt410.2,bt407.2.1,bt407.2.2))))) else (if bt401.1=1 then ((spec_l4Named.f k s0_0 bt401.2.1 bt401.2.2).bind fun bt414=>(if bt414.1≤a1 then (some (bt414.1,bt414.2.1,bt414.2.2.1,bt414.2.2.2)) else ((spec_l1Below.f s0_0 bt414.2.2.1 bt414.2.2.2 (wrap64 (a1+1))).bind fun bt421=>((spec_l4Columns.f k s0_0 bt421.2.1 bt421.2.2 bt421.1).bind fun bt424=>(some (bt424.1,bt424.2.1,bt424.2.2.1,bt424.2.2.2)))))) else ((spec_l1Below.f s0_0 bt401.2.1 bt401.2.2 (wrap64 (a1+1))).bind fun bt430=>((spec_l4Columns.f k s0_0 bt430.2.1 bt430.2.2 bt430.1).bind fun bt433=>(some (bt433.1,bt433.2.1,bt433.2.2.1,bt433.2.2.2))))))
set_option maxHeartbeats 8000000 in
set_option maxRecDepth 100000 in
theorem spec_l4Draw.calls (k:Nat) (g:Nat) (s0_0:List Int) (s0_1:Int) (s0_2:Int) (a1:Int) (r1:Int) (r2:List Int) (r3:Int) (r4:Int) (w0 w:World) (hI:IsS52 w0 w g s0_0 s0_1 s0_2) (hB:Below w0.heap.size w0 w) (h:spec_l4Draw.f k s0_0 s0_1 s0_2 a1=some (r1,r2,r3,r4)) :
    Calls Try.prog 50 #[.pointer (some ⟨g,0,none⟩),.int .i64 a1] w fun e w'=>∃ v1_:Value,e=.returned (.agg #[.int .i64 r1,v1_])∧Kd.R (Kd.int .i64) 3 w' w.heap.size (fun _=>True) v1_ r2∧IsS52 w0 w' g s0_0 r3 r4∧Below w0.heap.size w0 w'∧KeepBut w w' g none:=by
 have hu26:=Try.underlying26
 have HI0:=Aside0.mk hI
 have HK:=Aside0.mk (KeepBut.refl w g none)
 have HL:=Aside0.mk hB.size
 clear hI
 have HW0:=Aside0.mk hB.size
 have HB:=Aside0.mk hB
 clear hB
 unfold spec_l4Draw.f at h
 have H:=h
 clear h
 replace H:=bnd_ H;obtain ⟨⟨t401,t402,t403⟩,A3,H⟩:=H;dsimp only at H
 by_cases c4:t401=0
 ·rw [if_pos c4] at H
  have c4b0:(t401==0)=true:=beq_iff_eq.mpr c4
  have c4b1:(t401 != 0)=false:=bne_eq_false_iff_eq.mpr c4
  clear c4
  replace H:=bnd_ H;obtain ⟨⟨t404,t405,t406⟩,A5,H⟩:=H;dsimp only at H
  replace H:=bnd_ H;obtain ⟨⟨t407,t408,t409⟩,A6,H⟩:=H;dsimp only at H
  replace H:=bnd_ H;obtain ⟨⟨t410,t411⟩,A7,H⟩:=H;dsimp only at H
  simp only [Option.some.injEq,Prod.mk.injEq] at H
  obtain ⟨rfl,rfl,rfl,rfl⟩:=H
  go_enter Try.func50,Try.ntmps50
  go_wp2_with (first|((with_reducible refine gate_dst (N:=4) rfl ?_);refine bx_ (N:=4) (cs:=#[.int .i64 0,.slice none 0 0]) (t:=26) ?_;intro gb400 hg w8 hbox hb;replace HB:=Aside0.mk (below_step (h_HB HB.out) hb);have BK400:=Aside0.mk (hbox);have GW400:=Aside0.mk ((by rw [hg];exact (keep_size (w:=w) (g:=g) (row:=none) (h_HK HK.out)):w.heap.size≤gb400));have GE400:=Aside0.mk ((Nat.le_trans HW0.out (by rw [hg];exact (keep_size (w:=w) (g:=g) (row:=none) (h_HK HK.out)):w.heap.size≤gb400):w0.heap.size≤gb400));replace HK:=Aside0.mk (KeepBut.trans (h_HK HK.out) (KeepBut.of_below hb g none) (.inl rfl));have NB0_400:=Aside0.mk ((by rw [hg];exact Nat.ne_of_lt (IsS52.lt (show IsS52 w0 _ g s0_0 s0_1 s0_2 from h_HI0 HI0.out)):g≠gb400));have NB400_0:=Aside0.mk ((by rw [hg];exact Nat.ne_of_gt (IsS52.lt (show IsS52 w0 _ g s0_0 s0_1 s0_2 from h_HI0 HI0.out)):gb400≠g));replace HI0:=Aside0.mk (IsS52.below (h_HI0 HI0.out) hb);clear hb hbox hg)|((with_reducible refine gate_callee (f:=51) rfl ?_);refine goesL_ (some 8) rfl rfl Try.func51 krT_ rfl #[.pointer (some ⟨g,0,none⟩),.int .i64 6] rfl agT_ ?_;(with_reducible refine (spec_l1Below.calls g s0_0 s0_1 s0_2 6 t401 t402 t403 w0 _ ?side1 ?side2 A3.out).mono ?_);(case side1=>exact h_HI0 HI0.out);(case side2=>exact h_HB HB.out);rintro e w9 ⟨rfl,hi,hb,hk⟩;refine ⟨_,rfl,?_⟩;replace BK400:=Aside0.mk (KeepBut.blk hk (bkC_ BK400.out) NB400_0.out (by simp));replace HK:=Aside0.mk (KeepBut.trans (h_HK HK.out) hk (.inl rfl));replace HB:=Aside0.mk (hb);replace HI0:=Aside0.mk (hi);(try clear hb);(try clear hb2);(try clear hk);(try clear hi))|((with_reducible refine gate_callee (f:=51) rfl ?_);refine goesL_ (some 14) rfl rfl Try.func51 krT_ rfl #[.pointer (some ⟨g,0,none⟩),.int .i64 (wrap64 (a1+1))] rfl agT_ ?_;(with_reducible refine (spec_l1Below.calls g s0_0 t402 t403 (wrap64 (a1+1)) t404 t405 t406 w0 _ ?side1 ?side2 A5.out).mono ?_);(case side1=>exact h_HI0 HI0.out);(case side2=>exact h_HB HB.out);rintro e w10 ⟨rfl,hi,hb,hk⟩;refine ⟨_,rfl,?_⟩;replace BK400:=Aside0.mk (KeepBut.blk hk (bkC_ BK400.out) NB400_0.out (by simp));replace HK:=Aside0.mk (KeepBut.trans (h_HK HK.out) hk (.inl rfl));replace HB:=Aside0.mk (hb);replace HI0:=Aside0.mk (hi);(try clear hb);(try clear hb2);(try clear hk);(try clear hi))|((with_reducible refine gate_callee (f:=51) rfl ?_);refine goesL_ (some 18) rfl rfl Try.func51 krT_ rfl #[.pointer (some ⟨g,0,none⟩),.int .i64 (wrap64 (t404+1))] rfl agT_ ?_;(with_reducible refine (spec_l1Below.calls g s0_0 t405 t406 (wrap64 (t404+1)) t407 t408 t409 w0 _ ?side1 ?side2 A6.out).mono ?_);(case side1=>exact h_HI0 HI0.out);(case side2=>exact h_HB HB.out);rintro e w11 ⟨rfl,hi,hb,hk⟩;refine ⟨_,rfl,?_⟩;replace BK400:=Aside0.mk (KeepBut.blk hk (bkC_ BK400.out) NB400_0.out (by simp));replace HK:=Aside0.mk (KeepBut.trans (h_HK HK.out) hk (.inl rfl));replace HB:=Aside0.mk (hb);replace HI0:=Aside0.mk (hi);(try clear hb);(try clear hb2);(try clear hk);(try clear hi))|((with_reducible refine gate_callee (f:=66) rfl ?_);refine goesL_ (some 20) rfl rfl Try.func66 krT_ rfl #[.int .i64 t407,.int .i64 t404] rfl agT_ ?_;(with_reducible refine (spec_Uniform.calls k t407 t404 t410 t411 _ A7.out).mono ?_);rintro e w12 ⟨v412,rfl,ho0,hb⟩;refine ⟨_,rfl,?_⟩;have HO413:=Aside0.mk (Kd.R_lower ho0 (keep_size (w:=w) (g:=g) (row:=none) (h_HK HK.out)));replace HI0:=Aside0.mk (IsS52.below (h_HI0 HI0.out) hb);replace BK400:=Aside0.mk (blkB_ BK400.out hb);replace HK:=Aside0.mk (KeepBut.trans (h_HK HK.out) (KeepBut.of_below hb g none) (.inl rfl));replace HB:=Aside0.mk (below_step (h_HB HB.out) hb);(try clear hb);(try clear hb2);(try clear hk);(try clear hi);(try clear ho0);have hnb13:=NB400_0.out;have hnc13:=NB0_400.out;obtain ⟨hcz14_0,hcz14_1,hfz14_0,hfz14_1⟩:=bz2_ BK400.out;obtain ⟨Ao15,co15,eo15⟩:=Kd.R_slice HO413.out;subst eo15))
  refine bodyPost_ret (results_cell_row rfl _ _ gb400 26 #[.int .i64 t410,.slice Ao15 t411.length co15] (0,0) _ rfl (by (with_reducible repeat (first|refine blk_drewN ?_ _|refine blk_drew ?_|refine blk_alloc ?_ _));refine blk_put (cs:=#[.int .i64 t410,.slice none 0 0]) ?_ 1 _ rfl;(with_reducible repeat (first|refine blk_drewN ?_ _|refine blk_drew ?_|refine blk_alloc ?_ _));refine blk_put (cs:=#[.int .i64 0,.slice none 0 0]) ?_ 0 _ rfl;exact bkC_ BK400.out) Try.underlying26 rfl krT_) rfl ?_
  exact ⟨_,eT_,by (with_reducible repeat (first|apply Kd.R_alloc|apply Kd.R_drewN|apply Kd.R_drew));exact Kd.R_mono (Kd.R_far (p:=⟨gb400,1,none⟩) (Kd.R_far (p:=⟨gb400,0,none⟩) (Kd.R_types HO413.out BK400.out (by decide)) (fun _ hk=>hk.2) (.int .i64 t410)) (fun _ hk=>hk.2) (.slice Ao15 t411.length co15)) (fun _ hk=>trivial),h_HI0 HI0.out,h_HB HB.out,h_HK HK.out⟩
 rw [if_neg c4] at H
 have c4b0:(t401==0)=false:=beq_eq_false_iff_ne.mpr c4
 have c4b1:(t401 != 0)=true:=bne_iff_ne.mpr c4
 by_cases c16:t401=1
 ·rw [if_pos c16] at H
  have c16b0:(t401==1)=true:=beq_iff_eq.mpr c16
  have c16b1:(t401 != 1)=false:=bne_eq_false_iff_eq.mpr c16
  clear c16
  replace H:=bnd_ H;obtain ⟨⟨t414,t415,t418,t419⟩,A17,H⟩:=H;dsimp only at H
  rcases gsb_ H with ⟨c18b0,H⟩|⟨c18b0,H⟩
  ·simp only [Option.some.injEq,Prod.mk.injEq] at H
   obtain ⟨rfl,rfl,rfl,rfl⟩:=H
   go_enter Try.func50,Try.ntmps50
   go_wp2_with (first|((with_reducible refine gate_dst (N:=4) rfl ?_);refine bx_ (N:=4) (cs:=#[.int .i64 0,.slice none 0 0]) (t:=26) ?_;intro gb400 hg w19 hbox hb;replace HB:=Aside0.mk (below_step (h_HB HB.out) hb);have BK400:=Aside0.mk (hbox);have GW400:=Aside0.mk ((by rw [hg];exact (keep_size (w:=w) (g:=g) (row:=none) (h_HK HK.out)):w.heap.size≤gb400));have GE400:=Aside0.mk ((Nat.le_trans HW0.out (by rw [hg];exact (keep_size (w:=w) (g:=g) (row:=none) (h_HK HK.out)):w.heap.size≤gb400):w0.heap.size≤gb400));replace HK:=Aside0.mk (KeepBut.trans (h_HK HK.out) (KeepBut.of_below hb g none) (.inl rfl));have NB0_400:=Aside0.mk ((by rw [hg];exact Nat.ne_of_lt (IsS52.lt (show IsS52 w0 _ g s0_0 s0_1 s0_2 from h_HI0 HI0.out)):g≠gb400));have NB400_0:=Aside0.mk ((by rw [hg];exact Nat.ne_of_gt (IsS52.lt (show IsS52 w0 _ g s0_0 s0_1 s0_2 from h_HI0 HI0.out)):gb400≠g));replace HI0:=Aside0.mk (IsS52.below (h_HI0 HI0.out) hb);clear hb hbox hg)|((with_reducible refine gate_callee (f:=51) rfl ?_);refine goesL_ (some 8) rfl rfl Try.func51 krT_ rfl #[.pointer (some ⟨g,0,none⟩),.int .i64 6] rfl agT_ ?_;(with_reducible refine (spec_l1Below.calls g s0_0 s0_1 s0_2 6 t401 t402 t403 w0 _ ?side1 ?side2 A3.out).mono ?_);(case side1=>exact h_HI0 HI0.out);(case side2=>exact h_HB HB.out);rintro e w20 ⟨rfl,hi,hb,hk⟩;refine ⟨_,rfl,?_⟩;replace BK400:=Aside0.mk (KeepBut.blk hk (bkC_ BK400.out) NB400_0.out (by simp));replace HK:=Aside0.mk (KeepBut.trans (h_HK HK.out) hk (.inl rfl));replace HB:=Aside0.mk (hb);replace HI0:=Aside0.mk (hi);(try clear hb);(try clear hb2);(try clear hk);(try clear hi))|((with_reducible refine gate_callee (f:=67) rfl ?_);refine goesL_ (some 24) rfl rfl Try.func67 krT_ rfl #[.pointer (some ⟨g,0,none⟩)] rfl agT_ ?_;(with_reducible refine (spec_l4Named.calls k g s0_0 t402 t403 t414 t415 t418 t419 w0 _ ?side1 ?side2 A17.out).mono ?_);(case side1=>exact h_HI0 HI0.out);(case side2=>exact h_HB HB.out);rintro e w21 ⟨v416,rfl,ho0,hi,hb,hk⟩;refine ⟨_,rfl,?_⟩;replace BK400:=Aside0.mk (KeepBut.blk hk (bkC_ BK400.out) NB400_0.out (by simp));have HO417:=Aside0.mk (Kd.R_lower ho0 (keep_size (w:=w) (g:=g) (row:=none) (h_HK HK.out)));replace HK:=Aside0.mk (KeepBut.trans (h_HK HK.out) hk (.inl rfl));replace HB:=Aside0.mk (hb);replace HI0:=Aside0.mk (hi);(try clear hb);(try clear hb2);(try clear hk);(try clear hi);(try clear ho0))|((with_reducible refine gate_dst (N:=6) rfl ?_);refine bx_ (N:=6) (cs:=#[.int .i64 0,.slice none 0 0]) (t:=26) ?_;intro gb420 hg w22 hbox hb;have n0_:=Aside0.mk (Kd.R_below (kRC_ HO417.out) hb);have n1_:=Aside0.mk (IsS52.below (h_HI0 HI0.out) hb);have n2_:=Aside0.mk (blkB_ BK400.out hb);have n3_:=Aside0.mk (KeepBut.trans (h_HK HK.out) (KeepBut.of_below hb g none) (.inl rfl));have n4_:=Aside0.mk (below_step (h_HB HB.out) hb);have n5_:=Aside0.mk (hbox);have n6_:=Aside0.mk ((by rw [hg];exact (keep_size (w:=w) (g:=g) (row:=none) (h_HK HK.out)):w.heap.size≤gb420));have n7_:=Aside0.mk ((Nat.le_trans HW0.out (by rw [hg];exact (keep_size (w:=w) (g:=g) (row:=none) (h_HK HK.out)):w.heap.size≤gb420):w0.heap.size≤gb420));have n8_:=Aside0.mk (nbl_ hg (bkC_ BK400.out));have n9_:=Aside0.mk (nbg_ hg (bkC_ BK400.out));have n10_:=Aside0.mk ((by rw [hg];exact Nat.ne_of_lt (IsS52.lt (show IsS52 w0 _ g s0_0 t418 t419 from h_HI0 HI0.out)):g≠gb420));have n11_:=Aside0.mk ((by rw [hg];exact Nat.ne_of_gt (IsS52.lt (show IsS52 w0 _ g s0_0 t418 t419 from h_HI0 HI0.out)):gb420≠g));clear HO417;clear HI0;clear BK400;clear HK;clear HB;have HO417:=n0_;have HI0:=n1_;have BK400:=n2_;have HK:=n3_;have HB:=n4_;have BK420:=n5_;have GW420:=n6_;have GE420:=n7_;have NB400_420:=n8_;have NB420_400:=n9_;have NB0_420:=n10_;have NB420_0:=n11_;clear n0_ n1_ n2_ n3_ n4_ n5_ n6_ n7_ n8_ n9_ n10_ n11_;clear hb hbox hg;have hnb23:=NB420_400.out;have hnc23:=NB400_420.out;have hnb24:=NB420_0.out;have hnc24:=NB0_420.out;obtain ⟨hcz25_0,hcz25_1,hfz25_0,hfz25_1⟩:=bz2_ BK420.out;obtain ⟨Ao26,co26,eo26⟩:=Kd.R_slice HO417.out;subst eo26;have hnb27:=NB400_0.out;have hnc27:=NB0_400.out;obtain ⟨hcz28_0,hcz28_1,hfz28_0,hfz28_1⟩:=bz2_ BK400.out))
   refine bodyPost_ret (results_cell_row rfl _ _ gb400 26 #[.int .i64 t414,.slice Ao26 t415.length co26] (0,0) _ rfl (by (with_reducible repeat (first|refine blk_drewN ?_ _|refine blk_drew ?_|refine blk_alloc ?_ _));refine blk_put (cs:=#[.int .i64 t414,.slice none 0 0]) ?_ 1 _ rfl;(with_reducible repeat (first|refine blk_drewN ?_ _|refine blk_drew ?_|refine blk_alloc ?_ _));refine blk_put (cs:=#[.int .i64 0,.slice none 0 0]) ?_ 0 _ rfl;exact bkC_ BK400.out) Try.underlying26 rfl krT_) rfl ?_
   exact ⟨_,eT_,by (with_reducible repeat (first|apply Kd.R_alloc|apply Kd.R_drewN|apply Kd.R_drew));exact Kd.R_mono (Kd.R_far (p:=⟨gb400,1,none⟩) (Kd.R_far (p:=⟨gb400,0,none⟩) (Kd.R_far (p:=⟨gb420,1,none⟩) (Kd.R_far (p:=⟨gb420,0,none⟩) (Kd.R_types (Kd.R_types HO417.out BK420.out (by decide)) BK400.out (by decide)) (fun _ hk=>hk.1.2) (.int .i64 t414)) (fun _ hk=>hk.1.2) (.slice Ao26 t415.length co26)) (fun _ hk=>hk.2) (.int .i64 t414)) (fun _ hk=>hk.2) (.slice Ao26 t415.length co26)) (fun _ hk=>trivial),h_HI0 HI0.out,h_HB HB.out,h_HK HK.out⟩
  replace H:=bnd_ H;obtain ⟨⟨t421,t422,t423⟩,A29,H⟩:=H;dsimp only at H
  replace H:=bnd_ H;obtain ⟨⟨t424,t425,t428,t429⟩,A30,H⟩:=H;dsimp only at H
  simp only [Option.some.injEq,Prod.mk.injEq] at H
  obtain ⟨rfl,rfl,rfl,rfl⟩:=H
  go_enter Try.func50,Try.ntmps50
  go_wp2_with (first|((with_reducible refine gate_dst (N:=4) rfl ?_);refine bx_ (N:=4) (cs:=#[.int .i64 0,.slice none 0 0]) (t:=26) ?_;intro gb400 hg w31 hbox hb;replace HB:=Aside0.mk (below_step (h_HB HB.out) hb);have BK400:=Aside0.mk (hbox);have GW400:=Aside0.mk ((by rw [hg];exact (keep_size (w:=w) (g:=g) (row:=none) (h_HK HK.out)):w.heap.size≤gb400));have GE400:=Aside0.mk ((Nat.le_trans HW0.out (by rw [hg];exact (keep_size (w:=w) (g:=g) (row:=none) (h_HK HK.out)):w.heap.size≤gb400):w0.heap.size≤gb400));replace HK:=Aside0.mk (KeepBut.trans (h_HK HK.out) (KeepBut.of_below hb g none) (.inl rfl));have NB0_400:=Aside0.mk ((by rw [hg];exact Nat.ne_of_lt (IsS52.lt (show IsS52 w0 _ g s0_0 s0_1 s0_2 from h_HI0 HI0.out)):g≠gb400));have NB400_0:=Aside0.mk ((by rw [hg];exact Nat.ne_of_gt (IsS52.lt (show IsS52 w0 _ g s0_0 s0_1 s0_2 from h_HI0 HI0.out)):gb400≠g));replace HI0:=Aside0.mk (IsS52.below (h_HI0 HI0.out) hb);clear hb hbox hg)|((with_reducible refine gate_callee (f:=51) rfl ?_);refine goesL_ (some 8) rfl rfl Try.func51 krT_ rfl #[.pointer (some ⟨g,0,none⟩),.int .i64 6] rfl agT_ ?_;(with_reducible refine (spec_l1Below.calls g s0_0 s0_1 s0_2 6 t401 t402 t403 w0 _ ?side1 ?side2 A3.out).mono ?_);(case side1=>exact h_HI0 HI0.out);(case side2=>exact h_HB HB.out);rintro e w32 ⟨rfl,hi,hb,hk⟩;refine ⟨_,rfl,?_⟩;replace BK400:=Aside0.mk (KeepBut.blk hk (bkC_ BK400.out) NB400_0.out (by simp));replace HK:=Aside0.mk (KeepBut.trans (h_HK HK.out) hk (.inl rfl));replace HB:=Aside0.mk (hb);replace HI0:=Aside0.mk (hi);(try clear hb);(try clear hb2);(try clear hk);(try clear hi))|((with_reducible refine gate_callee (f:=67) rfl ?_);refine goesL_ (some 24) rfl rfl Try.func67 krT_ rfl #[.pointer (some ⟨g,0,none⟩)] rfl agT_ ?_;(with_reducible refine (spec_l4Named.calls k g s0_0 t402 t403 t414 t415 t418 t419 w0 _ ?side1 ?side2 A17.out).mono ?_);(case side1=>exact h_HI0 HI0.out);(case side2=>exact h_HB HB.out);rintro e w33 ⟨v416,rfl,ho0,hi,hb,hk⟩;refine ⟨_,rfl,?_⟩;replace BK400:=Aside0.mk (KeepBut.blk hk (bkC_ BK400.out) NB400_0.out (by simp));have HO417:=Aside0.mk (Kd.R_lower ho0 (keep_size (w:=w) (g:=g) (row:=none) (h_HK HK.out)));replace HK:=Aside0.mk (KeepBut.trans (h_HK HK.out) hk (.inl rfl));replace HB:=Aside0.mk (hb);replace HI0:=Aside0.mk (hi);(try clear hb);(try clear hb2);(try clear hk);(try clear hi);(try clear ho0))|((with_reducible refine gate_dst (N:=6) rfl ?_);refine bx_ (N:=6) (cs:=#[.int .i64 0,.slice none 0 0]) (t:=26) ?_;intro gb420 hg w34 hbox hb;have n0_:=Aside0.mk (Kd.R_below (kRC_ HO417.out) hb);have n1_:=Aside0.mk (IsS52.below (h_HI0 HI0.out) hb);have n2_:=Aside0.mk (blkB_ BK400.out hb);have n3_:=Aside0.mk (KeepBut.trans (h_HK HK.out) (KeepBut.of_below hb g none) (.inl rfl));have n4_:=Aside0.mk (below_step (h_HB HB.out) hb);have n5_:=Aside0.mk (hbox);have n6_:=Aside0.mk ((by rw [hg];exact (keep_size (w:=w) (g:=g) (row:=none) (h_HK HK.out)):w.heap.size≤gb420));have n7_:=Aside0.mk ((Nat.le_trans HW0.out (by rw [hg];exact (keep_size (w:=w) (g:=g) (row:=none) (h_HK HK.out)):w.heap.size≤gb420):w0.heap.size≤gb420));have n8_:=Aside0.mk (nbl_ hg (bkC_ BK400.out));have n9_:=Aside0.mk (nbg_ hg (bkC_ BK400.out));have n10_:=Aside0.mk ((by rw [hg];exact Nat.ne_of_lt (IsS52.lt (show IsS52 w0 _ g s0_0 t418 t419 from h_HI0 HI0.out)):g≠gb420));have n11_:=Aside0.mk ((by rw [hg];exact Nat.ne_of_gt (IsS52.lt (show IsS52 w0 _ g s0_0 t418 t419 from h_HI0 HI0.out)):gb420≠g));clear HO417;clear HI0;clear BK400;clear HK;clear HB;have HO417:=n0_;have HI0:=n1_;have BK400:=n2_;have HK:=n3_;have HB:=n4_;have BK420:=n5_;have GW420:=n6_;have GE420:=n7_;have NB400_420:=n8_;have NB420_400:=n9_;have NB0_420:=n10_;have NB420_0:=n11_;clear n0_ n1_ n2_ n3_ n4_ n5_ n6_ n7_ n8_ n9_ n10_ n11_;clear hb hbox hg;have hnb35:=NB420_400.out;have hnc35:=NB400_420.out;have hnb36:=NB420_0.out;have hnc36:=NB0_420.out;obtain ⟨hcz37_0,hcz37_1,hfz37_0,hfz37_1⟩:=bz2_ BK420.out;obtain ⟨Ao38,co38,eo38⟩:=Kd.R_slice HO417.out;subst eo38)|((with_reducible refine gate_callee (f:=51) rfl ?_);refine goesL_ (some 34) rfl rfl Try.func51 krT_ rfl #[.pointer (some ⟨g,0,none⟩),.int .i64 (wrap64 (a1+1))] rfl agT_ ?_;(with_reducible refine (spec_l1Below.calls g s0_0 t418 t419 (wrap64 (a1+1)) t421 t422 t423 w0 _ ?side1 ?side2 A29.out).mono ?_);(case side1=>exact h_HI0 HI0.out);(case side2=>exact h_HB HB.out);rintro e w39 ⟨rfl,hi,hb,hk⟩;refine ⟨_,rfl,?_⟩;replace BK400:=Aside0.mk (KeepBut.blk hk (bkC_ BK400.out) NB400_0.out (by simp));replace HO417:=Aside0.mk (Kd.R_mono (Kd.R_keep (IsS52.apart (show IsS52 w0 _ g s0_0 t418 t419 from h_HI0 HI0.out) (by (with_reducible repeat (first|apply Kd.R_alloc|apply Kd.R_drewN|apply Kd.R_drew));exact (Kd.R_mono (Kd.R_far (p:=⟨gb420,1,none⟩) (Kd.R_far (p:=⟨gb420,0,none⟩) (Kd.R_types HO417.out BK420.out (by decide)) (fun _ hk=>hk.2) (.int .i64 t414)) (fun _ hk=>hk.2) (.slice Ao38 t415.length co38)) (fun _ h_=>h_.1))) (by decide)) hk (fun _ h=>h.2)) (fun _ h=>h.1));replace BK420:=Aside0.mk (KeepBut.blk hk (g':=gb420) (o:=.cells #[.int .i64 t414,.slice Ao38 t415.length co38] 26 (0,0)) (by (with_reducible repeat (first|refine blk_drewN ?_ _|refine blk_drew ?_|refine blk_alloc ?_ _));refine blk_put (cs:=#[.int .i64 t414,.slice none 0 0]) ?_ 1 _ rfl;(with_reducible repeat (first|refine blk_drewN ?_ _|refine blk_drew ?_|refine blk_alloc ?_ _));refine blk_put (cs:=#[.int .i64 0,.slice none 0 0]) ?_ 0 _ rfl;exact bkC_ BK420.out) NB420_0.out (by simp));replace HK:=Aside0.mk (KeepBut.trans (h_HK HK.out) hk (.inl rfl));replace HB:=Aside0.mk (hb);replace HI0:=Aside0.mk (hi);(try clear hb);(try clear hb2);(try clear hk);(try clear hi))|((with_reducible refine gate_callee (f:=68) rfl ?_);refine goesL_ (some 35) rfl rfl Try.func68 krT_ rfl #[.pointer (some ⟨g,0,none⟩),.int .i64 t421] rfl agT_ ?_;(with_reducible refine (spec_l4Columns.calls k g s0_0 t422 t423 t421 t424 t425 t428 t429 w0 _ ?side1 ?side2 A30.out).mono ?_);(case side1=>exact h_HI0 HI0.out);(case side2=>exact h_HB HB.out);rintro e w40 ⟨v426,rfl,ho0,hi,hb,hk⟩;refine ⟨_,rfl,?_⟩;replace BK400:=Aside0.mk (KeepBut.blk hk (bkC_ BK400.out) NB400_0.out (by simp));replace BK420:=Aside0.mk (KeepBut.blk hk (bkC_ BK420.out) NB420_0.out (by simp));have HO427:=Aside0.mk (Kd.R_lower (Kd.R_new' ho0 (Kd.R_lt (kRC_ HO417.out))) (keep_size (w:=w) (g:=g) (row:=none) (h_HK HK.out)));replace HO417:=Aside0.mk (Kd.R_mono (Kd.R_told (Kd.R_oldK (IsS52.apart (show IsS52 w0 _ g s0_0 t422 t423 from h_HI0 HI0.out) (kRC_ HO417.out) (by decide)) hk) (Kd.R_base ho0)) (fun _ h_=>h_.1));replace HK:=Aside0.mk (KeepBut.trans (h_HK HK.out) hk (.inl rfl));replace HB:=Aside0.mk (hb);replace HI0:=Aside0.mk (hi);(try clear hb);(try clear hb2);(try clear hk);(try clear hi);(try clear ho0);have hnb41:=NB400_0.out;have hnc41:=NB0_400.out;obtain ⟨hcz42_0,hcz42_1,hfz42_0,hfz42_1⟩:=bz2_ BK400.out;obtain ⟨Ao43,co43,eo43⟩:=Kd.R_slice HO427.out;subst eo43))
  refine bodyPost_ret (results_cell_row rfl _ _ gb400 26 #[.int .i64 t424,.slice Ao43 t425.length co43] (0,0) _ rfl (by (with_reducible repeat (first|refine blk_drewN ?_ _|refine blk_drew ?_|refine blk_alloc ?_ _));refine blk_put (cs:=#[.int .i64 t424,.slice none 0 0]) ?_ 1 _ rfl;(with_reducible repeat (first|refine blk_drewN ?_ _|refine blk_drew ?_|refine blk_alloc ?_ _));refine blk_put (cs:=#[.int .i64 0,.slice none 0 0]) ?_ 0 _ rfl;exact bkC_ BK400.out) Try.underlying26 rfl krT_) rfl ?_
  exact ⟨_,eT_,by (with_reducible repeat (first|apply Kd.R_alloc|apply Kd.R_drewN|apply Kd.R_drew));exact Kd.R_mono (Kd.R_far (p:=⟨gb400,1,none⟩) (Kd.R_far (p:=⟨gb400,0,none⟩) (Kd.R_types HO427.out BK400.out (by decide)) (fun _ hk=>hk.2) (.int .i64 t424)) (fun _ hk=>hk.2) (.slice Ao43 t425.length co43)) (fun _ hk=>trivial),h_HI0 HI0.out,h_HB HB.out,h_HK HK.out⟩
 ·rw [if_neg c16] at H
  have c16b0:(t401==1)=false:=beq_eq_false_iff_ne.mpr c16
  have c16b1:(t401 != 1)=true:=bne_iff_ne.mpr c16
  replace H:=bnd_ H;obtain ⟨⟨t430,t431,t432⟩,A44,H⟩:=H;dsimp only at H
  replace H:=bnd_ H;obtain ⟨⟨t433,t434,t437,t438⟩,A45,H⟩:=H;dsimp only at H
  simp only [Option.some.injEq,Prod.mk.injEq] at H
  obtain ⟨rfl,rfl,rfl,rfl⟩:=H
  go_enter Try.func50,Try.ntmps50
  go_wp2_with (first|((with_reducible refine gate_dst (N:=4) rfl ?_);refine bx_ (N:=4) (cs:=#[.int .i64 0,.slice none 0 0]) (t:=26) ?_;intro gb400 hg w46 hbox hb;replace HB:=Aside0.mk (below_step (h_HB HB.out) hb);have BK400:=Aside0.mk (hbox);have GW400:=Aside0.mk ((by rw [hg];exact (keep_size (w:=w) (g:=g) (row:=none) (h_HK HK.out)):w.heap.size≤gb400));have GE400:=Aside0.mk ((Nat.le_trans HW0.out (by rw [hg];exact (keep_size (w:=w) (g:=g) (row:=none) (h_HK HK.out)):w.heap.size≤gb400):w0.heap.size≤gb400));replace HK:=Aside0.mk (KeepBut.trans (h_HK HK.out) (KeepBut.of_below hb g none) (.inl rfl));have NB0_400:=Aside0.mk ((by rw [hg];exact Nat.ne_of_lt (IsS52.lt (show IsS52 w0 _ g s0_0 s0_1 s0_2 from h_HI0 HI0.out)):g≠gb400));have NB400_0:=Aside0.mk ((by rw [hg];exact Nat.ne_of_gt (IsS52.lt (show IsS52 w0 _ g s0_0 s0_1 s0_2 from h_HI0 HI0.out)):gb400≠g));replace HI0:=Aside0.mk (IsS52.below (h_HI0 HI0.out) hb);clear hb hbox hg)|((with_reducible refine gate_callee (f:=51) rfl ?_);refine goesL_ (some 8) rfl rfl Try.func51 krT_ rfl #[.pointer (some ⟨g,0,none⟩),.int .i64 6] rfl agT_ ?_;(with_reducible refine (spec_l1Below.calls g s0_0 s0_1 s0_2 6 t401 t402 t403 w0 _ ?side1 ?side2 A3.out).mono ?_);(case side1=>exact h_HI0 HI0.out);(case side2=>exact h_HB HB.out);rintro e w47 ⟨rfl,hi,hb,hk⟩;refine ⟨_,rfl,?_⟩;replace BK400:=Aside0.mk (KeepBut.blk hk (bkC_ BK400.out) NB400_0.out (by simp));replace HK:=Aside0.mk (KeepBut.trans (h_HK HK.out) hk (.inl rfl));replace HB:=Aside0.mk (hb);replace HI0:=Aside0.mk (hi);(try clear hb);(try clear hb2);(try clear hk);(try clear hi))|((with_reducible refine gate_callee (f:=51) rfl ?_);refine goesL_ (some 34) rfl rfl Try.func51 krT_ rfl #[.pointer (some ⟨g,0,none⟩),.int .i64 (wrap64 (a1+1))] rfl agT_ ?_;(with_reducible refine (spec_l1Below.calls g s0_0 t402 t403 (wrap64 (a1+1)) t430 t431 t432 w0 _ ?side1 ?side2 A44.out).mono ?_);(case side1=>exact h_HI0 HI0.out);(case side2=>exact h_HB HB.out);rintro e w48 ⟨rfl,hi,hb,hk⟩;refine ⟨_,rfl,?_⟩;replace BK400:=Aside0.mk (KeepBut.blk hk (bkC_ BK400.out) NB400_0.out (by simp));replace HK:=Aside0.mk (KeepBut.trans (h_HK HK.out) hk (.inl rfl));replace HB:=Aside0.mk (hb);replace HI0:=Aside0.mk (hi);(try clear hb);(try clear hb2);(try clear hk);(try clear hi))|((with_reducible refine gate_callee (f:=68) rfl ?_);refine goesL_ (some 35) rfl rfl Try.func68 krT_ rfl #[.pointer (some ⟨g,0,none⟩),.int .i64 t430] rfl agT_ ?_;(with_reducible refine (spec_l4Columns.calls k g s0_0 t431 t432 t430 t433 t434 t437 t438 w0 _ ?side1 ?side2 A45.out).mono ?_);(case side1=>exact h_HI0 HI0.out);(case side2=>exact h_HB HB.out);rintro e w49 ⟨v435,rfl,ho0,hi,hb,hk⟩;refine ⟨_,rfl,?_⟩;replace BK400:=Aside0.mk (KeepBut.blk hk (bkC_ BK400.out) NB400_0.out (by simp));have HO436:=Aside0.mk (Kd.R_lower ho0 (keep_size (w:=w) (g:=g) (row:=none) (h_HK HK.out)));replace HK:=Aside0.mk (KeepBut.trans (h_HK HK.out) hk (.inl rfl));replace HB:=Aside0.mk (hb);replace HI0:=Aside0.mk (hi);(try clear hb);(try clear hb2);(try clear hk);(try clear hi);(try clear ho0);have hnb50:=NB400_0.out;have hnc50:=NB0_400.out;obtain ⟨hcz51_0,hcz51_1,hfz51_0,hfz51_1⟩:=bz2_ BK400.out;obtain ⟨Ao52,co52,eo52⟩:=Kd.R_slice HO436.out;subst eo52))
  refine bodyPost_ret (results_cell_row rfl _ _ gb400 26 #[.int .i64 t433,.slice Ao52 t434.length co52] (0,0) _ rfl (by (with_reducible repeat (first|refine blk_drewN ?_ _|refine blk_drew ?_|refine blk_alloc ?_ _));refine blk_put (cs:=#[.int .i64 t433,.slice none 0 0]) ?_ 1 _ rfl;(with_reducible repeat (first|refine blk_drewN ?_ _|refine blk_drew ?_|refine blk_alloc ?_ _));refine blk_put (cs:=#[.int .i64 0,.slice none 0 0]) ?_ 0 _ rfl;exact bkC_ BK400.out) Try.underlying26 rfl krT_) rfl ?_
  exact ⟨_,eT_,by (with_reducible repeat (first|apply Kd.R_alloc|apply Kd.R_drewN|apply Kd.R_drew));exact Kd.R_mono (Kd.R_far (p:=⟨gb400,1,none⟩) (Kd.R_far (p:=⟨gb400,0,none⟩) (Kd.R_types HO436.out BK400.out (by decide)) (fun _ hk=>hk.2) (.int .i64 t433)) (fun _ hk=>hk.2) (.slice Ao52 t434.length co52)) (fun _ hk=>trivial),h_HI0 HI0.out,h_HB HB.out,h_HK HK.out⟩
/-! ### spec_l3Draw: function 56 -/
def spec_l3Draw.l0:Nat→Int→List Int→Int→Int→List Int→Int→Int→Option (List Int × Int × Int)
 | 0,_,_,_,_,_,_,_=>none
 | k+1,x1,x5,x6,x7,x1000,x1001,x1002=>if x7<x6 then (if 0≤(IntKind.u64.wrap (x1)) then ((spec_l1Below.f x1000 x1001 x1002 (shl .i64 1 (IntKind.u64.wrap (x1)))).bind fun bt445=>(if x5.length<17592186044416 then (spec_l3Draw.l0 k x1 (x5++[bt445.1]) x6 (wrap64 (x7+1)) x1000 bt445.2.1 bt445.2.2) else (none))) else (none)) else (some (x5,x1001,x1002))
def spec_l3Draw.f (k:Nat) (s0_0:List Int) (s0_1:Int) (s0_2:Int) (a1:Int):Option (List Int × Int × Int):=(spec_l1Below.f s0_0 s0_1 s0_2 6).bind fun bt442=>(spec_l3Draw.l0 k a1 (([]:List Int)) bt442.1 0 s0_0 bt442.2.1 bt442.2.2)
set_option maxHeartbeats 8000000 in
set_option maxRecDepth 100000 in
theorem spec_l3Draw.calls (k:Nat) (g:Nat) (s0_0:List Int) (s0_1:Int) (s0_2:Int) (a1:Int) (r1:List Int) (r2:Int) (r3:Int) (w0 w:World) (hI:IsS52 w0 w g s0_0 s0_1 s0_2) (hB:Below w0.heap.size w0 w) (h:spec_l3Draw.f k s0_0 s0_1 s0_2 a1=some (r1,r2,r3)) :
    Calls Try.prog 56 #[.pointer (some ⟨g,0,none⟩),.int .i64 a1] w fun e w'=>∃ v0_:Value,e=.returned (v0_)∧Kd.R (Kd.int .i64) 3 w' w.heap.size (fun _=>True) v0_ r1∧IsS52 w0 w' g s0_0 r2 r3∧Below w0.heap.size w0 w'∧KeepBut w w' g none:=by
 have HI0:=Aside0.mk hI
 have HK:=Aside0.mk (KeepBut.refl w g none)
 have HL:=Aside0.mk hB.size
 clear hI
 have HW0:=Aside0.mk hB.size
 have HB:=Aside0.mk hB
 clear hB
 unfold spec_l3Draw.f at h
 have H:=h
 clear h
 obtain ⟨y439,hy439⟩:∃ y_:List Int,y_=(([]:List Int)):=⟨_,rfl⟩
 replace H:((spec_l1Below.f s0_0 s0_1 s0_2 6).bind fun bt442=>(spec_l3Draw.l0 k a1 y439 bt442.1 0 s0_0 bt442.2.1 bt442.2.2))=some (r1,r2,r3):=by first|(rw [hy439];with_reducible exact H)|(have H2_:=(Option.bind_some _ _).symm.trans H;rw [hy439];with_reducible exact H2_)|(have H2_:=(Option.bind_some _ _).symm.trans H;with_reducible exact H2_)|with_reducible exact H|(rw [hy439];exact H)|exact H
 have Ny439:=Aside0.mk hy439
 clear hy439
 replace H:=bnd_ H;obtain ⟨⟨t442,t443,t444⟩,A3,H⟩:=H;dsimp only at H
 have H':=Aside0.mk H
 clear H
 go_enter Try.func56,Try.ntmps56
 go_wp2_with (first|((with_reducible refine gate_dst (N:=8) rfl ?_);refine Kd.R_lit (Kd.int .i64) _ 3 ?hg (N:=8) ?hd (xs:=([]:List Int)) (inner:=[]) (ok:=fun _=>True) (okp:=fun _=>True) ?hr ?hp (fun _ hk=>hk) trivial (Below.refl _ _) (Nat.le_refl _) (by simp) ?_;(case hd=>rfl);(case hg=>rfl);(case hr=>exact hrT_);(case hp=>exact (Reps.none _ _));intro v440 w4 ho5 hb hg_ hnew_;clear hg_ hnew_;(first|rw [← Ny439.out] at ho5|(simp only [Int.reduceToNat] at ho5;rw [← Ny439.out] at ho5));have HO441:=Aside0.mk (Kd.R_lower ho5 (keep_size (w:=w) (g:=g) (row:=none) (h_HK HK.out)));replace HI0:=Aside0.mk (IsS52.below (h_HI0 HI0.out) hb);replace HK:=Aside0.mk (KeepBut.trans (h_HK HK.out) (KeepBut.of_below hb g none) (.inl rfl));replace HB:=Aside0.mk (below_step (h_HB HB.out) hb);clear hb ho5)|((with_reducible refine gate_callee (f:=51) rfl ?_);refine goesL_ (some 10) rfl rfl Try.func51 krT_ rfl #[.pointer (some ⟨g,0,none⟩),.int .i64 6] rfl agT_ ?_;(with_reducible refine (spec_l1Below.calls g s0_0 s0_1 s0_2 6 t442 t443 t444 w0 _ ?side1 ?side2 A3.out).mono ?_);(case side1=>exact h_HI0 HI0.out);(case side2=>exact h_HB HB.out);rintro e w6 ⟨rfl,hi,hb,hk⟩;refine ⟨_,rfl,?_⟩;replace HO441:=Aside0.mk (Kd.R_mono (Kd.R_keep (IsS52.apart (show IsS52 w0 _ g s0_0 s0_1 s0_2 from h_HI0 HI0.out) (kRC_ HO441.out) (by decide)) hk (fun _ h=>h.2)) (fun _ h=>h.1));replace HK:=Aside0.mk (KeepBut.trans (h_HK HK.out) hk (.inl rfl));replace HB:=Aside0.mk (hb);replace HI0:=Aside0.mk (hi);(try clear hb);(try clear hb2);(try clear hk);(try clear hi)))
 go_loopg [5,7] k (fun kq v5 v7 w'=>∃ (x5_1:List Int) (x7_1:Int) (x1001_1:Int) (x1002_1:Int),v7=.int .i64 x7_1∧Aside0 (spec_l3Draw.l0 kq a1 x5_1 t442 x7_1 s0_0 x1001_1 x1002_1=some (r1,r2,r3))∧Aside0 (kq≤k)∧Aside0 (Kd.R (Kd.int .i64) 3 w' w.heap.size (fun _=>True) v5 x5_1)∧Aside0 (IsS52 w0 w' g s0_0 x1001_1 x1002_1)∧Aside0 (KeepBut w w' g none)∧Aside0 (Below w0.heap.size w0 w'))
 case atStart=>exact ⟨(y439),(0),(t443),(t444),sT_,H',⟨Nat.le_refl _⟩,⟨kRC_ HO441.out⟩,⟨h_HI0 HI0.out⟩,⟨h_HK HK.out⟩,⟨h_HB HB.out⟩⟩
 case round =>
 clear H'
 try clear p2
 try clear c5
 obtain ⟨x5_1,x7_1,x1001_1,x1002_1,rfl,HA,HK1,HO_5,HI0,HK,HB⟩:=hrel
 cases gk with
 | zero=>exact absurd HA.out (by simp [spec_l3Draw.l0])
 | succ k1 =>
 have H:=HA.out
 clear HA
 simp only [spec_l3Draw.l0] at H
 rcases gsn_ H with ⟨c7b0,H⟩|⟨c7b0,H⟩
 ·simp only [Option.some.injEq,Prod.mk.injEq] at H
  obtain ⟨rfl,rfl,rfl⟩:=H
  go_wp2
  go_ret
  exact ⟨_,eT_,kRC_ HO_5.out,h_HI0 HI0.out,h_HB HB.out,h_HK HK.out⟩
 obtain ⟨ji8,hji8⟩:∃ j_:Int,(IntKind.u64.wrap (a1))=j_:=⟨_,rfl⟩
 replace H:(if 0≤(ji8) then ((spec_l1Below.f s0_0 x1001_1 x1002_1 (shl .i64 1 (ji8))).bind fun bt445=>(if x5_1.length<17592186044416 then (spec_l3Draw.l0 k1 a1 (x5_1++[bt445.1]) t442 (wrap64 (x7_1+1)) s0_0 bt445.2.1 bt445.2.2) else (none))) else (none))=some (r1,r2,r3):=by first|(rw [hji8] at H;exact H)|(simp only [hji8] at H ⊢;exact H)
 by_cases c9:0≤(ji8)
 rotate_left
 ·rw [if_neg c9] at H
  exact absurd H (by simp)
 rw [if_pos c9] at H
 have c9b0:=eq_true c9
 have c9b1:decide (0≤(ji8))=true:=decide_eq_true c9
 clear c9
 obtain ⟨ji10,hji10⟩:∃ j_:Int,(shl .i64 1 (ji8))=j_:=⟨_,rfl⟩
 replace H:((spec_l1Below.f s0_0 x1001_1 x1002_1 (ji10)).bind fun bt445=>(if x5_1.length<17592186044416 then (spec_l3Draw.l0 k1 a1 (x5_1++[bt445.1]) t442 (wrap64 (x7_1+1)) s0_0 bt445.2.1 bt445.2.2) else (none)))=some (r1,r2,r3):=by first|(rw [hji10] at H;exact H)|(simp only [hji10] at H ⊢;exact H)
 have hji10_:(IntKind.i64.wrap (1*2 ^ min (ji8).toNat 64))=ji10:=hji10
 have hji10z:(ji8)≤64→(IntKind.i64.wrap (1*2 ^ (ji8).toNat))=ji10:=shl_small hji10
 have hji10u:(IntKind.i64.wrap (2 ^ min (ji8).toNat 64))=ji10:=by have h_:=hji10_;rw [Int.one_mul] at h_;exact h_
 have hji10v:(ji8)≤64→(IntKind.i64.wrap (2 ^ (ji8).toNat))=ji10:=fun hle_=>by have h_:=hji10z hle_;rw [Int.one_mul] at h_;exact h_
 have hji10y:(wrap64 (1*2 ^ min (ji8).toNat 64))=ji10:=(i64_w _).symm.trans hji10_
 have hji10x:(ji8)≤64→(wrap64 (1*2 ^ (ji8).toNat))=ji10:=fun h_=>(i64_w _).symm.trans (hji10z h_)
 replace H:=bnd_ H;obtain ⟨⟨t445,t446,t447⟩,A11,H⟩:=H;dsimp only at H
 by_cases c12:x5_1.length<17592186044416
 ·rw [if_pos c12] at H
  have LMc12:=Aside0.mk c12
  clear c12
  obtain ⟨y448,hy448⟩:∃ y_:List Int,y_=(x5_1++[t445]):=⟨_,rfl⟩
  replace H:(spec_l3Draw.l0 k1 a1 y448 t442 (wrap64 (x7_1+1)) s0_0 t446 t447)=some (r1,r2,r3):=by first|(rw [hy448];with_reducible exact H)|(have H2_:=(Option.bind_some _ _).symm.trans H;rw [hy448];with_reducible exact H2_)|(have H2_:=(Option.bind_some _ _).symm.trans H;with_reducible exact H2_)|with_reducible exact H|(rw [hy448];exact H)|exact H
  have Ny448:=Aside0.mk hy448
  clear hy448
  have H':=Aside0.mk H
  clear H
  go_wp2_with (first|((with_reducible refine gate_callee (f:=51) rfl ?_);refine goesL_ (some 21) rfl rfl Try.func51 krT_ rfl #[.pointer (some ⟨g,0,none⟩),.int .i64 ji10] rfl (by (try simp only [List.map_toArray,List.map_cons,List.map_nil]);first|done|(simp only [hji10];rfl)|rfl|(simp only [List.length_drop,List.length_take];rfl)) ?_;(with_reducible refine (spec_l1Below.calls g s0_0 x1001_1 x1002_1 ji10 t445 t446 t447 w0 _ ?side1 ?side2 A11.out).mono ?_);(case side1=>exact h_HI0 HI0.out);(case side2=>exact h_HB HB.out);rintro e w13 ⟨rfl,hi,hb,hk⟩;refine ⟨_,rfl,?_⟩;replace HO_5:=Aside0.mk (Kd.R_mono (Kd.R_keep (IsS52.apart (show IsS52 w0 _ g s0_0 x1001_1 x1002_1 from h_HI0 HI0.out) (kRC_ HO_5.out) (by decide)) hk (fun _ h=>h.2)) (fun _ h=>h.1));replace HK:=Aside0.mk (KeepBut.trans (h_HK HK.out) hk (.inl rfl));replace HB:=Aside0.mk (hb);replace HI0:=Aside0.mk (hi);(try clear hb);(try clear hb2);(try clear hk);(try clear hi))|((with_reducible refine gate_builtin (b:=.append) (xs:=#[.tmp 16,.tmp 22]) rfl ?_);at_builtin;refine Kd.R_append (Kd.int .i64) w.heap.size rfl (.tmp 16) (.tmp 22) 24 3 (.int .i64 0) 8 rfl Try.underlying24 info3 rfl (by decide) (by omega) u5 x5_1 t445 [.int .i64 t445] (fun _=>True) (fun _=>False) rfl rfl ?aP (fun _ hk=>hk.elim) ?aF ?aO (Below.refl _ _) ?aS ?aL ?_;(case aP=>exact rfl);(case aF=>exact (fun _ _=>trivial));(case aO=>exact (kRC_ HO_5.out));(case aS=>exact (keep_size (w:=w) (g:=g) (row:=none) (h_HK HK.out)));(case aL=>have:=LMc12.out;omega);intro v449 w14 ho hb hg hat;rw [← Ny448.out] at ho;replace HI0:=Aside0.mk (IsS52.grown (h_HI0 HI0.out) hg (IsS52.own_ne HI0.out HO_5.out (by decide)));replace HB:=Aside0.mk (below_weaken (h_HB HB.out) HL.out hb);replace HK:=Aside0.mk (KeepBut.trans (h_HK HK.out) (KeepBut.of_grown hg g) (Kd.R_base2 HO_5.out));have HO450:=Aside0.mk (ho);clear HO_5;clear ho hb hg hat))
  go_roundg k1
  case measure=>have:=HK1.out;omega
  case rel=>exact ⟨(y448),(wrap64 (x7_1+1)),(t446),(t447),sT_,H',⟨by have:=HK1.out;omega⟩,⟨kRC_ HO450.out⟩,⟨h_HI0 HI0.out⟩,⟨h_HK HK.out⟩,⟨h_HB HB.out⟩⟩
 ·rw [if_neg c12] at H
  exact absurd H (by simp)
/-! ### spec_l1Max: function 57 -/
def spec_l1Max.f (a0:Int) (a1:Int):Option (Int):=if a0>a1 then (some a0) else (some a1)
set_option maxHeartbeats 8000000 in
set_option maxRecDepth 100000 in
theorem spec_l1Max.calls (a0:Int) (a1:Int) (r:Int) (w:World) (h:spec_l1Max.f a0 a1=some r) :
    Calls Try.prog 57 #[.int .i64 a0,.int .i64 a1] w fun e w'=>e=.returned (.int .i64 r)∧Drawn0 w w':=by
 have H:(if a0>a1 then (some a0) else (some a1))=some r:=h
 clear h
 by_cases c3:a0>a1
 ·rw [if_pos c3] at H
  have c3b0:decide (a1<a0)=true:=decide_eq_true c3
  clear c3
  obtain rfl:=Option.some.inj H
  go_enter Try.func57,Try.ntmps57
  go_wp2
  go_ret
  exact ⟨sT_,dT_⟩
 rw [if_neg c3] at H
 have c3b0:decide (a1<a0)=false:=decide_eq_false c3
 clear c3
 obtain rfl:=Option.some.inj H
 go_enter Try.func57,Try.ntmps57
 go_wp2
 go_ret
 exact ⟨sT_,dT_⟩
/-! ### spec_l1Min: function 58 -/
def spec_l1Min.f (a0:Int) (a1:Int):Option (Int):=if a0<a1 then (some a0) else (some a1)
set_option maxHeartbeats 8000000 in
set_option maxRecDepth 100000 in
theorem spec_l1Min.calls (a0:Int) (a1:Int) (r:Int) (w:World) (h:spec_l1Min.f a0 a1=some r) :
    Calls Try.prog 58 #[.int .i64 a0,.int .i64 a1] w fun e w'=>e=.returned (.int .i64 r)∧Drawn0 w w':=by
 have H:(if a0<a1 then (some a0) else (some a1))=some r:=h
 clear h
 rcases gsb_ H with ⟨c3b0,H⟩|⟨c3b0,H⟩
 ·obtain rfl:=Option.some.inj H
  go_enter Try.func58,Try.ntmps58
  go_wp2
  go_ret
  exact ⟨sT_,dT_⟩
 ·obtain rfl:=Option.some.inj H
  go_enter Try.func58,Try.ntmps58
  go_wp2
  go_ret
  exact ⟨sT_,dT_⟩
end Go.Proofs.Ytekegbacnagbcaa.P
