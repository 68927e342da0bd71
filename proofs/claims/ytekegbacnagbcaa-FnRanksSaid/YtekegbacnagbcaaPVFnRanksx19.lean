-- written by gprint (a program of this session's, round the kit's print), out of the translation and hand-written texts
import Derived.Test.YtekegbacnagbcaaPVFnRanksx0
import Derived.Test.YtekegbacnagbcaaPVFnRanksx1
import Derived.Test.YtekegbacnagbcaaPVFnRanksx3
import Derived.Test.YtekegbacnagbcaaPVFnRanksx11
import Derived.Test.YtekegbacnagbcaaPVFnRanksx13
import Derived.Test.YtekegbacnagbcaaPVFnRanksx14
import Derived.Test.YtekegbacnagbcaaPVFnRanksx15
import Derived.Test.YtekegbacnagbcaaPVFnRanksx16
import Derived.Test.YtekegbacnagbcaaPVFnRanksx17
import Derived.Test.YtekegbacnagbcaaPVFnRanksx18
namespace Go.Proofs.Ytekegbacnagbcaa.P
open Go.RowKit Go.Proofs.YtekegbacnagbcaaW.PrintWords Go.Proofs.YtekegbacnagbcaaW.PrintLast Go.Proofs.YtekegbacnagbcaaW.PrintMore
attribute [local go_sem] max2_int min2_int max_two min_two max_three min_three max_four min_four   -- for this text's walks alone
set_option linter.unusedVariables false
set_option linter.unusedSimpArgs false
/-! ### laws_FnRanks: function 3 -/
mutual
def laws_FnRanks.j0:Nat→Int→Int→Int→Int→List Int→Bool→Int→List Int→Option (Bool)
 | 0,_,_,_,_,_,_,_,_=>none
 | k+1,x4,x6,x7,x8,x10,x94,x719000,x719001=>if x94=true then (none) else (if x7<0 then (some true) else ((spec_FullSet.f x719000).bind fun t752=>(laws_FnRanks.l0 k x4 (Go.bits .and .i64 x6 t752) x7 x8 x10 0 x719000 x719001)))
def laws_FnRanks.l0:Nat→Int→Int→Int→Int→List Int→Int→Int→List Int→Option (Bool)
 | 0,_,_,_,_,_,_,_,_=>none
 | k+1,x4,x6,x7,x8,x10,x11,x719000,x719001=>if x11<(x10.length:Int) then (if 0≤x11 then ((spec_CountOf.f k (rd x10 x11)).bind fun t754=>(if t754=x7 then ((spec_IsSubset.f (rd x10 x11) x4).bind fun t756=>(if t756=true then (laws_FnRanks.l0 k x4 x6 x7 x8 x10 (wrap64 (x11+1)) x719000 x719001) else (none))) else (none))) else (none)) else ((impl_RankOf.f k x719000 x719001 (Go.bits .or .i64 x4 x6)).bind fun t757=>((impl_RankOf.f k x719000 x719001 (Go.bits .and .i64 x4 x6)).bind fun t758=>((impl_RankOf.f k x719000 x719001 x6).bind fun t759=>(if (wrap64 (t757+t758))≤(wrap64 (x7+t759)) then ((impl_ClosureOf.f k x719000 x719001 x8).bind fun t760=>(if t760=x8 then ((spec_IsSubset.f x4 x8).bind fun t761=>(if t761=true then ((impl_RankOf.f k x719000 x719001 x8).bind fun t762=>(some (t762==x7))) else (none))) else (none))) else (none)))))
end
def laws_FnRanks.f (k:Nat) (l0:List Int):Option (Bool):=(laws_big.f l0).bind fun t712=>(if t712=true then (some true) else ((spec_DrawRankOf.f k l0).bind fun bt713=>((spec_DrawPackSet.f k l0).bind fun bt719=>((impl_RankOf.f k bt713.1 bt713.2.1 bt713.2.2).bind fun t721=>((impl_ClosureOf.f k bt713.1 bt713.2.1 bt713.2.2).bind fun t722=>((spec_DrawIndependentSets.f k l0).bind fun bt723=>((impl_BasesOf.f k bt713.1 bt713.2.1 bt713.2.2).bind fun t728=>((spec_RankOf.f k bt713.1 bt713.2.1 bt713.2.2).bind fun t731=>(if t721=t731 then ((spec_ClosureOf.f k bt713.1 bt713.2.1 bt713.2.2).bind fun t732=>(if t722=t732 then ((impl_IsIndependent.f k bt713.1 bt713.2.1 bt713.2.2).bind fun t733=>((spec_IsIndependent.f k bt713.1 bt713.2.1 bt713.2.2).bind fun t734=>(if (t733 != t734)=true then (none) else ((impl_IndependentSets.f k bt723.1 bt723.2).bind fun t735=>((spec_IndependentSets.f k bt723.1 bt723.2).bind fun t738=>((laws_sameInts.f k t735 t738).bind fun t741=>(if t741=true then ((impl_IsSpanning.f k bt713.1 bt713.2.1 bt713.2.2).bind fun t742=>((spec_IsSpanning.f k bt713.1 bt713.2.1 bt713.2.2).bind fun t743=>(if (t742 != t743)=true then (none) else ((spec_BasesOf.f k bt713.1 bt713.2.1 bt713.2.2).bind fun t744=>((laws_sameInts.f k t728 t744).bind fun t747=>(if t747=true then ((impl_LoopsOf.f k bt723.1 bt723.2).bind fun t748=>((spec_LoopsOf.f k bt723.1 bt723.2).bind fun t749=>(if t748=t749 then ((impl_ColoopsOf.f k bt723.1 bt723.2).bind fun t750=>((spec_ColoopsOf.f k bt723.1 bt723.2).bind fun t751=>(laws_FnRanks.j0 k bt713.2.2 bt719.2 t721 t722 t728 (t750 != t751) bt713.1 bt713.2.1))) else (none)))) else (none))))))) else (none)))))))) else (none))) else (none))))))))))
def laws_FnRanks.T9:Bool × List (List Nat × List Nat):=(true,[([],[]),([],[]),([],[]),([1,2],[1,2]),([0,3],[0,3]),([4,3],[4]),([5],[5]),([5],[5]),([5],[5]),([7,8,5,5],[5,7,8]),([6,9,5],[5,6,9]),([5,10],[5,10]),([11,9],[11]),([12],[12]),([12],[12]),([13,14,12,12],[12,13,14]),([12],[12]),([12],[12]),([16,17,15,12],[12,16,17]),([15,18,12],[12,15,18]),([12,19],[12,19]),([20,18],[20]),([21],[21]),([22,21,21],[21,22]),([21],[21]),([24,23,21],[21,24]),([23,25,25,21],[21,23,25]),([26,21],[21,26]),([21,27],[21,27]),([28,26],[28]),([29],[29]),([29],[29]),([30,31,29,29],[29,30,31]),([29],[29]),([29],[29]),([33,34,32,29],[29,33,34]),([32,35,29],[29,32,35]),([29,36],[29,36]),([37,35],[37]),([38],[38]),([38],[38]),([38],[38]),([40,41,38,38],[38,40,41]),([39,42,42,38],[38,39,42]),([43,38],[38,43]),([38,44],[38,44]),([45,43],[45]),([46],[46]),([47,46,46],[46,47]),([46],[46]),([49,48,46],[46,49]),([48,50,46],[46,48,50]),([46,51],[46,51]),([52,50],[52]),([53],[53]),([54,53,53],[53,54]),([53],[53]),([56,55,53],[53,56]),([55,57,53],[53,55,57]),([53,58],[53,58])])
def laws_FnRanks.B9:List Nat:=[0,0,0,6,15,31,63,63,63,447,1023,2047,4095,8191,8191,32767,8191,8191,262143,524287,1048575,2097151,4194303,8388607,4194303,33554431,67108863,134217727,268435455,536870911,1073741823,1073741823,4294967295,1073741823,1073741823,34359738367,68719476735,137438953471,274877906943,549755813887,549755813887,549755813887,3848290697215,8796093022207,17592186044415,35184372088831,70368744177663,140737488355327,281474976710655,140737488355327,1125899906842623,2251799813685247,4503599627370495,9007199254740991,18014398509481983,36028797018963967,18014398509481983,144115188075855871,288230376151711743,576460752303423487]
theorem laws_FnRanks.tab9:rtab .any (opsOf Try.f3 9)=laws_FnRanks.T9:=by kernel_rfl
theorem laws_FnRanks.bits9:waitsOk laws_FnRanks.T9.2 laws_FnRanks.B9=true:=by kernel_rfl
def laws_FnRanks.T19:Bool × List (List Nat × List Nat):=(true,[([],[]),([],[]),([],[]),([1,2],[1,2]),([0,3],[0,3]),([],[]),([],[]),([],[]),([6,7],[6,7]),([5,8,4],[5,8]),([4,9],[4,9]),([],[]),([],[]),([],[]),([12,13,9],[12,13]),([11,14],[11,14]),([10,15],[10,15]),([16,14],[16]),([17],[17]),([17],[17]),([18,19,17,17],[17,18,19]),([17],[17]),([20,21,17],[17,20,21]),([17,22],[17,22]),([23,20],[23]),([24],[24]),([24],[24]),([25,26,24,24],[24,25,26]),([24,27],[24,27]),([28,27],[28]),([29],[29]),([29],[29]),([30,31,29,29],[29,30,31]),([29],[29]),([32,33,29],[29,32,33]),([29,34],[29,34]),([35,32,0,1,2,3,4,5,6,7,8,9,10,11,12,13,14,15,16,17,18,19,20,21,22,23,24,25,26,27,28,29,30,31,32,33,34,35],[35])])
def laws_FnRanks.B19:List Nat:=[0,0,0,6,15,0,0,0,192,511,1023,0,0,0,13311,31743,65535,131071,262143,262143,1048575,262143,4194303,8388607,16777215,33554431,33554431,134217727,268435455,536870911,1073741823,1073741823,4294967295,1073741823,17179869183,34359738367,68719476735]
theorem laws_FnRanks.tab19:rtab .any (opsOf Try.f3 19)=laws_FnRanks.T19:=by kernel_rfl
theorem laws_FnRanks.bits19:waitsOk laws_FnRanks.T19.2 laws_FnRanks.B19=true:=by kernel_rfl
set_option maxHeartbeats 8000000 in
set_option maxRecDepth 100000 in
theorem laws_FnRanks.calls (k:Nat) (A0:Option Addr) (c0:Nat) (l0:List Int) (r:Bool) (w:World) (hr0:Kd.C (Kd.int .u8) w A0 l0.length l0) (hc0:l0.length≤c0) (h:laws_FnRanks.f k l0=some r) :
    Calls Try.prog 3 #[.slice A0 l0.length c0] w fun e w'=>e=.returned (.bool r)∧Below w.heap.size w w':=by
 have hu26:=Try.underlying26
 have HR0:=Aside0.mk hr0
 have HC0:=Aside0.mk hc0
 clear hr0 hc0
 have HB:=Aside0.mk (Below.refl w.heap.size w)
 unfold laws_FnRanks.f at h
 have H:=h
 clear h
 replace H:=bnd_ H;obtain ⟨t712,A2,H⟩:=H
 by_cases c3:t712=true
 ·subst c3
  replace H:=bT_ H
  obtain rfl:=Option.some.inj H
  go_enter Try.func3,Try.ntmps3
  go_wp2_with (first|((with_reducible refine gate_callee (f:=4) rfl ?_);refine goesL_ (some 13) rfl rfl Try.func4 krT_ rfl #[.slice A0 l0.length c0] rfl agT_ ?_;(with_reducible refine (laws_big.calls _ _ l0 true _ ?side1 ?side2 A2.out).mono ?_);(case side1=>repeat (first|exact HR0.out|(with_reducible refine Kd.C_alloc ?_ _)|(with_reducible refine Kd.C_drewN ?_ _)|(with_reducible refine Kd.C_drew ?_)));(case side2=>exact HC0.out);rintro e w' ⟨rfl,⟨nd,rfl⟩⟩;refine ⟨_,rfl,?_⟩))
  go_ret
  exact ⟨eT_,h_HB HB.out⟩
 ·replace c3:=Bool.eq_false_iff.mpr c3
  subst c3
  replace H:=bF_ H
  replace H:=bnd_ H;obtain ⟨⟨t713,t714,t717⟩,A4,H⟩:=H;dsimp only at H
  replace H:=bnd_ H;obtain ⟨⟨t719,t720⟩,A5,H⟩:=H;dsimp only at H
  replace H:=bnd_ H;obtain ⟨t721,A6,H⟩:=H
  replace H:=bnd_ H;obtain ⟨t722,A7,H⟩:=H
  replace H:=bnd_ H;obtain ⟨⟨t723,t724⟩,A8,H⟩:=H;dsimp only at H
  replace H:=bnd_ H;obtain ⟨t728,A9,H⟩:=H
  have HC10:=Aside0.mk H
  clear H
  go_enter Try.func3,Try.ntmps3
  go_upto_region 9 with (first|((with_reducible refine gate_callee (f:=4) rfl ?_);refine goesL_ (some 13) rfl rfl Try.func4 krT_ rfl #[.slice A0 l0.length c0] rfl agT_ ?_;(with_reducible refine (laws_big.calls _ _ l0 false _ ?side1 ?side2 A2.out).mono ?_);(case side1=>repeat (first|exact HR0.out|(with_reducible refine Kd.C_alloc ?_ _)|(with_reducible refine Kd.C_drewN ?_ _)|(with_reducible refine Kd.C_drew ?_)));(case side2=>exact HC0.out);rintro e w' ⟨rfl,⟨nd,rfl⟩⟩;refine ⟨_,rfl,?_⟩)|((with_reducible refine gate_callee (f:=5) rfl ?_);refine goesL_ (some 16) rfl rfl Try.func5 krT_ rfl #[.slice A0 l0.length c0] rfl agT_ ?_;(with_reducible refine (spec_DrawRankOf.calls k _ _ l0 t713 t714 t717 _ ?side1 ?side2 A4.out).mono ?_);(case side1=>repeat (first|exact HR0.out|(with_reducible refine Kd.C_alloc ?_ _)|(with_reducible refine Kd.C_drewN ?_ _)|(with_reducible refine Kd.C_drew ?_)));(case side2=>exact HC0.out);rintro e w11 ⟨v715,rfl,ho0,hb⟩;refine ⟨_,rfl,?_⟩;have HO716:=Aside0.mk (Kd.R_lower ho0 (below_size (h_HB HB.out)));replace HB:=Aside0.mk (below_step (h_HB HB.out) hb);(try clear hb);(try clear hb2);(try clear hk);(try clear hi);(try clear ho0))|((with_reducible refine gate_dst (N:=3) rfl ?_);refine bx_ (N:=3) (cs:=#[.int .i64 0,.slice none 0 0]) (t:=26) ?_;intro gb718 hg w12 hbox hb;replace HO716:=Aside0.mk (Kd.R_below (kRC_ HO716.out) hb);have BK718:=Aside0.mk (hbox);have GW718:=Aside0.mk (gw_ hg (h_HB HB.out));have GE718:=Aside0.mk (gw_ hg (h_HB HB.out));replace HB:=Aside0.mk (below_step (h_HB HB.out) hb);clear hb hbox hg;obtain ⟨hcz13_0,hcz13_1,hfz13_0,hfz13_1⟩:=bz2_ BK718.out;obtain ⟨Ao14,co14,eo14⟩:=Kd.R_slice HO716.out;subst eo14)|((with_reducible refine gate_callee (f:=6) rfl ?_);refine goesL_ (some 21) rfl rfl Try.func6 krT_ rfl #[.slice A0 l0.length c0] rfl agT_ ?_;(with_reducible refine (spec_DrawPackSet.calls k _ _ l0 t719 t720 _ ?side1 ?side2 A5.out).mono ?_);(case side1=>exact Kd.C_below HR0.out (h_HB HB.out));(case side2=>exact HC0.out);rintro e w15 ⟨rfl,hb⟩;refine ⟨_,rfl,?_⟩;replace HO716:=Aside0.mk (Kd.R_below (by (with_reducible repeat (first|apply Kd.R_alloc|apply Kd.R_drewN|apply Kd.R_drew));exact (Kd.R_mono (Kd.R_far (p:=⟨gb718,1,none⟩) (Kd.R_far (p:=⟨gb718,0,none⟩) (Kd.R_types HO716.out BK718.out (by decide)) (fun _ hk=>hk.2) (.int .i64 t713)) (fun _ hk=>hk.2) (.slice Ao14 t714.length co14)) (fun _ h_=>h_.1))) hb);replace BK718:=Aside0.mk (blk_below (g:=gb718) (o:=.cells #[.int .i64 t713,.slice Ao14 t714.length co14] 26 (0,0)) (by (with_reducible repeat (first|refine blk_drewN ?_ _|refine blk_drew ?_|refine blk_alloc ?_ _));refine blk_put (cs:=#[.int .i64 t713,.slice none 0 0]) ?_ 1 _ rfl;(with_reducible repeat (first|refine blk_drewN ?_ _|refine blk_drew ?_|refine blk_alloc ?_ _));refine blk_put (cs:=#[.int .i64 0,.slice none 0 0]) ?_ 0 _ rfl;exact bkC_ BK718.out) hb);replace HB:=Aside0.mk (below_step (h_HB HB.out) hb);(try clear hb);(try clear hb2);(try clear hk);(try clear hi);obtain ⟨hcz16_0,hcz16_1,hfz16_0,hfz16_1⟩:=bz2_ BK718.out)|((with_reducible refine gate_callee (f:=7) rfl ?_);refine goesL_ (some 26) rfl rfl Try.func7 krT_ rfl #[.agg #[.int .i64 t713,.slice Ao14 t714.length co14],.int .i64 t717] rfl agT_ ?_;(with_reducible refine (impl_RankOf.calls k t713 _ _ t714 t717 t721 _ ?side1 ?side2 A6.out).mono ?_);(case side1=>repeat (first|exact (Kd.R_reads' HO716.out).2.2|(with_reducible refine Kd.C_alloc ?_ _)|(with_reducible refine Kd.C_drewN ?_ _)|(with_reducible refine Kd.C_drew ?_)));(case side2=>exact (Kd.R_reads' HO716.out).2.1);rintro e w17 ⟨rfl,hb⟩;refine ⟨_,rfl,?_⟩;replace HO716:=Aside0.mk (Kd.R_below (kRC_ HO716.out) hb);replace BK718:=Aside0.mk (blkB_ BK718.out hb);replace HB:=Aside0.mk (below_step (h_HB HB.out) hb);(try clear hb);obtain ⟨hcz18_0,hcz18_1,hfz18_0,hfz18_1⟩:=bz2_ BK718.out)|((with_reducible refine gate_callee (f:=8) rfl ?_);refine goesL_ (some 29) rfl rfl Try.func8 krT_ rfl #[.agg #[.int .i64 t713,.slice Ao14 t714.length co14],.int .i64 t717] rfl agT_ ?_;(with_reducible refine (impl_ClosureOf.calls k t713 _ _ t714 t717 t722 _ ?side1 ?side2 A7.out).mono ?_);(case side1=>repeat (first|exact (Kd.R_reads' HO716.out).2.2|(with_reducible refine Kd.C_alloc ?_ _)|(with_reducible refine Kd.C_drewN ?_ _)|(with_reducible refine Kd.C_drew ?_)));(case side2=>exact (Kd.R_reads' HO716.out).2.1);rintro e w19 ⟨rfl,hb⟩;refine ⟨_,rfl,?_⟩;replace HO716:=Aside0.mk (Kd.R_below (kRC_ HO716.out) hb);replace BK718:=Aside0.mk (blkB_ BK718.out hb);replace HB:=Aside0.mk (below_step (h_HB HB.out) hb);(try clear hb))|((with_reducible refine gate_callee (f:=9) rfl ?_);refine goesL_ (some 31) rfl rfl Try.func9 krT_ rfl #[.slice A0 l0.length c0] rfl agT_ ?_;(with_reducible refine (spec_DrawIndependentSets.calls k _ _ l0 t723 t724 _ ?side1 ?side2 A8.out).mono ?_);(case side1=>exact cC_ HR0.out);(case side2=>exact HC0.out);rintro e w20 ⟨v725,rfl,ho0,hb⟩;refine ⟨_,rfl,?_⟩;have HO726:=Aside0.mk (Kd.R_lower (Kd.R_new' ho0 (Kd.R_lt (kRC_ HO716.out))) (below_size (h_HB HB.out)));replace HO716:=Aside0.mk (Kd.R_elder' (kRC_ HO716.out) (Kd.R_base ho0) hb);replace BK718:=Aside0.mk (blkB_ BK718.out hb);replace HB:=Aside0.mk (below_step (h_HB HB.out) hb);(try clear hb);(try clear hb2);(try clear hk);(try clear hi);(try clear ho0))|((with_reducible refine gate_dst (N:=9) rfl ?_);refine bx_ (N:=9) (cs:=#[.int .i64 0,.slice none 0 0]) (t:=26) ?_;intro gb727 hg w21 hbox hb;replace HO716:=Aside0.mk (Kd.R_below (kRC_ HO716.out) hb);replace HO726:=Aside0.mk (Kd.R_below (kRC_ HO726.out) hb);have BK727:=Aside0.mk (hbox);have GW727:=Aside0.mk (gw_ hg (h_HB HB.out));have GE727:=Aside0.mk (gw_ hg (h_HB HB.out));replace HB:=Aside0.mk (below_step (h_HB HB.out) hb);have NB718_727:=Aside0.mk (nbl_ hg (bkC_ BK718.out));have NB727_718:=Aside0.mk (nbg_ hg (bkC_ BK718.out));replace BK718:=Aside0.mk (blkB_ BK718.out hb);clear hb hbox hg;have hnb22:=NB727_718.out;have hnc22:=NB718_727.out;obtain ⟨hcz23_0,hcz23_1,hfz23_0,hfz23_1⟩:=bz2_ BK727.out;obtain ⟨Ao24,co24,eo24⟩:=Kd.R_slice HO726.out;subst eo24;obtain ⟨hcz25_0,hcz25_1,hfz25_0,hfz25_1⟩:=bz2_ BK718.out)|((with_reducible refine gate_callee (f:=10) rfl ?_);refine goesL_ (some 34) rfl rfl Try.func10 krT_ rfl #[.agg #[.int .i64 t713,.slice Ao14 t714.length co14],.int .i64 t717] rfl agT_ ?_;(with_reducible refine (impl_BasesOf.calls k t713 _ _ t714 t717 t728 _ ?side1 ?side2 A9.out).mono ?_);(case side1=>refine (Kd.R_reads' (e:=3) (base:=w.heap.size) (ok:=fun k_=>(True∧some k_≠(.slice Ao24 t724.length co24:Value).ownBlock)) (n:=t714.length) (c:=co14) ?_).2.2;exact (by (with_reducible repeat (first|apply Kd.R_alloc|apply Kd.R_drewN|apply Kd.R_drew));exact (Kd.R_mono (Kd.R_far (p:=⟨gb727,1,none⟩) (Kd.R_far (p:=⟨gb727,0,none⟩) (Kd.R_types HO716.out BK727.out (by decide)) (fun _ hk=>hk.2) (.int .i64 t723)) (fun _ hk=>hk.2) (.slice Ao24 t724.length co24)) (fun _ h_=>h_.1))));(case side2=>exact (Kd.R_reads' HO716.out).2.1);rintro e w26 ⟨v729,rfl,ho0,hb⟩;refine ⟨_,rfl,?_⟩;have HO730:=Aside0.mk (Kd.R_lower (Kd.R_new' (Kd.R_new' ho0 (Kd.R_lt (by (with_reducible repeat (first|apply Kd.R_alloc|apply Kd.R_drewN|apply Kd.R_drew));exact (Kd.R_mono (Kd.R_far (p:=⟨gb727,1,none⟩) (Kd.R_far (p:=⟨gb727,0,none⟩) (Kd.R_types HO716.out BK727.out (by decide)) (fun _ hk=>hk.2) (.int .i64 t723)) (fun _ hk=>hk.2) (.slice Ao24 t724.length co24)) (fun _ h_=>h_.1))))) (Kd.R_lt (by (with_reducible repeat (first|apply Kd.R_alloc|apply Kd.R_drewN|apply Kd.R_drew));exact (Kd.R_mono (Kd.R_far (p:=⟨gb727,1,none⟩) (Kd.R_far (p:=⟨gb727,0,none⟩) (Kd.R_types HO726.out BK727.out (by decide)) (fun _ hk=>hk.2) (.int .i64 t723)) (fun _ hk=>hk.2) (.slice Ao24 t724.length co24)) (fun _ h_=>h_.1))))) (below_size (h_HB HB.out)));replace HO716:=Aside0.mk (Kd.R_elder' (by (with_reducible repeat (first|apply Kd.R_alloc|apply Kd.R_drewN|apply Kd.R_drew));exact (Kd.R_mono (Kd.R_far (p:=⟨gb727,1,none⟩) (Kd.R_far (p:=⟨gb727,0,none⟩) (Kd.R_types HO716.out BK727.out (by decide)) (fun _ hk=>hk.2) (.int .i64 t723)) (fun _ hk=>hk.2) (.slice Ao24 t724.length co24)) (fun _ h_=>h_.1))) (Kd.R_base ho0) hb);replace HO726:=Aside0.mk (Kd.R_elder' (by (with_reducible repeat (first|apply Kd.R_alloc|apply Kd.R_drewN|apply Kd.R_drew));exact (Kd.R_mono (Kd.R_far (p:=⟨gb727,1,none⟩) (Kd.R_far (p:=⟨gb727,0,none⟩) (Kd.R_types HO726.out BK727.out (by decide)) (fun _ hk=>hk.2) (.int .i64 t723)) (fun _ hk=>hk.2) (.slice Ao24 t724.length co24)) (fun _ h_=>h_.1))) (Kd.R_base ho0) hb);replace BK718:=Aside0.mk (blkB_ BK718.out hb);replace BK727:=Aside0.mk (blk_below (g:=gb727) (o:=.cells #[.int .i64 t723,.slice Ao24 t724.length co24] 26 (0,0)) (by (with_reducible repeat (first|refine blk_drewN ?_ _|refine blk_drew ?_|refine blk_alloc ?_ _));refine blk_put (cs:=#[.int .i64 t723,.slice none 0 0]) ?_ 1 _ rfl;(with_reducible repeat (first|refine blk_drewN ?_ _|refine blk_drew ?_|refine blk_alloc ?_ _));refine blk_put (cs:=#[.int .i64 0,.slice none 0 0]) ?_ 0 _ rfl;exact bkC_ BK727.out) hb);replace HB:=Aside0.mk (below_step (h_HB HB.out) hb);(try clear hb);(try clear hb2);(try clear hk);(try clear hi);(try clear ho0)))
  (try simp only [Act.put,List.setIfInBounds_toArray,List.set_cons_zero,List.set_cons_succ])
  go_cut [94] (fun v94 wc=>∃ (kq:Nat) (x94_9:Bool),v94=.bool x94_9∧Aside0 (laws_FnRanks.j0 kq t717 t720 t721 t722 t728 x94_9 t713 t714=some r)∧Aside0 (kq≤k)∧Aside0 (Kd.R (Kd.int .i64) 3 wc w.heap.size (fun k_=>some k_≠((.slice Ao14 t714.length co14):Value).ownBlock∧some k_≠((.slice Ao24 t724.length co24):Value).ownBlock) v729 t728)∧Aside0 (Kd.R (Kd.int .i64) 3 wc w.heap.size (fun k_=>some k_≠(v729:Value).ownBlock∧some k_≠((.slice Ao24 t724.length co24):Value).ownBlock) (.slice Ao14 t714.length co14) t714)∧Aside0 (Kd.R (Kd.int .i64) 3 wc w.heap.size (fun k_=>some k_≠(v729:Value).ownBlock∧some k_≠((.slice Ao14 t714.length co14):Value).ownBlock) (.slice Ao24 t724.length co24) t724)∧Aside0 (wc.heap[gb718]?=some (.cells #[.int .i64 t713,(.slice Ao14 t714.length co14)] 26 (0,0)))∧Aside0 (wc.heap[gb727]?=some (.cells #[.int .i64 t723,(.slice Ao24 t724.length co24)] 26 (0,0)))∧Aside0 (Below w.heap.size w wc))
  case first =>
   have H:=HC10.out
   clear HC10
   replace H:=bnd_ H;obtain ⟨t731,A27,H⟩:=H
   by_cases c28:t721=t731
   ·rw [if_pos c28] at H
    have c28b0:(t721==t731)=true:=beq_iff_eq.mpr c28
    have c28b1:(t721 != t731)=false:=bne_eq_false_iff_eq.mpr c28
    clear c28
    (first|rw [c28b0]|(simp only [i64_w,i32_w];rw [c28b0])|skip)
    replace H:=bnd_ H;obtain ⟨t732,A29,H⟩:=H
    by_cases c30:t722=t732
    ·rw [if_pos c30] at H
     have c30b0:(t722==t732)=true:=beq_iff_eq.mpr c30
     have c30b1:(t722 != t732)=false:=bne_eq_false_iff_eq.mpr c30
     clear c30
     replace H:=bnd_ H;obtain ⟨t733,A31,H⟩:=H
     replace H:=bnd_ H;obtain ⟨t734,A32,H⟩:=H
     by_cases c33:(t733 != t734)=true
     ·rw [if_pos c33] at H
      have c33b0:(t733 != t734)=true:=c33
      (try (have c33b1:decide (t733=t734)=false:=by simpa using c33))
      (try (have c33b2:(t733==t734)=false:=by simpa using c33))
      (try (have c33b3:¬ (t733=t734):=by simpa using c33))
      clear c33
      exact absurd H (by simp)
     ·rw [if_neg c33] at H
      have c33b0:(t733 != t734)=false:=by simpa using c33
      (try (have c33b1:decide (t733=t734)=true:=by simpa using c33))
      (try (have c33b2:(t733==t734)=true:=by simpa using c33))
      clear c33
      replace H:=bnd_ H;obtain ⟨t735,A34,H⟩:=H
      replace H:=bnd_ H;obtain ⟨t738,A35,H⟩:=H
      replace H:=bnd_ H;obtain ⟨t741,A36,H⟩:=H
      by_cases c37:t741=true
      ·subst c37
       replace H:=bT_ H
       replace H:=bnd_ H;obtain ⟨t742,A38,H⟩:=H
       replace H:=bnd_ H;obtain ⟨t743,A39,H⟩:=H
       by_cases c40:(t742 != t743)=true
       ·rw [if_pos c40] at H
        have c40b0:(t742 != t743)=true:=c40
        (try (have c40b1:decide (t742=t743)=false:=by simpa using c40))
        (try (have c40b2:(t742==t743)=false:=by simpa using c40))
        (try (have c40b3:¬ (t742=t743):=by simpa using c40))
        clear c40
        exact absurd H (by simp)
       ·rw [if_neg c40] at H
        have c40b0:(t742 != t743)=false:=by simpa using c40
        (try (have c40b1:decide (t742=t743)=true:=by simpa using c40))
        (try (have c40b2:(t742==t743)=true:=by simpa using c40))
        clear c40
        replace H:=bnd_ H;obtain ⟨t744,A41,H⟩:=H
        replace H:=bnd_ H;obtain ⟨t747,A42,H⟩:=H
        by_cases c43:t747=true
        ·subst c43
         replace H:=bT_ H
         replace H:=bnd_ H;obtain ⟨t748,A44,H⟩:=H
         replace H:=bnd_ H;obtain ⟨t749,A45,H⟩:=H
         by_cases c46:t748=t749
         ·rw [if_pos c46] at H
          have c46b0:(t748==t749)=true:=beq_iff_eq.mpr c46
          have c46b1:(t748 != t749)=false:=bne_eq_false_iff_eq.mpr c46
          clear c46
          replace H:=bnd_ H;obtain ⟨t750,A47,H⟩:=H
          replace H:=bnd_ H;obtain ⟨t751,A48,H⟩:=H
          have H':=Aside0.mk H
          clear H
          try go_wp2
          replace HO716:=Aside0.mk (Kd.R_drew HO716.out);replace HO726:=Aside0.mk (Kd.R_drew HO726.out);replace HO730:=Aside0.mk (Kd.R_drew HO730.out);replace BK718:=Aside0.mk (blk_drew BK718.out);replace BK727:=Aside0.mk (blk_drew BK727.out);replace HB:=Aside0.mk (below_drew1 HB.out)
          refine start_ (n:=60) (S:=fun w'=>w'.cell? ⟨gb718,0,none⟩=some (.int .i64 t713)∧w'.cell? ⟨gb718,1,none⟩=some (.slice Ao14 t714.length co14)∧w'.cell? ⟨gb727,0,none⟩=some (.int .i64 t723)∧w'.cell? ⟨gb727,1,none⟩=some (.slice Ao24 t724.length co24)) (ds:=[]) #[F_,F_,F_,F_,F_,F_,F_,F_,F_,F_,F_,F_,F_,F_,F_,F_,F_,F_,F_,F_,F_,F_,F_,F_,F_,F_,F_,F_,F_,F_,F_,F_,F_,F_,F_,F_,F_,F_,F_,F_,F_,F_,F_,F_,F_,F_,F_,F_,F_,F_,F_,F_,F_,F_,F_,F_,F_,F_,F_,F_] krT_ rfl rfl ⟨(blk_cell BK718.out 0).trans rfl,(blk_cell BK718.out 1).trans rfl,(blk_cell BK727.out 0).trans rfl,(blk_cell BK727.out 1).trans rfl⟩ (fun hHeld=>?_);refine with_tabW laws_FnRanks.tab9 laws_FnRanks.bits9 (fun HT_ HW_=>?_)
          generalize w26.drew=w49 at HO716 HO726 HO730 BK718 BK727 HB hHeld ⊢
          refine pu_ 0 (some 35) (bm_ 60 1) rfl rfl HT_.out ?_
          refine pu_ 2 (some 37) (bm_ 60 5) rfl rfl HT_.out ?_
          refine take_ (i:=1) (N:=some 36) (v:=?_) (a':=?_) (bm_ 60 7) rfl rfl (take_ofW HT_.out HW_.out krT_) (fun _ _ _ h=>h) (Or.inl ⟨by rfl,?_⟩) hHeld ?_ ?_
          rotate_left
          ·rintro w' ⟨s0,s1,s2,s3⟩
           go_simp
           with_reducible rfl
          rotate_left;exact apT_
          refine one_ (i:=3) (N:=some 38) (bm_ 60 15) rfl rfl (one_of HT_.out krT_) (by decide) (fun K hK=>?_)
          refine goes_ Try.func11 krT_ rfl #[.agg #[.int .i64 t713,.slice Ao14 t714.length co14],.int .i64 t717] (by rfl) rfl rfl agT_ ?_
          with_reducible refine (spec_RankOf.calls k t713 _ _ t714 t717 t731 _ ?side1 ?side2 A27.out).mono ?_
          (case side1=>repeat (first|exact (Kd.R_reads' HO716.out).2.2|(with_reducible refine Kd.C_alloc ?_ _)|(with_reducible refine Kd.C_drewN ?_ _)|(with_reducible refine Kd.C_drew ?_)))
          (case side2=>exact (Kd.R_reads' HO716.out).2.1)
          rintro e w50 ⟨rfl,hb⟩
          refine ⟨_,rfl,?_⟩
          replace HO716:=Aside0.mk (Kd.R_below (kRC_ HO716.out) hb);replace HO726:=Aside0.mk (Kd.R_below (kRC_ HO726.out) hb);replace HO730:=Aside0.mk (Kd.R_below (kRC_ HO730.out) hb);replace BK718:=Aside0.mk (blkB_ BK718.out hb);replace BK727:=Aside0.mk (blkB_ BK727.out hb);replace HB:=Aside0.mk (below_step (h_HB HB.out) hb)
          (try clear hb)
          (try clear hb2)
          (try clear hk)
          (try clear hi)
          refine hK.out _ _ ⟨(blk_cell BK718.out 0).trans rfl,(blk_cell BK718.out 1).trans rfl,(blk_cell BK727.out 0).trans rfl,(blk_cell BK727.out 1).trans rfl⟩ (fun hHeld=>?_)
          clear hK K
          refine norm_ (a':=?_) ?_ ?_
          rotate_left
          ·show Act.put _ (some 38) _=_
           simp only [Act.put,List.setIfInBounds_toArray,List.set_cons_zero,List.set_cons_succ,i64_w,i32_w]
           rfl
          refine pu_ 4 (some 39) (bm_ 60 31) rfl rfl HT_.out ?_
          refine pu_ 5 (some 40) (bm_ 60 63) rfl rfl HT_.out ?_
          refine pu_ 6 (some 41) (bm_ 60 127) rfl rfl HT_.out ?_
          refine pu_ 8 (some 43) (bm_ 60 383) rfl rfl HT_.out ?_
          refine take_ (i:=7) (N:=some 42) (v:=?_) (a':=?_) (bm_ 60 511) rfl rfl (take_ofW HT_.out HW_.out krT_) (fun _ _ _ h=>h) (Or.inl ⟨by rfl,?_⟩) hHeld ?_ ?_
          rotate_left
          ·rintro w' ⟨s0,s1,s2,s3⟩
           go_simp
           with_reducible rfl
          rotate_left;exact apT_
          refine one_ (i:=9) (N:=some 44) (bm_ 60 1023) rfl rfl (one_of HT_.out krT_) (by decide) (fun K hK=>?_)
          refine goes_ Try.func12 krT_ rfl #[.agg #[.int .i64 t713,.slice Ao14 t714.length co14],.int .i64 t717] (by rfl) rfl rfl agT_ ?_
          with_reducible refine (spec_ClosureOf.calls k t713 _ _ t714 t717 t732 _ ?side1 ?side2 A29.out).mono ?_
          (case side1=>repeat (first|exact (Kd.R_reads' HO716.out).2.2|(with_reducible refine Kd.C_alloc ?_ _)|(with_reducible refine Kd.C_drewN ?_ _)|(with_reducible refine Kd.C_drew ?_)))
          (case side2=>exact (Kd.R_reads' HO716.out).2.1)
          rintro e w51 ⟨rfl,hb⟩
          refine ⟨_,rfl,?_⟩
          replace HO716:=Aside0.mk (Kd.R_below (kRC_ HO716.out) hb);replace HO726:=Aside0.mk (Kd.R_below (kRC_ HO726.out) hb);replace HO730:=Aside0.mk (Kd.R_below (kRC_ HO730.out) hb);replace BK718:=Aside0.mk (blkB_ BK718.out hb);replace BK727:=Aside0.mk (blkB_ BK727.out hb);replace HB:=Aside0.mk (below_step (h_HB HB.out) hb)
          (try clear hb)
          (try clear hb2)
          (try clear hk)
          (try clear hi)
          refine hK.out _ _ ⟨(blk_cell BK718.out 0).trans rfl,(blk_cell BK718.out 1).trans rfl,(blk_cell BK727.out 0).trans rfl,(blk_cell BK727.out 1).trans rfl⟩ (fun hHeld=>?_)
          clear hK K
          refine norm_ (a':=?_) ?_ ?_
          rotate_left
          ·show Act.put _ (some 44) _=_
           simp only [Act.put,List.setIfInBounds_toArray,List.set_cons_zero,List.set_cons_succ,i64_w,i32_w]
           rfl
          refine pu_ 10 (some 45) (bm_ 60 2047) rfl rfl HT_.out ?_
          refine pu_ 11 (some 46) (bm_ 60 4095) rfl rfl HT_.out ?_
          refine pu_ 12 (some 47) (bm_ 60 8191) rfl rfl HT_.out ?_
          refine pu_ 14 (some 49) (bm_ 60 24575) rfl rfl HT_.out ?_
          refine pu_ 17 (some 52) (bm_ 60 155647) rfl rfl HT_.out ?_
          refine take_ (i:=13) (N:=some 48) (v:=?_) (a':=?_) (bm_ 60 163839) rfl rfl (take_ofW HT_.out HW_.out krT_) (fun _ _ _ h=>h) (Or.inl ⟨by rfl,?_⟩) hHeld ?_ ?_
          rotate_left
          ·rintro w' ⟨s0,s1,s2,s3⟩
           go_simp
           with_reducible rfl
          rotate_left;exact apT_
          refine take_ (i:=16) (N:=some 51) (v:=?_) (a':=?_) (bm_ 60 229375) rfl rfl (take_ofW HT_.out HW_.out krT_) (fun _ _ _ h=>h) (Or.inl ⟨by rfl,?_⟩) hHeld ?_ ?_
          rotate_left
          ·rintro w' ⟨s0,s1,s2,s3⟩
           go_simp
           with_reducible rfl
          rotate_left;exact apT_
          refine one_ (i:=15) (N:=some 50) (bm_ 60 262143) rfl rfl (one_of HT_.out krT_) (by decide) (fun K hK=>?_)
          refine goes_ Try.func13 krT_ rfl #[.agg #[.int .i64 t713,.slice Ao14 t714.length co14],.int .i64 t717] (by rfl) rfl rfl agT_ ?_
          with_reducible refine (impl_IsIndependent.calls k t713 _ _ t714 t717 t733 _ ?side1 ?side2 A31.out).mono ?_
          (case side1=>repeat (first|exact (Kd.R_reads' HO716.out).2.2|(with_reducible refine Kd.C_alloc ?_ _)|(with_reducible refine Kd.C_drewN ?_ _)|(with_reducible refine Kd.C_drew ?_)))
          (case side2=>exact (Kd.R_reads' HO716.out).2.1)
          rintro e w52 ⟨rfl,hb⟩
          refine ⟨_,rfl,?_⟩
          replace HO716:=Aside0.mk (Kd.R_below (kRC_ HO716.out) hb);replace HO726:=Aside0.mk (Kd.R_below (kRC_ HO726.out) hb);replace HO730:=Aside0.mk (Kd.R_below (kRC_ HO730.out) hb);replace BK718:=Aside0.mk (blkB_ BK718.out hb);replace BK727:=Aside0.mk (blkB_ BK727.out hb);replace HB:=Aside0.mk (below_step (h_HB HB.out) hb)
          (try clear hb)
          (try clear hb2)
          (try clear hk)
          (try clear hi)
          refine hK.out _ _ ⟨(blk_cell BK718.out 0).trans rfl,(blk_cell BK718.out 1).trans rfl,(blk_cell BK727.out 0).trans rfl,(blk_cell BK727.out 1).trans rfl⟩ (fun hHeld=>?_)
          clear hK K
          refine norm_ (a':=?_) ?_ ?_
          rotate_left
          ·show Act.put _ (some 50) _=_
           simp only [Act.put,List.setIfInBounds_toArray,List.set_cons_zero,List.set_cons_succ,i64_w,i32_w]
           rfl
          refine one_ (i:=18) (N:=some 53) (bm_ 60 524287) rfl rfl (one_of HT_.out krT_) (by decide) (fun K hK=>?_)
          refine goes_ Try.func14 krT_ rfl #[.agg #[.int .i64 t713,.slice Ao14 t714.length co14],.int .i64 t717] (by rfl) rfl rfl agT_ ?_
          with_reducible refine (spec_IsIndependent.calls k t713 _ _ t714 t717 t734 _ ?side1 ?side2 A32.out).mono ?_
          (case side1=>repeat (first|exact (Kd.R_reads' HO716.out).2.2|(with_reducible refine Kd.C_alloc ?_ _)|(with_reducible refine Kd.C_drewN ?_ _)|(with_reducible refine Kd.C_drew ?_)))
          (case side2=>exact (Kd.R_reads' HO716.out).2.1)
          rintro e w53 ⟨rfl,hb⟩
          refine ⟨_,rfl,?_⟩
          replace HO716:=Aside0.mk (Kd.R_below (kRC_ HO716.out) hb);replace HO726:=Aside0.mk (Kd.R_below (kRC_ HO726.out) hb);replace HO730:=Aside0.mk (Kd.R_below (kRC_ HO730.out) hb);replace BK718:=Aside0.mk (blkB_ BK718.out hb);replace BK727:=Aside0.mk (blkB_ BK727.out hb);replace HB:=Aside0.mk (below_step (h_HB HB.out) hb)
          (try clear hb)
          (try clear hb2)
          (try clear hk)
          (try clear hi)
          refine hK.out _ _ ⟨(blk_cell BK718.out 0).trans rfl,(blk_cell BK718.out 1).trans rfl,(blk_cell BK727.out 0).trans rfl,(blk_cell BK727.out 1).trans rfl⟩ (fun hHeld=>?_)
          clear hK K
          refine norm_ (a':=?_) ?_ ?_
          rotate_left
          ·show Act.put _ (some 53) _=_
           simp only [Act.put,List.setIfInBounds_toArray,List.set_cons_zero,List.set_cons_succ,i64_w,i32_w]
           rfl
          refine pu_ 19 (some 54) (bm_ 60 1048575) rfl rfl HT_.out ?_
          refine pu_ 20 (some 55) (bm_ 60 2097151) rfl rfl HT_.out ?_
          refine pu_ 21 (some 56) (bm_ 60 4194303) rfl rfl HT_.out ?_
          refine take_ (i:=22) (N:=some 57) (v:=?_) (a':=?_) (bm_ 60 8388607) rfl rfl (take_ofW HT_.out HW_.out krT_) (fun _ _ _ h=>h) (Or.inl ⟨by rfl,?_⟩) hHeld ?_ ?_
          rotate_left
          ·rintro w' ⟨s0,s1,s2,s3⟩
           go_simp
           with_reducible rfl
          rotate_left;exact apT_
          refine take_ (i:=24) (N:=some 59) (v:=?_) (a':=?_) (bm_ 60 25165823) rfl rfl (take_ofW HT_.out HW_.out krT_) (fun _ _ _ h=>h) (Or.inl ⟨by rfl,?_⟩) hHeld ?_ ?_
          rotate_left
          ·rintro w' ⟨s0,s1,s2,s3⟩
           go_simp
           with_reducible rfl
          rotate_left;exact apT_
          refine one_ (i:=23) (N:=some 58) (bm_ 60 33554431) rfl rfl (one_of HT_.out krT_) (by decide) (fun K hK=>?_)
          refine goes_ Try.func16 krT_ rfl #[.agg #[.int .i64 t723,.slice Ao24 t724.length co24]] (by rfl) rfl rfl agT_ ?_
          with_reducible refine (impl_IndependentSets.calls k t723 _ _ t724 t735 _ ?side1 ?side2 A34.out).mono ?_
          (case side1=>repeat (first|exact (Kd.R_reads' HO726.out).2.2|(with_reducible refine Kd.C_alloc ?_ _)|(with_reducible refine Kd.C_drewN ?_ _)|(with_reducible refine Kd.C_drew ?_)))
          (case side2=>exact (Kd.R_reads' HO726.out).2.1)
          rintro e w54 ⟨v736,rfl,ho0,hb⟩
          refine ⟨_,rfl,?_⟩
          have HO737:=Aside0.mk (Kd.R_lower (Kd.R_new' (Kd.R_new' (Kd.R_new' ho0 (Kd.R_lt (kRC_ HO716.out))) (Kd.R_lt (kRC_ HO726.out))) (Kd.R_lt (kRC_ HO730.out))) (below_size (h_HB HB.out)));replace HO716:=Aside0.mk (Kd.R_elder' (kRC_ HO716.out) (Kd.R_base ho0) hb);replace HO726:=Aside0.mk (Kd.R_elder' (kRC_ HO726.out) (Kd.R_base ho0) hb);replace HO730:=Aside0.mk (Kd.R_elder' (kRC_ HO730.out) (Kd.R_base ho0) hb);replace BK718:=Aside0.mk (blkB_ BK718.out hb);replace BK727:=Aside0.mk (blkB_ BK727.out hb);replace HB:=Aside0.mk (below_step (h_HB HB.out) hb)
          (try clear hb)
          (try clear hb2)
          (try clear hk)
          (try clear hi)
          (try clear ho0)
          refine hK.out _ _ ⟨(blk_cell BK718.out 0).trans rfl,(blk_cell BK718.out 1).trans rfl,(blk_cell BK727.out 0).trans rfl,(blk_cell BK727.out 1).trans rfl⟩ (fun hHeld=>?_)
          clear hK K
          refine norm_ (a':=?_) ?_ ?_
          rotate_left
          ·show Act.put _ (some 58) _=_
           simp only [Act.put,List.setIfInBounds_toArray,List.set_cons_zero,List.set_cons_succ,i64_w,i32_w]
           rfl
          refine one_ (i:=25) (N:=some 60) (bm_ 60 67108863) rfl rfl (one_of HT_.out krT_) (by decide) (fun K hK=>?_)
          refine goes_ Try.func17 krT_ rfl #[.agg #[.int .i64 t723,.slice Ao24 t724.length co24]] (by rfl) rfl rfl agT_ ?_
          with_reducible refine (spec_IndependentSets.calls k t723 _ _ t724 t738 _ ?side1 ?side2 A35.out).mono ?_
          (case side1=>repeat (first|exact (Kd.R_reads' HO726.out).2.2|(with_reducible refine Kd.C_alloc ?_ _)|(with_reducible refine Kd.C_drewN ?_ _)|(with_reducible refine Kd.C_drew ?_)))
          (case side2=>exact (Kd.R_reads' HO726.out).2.1)
          rintro e w55 ⟨v739,rfl,ho0,hb⟩
          refine ⟨_,rfl,?_⟩
          have HO740:=Aside0.mk (Kd.R_lower (Kd.R_new' (Kd.R_new' (Kd.R_new' (Kd.R_new' ho0 (Kd.R_lt (kRC_ HO716.out))) (Kd.R_lt (kRC_ HO726.out))) (Kd.R_lt (kRC_ HO730.out))) (Kd.R_lt (kRC_ HO737.out))) (below_size (h_HB HB.out)));replace HO716:=Aside0.mk (Kd.R_elder' (kRC_ HO716.out) (Kd.R_base ho0) hb);replace HO726:=Aside0.mk (Kd.R_elder' (kRC_ HO726.out) (Kd.R_base ho0) hb);replace HO730:=Aside0.mk (Kd.R_elder' (kRC_ HO730.out) (Kd.R_base ho0) hb);replace HO737:=Aside0.mk (Kd.R_elder' (kRC_ HO737.out) (Kd.R_base ho0) hb);replace BK718:=Aside0.mk (blkB_ BK718.out hb);replace BK727:=Aside0.mk (blkB_ BK727.out hb);replace HB:=Aside0.mk (below_step (h_HB HB.out) hb)
          (try clear hb)
          (try clear hb2)
          (try clear hk)
          (try clear hi)
          (try clear ho0)
          obtain ⟨Ao56,co56,eo56⟩:=Kd.R_slice HO737.out
          (first|subst eo56|(injection eo56 with f1_ f2_ f3_;have f4_:=f1_.symm;have f5_:=f3_.symm;clear f1_ f2_ f3_;subst f4_;subst f5_))
          obtain ⟨Ao57,co57,eo57⟩:=Kd.R_slice HO740.out
          (first|subst eo57|(injection eo57 with f1_ f2_ f3_;have f4_:=f1_.symm;have f5_:=f3_.symm;clear f1_ f2_ f3_;subst f4_;subst f5_))
          refine hK.out _ _ ⟨(blk_cell BK718.out 0).trans rfl,(blk_cell BK718.out 1).trans rfl,(blk_cell BK727.out 0).trans rfl,(blk_cell BK727.out 1).trans rfl⟩ (fun hHeld=>?_)
          clear hK K
          refine norm_ (a':=?_) ?_ ?_
          rotate_left
          ·show Act.put _ (some 60) _=_
           simp only [Act.put,List.setIfInBounds_toArray,List.set_cons_zero,List.set_cons_succ,i64_w,i32_w]
           rfl
          refine one_ (i:=26) (N:=some 61) (bm_ 60 134217727) rfl rfl (one_of HT_.out krT_) (by decide) (fun K hK=>?_)
          refine goes_ Try.func15 krT_ rfl #[.slice Ao56 t735.length co56,.slice Ao57 t738.length co57] (by rfl) rfl rfl agT_ ?_
          with_reducible refine (laws_sameInts.calls k _ _ t735 _ _ t738 true _ ?side1 ?side2 ?side3 ?side4 A36.out).mono ?_
          (case side1=>repeat (first|exact (Kd.R_reads' HO737.out).2.2|(with_reducible refine Kd.C_alloc ?_ _)|(with_reducible refine Kd.C_drewN ?_ _)|(with_reducible refine Kd.C_drew ?_)))
          (case side2=>exact (Kd.R_reads' HO737.out).2.1)
          (case side3=>repeat (first|exact (Kd.R_reads' HO740.out).2.2|(with_reducible refine Kd.C_alloc ?_ _)|(with_reducible refine Kd.C_drewN ?_ _)|(with_reducible refine Kd.C_drew ?_)))
          (case side4=>exact (Kd.R_reads' HO740.out).2.1)
          rintro e w' ⟨rfl,⟨nd,rfl⟩⟩
          refine ⟨_,rfl,?_⟩
          refine hK.out _ _ ⟨(blk_cell BK718.out 0).trans rfl,(blk_cell BK718.out 1).trans rfl,(blk_cell BK727.out 0).trans rfl,(blk_cell BK727.out 1).trans rfl⟩ (fun hHeld=>?_)
          clear hK K
          refine norm_ (a':=?_) ?_ ?_
          rotate_left
          ·show Act.put _ (some 61) _=_
           simp only [Act.put,List.setIfInBounds_toArray,List.set_cons_zero,List.set_cons_succ,i64_w,i32_w]
           rfl
          refine pu_ 27 (some 62) (bm_ 60 268435455) rfl rfl HT_.out ?_
          refine pu_ 28 (some 63) (bm_ 60 536870911) rfl rfl HT_.out ?_
          refine pu_ 29 (some 64) (bm_ 60 1073741823) rfl rfl HT_.out ?_
          refine pu_ 31 (some 66) (bm_ 60 3221225471) rfl rfl HT_.out ?_
          refine pu_ 34 (some 69) (bm_ 60 20401094655) rfl rfl HT_.out ?_
          refine take_ (i:=30) (N:=some 65) (v:=?_) (a':=?_) (bm_ 60 21474836479) rfl rfl (take_ofW HT_.out HW_.out krT_) (fun _ _ _ h=>h) (Or.inl ⟨by rfl,?_⟩) hHeld ?_ ?_
          rotate_left
          ·rintro w' ⟨s0,s1,s2,s3⟩
           go_simp
           with_reducible rfl
          rotate_left;exact apT_
          refine take_ (i:=33) (N:=some 68) (v:=?_) (a':=?_) (bm_ 60 30064771071) rfl rfl (take_ofW HT_.out HW_.out krT_) (fun _ _ _ h=>h) (Or.inl ⟨by rfl,?_⟩) hHeld ?_ ?_
          rotate_left
          ·rintro w' ⟨s0,s1,s2,s3⟩
           go_simp
           with_reducible rfl
          rotate_left;exact apT_
          refine one_ (i:=32) (N:=some 67) (bm_ 60 34359738367) rfl rfl (one_of HT_.out krT_) (by decide) (fun K hK=>?_)
          refine goes_ Try.func18 krT_ rfl #[.agg #[.int .i64 t713,.slice Ao14 t714.length co14],.int .i64 t717] (by rfl) rfl rfl agT_ ?_
          with_reducible refine (impl_IsSpanning.calls k t713 _ _ t714 t717 t742 _ ?side1 ?side2 A38.out).mono ?_
          (case side1=>repeat (first|exact (Kd.R_reads' HO716.out).2.2|(with_reducible refine Kd.C_alloc ?_ _)|(with_reducible refine Kd.C_drewN ?_ _)|(with_reducible refine Kd.C_drew ?_)))
          (case side2=>exact (Kd.R_reads' HO716.out).2.1)
          rintro e w58 ⟨rfl,hb⟩
          refine ⟨_,rfl,?_⟩
          replace HO716:=Aside0.mk (Kd.R_below (kRC_ HO716.out) hb);replace HO726:=Aside0.mk (Kd.R_below (kRC_ HO726.out) hb);replace HO730:=Aside0.mk (Kd.R_below (kRC_ HO730.out) hb);replace HO737:=Aside0.mk (Kd.R_below (kRC_ HO737.out) hb);replace HO740:=Aside0.mk (Kd.R_below (kRC_ HO740.out) hb);replace BK718:=Aside0.mk (blkB_ BK718.out hb);replace BK727:=Aside0.mk (blkB_ BK727.out hb);replace HB:=Aside0.mk (below_step (h_HB HB.out) hb)
          (try clear hb)
          (try clear hb2)
          (try clear hk)
          (try clear hi)
          refine hK.out _ _ ⟨(blk_cell BK718.out 0).trans rfl,(blk_cell BK718.out 1).trans rfl,(blk_cell BK727.out 0).trans rfl,(blk_cell BK727.out 1).trans rfl⟩ (fun hHeld=>?_)
          clear hK K
          refine norm_ (a':=?_) ?_ ?_
          rotate_left
          ·show Act.put _ (some 67) _=_
           simp only [Act.put,List.setIfInBounds_toArray,List.set_cons_zero,List.set_cons_succ,i64_w,i32_w]
           rfl
          refine one_ (i:=35) (N:=some 70) (bm_ 60 68719476735) rfl rfl (one_of HT_.out krT_) (by decide) (fun K hK=>?_)
          refine goes_ Try.func19 krT_ rfl #[.agg #[.int .i64 t713,.slice Ao14 t714.length co14],.int .i64 t717] (by rfl) rfl rfl agT_ ?_
          with_reducible refine (spec_IsSpanning.calls k t713 _ _ t714 t717 t743 _ ?side1 ?side2 A39.out).mono ?_
          (case side1=>repeat (first|exact (Kd.R_reads' HO716.out).2.2|(with_reducible refine Kd.C_alloc ?_ _)|(with_reducible refine Kd.C_drewN ?_ _)|(with_reducible refine Kd.C_drew ?_)))
          (case side2=>exact (Kd.R_reads' HO716.out).2.1)
          rintro e w59 ⟨rfl,hb⟩
          refine ⟨_,rfl,?_⟩
          replace HO716:=Aside0.mk (Kd.R_below (kRC_ HO716.out) hb);replace HO726:=Aside0.mk (Kd.R_below (kRC_ HO726.out) hb);replace HO730:=Aside0.mk (Kd.R_below (kRC_ HO730.out) hb);replace HO737:=Aside0.mk (Kd.R_below (kRC_ HO737.out) hb);replace HO740:=Aside0.mk (Kd.R_below (kRC_ HO740.out) hb);replace BK718:=Aside0.mk (blkB_ BK718.out hb);replace BK727:=Aside0.mk (blkB_ BK727.out hb);replace HB:=Aside0.mk (below_step (h_HB HB.out) hb)
          (try clear hb)
          (try clear hb2)
          (try clear hk)
          (try clear hi)
          refine hK.out _ _ ⟨(blk_cell BK718.out 0).trans rfl,(blk_cell BK718.out 1).trans rfl,(blk_cell BK727.out 0).trans rfl,(blk_cell BK727.out 1).trans rfl⟩ (fun hHeld=>?_)
          clear hK K
          refine norm_ (a':=?_) ?_ ?_
          rotate_left
          ·show Act.put _ (some 70) _=_
           simp only [Act.put,List.setIfInBounds_toArray,List.set_cons_zero,List.set_cons_succ,i64_w,i32_w]
           rfl
          refine pu_ 36 (some 71) (bm_ 60 137438953471) rfl rfl HT_.out ?_
          refine pu_ 37 (some 72) (bm_ 60 274877906943) rfl rfl HT_.out ?_
          refine pu_ 38 (some 73) (bm_ 60 549755813887) rfl rfl HT_.out ?_
          refine pu_ 39 (some 74) (bm_ 60 1099511627775) rfl rfl HT_.out ?_
          refine pu_ 41 (some 76) (bm_ 60 3298534883327) rfl rfl HT_.out ?_
          refine take_ (i:=40) (N:=some 75) (v:=?_) (a':=?_) (bm_ 60 4398046511103) rfl rfl (take_ofW HT_.out HW_.out krT_) (fun _ _ _ h=>h) (Or.inl ⟨by rfl,?_⟩) hHeld ?_ ?_
          rotate_left
          ·rintro w' ⟨s0,s1,s2,s3⟩
           go_simp
           with_reducible rfl
          rotate_left;exact apT_
          refine one_ (i:=42) (N:=some 77) (bm_ 60 8796093022207) rfl rfl (one_of HT_.out krT_) (by decide) (fun K hK=>?_)
          refine goes_ Try.func20 krT_ rfl #[.agg #[.int .i64 t713,.slice Ao14 t714.length co14],.int .i64 t717] (by rfl) rfl rfl agT_ ?_
          with_reducible refine (spec_BasesOf.calls k t713 _ _ t714 t717 t744 _ ?side1 ?side2 A41.out).mono ?_
          (case side1=>repeat (first|exact (Kd.R_reads' HO716.out).2.2|(with_reducible refine Kd.C_alloc ?_ _)|(with_reducible refine Kd.C_drewN ?_ _)|(with_reducible refine Kd.C_drew ?_)))
          (case side2=>exact (Kd.R_reads' HO716.out).2.1)
          rintro e w60 ⟨v745,rfl,ho0,hb⟩
          refine ⟨_,rfl,?_⟩
          have HO746:=Aside0.mk (Kd.R_lower (Kd.R_new' (Kd.R_new' (Kd.R_new' (Kd.R_new' (Kd.R_new' ho0 (Kd.R_lt (kRC_ HO716.out))) (Kd.R_lt (kRC_ HO726.out))) (Kd.R_lt (kRC_ HO730.out))) (Kd.R_lt (kRC_ HO737.out))) (Kd.R_lt (kRC_ HO740.out))) (below_size (h_HB HB.out)));replace HO716:=Aside0.mk (Kd.R_elder' (kRC_ HO716.out) (Kd.R_base ho0) hb);replace HO726:=Aside0.mk (Kd.R_elder' (kRC_ HO726.out) (Kd.R_base ho0) hb);replace HO730:=Aside0.mk (Kd.R_elder' (kRC_ HO730.out) (Kd.R_base ho0) hb);replace HO737:=Aside0.mk (Kd.R_elder' (kRC_ HO737.out) (Kd.R_base ho0) hb);replace HO740:=Aside0.mk (Kd.R_elder' (kRC_ HO740.out) (Kd.R_base ho0) hb);replace BK718:=Aside0.mk (blkB_ BK718.out hb);replace BK727:=Aside0.mk (blkB_ BK727.out hb);replace HB:=Aside0.mk (below_step (h_HB HB.out) hb)
          (try clear hb)
          (try clear hb2)
          (try clear hk)
          (try clear hi)
          (try clear ho0)
          obtain ⟨Ao61,co61,eo61⟩:=Kd.R_slice HO730.out
          (first|subst eo61|(injection eo61 with f1_ f2_ f3_;have f4_:=f1_.symm;have f5_:=f3_.symm;clear f1_ f2_ f3_;subst f4_;subst f5_))
          obtain ⟨Ao62,co62,eo62⟩:=Kd.R_slice HO746.out
          (first|subst eo62|(injection eo62 with f1_ f2_ f3_;have f4_:=f1_.symm;have f5_:=f3_.symm;clear f1_ f2_ f3_;subst f4_;subst f5_))
          refine hK.out _ _ ⟨(blk_cell BK718.out 0).trans rfl,(blk_cell BK718.out 1).trans rfl,(blk_cell BK727.out 0).trans rfl,(blk_cell BK727.out 1).trans rfl⟩ (fun hHeld=>?_)
          clear hK K
          refine norm_ (a':=?_) ?_ ?_
          rotate_left
          ·show Act.put _ (some 77) _=_
           simp only [Act.put,List.setIfInBounds_toArray,List.set_cons_zero,List.set_cons_succ,i64_w,i32_w]
           rfl
          refine one_ (i:=43) (N:=some 78) (bm_ 60 17592186044415) rfl rfl (one_of HT_.out krT_) (by decide) (fun K hK=>?_)
          refine goes_ Try.func15 krT_ rfl #[.slice Ao61 t728.length co61,.slice Ao62 t744.length co62] (by rfl) rfl rfl agT_ ?_
          with_reducible refine (laws_sameInts.calls k _ _ t728 _ _ t744 true _ ?side1 ?side2 ?side3 ?side4 A42.out).mono ?_
          (case side1=>repeat (first|exact (Kd.R_reads' HO730.out).2.2|(with_reducible refine Kd.C_alloc ?_ _)|(with_reducible refine Kd.C_drewN ?_ _)|(with_reducible refine Kd.C_drew ?_)))
          (case side2=>exact (Kd.R_reads' HO730.out).2.1)
          (case side3=>repeat (first|exact (Kd.R_reads' HO746.out).2.2|(with_reducible refine Kd.C_alloc ?_ _)|(with_reducible refine Kd.C_drewN ?_ _)|(with_reducible refine Kd.C_drew ?_)))
          (case side4=>exact (Kd.R_reads' HO746.out).2.1)
          rintro e w' ⟨rfl,⟨nd,rfl⟩⟩
          refine ⟨_,rfl,?_⟩
          refine hK.out _ _ ⟨(blk_cell BK718.out 0).trans rfl,(blk_cell BK718.out 1).trans rfl,(blk_cell BK727.out 0).trans rfl,(blk_cell BK727.out 1).trans rfl⟩ (fun hHeld=>?_)
          clear hK K
          refine norm_ (a':=?_) ?_ ?_
          rotate_left
          ·show Act.put _ (some 78) _=_
           simp only [Act.put,List.setIfInBounds_toArray,List.set_cons_zero,List.set_cons_succ,i64_w,i32_w]
           rfl
          refine pu_ 44 (some 79) (bm_ 60 35184372088831) rfl rfl HT_.out ?_
          refine pu_ 45 (some 80) (bm_ 60 70368744177663) rfl rfl HT_.out ?_
          refine pu_ 46 (some 81) (bm_ 60 140737488355327) rfl rfl HT_.out ?_
          refine take_ (i:=47) (N:=some 82) (v:=?_) (a':=?_) (bm_ 60 281474976710655) rfl rfl (take_ofW HT_.out HW_.out krT_) (fun _ _ _ h=>h) (Or.inl ⟨by rfl,?_⟩) hHeld ?_ ?_
          rotate_left
          ·rintro w' ⟨s0,s1,s2,s3⟩
           go_simp
           with_reducible rfl
          rotate_left;exact apT_
          refine take_ (i:=49) (N:=some 84) (v:=?_) (a':=?_) (bm_ 60 844424930131967) rfl rfl (take_ofW HT_.out HW_.out krT_) (fun _ _ _ h=>h) (Or.inl ⟨by rfl,?_⟩) hHeld ?_ ?_
          rotate_left
          ·rintro w' ⟨s0,s1,s2,s3⟩
           go_simp
           with_reducible rfl
          rotate_left;exact apT_
          refine one_ (i:=48) (N:=some 83) (bm_ 60 1125899906842623) rfl rfl (one_of HT_.out krT_) (by decide) (fun K hK=>?_)
          refine goes_ Try.func21 krT_ rfl #[.agg #[.int .i64 t723,.slice Ao24 t724.length co24]] (by rfl) rfl rfl agT_ ?_
          with_reducible refine (impl_LoopsOf.calls k t723 _ _ t724 t748 _ ?side1 ?side2 A44.out).mono ?_
          (case side1=>repeat (first|exact (Kd.R_reads' HO726.out).2.2|(with_reducible refine Kd.C_alloc ?_ _)|(with_reducible refine Kd.C_drewN ?_ _)|(with_reducible refine Kd.C_drew ?_)))
          (case side2=>exact (Kd.R_reads' HO726.out).2.1)
          rintro e w63 ⟨rfl,hb⟩
          refine ⟨_,rfl,?_⟩
          replace HO716:=Aside0.mk (Kd.R_below (kRC_ HO716.out) hb);replace HO726:=Aside0.mk (Kd.R_below (kRC_ HO726.out) hb);replace HO730:=Aside0.mk (Kd.R_below (kRC_ HO730.out) hb);replace HO737:=Aside0.mk (Kd.R_below (kRC_ HO737.out) hb);replace HO740:=Aside0.mk (Kd.R_below (kRC_ HO740.out) hb);replace HO746:=Aside0.mk (Kd.R_below (kRC_ HO746.out) hb);replace BK718:=Aside0.mk (blkB_ BK718.out hb);replace BK727:=Aside0.mk (blkB_ BK727.out hb);replace HB:=Aside0.mk (below_step (h_HB HB.out) hb)
          (try clear hb)
          (try clear hb2)
          (try clear hk)
          (try clear hi)
          refine hK.out _ _ ⟨(blk_cell BK718.out 0).trans rfl,(blk_cell BK718.out 1).trans rfl,(blk_cell BK727.out 0).trans rfl,(blk_cell BK727.out 1).trans rfl⟩ (fun hHeld=>?_)
          clear hK K
          refine norm_ (a':=?_) ?_ ?_
          rotate_left
          ·show Act.put _ (some 83) _=_
           simp only [Act.put,List.setIfInBounds_toArray,List.set_cons_zero,List.set_cons_succ,i64_w,i32_w]
           rfl
          refine one_ (i:=50) (N:=some 85) (bm_ 60 2251799813685247) rfl rfl (one_of HT_.out krT_) (by decide) (fun K hK=>?_)
          refine goes_ Try.func22 krT_ rfl #[.agg #[.int .i64 t723,.slice Ao24 t724.length co24]] (by rfl) rfl rfl agT_ ?_
          with_reducible refine (spec_LoopsOf.calls k t723 _ _ t724 t749 _ ?side1 ?side2 A45.out).mono ?_
          (case side1=>repeat (first|exact (Kd.R_reads' HO726.out).2.2|(with_reducible refine Kd.C_alloc ?_ _)|(with_reducible refine Kd.C_drewN ?_ _)|(with_reducible refine Kd.C_drew ?_)))
          (case side2=>exact (Kd.R_reads' HO726.out).2.1)
          rintro e w64 ⟨rfl,hb⟩
          refine ⟨_,rfl,?_⟩
          replace HO716:=Aside0.mk (Kd.R_below (kRC_ HO716.out) hb);replace HO726:=Aside0.mk (Kd.R_below (kRC_ HO726.out) hb);replace HO730:=Aside0.mk (Kd.R_below (kRC_ HO730.out) hb);replace HO737:=Aside0.mk (Kd.R_below (kRC_ HO737.out) hb);replace HO740:=Aside0.mk (Kd.R_below (kRC_ HO740.out) hb);replace HO746:=Aside0.mk (Kd.R_below (kRC_ HO746.out) hb);replace BK718:=Aside0.mk (blkB_ BK718.out hb);replace BK727:=Aside0.mk (blkB_ BK727.out hb);replace HB:=Aside0.mk (below_step (h_HB HB.out) hb)
          (try clear hb)
          (try clear hb2)
          (try clear hk)
          (try clear hi)
          refine hK.out _ _ ⟨(blk_cell BK718.out 0).trans rfl,(blk_cell BK718.out 1).trans rfl,(blk_cell BK727.out 0).trans rfl,(blk_cell BK727.out 1).trans rfl⟩ (fun hHeld=>?_)
          clear hK K
          refine norm_ (a':=?_) ?_ ?_
          rotate_left
          ·show Act.put _ (some 85) _=_
           simp only [Act.put,List.setIfInBounds_toArray,List.set_cons_zero,List.set_cons_succ,i64_w,i32_w]
           rfl
          refine pu_ 51 (some 86) (bm_ 60 4503599627370495) rfl rfl HT_.out ?_
          refine pu_ 52 (some 87) (bm_ 60 9007199254740991) rfl rfl HT_.out ?_
          refine pu_ 53 (some 88) (bm_ 60 18014398509481983) rfl rfl HT_.out ?_
          refine take_ (i:=54) (N:=some 89) (v:=?_) (a':=?_) (bm_ 60 36028797018963967) rfl rfl (take_ofW HT_.out HW_.out krT_) (fun _ _ _ h=>h) (Or.inl ⟨by rfl,?_⟩) hHeld ?_ ?_
          rotate_left
          ·rintro w' ⟨s0,s1,s2,s3⟩
           go_simp
           with_reducible rfl
          rotate_left;exact apT_
          refine take_ (i:=56) (N:=some 91) (v:=?_) (a':=?_) (bm_ 60 108086391056891903) rfl rfl (take_ofW HT_.out HW_.out krT_) (fun _ _ _ h=>h) (Or.inl ⟨by rfl,?_⟩) hHeld ?_ ?_
          rotate_left
          ·rintro w' ⟨s0,s1,s2,s3⟩
           go_simp
           with_reducible rfl
          rotate_left;exact apT_
          refine one_ (i:=55) (N:=some 90) (bm_ 60 144115188075855871) rfl rfl (one_of HT_.out krT_) (by decide) (fun K hK=>?_)
          refine goes_ Try.func23 krT_ rfl #[.agg #[.int .i64 t723,.slice Ao24 t724.length co24]] (by rfl) rfl rfl agT_ ?_
          with_reducible refine (impl_ColoopsOf.calls k t723 _ _ t724 t750 _ ?side1 ?side2 A47.out).mono ?_
          (case side1=>repeat (first|exact (Kd.R_reads' HO726.out).2.2|(with_reducible refine Kd.C_alloc ?_ _)|(with_reducible refine Kd.C_drewN ?_ _)|(with_reducible refine Kd.C_drew ?_)))
          (case side2=>exact (Kd.R_reads' HO726.out).2.1)
          rintro e w65 ⟨rfl,hb⟩
          refine ⟨_,rfl,?_⟩
          replace HO716:=Aside0.mk (Kd.R_below (kRC_ HO716.out) hb);replace HO726:=Aside0.mk (Kd.R_below (kRC_ HO726.out) hb);replace HO730:=Aside0.mk (Kd.R_below (kRC_ HO730.out) hb);replace HO737:=Aside0.mk (Kd.R_below (kRC_ HO737.out) hb);replace HO740:=Aside0.mk (Kd.R_below (kRC_ HO740.out) hb);replace HO746:=Aside0.mk (Kd.R_below (kRC_ HO746.out) hb);replace BK718:=Aside0.mk (blkB_ BK718.out hb);replace BK727:=Aside0.mk (blkB_ BK727.out hb);replace HB:=Aside0.mk (below_step (h_HB HB.out) hb)
          (try clear hb)
          (try clear hb2)
          (try clear hk)
          (try clear hi)
          refine hK.out _ _ ⟨(blk_cell BK718.out 0).trans rfl,(blk_cell BK718.out 1).trans rfl,(blk_cell BK727.out 0).trans rfl,(blk_cell BK727.out 1).trans rfl⟩ (fun hHeld=>?_)
          clear hK K
          refine norm_ (a':=?_) ?_ ?_
          rotate_left
          ·show Act.put _ (some 90) _=_
           simp only [Act.put,List.setIfInBounds_toArray,List.set_cons_zero,List.set_cons_succ,i64_w,i32_w]
           rfl
          refine one_ (i:=57) (N:=some 92) (bm_ 60 288230376151711743) rfl rfl (one_of HT_.out krT_) (by decide) (fun K hK=>?_)
          refine goes_ Try.func24 krT_ rfl #[.agg #[.int .i64 t723,.slice Ao24 t724.length co24]] (by rfl) rfl rfl agT_ ?_
          with_reducible refine (spec_ColoopsOf.calls k t723 _ _ t724 t751 _ ?side1 ?side2 A48.out).mono ?_
          (case side1=>repeat (first|exact (Kd.R_reads' HO726.out).2.2|(with_reducible refine Kd.C_alloc ?_ _)|(with_reducible refine Kd.C_drewN ?_ _)|(with_reducible refine Kd.C_drew ?_)))
          (case side2=>exact (Kd.R_reads' HO726.out).2.1)
          rintro e w66 ⟨rfl,hb⟩
          refine ⟨_,rfl,?_⟩
          replace HO716:=Aside0.mk (Kd.R_below (kRC_ HO716.out) hb);replace HO726:=Aside0.mk (Kd.R_below (kRC_ HO726.out) hb);replace HO730:=Aside0.mk (Kd.R_below (kRC_ HO730.out) hb);replace HO737:=Aside0.mk (Kd.R_below (kRC_ HO737.out) hb);replace HO740:=Aside0.mk (Kd.R_below (kRC_ HO740.out) hb);replace HO746:=Aside0.mk (Kd.R_below (kRC_ HO746.out) hb);replace BK718:=Aside0.mk (blkB_ BK718.out hb);replace BK727:=Aside0.mk (blkB_ BK727.out hb);replace HB:=Aside0.mk (below_step (h_HB HB.out) hb)
          (try clear hb)
          (try clear hb2)
          (try clear hk)
          (try clear hi)
          refine hK.out _ _ ⟨(blk_cell BK718.out 0).trans rfl,(blk_cell BK718.out 1).trans rfl,(blk_cell BK727.out 0).trans rfl,(blk_cell BK727.out 1).trans rfl⟩ (fun hHeld=>?_)
          clear hK K
          refine norm_ (a':=?_) ?_ ?_
          rotate_left
          ·show Act.put _ (some 92) _=_
           simp only [Act.put,List.setIfInBounds_toArray,List.set_cons_zero,List.set_cons_succ,i64_w,i32_w]
           rfl
          refine pu_ 58 (some 93) (bm_ 60 576460752303423487) rfl rfl HT_.out ?_
          refine pu_ 59 (some 94) (bm_ 60 1152921504606846975) rfl rfl HT_.out ?_
          refine done_ (done_of HT_.out krT_) ?_
          try go_wp2
          go_meet
          case rel=>exact ⟨_,((t750 != t751)),sT_,H',⟨by first|omega|exact Nat.le_refl _⟩,⟨by (with_reducible repeat (first|apply Kd.R_alloc|apply Kd.R_drewN|apply Kd.R_drew));exact Kd.R_mono HO730.out (fun _ hk=>by first|exact ⟨hk.1.1.1.1.2,hk.1.1.1.2⟩|(simp [hk];done))⟩,⟨by (with_reducible repeat (first|apply Kd.R_alloc|apply Kd.R_drewN|apply Kd.R_drew));exact Kd.R_mono HO716.out (fun _ hk=>by first|exact ⟨hk.1.1.1.2,hk.1.1.1.1.2⟩|(simp [hk];done))⟩,⟨by (with_reducible repeat (first|apply Kd.R_alloc|apply Kd.R_drewN|apply Kd.R_drew));exact Kd.R_mono HO726.out (fun _ hk=>by first|exact ⟨hk.1.1.1.2,hk.1.1.1.1.2⟩|(simp [hk];done))⟩,⟨bkC_ BK718.out⟩,⟨bkC_ BK727.out⟩,⟨h_HB HB.out⟩⟩
         ·rw [if_neg c46] at H
          have c46b0:(t748==t749)=false:=beq_eq_false_iff_ne.mpr c46
          have c46b1:(t748 != t749)=true:=bne_iff_ne.mpr c46
          exact absurd H (by simp)
        ·replace c43:=Bool.eq_false_iff.mpr c43
         subst c43
         replace H:=bF_ H
         exact absurd H (by simp)
      ·replace c37:=Bool.eq_false_iff.mpr c37
       subst c37
       replace H:=bF_ H
       exact absurd H (by simp)
    ·rw [if_neg c30] at H
     have c30b0:(t722==t732)=false:=beq_eq_false_iff_ne.mpr c30
     have c30b1:(t722 != t732)=true:=bne_iff_ne.mpr c30
     exact absurd H (by simp)
   ·rw [if_neg c28] at H
    have c28b0:(t721==t731)=false:=beq_eq_false_iff_ne.mpr c28
    have c28b1:(t721 != t731)=true:=bne_iff_ne.mpr c28
    (first|rw [c28b0]|(simp only [i64_w,i32_w];rw [c28b0])|skip)
    exact absurd H (by simp)
  case rest =>
   clear HC10
   try clear c1
   try clear c2
   try clear p2
   try clear c3
   try clear c4
   try clear c15
   try clear c18
   try clear c19
   try clear c20
   try clear c21
   try clear c22
   try clear c23
   try clear c24
   try clear c28
   try clear c28b0
   try clear c28b1
   try clear c30
   try clear c30b0
   try clear c30b1
   try clear c37
   try clear c43
   try clear c46
   try clear c46b0
   try clear c46b1
   obtain ⟨kq,x94_9,rfl,HA,HJ9,HO_10,HO_719001,HO_728001,BK718,BK727,HB⟩:=hcut
   cases kq with
   | zero=>exact absurd HA.out (by simp [laws_FnRanks.j0])
   | succ kj9 =>
    have H:=HA.out
    clear HA
    simp only [laws_FnRanks.j0] at H
    by_cases c67:x94_9=true
    ·subst c67
     replace H:=bT_ H
     exact absurd H (by simp)
    ·replace c67:=Bool.eq_false_iff.mpr c67
     subst c67
     replace H:=bF_ H
     rcases gsb_ H with ⟨c68b0,H⟩|⟨c68b0,H⟩
     ·obtain rfl:=Option.some.inj H
      go_wp2
      go_ret
      exact ⟨eT_,h_HB HB.out⟩
     ·replace H:=bnd_ H;obtain ⟨t752,A69,H⟩:=H
      have H':=Aside0.mk H
      clear H
      have hnb70:=NB718_727.out
      have hnc70:=NB727_718.out
      obtain ⟨hcz71_0,hcz71_1,hfz71_0,hfz71_1⟩:=bz2_ BK718.out
      go_wp2_with (first|((with_reducible refine gate_callee (f:=25) rfl ?_);refine goesL_ (some 100) rfl rfl Try.func25 krT_ rfl #[.int .i64 t713] rfl agT_ ?_;(with_reducible refine (spec_FullSet.calls t713 t752 _ A69.out).mono ?_);rintro e w' ⟨rfl,⟨nd,rfl⟩⟩;refine ⟨_,rfl,?_⟩))
      go_loopg [11] kj9 (fun kq v11 w'=>∃ (x11_2:Int),v11=.int .i64 x11_2∧Aside0 (laws_FnRanks.l0 kq t717 (Go.bits .and .i64 t720 t752) t721 t722 t728 x11_2 t713 t714=some r)∧Aside0 (kq≤kj9)∧Aside0 (Kd.R (Kd.int .i64) 3 w' w.heap.size (fun k_=>some k_≠((.slice Ao14 t714.length co14):Value).ownBlock∧some k_≠((.slice Ao24 t724.length co24):Value).ownBlock) v729 t728)∧Aside0 (Kd.R (Kd.int .i64) 3 w' w.heap.size (fun k_=>some k_≠(v729:Value).ownBlock∧some k_≠((.slice Ao24 t724.length co24):Value).ownBlock) (.slice Ao14 t714.length co14) t714)∧Aside0 (Kd.R (Kd.int .i64) 3 w' w.heap.size (fun k_=>some k_≠(v729:Value).ownBlock∧some k_≠((.slice Ao14 t714.length co14):Value).ownBlock) (.slice Ao24 t724.length co24) t724)∧Aside0 (w'.heap[gb718]?=some (.cells #[.int .i64 t713,(.slice Ao14 t714.length co14)] 26 (0,0)))∧Aside0 (w'.heap[gb727]?=some (.cells #[.int .i64 t723,(.slice Ao24 t724.length co24)] 26 (0,0)))∧Aside0 (Below w.heap.size w w'))
      case atStart=>exact ⟨(0),sT_,H',⟨Nat.le_refl _⟩,⟨kRC_ HO_10.out⟩,⟨kRC_ HO_719001.out⟩,⟨kRC_ HO_728001.out⟩,⟨bkC_ BK718.out⟩,⟨bkC_ BK727.out⟩,⟨h_HB HB.out⟩⟩
      case round =>
       clear H'
       try clear c1
       try clear c2
       try clear p2
       try clear c3
       try clear c4
       try clear c6
       try clear c7
       try clear c15
       try clear c18
       try clear c19
       try clear c20
       try clear c21
       try clear c22
       try clear c23
       try clear c24
       try clear c25
       try clear c28
       try clear c28b0
       try clear c28b1
       try clear c30
       try clear c30b0
       try clear c30b1
       try clear c37
       try clear c43
       try clear c46
       try clear c46b0
       try clear c46b1
       try clear c67
       try clear c68
       try clear c68b0
       try clear c70
       try clear hcz71_0
       try clear hcz71_1
       try clear hfz71_0
       try clear hfz71_1
       try clear p2
       obtain ⟨x11_2,rfl,HA,HK2,HO_10,HO_719001,HO_728001,BK718,BK727,HB⟩:=hrel
       cases gk with
       | zero=>exact absurd HA.out (by simp [laws_FnRanks.l0])
       | succ k2 =>
        have H:=HA.out
        clear HA
        simp only [laws_FnRanks.l0] at H
        rcases gsb_ H with ⟨c72b0,H⟩|⟨c72b0,H⟩
        ·replace H:=gsm_ H;obtain ⟨c73b0,H⟩:=H
         replace H:=bnd_ H;obtain ⟨t754,A74,H⟩:=H
         by_cases c75:t754=t721
         ·rw [if_pos c75] at H
          have c75b0:(t754==t721)=true:=beq_iff_eq.mpr c75
          have c75b1:(t754 != t721)=false:=bne_eq_false_iff_eq.mpr c75
          clear c75
          replace H:=bnd_ H;obtain ⟨t756,A76,H⟩:=H
          by_cases c77:t756=true
          ·subst c77
           replace H:=bT_ H
           have H':=Aside0.mk H
           clear H
           obtain ⟨Ao78,co78,eo78⟩:=Kd.R_slice HO_10.out
           subst eo78
           obtain ⟨ad753,e753,hx753_0,p753,q753⟩:=aiI_ (Kd.R_reads' HO_10.out).2.2 x11_2
           cases e753
           go_wp2_with (first|((with_reducible refine gate_callee (f:=26) rfl ?_);refine goesL_ (some 112) rfl rfl Try.func26 krT_ rfl #[.int .i64 (rd t728 x11_2)] rfl agT_ ?_;(with_reducible refine (spec_CountOf.calls k2 (rd t728 x11_2) t754 _ A74.out).mono ?_);rintro e w' ⟨rfl,⟨nd,rfl⟩⟩;refine ⟨_,rfl,?_⟩;obtain ⟨ad755,e755,hx755_0,p755,q755⟩:=aiI_ (Kd.R_reads' HO_10.out).2.2 x11_2;obtain rfl:ad753=ad755:=(by injection e755))|(go_at_call 27;(with_reducible refine (spec_IsSubset.calls (rd t728 x11_2) t717 true _ A76.out).mono ?_);rintro e w' ⟨rfl,⟨nd,rfl⟩⟩))
           go_roundg k2
           case measure=>have:=HJ9.out;have:=HK2.out;omega
           case rel=>exact ⟨(wrap64 (x11_2+1)),sT_,H',⟨by have:=HJ9.out;have:=HK2.out;omega⟩,⟨kRC_ HO_10.out⟩,⟨kRC_ HO_719001.out⟩,⟨kRC_ HO_728001.out⟩,⟨bkC_ BK718.out⟩,⟨bkC_ BK727.out⟩,⟨h_HB HB.out⟩⟩
          ·replace c77:=Bool.eq_false_iff.mpr c77
           subst c77
           replace H:=bF_ H
           exact absurd H (by simp)
         ·rw [if_neg c75] at H
          exact absurd H (by simp)
        ·replace H:=bnd_ H;obtain ⟨t757,A79,H⟩:=H
         replace H:=bnd_ H;obtain ⟨t758,A80,H⟩:=H
         replace H:=bnd_ H;obtain ⟨t759,A81,H⟩:=H
         rcases gsb_ H with ⟨c82b0,H⟩|⟨c82b0,H⟩
         ·replace H:=bnd_ H;obtain ⟨t760,A83,H⟩:=H
          by_cases c84:t760=t722
          ·rw [if_pos c84] at H
           have c84b0:(t760==t722)=true:=beq_iff_eq.mpr c84
           have c84b1:(t760 != t722)=false:=bne_eq_false_iff_eq.mpr c84
           clear c84
           replace H:=bnd_ H;obtain ⟨t761,A85,H⟩:=H
           by_cases c86:t761=true
           ·subst c86
            replace H:=bT_ H
            replace H:=bnd_ H;obtain ⟨t762,A87,H⟩:=H
            obtain rfl:=Option.some.inj H
            obtain ⟨Ao88,co88,eo88⟩:=Kd.R_slice HO_10.out
            subst eo88
            try go_wp2
            replace HO_10:=Aside0.mk (Kd.R_drew HO_10.out);replace HO_719001:=Aside0.mk (Kd.R_drew HO_719001.out);replace HO_728001:=Aside0.mk (Kd.R_drew HO_728001.out);replace BK718:=Aside0.mk (blk_drew BK718.out);replace BK727:=Aside0.mk (blk_drew BK727.out);replace HB:=Aside0.mk (below_drew1 HB.out)
            refine start_ (n:=37) (S:=fun w'=>w'.cell? ⟨gb718,0,none⟩=some (.int .i64 t713)∧w'.cell? ⟨gb718,1,none⟩=some (.slice Ao14 t714.length co14)) (ds:=[]) #[F_,F_,F_,F_,F_,F_,F_,F_,F_,F_,F_,F_,F_,F_,F_,F_,F_,F_,F_,F_,F_,F_,F_,F_,F_,F_,F_,F_,F_,F_,F_,F_,F_,F_,F_,F_,F_] krT_ rfl rfl ⟨(blk_cell BK718.out 0).trans rfl,(blk_cell BK718.out 1).trans rfl⟩ (fun hHeld=>?_);refine with_tabW laws_FnRanks.tab19 laws_FnRanks.bits19 (fun HT_ HW_=>?_)
            generalize wr.drew=w89 at HO_10 HO_719001 HO_728001 BK718 BK727 HB hHeld ⊢
            refine pu_ 1 (some 125) (bm_ 37 2) rfl rfl HT_.out ?_
            refine pu_ 2 (some 126) (bm_ 37 6) rfl rfl HT_.out ?_
            refine pu_ 3 (some 127) (bm_ 37 14) rfl rfl HT_.out ?_
            refine pu_ 6 (some 130) (bm_ 37 78) rfl rfl HT_.out ?_
            refine pu_ 7 (some 131) (bm_ 37 206) rfl rfl HT_.out ?_
            refine pu_ 8 (some 132) (bm_ 37 462) rfl rfl HT_.out ?_
            refine pu_ 11 (some 135) (bm_ 37 2510) rfl rfl HT_.out ?_
            refine pu_ 13 (some 137) (bm_ 37 10702) rfl rfl HT_.out ?_
            refine take_ (i:=0) (N:=some 124) (v:=?_) (a':=?_) (bm_ 37 10703) rfl rfl (take_ofW HT_.out HW_.out krT_) (fun _ _ _ h=>h) (Or.inl ⟨by rfl,?_⟩) hHeld ?_ ?_
            rotate_left
            ·rintro w' ⟨s0,s1⟩
             go_simp
             with_reducible rfl
            rotate_left;exact apT_
            refine take_ (i:=5) (N:=some 129) (v:=?_) (a':=?_) (bm_ 37 10735) rfl rfl (take_ofW HT_.out HW_.out krT_) (fun _ _ _ h=>h) (Or.inl ⟨by rfl,?_⟩) hHeld ?_ ?_
            rotate_left
            ·rintro w' ⟨s0,s1⟩
             go_simp
             with_reducible rfl
            rotate_left;exact apT_
            refine take_ (i:=12) (N:=some 136) (v:=?_) (a':=?_) (bm_ 37 14831) rfl rfl (take_ofW HT_.out HW_.out krT_) (fun _ _ _ h=>h) (Or.inl ⟨by rfl,?_⟩) hHeld ?_ ?_
            rotate_left
            ·rintro w' ⟨s0,s1⟩
             go_simp
             with_reducible rfl
            rotate_left;exact apT_
            refine one_ (i:=4) (N:=some 128) (bm_ 37 14847) rfl rfl (one_of HT_.out krT_) (by decide) (fun K hK=>?_)
            refine goes_ Try.func7 krT_ rfl #[.agg #[.int .i64 t713,.slice Ao14 t714.length co14],.int .i64 (Go.bits .or .i64 t717 (Go.bits .and .i64 t720 t752))] (by rfl) rfl rfl agT_ ?_
            with_reducible refine (impl_RankOf.calls k2 t713 _ _ t714 (Go.bits .or .i64 t717 (Go.bits .and .i64 t720 t752)) t757 _ ?side1 ?side2 A79.out).mono ?_
            (case side1=>repeat (first|exact (Kd.R_reads' HO_719001.out).2.2|(with_reducible refine Kd.C_alloc ?_ _)|(with_reducible refine Kd.C_drewN ?_ _)|(with_reducible refine Kd.C_drew ?_)))
            (case side2=>exact (Kd.R_reads' HO_719001.out).2.1)
            rintro e w90 ⟨rfl,hb⟩
            refine ⟨_,rfl,?_⟩
            replace HO_10:=Aside0.mk (Kd.R_below (kRC_ HO_10.out) hb);replace HO_719001:=Aside0.mk (Kd.R_below (kRC_ HO_719001.out) hb);replace HO_728001:=Aside0.mk (Kd.R_below (kRC_ HO_728001.out) hb);replace BK718:=Aside0.mk (blkB_ BK718.out hb);replace BK727:=Aside0.mk (blkB_ BK727.out hb);replace HB:=Aside0.mk (below_step (h_HB HB.out) hb)
            (try clear hb)
            (try clear hb2)
            (try clear hk)
            (try clear hi)
            refine hK.out _ _ ⟨(blk_cell BK718.out 0).trans rfl,(blk_cell BK718.out 1).trans rfl⟩ (fun hHeld=>?_)
            clear hK K
            refine norm_ (a':=?_) ?_ ?_
            rotate_left
            ·show Act.put _ (some 128) _=_
             simp only [Act.put,List.setIfInBounds_toArray,List.set_cons_zero,List.set_cons_succ,i64_w,i32_w]
             rfl
            refine one_ (i:=9) (N:=some 133) (bm_ 37 15359) rfl rfl (one_of HT_.out krT_) (by decide) (fun K hK=>?_)
            refine goes_ Try.func7 krT_ rfl #[.agg #[.int .i64 t713,.slice Ao14 t714.length co14],.int .i64 (Go.bits .and .i64 t717 (Go.bits .and .i64 t720 t752))] (by rfl) rfl rfl agT_ ?_
            with_reducible refine (impl_RankOf.calls k2 t713 _ _ t714 (Go.bits .and .i64 t717 (Go.bits .and .i64 t720 t752)) t758 _ ?side1 ?side2 A80.out).mono ?_
            (case side1=>repeat (first|exact (Kd.R_reads' HO_719001.out).2.2|(with_reducible refine Kd.C_alloc ?_ _)|(with_reducible refine Kd.C_drewN ?_ _)|(with_reducible refine Kd.C_drew ?_)))
            (case side2=>exact (Kd.R_reads' HO_719001.out).2.1)
            rintro e w91 ⟨rfl,hb⟩
            refine ⟨_,rfl,?_⟩
            replace HO_10:=Aside0.mk (Kd.R_below (kRC_ HO_10.out) hb);replace HO_719001:=Aside0.mk (Kd.R_below (kRC_ HO_719001.out) hb);replace HO_728001:=Aside0.mk (Kd.R_below (kRC_ HO_728001.out) hb);replace BK718:=Aside0.mk (blkB_ BK718.out hb);replace BK727:=Aside0.mk (blkB_ BK727.out hb);replace HB:=Aside0.mk (below_step (h_HB HB.out) hb)
            (try clear hb)
            (try clear hb2)
            (try clear hk)
            (try clear hi)
            refine hK.out _ _ ⟨(blk_cell BK718.out 0).trans rfl,(blk_cell BK718.out 1).trans rfl⟩ (fun hHeld=>?_)
            clear hK K
            refine norm_ (a':=?_) ?_ ?_
            rotate_left
            ·show Act.put _ (some 133) _=_
             simp only [Act.put,List.setIfInBounds_toArray,List.set_cons_zero,List.set_cons_succ,i64_w,i32_w]
             rfl
            refine pu_ 10 (some 134) (bm_ 37 16383) rfl rfl HT_.out ?_
            refine one_ (i:=14) (N:=some 138) (bm_ 37 32767) rfl rfl (one_of HT_.out krT_) (by decide) (fun K hK=>?_)
            refine goes_ Try.func7 krT_ rfl #[.agg #[.int .i64 t713,.slice Ao14 t714.length co14],.int .i64 (Go.bits .and .i64 t720 t752)] (by rfl) rfl rfl agT_ ?_
            with_reducible refine (impl_RankOf.calls k2 t713 _ _ t714 (Go.bits .and .i64 t720 t752) t759 _ ?side1 ?side2 A81.out).mono ?_
            (case side1=>repeat (first|exact (Kd.R_reads' HO_719001.out).2.2|(with_reducible refine Kd.C_alloc ?_ _)|(with_reducible refine Kd.C_drewN ?_ _)|(with_reducible refine Kd.C_drew ?_)))
            (case side2=>exact (Kd.R_reads' HO_719001.out).2.1)
            rintro e w92 ⟨rfl,hb⟩
            refine ⟨_,rfl,?_⟩
            replace HO_10:=Aside0.mk (Kd.R_below (kRC_ HO_10.out) hb);replace HO_719001:=Aside0.mk (Kd.R_below (kRC_ HO_719001.out) hb);replace HO_728001:=Aside0.mk (Kd.R_below (kRC_ HO_728001.out) hb);replace BK718:=Aside0.mk (blkB_ BK718.out hb);replace BK727:=Aside0.mk (blkB_ BK727.out hb);replace HB:=Aside0.mk (below_step (h_HB HB.out) hb)
            (try clear hb)
            (try clear hb2)
            (try clear hk)
            (try clear hi)
            refine hK.out _ _ ⟨(blk_cell BK718.out 0).trans rfl,(blk_cell BK718.out 1).trans rfl⟩ (fun hHeld=>?_)
            clear hK K
            refine norm_ (a':=?_) ?_ ?_
            rotate_left
            ·show Act.put _ (some 138) _=_
             simp only [Act.put,List.setIfInBounds_toArray,List.set_cons_zero,List.set_cons_succ,i64_w,i32_w]
             rfl
            refine pu_ 15 (some 139) (bm_ 37 65535) rfl rfl HT_.out ?_
            refine pu_ 16 (some 140) (bm_ 37 131071) rfl rfl HT_.out ?_
            refine pu_ 17 (some 141) (bm_ 37 262143) rfl rfl HT_.out ?_
            refine pu_ 19 (some 143) (bm_ 37 786431) rfl rfl HT_.out ?_
            refine pu_ 21 (some 145) (bm_ 37 2883583) rfl rfl HT_.out ?_
            refine take_ (i:=18) (N:=some 142) (v:=?_) (a':=?_) (bm_ 37 3145727) rfl rfl (take_ofW HT_.out HW_.out krT_) (fun _ _ _ h=>h) (Or.inl ⟨by rfl,?_⟩) hHeld ?_ ?_
            rotate_left
            ·rintro w' ⟨s0,s1⟩
             go_simp
             with_reducible rfl
            rotate_left;exact apT_
            refine one_ (i:=20) (N:=some 144) (bm_ 37 4194303) rfl rfl (one_of HT_.out krT_) (by decide) (fun K hK=>?_)
            refine goes_ Try.func8 krT_ rfl #[.agg #[.int .i64 t713,.slice Ao14 t714.length co14],.int .i64 t722] (by rfl) rfl rfl agT_ ?_
            with_reducible refine (impl_ClosureOf.calls k2 t713 _ _ t714 t722 t760 _ ?side1 ?side2 A83.out).mono ?_
            (case side1=>repeat (first|exact (Kd.R_reads' HO_719001.out).2.2|(with_reducible refine Kd.C_alloc ?_ _)|(with_reducible refine Kd.C_drewN ?_ _)|(with_reducible refine Kd.C_drew ?_)))
            (case side2=>exact (Kd.R_reads' HO_719001.out).2.1)
            rintro e w93 ⟨rfl,hb⟩
            refine ⟨_,rfl,?_⟩
            replace HO_10:=Aside0.mk (Kd.R_below (kRC_ HO_10.out) hb);replace HO_719001:=Aside0.mk (Kd.R_below (kRC_ HO_719001.out) hb);replace HO_728001:=Aside0.mk (Kd.R_below (kRC_ HO_728001.out) hb);replace BK718:=Aside0.mk (blkB_ BK718.out hb);replace BK727:=Aside0.mk (blkB_ BK727.out hb);replace HB:=Aside0.mk (below_step (h_HB HB.out) hb)
            (try clear hb)
            (try clear hb2)
            (try clear hk)
            (try clear hi)
            refine hK.out _ _ ⟨(blk_cell BK718.out 0).trans rfl,(blk_cell BK718.out 1).trans rfl⟩ (fun hHeld=>?_)
            clear hK K
            refine norm_ (a':=?_) ?_ ?_
            rotate_left
            ·show Act.put _ (some 144) _=_
             simp only [Act.put,List.setIfInBounds_toArray,List.set_cons_zero,List.set_cons_succ,i64_w,i32_w]
             rfl
            refine pu_ 22 (some 146) (bm_ 37 8388607) rfl rfl HT_.out ?_
            refine pu_ 23 (some 147) (bm_ 37 16777215) rfl rfl HT_.out ?_
            refine pu_ 24 (some 148) (bm_ 37 33554431) rfl rfl HT_.out ?_
            refine pu_ 25 (some 149) (bm_ 37 67108863) rfl rfl HT_.out ?_
            refine pu_ 26 (some 150) (bm_ 37 134217727) rfl rfl HT_.out ?_
            refine one_ (i:=27) (N:=some 151) (bm_ 37 268435455) rfl rfl (one_of HT_.out krT_) (by decide) (fun K hK=>?_)
            refine goes_ Try.func27 krT_ rfl #[.int .i64 t717,.int .i64 t722] (by rfl) rfl rfl agT_ ?_
            with_reducible refine (spec_IsSubset.calls t717 t722 true _ A85.out).mono ?_
            rintro e w' ⟨rfl,⟨nd,rfl⟩⟩
            refine ⟨_,rfl,?_⟩
            refine hK.out _ _ ⟨(blk_cell BK718.out 0).trans rfl,(blk_cell BK718.out 1).trans rfl⟩ (fun hHeld=>?_)
            clear hK K
            refine norm_ (a':=?_) ?_ ?_
            rotate_left
            ·show Act.put _ (some 151) _=_
             simp only [Act.put,List.setIfInBounds_toArray,List.set_cons_zero,List.set_cons_succ,i64_w,i32_w]
             rfl
            refine pu_ 28 (some 152) (bm_ 37 536870911) rfl rfl HT_.out ?_
            refine pu_ 29 (some 153) (bm_ 37 1073741823) rfl rfl HT_.out ?_
            refine pu_ 31 (some 155) (bm_ 37 3221225471) rfl rfl HT_.out ?_
            refine pu_ 33 (some 157) (bm_ 37 11811160063) rfl rfl HT_.out ?_
            refine take_ (i:=30) (N:=some 154) (v:=?_) (a':=?_) (bm_ 37 12884901887) rfl rfl (take_ofW HT_.out HW_.out krT_) (fun _ _ _ h=>h) (Or.inl ⟨by rfl,?_⟩) hHeld ?_ ?_
            rotate_left
            ·rintro w' ⟨s0,s1⟩
             go_simp
             with_reducible rfl
            rotate_left;exact apT_
            refine one_ (i:=32) (N:=some 156) (bm_ 37 17179869183) rfl rfl (one_of HT_.out krT_) (by decide) (fun K hK=>?_)
            refine goes_ Try.func7 krT_ rfl #[.agg #[.int .i64 t713,.slice Ao14 t714.length co14],.int .i64 t722] (by rfl) rfl rfl agT_ ?_
            with_reducible refine (impl_RankOf.calls k2 t713 _ _ t714 t722 t762 _ ?side1 ?side2 A87.out).mono ?_
            (case side1=>repeat (first|exact (Kd.R_reads' HO_719001.out).2.2|(with_reducible refine Kd.C_alloc ?_ _)|(with_reducible refine Kd.C_drewN ?_ _)|(with_reducible refine Kd.C_drew ?_)))
            (case side2=>exact (Kd.R_reads' HO_719001.out).2.1)
            rintro e w94 ⟨rfl,hb⟩
            refine ⟨_,rfl,?_⟩
            replace HO_10:=Aside0.mk (Kd.R_below (kRC_ HO_10.out) hb);replace HO_719001:=Aside0.mk (Kd.R_below (kRC_ HO_719001.out) hb);replace HO_728001:=Aside0.mk (Kd.R_below (kRC_ HO_728001.out) hb);replace BK718:=Aside0.mk (blkB_ BK718.out hb);replace BK727:=Aside0.mk (blkB_ BK727.out hb);replace HB:=Aside0.mk (below_step (h_HB HB.out) hb)
            (try clear hb)
            (try clear hb2)
            (try clear hk)
            (try clear hi)
            refine hK.out _ _ ⟨(blk_cell BK718.out 0).trans rfl,(blk_cell BK718.out 1).trans rfl⟩ (fun hHeld=>?_)
            clear hK K
            refine norm_ (a':=?_) ?_ ?_
            rotate_left
            ·show Act.put _ (some 156) _=_
             simp only [Act.put,List.setIfInBounds_toArray,List.set_cons_zero,List.set_cons_succ,i64_w,i32_w]
             rfl
            refine pu_ 34 (some 158) (bm_ 37 34359738367) rfl rfl HT_.out ?_
            refine pu_ 35 (some 159) (bm_ 37 68719476735) rfl rfl HT_.out ?_
            refine pu_ 36 (some 2) (bm_ 37 137438953471) rfl rfl HT_.out ?_
            refine done_ (done_of HT_.out krT_) ?_
            try go_wp2
            go_ret
            exact ⟨eT_,h_HB HB.out⟩
           ·replace c86:=Bool.eq_false_iff.mpr c86
            subst c86
            replace H:=bF_ H
            exact absurd H (by simp)
          ·rw [if_neg c84] at H
           have c84b0:(t760==t722)=false:=beq_eq_false_iff_ne.mpr c84
           have c84b1:(t760 != t722)=true:=bne_iff_ne.mpr c84
           exact absurd H (by simp)
         ·exact absurd H (by simp)
/-- THE ONE PURE STATEMENT of laws_FnRanks: yours. -/
def laws_FnRanks.Pure:Prop:=∀ (l0:List Int),l0.length≤maxLen→l0.length*1≤140737488351232→(∀ x ∈ l0,(Lit.int .u8 x).wf=true)→∃ k,laws_FnRanks.f k l0=some true
theorem laws_FnRanks.walk (P:laws_FnRanks.Pure) (a0:Option Addr) (len0 cap0:Nat) (z0:List Int) (w:World) (w0:(a0=none∧len0=0∧cap0=0∧z0=[])∨∃ x,a0=some x∧len0≤cap0∧cap0≤maxLen∧z0.length=cap0∧(∀ i,i<z0.length→w.cell? (x.add i)=some (.int .u8 (z0.getD i 0)))∧∀ n ∈ z0,(Lit.int .u8 n).wf=true) (y0:len0*1≤140737488351232) :
    Calls Try.prog 3 #[.slice a0 len0 cap0] w fun e w'=>e=.returned (.bool true)∧Below w.heap.size w w':=by
 obtain ⟨l0,rfl,hr0,hm0,hw0,hc0⟩:=ReadsInt.ofRowC w0
 obtain ⟨k,h⟩:=P l0 hm0 y0 hw0
 refine (laws_FnRanks.calls k _ _ l0 true w (Kd.C_of_reads (d:=(0:Int)) (h1:=fun _=>rfl) hr0) hc0 h).mono ?_
 rintro e w' ⟨rfl,hd⟩
 exact ⟨rfl,hd⟩
end Go.Proofs.Ytekegbacnagbcaa.P
