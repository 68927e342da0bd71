-- written by gprint (a program of this session's, round the kit's print), out of the translation and hand-written texts
import Derived.Test.YtekegbacnagbcaaGreatDoorPVFnMatroidsx0
import Derived.Test.YtekegbacnagbcaaGreatDoorPVFnMatroidsx1
import Derived.Test.YtekegbacnagbcaaGreatDoorPVFnMatroidsx2
import Derived.Test.YtekegbacnagbcaaGreatDoorPVFnMatroidsx3
import Derived.Test.YtekegbacnagbcaaGreatDoorPVFnMatroidsx4
import Derived.Test.YtekegbacnagbcaaGreatDoorPVFnMatroidsx5
import Derived.Test.YtekegbacnagbcaaGreatDoorPVFnMatroidsx6
import Derived.Test.YtekegbacnagbcaaGreatDoorPVFnMatroidsx9
import Derived.Test.YtekegbacnagbcaaGreatDoorPVFnMatroidsx12
import Derived.Test.YtekegbacnagbcaaGreatDoorPVFnMatroidsx15
import Derived.Test.YtekegbacnagbcaaGreatDoorPVFnMatroidsx16
import Derived.Test.YtekegbacnagbcaaGreatDoorPVFnMatroidsx17
import Derived.Test.YtekegbacnagbcaaGreatDoorPVFnMatroidsx18
namespace Go.Proofs.YtekegbacnagbcaaGreatDoor.P
open Go.RowKit Go.Proofs.YtekegbacnagbcaaGreatDoorW.PrintWords Go.Proofs.YtekegbacnagbcaaGreatDoorW.PrintLast Go.Proofs.YtekegbacnagbcaaGreatDoorW.PrintMore
attribute [local go_sem] max2_int min2_int max_two min_two max_three min_three max_four min_four   -- for this text's walks alone
set_option linter.unusedVariables false
set_option linter.unusedSimpArgs false
attribute [local go_sem high] eqA49
/-! ### laws_FnMatroids: function 5 -/
mutual
def laws_FnMatroids.j0:Nat→Bool→Bool→Int→List Int→Int→Int→Int→Option (Bool)
 | 0,_,_,_,_,_,_,_=>none
 | k+1,x5,x108,x723000,x723001,x728000,x728001,x728002=>if x108=true then (none) else ((impl_MatroidText.f k x723000 x723001).bind fun t774=>((impl_ParseMatroid.f k t774).bind fun bt775=>((spec_MatroidText.f k x723000 x723001).bind fun t781=>(if t774.toList=t781.toList then ((impl_IsMatroid.f k x723000 x723001).bind fun t782=>(if (bt775.2.2 != t782)=true then (none) else (if bt775.2.2=true then ((spec_EqualMatroid.f k bt775.1 bt775.2.1 x723000 x723001).bind fun t783=>(laws_FnMatroids.j1 k x5 (!t783) x723000 x723001 x728000 x728001 x728002)) else (laws_FnMatroids.j1 k x5 false x723000 x723001 x728000 x728001 x728002)))) else (none)))))
def laws_FnMatroids.j1:Nat→Bool→Bool→Int→List Int→Int→Int→Int→Option (Bool)
 | 0,_,_,_,_,_,_,_=>none
 | k+1,x5,x134,x723000,x723001,x728000,x728001,x728002=>if x134=true then (none) else (if x5=true then (laws_FnMatroids.l0 k 0 x723000 x723001 x728000 x728001 x728002) else (some true))
def laws_FnMatroids.l0:Nat→Int→Int→List Int→Int→Int→Int→Option (Bool)
 | 0,_,_,_,_,_,_=>none
 | k+1,x20,x723000,x723001,x728000,x728001,x728002=>if x20<x723000 then ((spec_HasElement.f x728001 x20).bind fun t784=>(if t784=true then ((spec_HasElement.f x728000 x20).bind fun t785=>(if t785=true then (laws_FnMatroids.l0 k (wrap64 (x20+1)) x723000 x723001 x728000 x728001 x728002) else ((spec_WithoutElement.f x728000 x728002).bind fun t786=>((spec_WithElement.f t786 x20).bind fun t787=>((spec_HasSet.f k x723001 t787).bind fun t788=>(if t788=true then (none) else (laws_FnMatroids.l0 k (wrap64 (x20+1)) x723000 x723001 x728000 x728001 x728002))))))) else (laws_FnMatroids.l0 k (wrap64 (x20+1)) x723000 x723001 x728000 x728001 x728002))) else ((spec_HasSet.f k x723001 x728000).bind fun t789=>(if t789=true then ((spec_HasSet.f k x723001 x728001).bind fun t790=>(if t790=true then ((spec_HasElement.f x728000 x728002).bind fun t791=>(if t791=true then ((spec_HasElement.f x728001 x728002).bind fun t792=>(some (!t792))) else (none))) else (none))) else (none)))
end
def laws_FnMatroids.f (k:Nat) (l0:List Int):Option (Bool):=(laws_big.f l0).bind fun t717=>(if t717=true then (some true) else ((spec_DrawFirstFailure.f k l0).bind fun bt718=>((impl_FirstFailure.f k bt718.1 bt718.2).bind fun bt723=>((spec_FirstFailure.f k bt718.1 bt718.2).bind fun bt728=>((spec_DrawEqualMatroid.f k l0).bind fun bt733=>((spec_DrawUniform.f k l0).bind fun bt743=>((spec_DrawParseMatroid.f k l0).bind fun t745=>((impl_ParseMatroid.f k t745).bind fun bt746=>((spec_ParseMatroid.f k t745).bind fun bt752=>(if (bt723.2.2.2 != bt728.2.2.2)=true then (none) else (if (!(bt723.1==bt728.1) || (!(bt723.2.1==bt728.2.1) || (!(bt723.2.2.1==bt728.2.2.1))))=true then (none) else ((impl_IsMatroid.f k bt718.1 bt718.2).bind fun t758=>((spec_IsMatroid.f k bt718.1 bt718.2).bind fun t759=>(if (t758 != t759)=true then (none) else ((impl_EqualMatroid.f k bt733.1 bt733.2.1 bt733.2.2.1 bt733.2.2.2).bind fun t760=>((spec_EqualMatroid.f k bt733.1 bt733.2.1 bt733.2.2.1 bt733.2.2.2).bind fun t761=>(if (t760 != t761)=true then (none) else ((impl_Uniform.f k bt743.1 bt743.2).bind fun bt762=>((spec_Uniform.f k bt743.1 bt743.2).bind fun bt766=>((impl_EqualMatroid.f k bt762.1 bt762.2 bt766.1 bt766.2).bind fun t770=>(if t770=true then ((impl_RankOfMatroid.f k bt718.1 bt718.2).bind fun t771=>((spec_RankOfMatroid.f k bt718.1 bt718.2).bind fun t772=>(if t771=t772 then (if (bt746.2.2 != bt752.2.2)=true then (none) else ((spec_EqualMatroid.f k bt746.1 bt746.2.1 bt752.1 bt752.2.1).bind fun t773=>(laws_FnMatroids.j0 k bt723.2.2.2 (!t773) bt718.1 bt718.2 bt723.1 bt723.2.1 bt723.2.2.1))) else (none)))) else (none))))))))))))))))))))))
def laws_FnMatroids.T11:Bool × List (List Nat × List Nat):=(true,[([],[]),([],[]),([0,1],[0,1]),([2],[2]),([3],[3]),([3],[3]),([4,5,3],[3,4,5]),([3,6],[3,6]),([7,3],[7]),([8],[8]),([9,8,8],[8,9]),([8],[8]),([11,10,8],[8,11]),([10,12,8],[8,10,12]),([8,13],[8,13]),([14,12],[14]),([15],[15]),([15],[15]),([16,17,15,15],[15,16,17]),([15],[15]),([15],[15]),([19,20,18,15],[15,19,20]),([18,21,15],[15,18,21]),([15,22],[15,22]),([23,21],[23]),([24],[24]),([24],[24]),([25,26,24,24],[24,25,26]),([24],[24]),([24],[24]),([28,29,27,24],[24,28,29]),([27,30,30,24],[24,27,30]),([31,24],[24,31]),([24,32],[24,32]),([33,31],[33]),([34],[34]),([35,34,34],[34,35]),([34],[34]),([37,36,34],[34,37]),([36,38,34],[34,36,38]),([34,39],[34,39]),([40,38],[40]),([41],[41]),([41],[41]),([42,43,41],[41,42,43]),([41,44],[41,44]),([45,41],[45]),([46],[46]),([46],[46]),([47,48,46,46],[46,47,48]),([49,46],[46,49]),([46,50],[46,50])])
def laws_FnMatroids.B11:List Nat:=[0,0,3,7,15,15,63,127,255,511,1023,511,4095,8191,16383,32767,65535,65535,262143,65535,65535,2097151,4194303,8388607,16777215,33554431,33554431,134217727,33554431,33554431,1073741823,2147483647,4294967295,8589934591,17179869183,34359738367,68719476735,34359738367,274877906943,549755813887,1099511627775,2199023255551,4398046511103,4398046511103,17592186044415,35184372088831,70368744177663,140737488355327,140737488355327,562949953421311,1125899906842623,2251799813685247]
theorem laws_FnMatroids.tab11:rtab .any (opsOf Tryz.f5 11)=laws_FnMatroids.T11:=by kernel_rfl
theorem laws_FnMatroids.bits11:waitsOk laws_FnMatroids.T11.2 laws_FnMatroids.B11=true:=by kernel_rfl
def laws_FnMatroids.T22:Bool × List (List Nat × List Nat):=(true,[([],[]),([0],[0]),([],[]),([1,2],[1,2]),([3,3],[3]),([4],[4]),([5,4],[4,5]),([4],[4]),([6,7,4,4],[4,6,7]),([8,4],[4,8]),([4,9],[4,9]),([10,8],[10]),([11],[11]),([12,11],[11,12]),([11],[11]),([14,11],[11,14]),([11],[11]),([16,11],[11,16]),([15,17,11,11],[11,15,17]),([11],[11]),([18,19,18,11],[11,18,19]),([13,20,20,11],[11,13,20]),([11,21],[11,21])])
def laws_FnMatroids.B22:List Nat:=[0,1,0,7,15,31,63,31,255,511,1023,2047,4095,8191,4095,20479,4095,69631,249855,4095,1036287,2097151,4194303]
theorem laws_FnMatroids.tab22:rtab .any (opsOf Tryz.f5 22)=laws_FnMatroids.T22:=by kernel_rfl
theorem laws_FnMatroids.bits22:waitsOk laws_FnMatroids.T22.2 laws_FnMatroids.B22=true:=by kernel_rfl
set_option maxHeartbeats 8000000 in
set_option maxRecDepth 100000 in
theorem laws_FnMatroids.calls (k:Nat) (A0:Option Addr) (c0:Nat) (l0:List Int) (r:Bool) (w:World) (hld:LD w) (hr0:Kd.C (Kd.int .u8) w A0 l0.length l0) (hc0:l0.length≤c0) (h:laws_FnMatroids.f k l0=some r) :
    Calls Tryz.prog 5 #[.slice A0 l0.length c0] w fun e w'=>e=.returned (.bool r)∧Below w.heap.size w w':=by
 have HLD:=Aside0.mk hld
 clear hld
 have hu24:=Tryz.underlying24
 have hu49:=Tryz.underlying49
 have HR0:=Aside0.mk hr0
 have HC0:=Aside0.mk hc0
 clear hr0 hc0
 have HB:=Aside0.mk (Below.refl w.heap.size w)
 unfold laws_FnMatroids.f at h
 have H:=h
 clear h
 replace H:=bnd_ H;obtain ⟨t717,A2,H⟩:=H
 by_cases c3:t717=true
 ·subst c3
  replace H:=bT_ H
  obtain rfl:=Option.some.inj H
  go_enter Tryz.func5,Tryz.ntmps5
  go_wp2_with (first|((with_reducible refine gate_callee (f:=11) rfl ?_);refine goesL_ (some 22) rfl rfl Tryz.func11 krT_ rfl #[.slice A0 l0.length c0] rfl agT_ ?_;(with_reducible refine (laws_big.calls _ _ l0 true _ ?side1 ?side2 A2.out).mono ?_);(case side1=>repeat (first|exact HR0.out|(with_reducible refine Kd.C_alloc ?_ _)|(with_reducible refine Kd.C_drewN ?_ _)|(with_reducible refine Kd.C_drew ?_)));(case side2=>exact HC0.out);rintro e w' ⟨rfl,⟨nd,rfl⟩⟩;refine ⟨_,rfl,?_⟩))
  go_ret
  exact ⟨eT_,h_HB HB.out⟩
 ·replace c3:=Bool.eq_false_iff.mpr c3
  subst c3
  replace H:=bF_ H
  replace H:=bnd_ H;obtain ⟨⟨t718,t719⟩,A4,H⟩:=H;dsimp only at H
  replace H:=bnd_ H;obtain ⟨⟨t723,t724,t725,t726⟩,A5,H⟩:=H;dsimp only at H
  replace H:=bnd_ H;obtain ⟨⟨t728,t729,t730,t731⟩,A6,H⟩:=H;dsimp only at H
  replace H:=bnd_ H;obtain ⟨⟨t733,t734,t737,t738⟩,A7,H⟩:=H;dsimp only at H
  replace H:=bnd_ H;obtain ⟨⟨t743,t744⟩,A8,H⟩:=H;dsimp only at H
  replace H:=bnd_ H;obtain ⟨t745,A9,H⟩:=H
  replace H:=bnd_ H;obtain ⟨⟨t746,t747,t750⟩,A10,H⟩:=H;dsimp only at H
  replace H:=bnd_ H;obtain ⟨⟨t752,t753,t756⟩,A11,H⟩:=H;dsimp only at H
  have HC12:=Aside0.mk H
  clear H
  go_enter Tryz.func5,Tryz.ntmps5
  go_upto_region 11 with (first|((with_reducible refine gate_callee (f:=11) rfl ?_);refine goesL_ (some 22) rfl rfl Tryz.func11 krT_ rfl #[.slice A0 l0.length c0] rfl agT_ ?_;(with_reducible refine (laws_big.calls _ _ l0 false _ ?side1 ?side2 A2.out).mono ?_);(case side1=>repeat (first|exact HR0.out|(with_reducible refine Kd.C_alloc ?_ _)|(with_reducible refine Kd.C_drewN ?_ _)|(with_reducible refine Kd.C_drew ?_)));(case side2=>exact HC0.out);rintro e w' ⟨rfl,⟨nd,rfl⟩⟩;refine ⟨_,rfl,?_⟩)|((with_reducible refine gate_callee (f:=38) rfl ?_);refine goesL_ (some 24) rfl rfl Tryz.func38 krT_ rfl #[.slice A0 l0.length c0] rfl agT_ ?_;(with_reducible refine (spec_DrawFirstFailure.calls k _ _ l0 t718 t719 _ ?side1 ?side2 A4.out).mono ?_);(case side1=>repeat (first|exact HR0.out|(with_reducible refine Kd.C_alloc ?_ _)|(with_reducible refine Kd.C_drewN ?_ _)|(with_reducible refine Kd.C_drew ?_)));(case side2=>exact HC0.out);rintro e w13 ⟨v720,rfl,ho0,hb⟩;refine ⟨_,rfl,?_⟩;have HO721:=Aside0.mk (Kd.R_lower ho0 (below_size (h_HB HB.out)));replace HB:=Aside0.mk (below_step (h_HB HB.out) hb);(try clear hb);(try clear hb2);(try clear hk);(try clear hi);(try clear ho0))|((with_reducible refine gate_dst (N:=3) rfl ?_);refine bx_ (N:=3) (cs:=#[.int .i64 0,.slice none 0 0]) (t:=24) ?_;intro gb722 hg w14 hbox hb;replace HO721:=Aside0.mk (Kd.R_below (kRC_ HO721.out) hb);have BK722:=Aside0.mk (hbox);have GW722:=Aside0.mk (gw_ hg (h_HB HB.out));have GE722:=Aside0.mk (gw_ hg (h_HB HB.out));replace HB:=Aside0.mk (below_step (h_HB HB.out) hb);clear hb hbox hg;obtain ⟨hcz15_0,hcz15_1,hfz15_0,hfz15_1⟩:=bz2_ BK722.out;obtain ⟨Ao16,co16,eo16⟩:=Kd.R_slice HO721.out;subst eo16)|((with_reducible refine gate_callee (f:=39) rfl ?_);refine goesL_ (some 27) rfl rfl Tryz.func39 krT_ rfl #[.agg #[.int .i64 t718,.slice Ao16 t719.length co16]] rfl agT_ ?_;(with_reducible refine (impl_FirstFailure.calls k t718 _ _ t719 t723 t724 t725 t726 _ ?side1 ?side2 A5.out).mono ?_);(case side1=>refine (Kd.R_reads' (e:=3) (base:=w.heap.size) (ok:=fun k_=>True) (n:=t719.length) (c:=co16) ?_).2.2;exact (by (with_reducible repeat (first|apply Kd.R_alloc|apply Kd.R_drewN|apply Kd.R_drew));exact (Kd.R_mono (Kd.R_far (p:=⟨gb722,1,none⟩) (Kd.R_far (p:=⟨gb722,0,none⟩) (Kd.R_types HO721.out BK722.out (by decide)) (fun _ hk=>hk.2) (.int .i64 t718)) (fun _ hk=>hk.2) (.slice Ao16 t719.length co16)) (fun _ h_=>h_.1))));(case side2=>exact (Kd.R_reads' HO721.out).2.1);rintro e w17 ⟨rfl,hb⟩;refine ⟨_,rfl,?_⟩;replace HO721:=Aside0.mk (Kd.R_below (by (with_reducible repeat (first|apply Kd.R_alloc|apply Kd.R_drewN|apply Kd.R_drew));exact (Kd.R_mono (Kd.R_far (p:=⟨gb722,1,none⟩) (Kd.R_far (p:=⟨gb722,0,none⟩) (Kd.R_types HO721.out BK722.out (by decide)) (fun _ hk=>hk.2) (.int .i64 t718)) (fun _ hk=>hk.2) (.slice Ao16 t719.length co16)) (fun _ h_=>h_.1))) hb);replace BK722:=Aside0.mk (blk_below (g:=gb722) (o:=.cells #[.int .i64 t718,.slice Ao16 t719.length co16] 24 (0,0)) (by (with_reducible repeat (first|refine blk_drewN ?_ _|refine blk_drew ?_|refine blk_alloc ?_ _));refine blk_put (cs:=#[.int .i64 t718,.slice none 0 0]) ?_ 1 _ rfl;(with_reducible repeat (first|refine blk_drewN ?_ _|refine blk_drew ?_|refine blk_alloc ?_ _));refine blk_put (cs:=#[.int .i64 0,.slice none 0 0]) ?_ 0 _ rfl;exact bkC_ BK722.out) hb);replace HB:=Aside0.mk (below_step (h_HB HB.out) hb);(try clear hb);(try clear hb2);(try clear hk);(try clear hi))|((with_reducible refine gate_dst (N:=4) rfl ?_);refine bx_ (N:=4) (cs:=#[.int .i64 0,.int .i64 0,.int .i64 0]) (t:=49) ?_;intro gb727 hg w18 hbox hb;replace HO721:=Aside0.mk (Kd.R_below (kRC_ HO721.out) hb);have BK727:=Aside0.mk (hbox);have GW727:=Aside0.mk (gw_ hg (h_HB HB.out));have GE727:=Aside0.mk (gw_ hg (h_HB HB.out));replace HB:=Aside0.mk (below_step (h_HB HB.out) hb);have NB722_727:=Aside0.mk (nbl_ hg (bkC_ BK722.out));have NB727_722:=Aside0.mk (nbg_ hg (bkC_ BK722.out));replace BK722:=Aside0.mk (blkB_ BK722.out hb);clear hb hbox hg;have hnb19:=NB727_722.out;have hnc19:=NB722_727.out;obtain ⟨hcz20_0,hcz20_1,hcz20_2,hfz20_0,hfz20_1,hfz20_2⟩:=bz3_ BK727.out;obtain ⟨hcz21_0,hcz21_1,hfz21_0,hfz21_1⟩:=bz2_ BK722.out)|((with_reducible refine gate_callee (f:=40) rfl ?_);refine goesL_ (some 32) rfl rfl Tryz.func40 krT_ rfl #[.agg #[.int .i64 t718,.slice Ao16 t719.length co16]] rfl agT_ ?_;(with_reducible refine (spec_FirstFailure.calls k t718 _ _ t719 t728 t729 t730 t731 _ ?side1 ?side2 A6.out).mono ?_);(case side1=>refine (Kd.R_reads' (e:=3) (base:=w.heap.size) (ok:=fun k_=>True) (n:=t719.length) (c:=co16) ?_).2.2;exact (by (with_reducible repeat (first|apply Kd.R_alloc|apply Kd.R_drewN|apply Kd.R_drew));exact (Kd.R_mono (Kd.R_far (p:=⟨gb727,2,none⟩) (Kd.R_far (p:=⟨gb727,1,none⟩) (Kd.R_far (p:=⟨gb727,0,none⟩) (Kd.R_types HO721.out BK727.out (by decide)) (fun _ hk=>hk.2) (.int .i64 t723)) (fun _ hk=>hk.2) (.int .i64 t724)) (fun _ hk=>hk.2) (.int .i64 t725)) (fun _ h_=>h_.1))));(case side2=>exact (Kd.R_reads' HO721.out).2.1);rintro e w22 ⟨rfl,hb⟩;refine ⟨_,rfl,?_⟩;replace HO721:=Aside0.mk (Kd.R_below (by (with_reducible repeat (first|apply Kd.R_alloc|apply Kd.R_drewN|apply Kd.R_drew));exact (Kd.R_mono (Kd.R_far (p:=⟨gb727,2,none⟩) (Kd.R_far (p:=⟨gb727,1,none⟩) (Kd.R_far (p:=⟨gb727,0,none⟩) (Kd.R_types HO721.out BK727.out (by decide)) (fun _ hk=>hk.2) (.int .i64 t723)) (fun _ hk=>hk.2) (.int .i64 t724)) (fun _ hk=>hk.2) (.int .i64 t725)) (fun _ h_=>h_.1))) hb);replace BK722:=Aside0.mk (blkB_ BK722.out hb);replace BK727:=Aside0.mk (blk_below (g:=gb727) (o:=.cells #[.int .i64 t723,.int .i64 t724,.int .i64 t725] 49 (0,0)) (by (with_reducible repeat (first|refine blk_drewN ?_ _|refine blk_drew ?_|refine blk_alloc ?_ _));refine blk_put (cs:=#[.int .i64 t723,.int .i64 t724,.int .i64 0]) ?_ 2 _ rfl;(with_reducible repeat (first|refine blk_drewN ?_ _|refine blk_drew ?_|refine blk_alloc ?_ _));refine blk_put (cs:=#[.int .i64 t723,.int .i64 0,.int .i64 0]) ?_ 1 _ rfl;(with_reducible repeat (first|refine blk_drewN ?_ _|refine blk_drew ?_|refine blk_alloc ?_ _));refine blk_put (cs:=#[.int .i64 0,.int .i64 0,.int .i64 0]) ?_ 0 _ rfl;exact bkC_ BK727.out) hb);replace HB:=Aside0.mk (below_step (h_HB HB.out) hb);(try clear hb);(try clear hb2);(try clear hk);(try clear hi))|((with_reducible refine gate_dst (N:=6) rfl ?_);refine bx_ (N:=6) (cs:=#[.int .i64 0,.int .i64 0,.int .i64 0]) (t:=49) ?_;intro gb732 hg w23 hbox hb;have n0_:=Aside0.mk (Kd.R_below (kRC_ HO721.out) hb);have n1_:=Aside0.mk (blkB_ BK722.out hb);have n2_:=Aside0.mk (blkB_ BK727.out hb);have n3_:=Aside0.mk (below_step (h_HB HB.out) hb);have n4_:=Aside0.mk (hbox);have n5_:=Aside0.mk (gw_ hg (h_HB HB.out));have n6_:=Aside0.mk (gw_ hg (h_HB HB.out));have n7_:=Aside0.mk (nbl_ hg (bkC_ BK722.out));have n8_:=Aside0.mk (nbg_ hg (bkC_ BK722.out));have n9_:=Aside0.mk (nbl_ hg (bkC_ BK727.out));have n10_:=Aside0.mk (nbg_ hg (bkC_ BK727.out));clear HO721;clear BK722;clear BK727;clear HB;have HO721:=n0_;have BK722:=n1_;have BK727:=n2_;have HB:=n3_;have BK732:=n4_;have GW732:=n5_;have GE732:=n6_;have NB722_732:=n7_;have NB732_722:=n8_;have NB727_732:=n9_;have NB732_727:=n10_;clear n0_ n1_ n2_ n3_ n4_ n5_ n6_ n7_ n8_ n9_ n10_;clear hb hbox hg;have hnb24:=NB732_722.out;have hnc24:=NB722_732.out;have hnb25:=NB732_727.out;have hnc25:=NB727_732.out;obtain ⟨hcz26_0,hcz26_1,hcz26_2,hfz26_0,hfz26_1,hfz26_2⟩:=bz3_ BK732.out)|((with_reducible refine gate_callee (f:=41) rfl ?_);refine goesL_ (some 37) rfl rfl Tryz.func41 krT_ rfl #[.slice A0 l0.length c0] rfl agT_ ?_;(with_reducible refine (spec_DrawEqualMatroid.calls k _ _ l0 t733 t734 t737 t738 _ ?side1 ?side2 A7.out).mono ?_);(case side1=>exact Kd.C_below HR0.out (h_HB HB.out));(case side2=>exact HC0.out);rintro e w27 ⟨v735,v739,rfl,ho0,ho1,hb⟩;refine ⟨_,rfl,?_⟩;have HO736:=Aside0.mk (Kd.R_lower (Kd.R_new' ho0 (Kd.R_lt (by (with_reducible repeat (first|apply Kd.R_alloc|apply Kd.R_drewN|apply Kd.R_drew));exact (Kd.R_mono (Kd.R_far (p:=⟨gb732,2,none⟩) (Kd.R_far (p:=⟨gb732,1,none⟩) (Kd.R_far (p:=⟨gb732,0,none⟩) (Kd.R_types HO721.out BK732.out (by decide)) (fun _ hk=>hk.2) (.int .i64 t728)) (fun _ hk=>hk.2) (.int .i64 t729)) (fun _ hk=>hk.2) (.int .i64 t730)) (fun _ h_=>h_.1))))) (below_size (h_HB HB.out)));have HO740:=Aside0.mk (Kd.R_lower (Kd.R_new' ho1 (Kd.R_lt (by (with_reducible repeat (first|apply Kd.R_alloc|apply Kd.R_drewN|apply Kd.R_drew));exact (Kd.R_mono (Kd.R_far (p:=⟨gb732,2,none⟩) (Kd.R_far (p:=⟨gb732,1,none⟩) (Kd.R_far (p:=⟨gb732,0,none⟩) (Kd.R_types HO721.out BK732.out (by decide)) (fun _ hk=>hk.2) (.int .i64 t728)) (fun _ hk=>hk.2) (.int .i64 t729)) (fun _ hk=>hk.2) (.int .i64 t730)) (fun _ h_=>h_.1))))) (below_size (h_HB HB.out)));replace HO721:=Aside0.mk (Kd.R_mono (Kd.R_told (Kd.R_told (Kd.R_old (by (with_reducible repeat (first|apply Kd.R_alloc|apply Kd.R_drewN|apply Kd.R_drew));exact (Kd.R_mono (Kd.R_far (p:=⟨gb732,2,none⟩) (Kd.R_far (p:=⟨gb732,1,none⟩) (Kd.R_far (p:=⟨gb732,0,none⟩) (Kd.R_types HO721.out BK732.out (by decide)) (fun _ hk=>hk.2) (.int .i64 t728)) (fun _ hk=>hk.2) (.int .i64 t729)) (fun _ hk=>hk.2) (.int .i64 t730)) (fun _ h_=>h_.1))) hb) (Kd.R_base ho0)) (Kd.R_base ho1)) (fun _ h_=>h_.1));replace BK722:=Aside0.mk (blkB_ BK722.out hb);replace BK727:=Aside0.mk (blkB_ BK727.out hb);replace BK732:=Aside0.mk (blk_below (g:=gb732) (o:=.cells #[.int .i64 t728,.int .i64 t729,.int .i64 t730] 49 (0,0)) (by (with_reducible repeat (first|refine blk_drewN ?_ _|refine blk_drew ?_|refine blk_alloc ?_ _));refine blk_put (cs:=#[.int .i64 t728,.int .i64 t729,.int .i64 0]) ?_ 2 _ rfl;(with_reducible repeat (first|refine blk_drewN ?_ _|refine blk_drew ?_|refine blk_alloc ?_ _));refine blk_put (cs:=#[.int .i64 t728,.int .i64 0,.int .i64 0]) ?_ 1 _ rfl;(with_reducible repeat (first|refine blk_drewN ?_ _|refine blk_drew ?_|refine blk_alloc ?_ _));refine blk_put (cs:=#[.int .i64 0,.int .i64 0,.int .i64 0]) ?_ 0 _ rfl;exact bkC_ BK732.out) hb);replace HB:=Aside0.mk (below_step (h_HB HB.out) hb);(try clear hb);(try clear hb2);(try clear hk);(try clear hi);(try clear ho0);(try clear ho1))|((with_reducible refine gate_dst (N:=8) rfl ?_);refine bx_ (N:=8) (cs:=#[.int .i64 0,.slice none 0 0]) (t:=24) ?_;intro gb741 hg w28 hbox hb;have n0_:=Aside0.mk (Kd.R_below (kRC_ HO721.out) hb);have n1_:=Aside0.mk (Kd.R_below (kRC_ HO736.out) hb);have n2_:=Aside0.mk (Kd.R_below (kRC_ HO740.out) hb);have n3_:=Aside0.mk (blkB_ BK722.out hb);have n4_:=Aside0.mk (blkB_ BK727.out hb);have n5_:=Aside0.mk (blkB_ BK732.out hb);have n6_:=Aside0.mk (below_step (h_HB HB.out) hb);have n7_:=Aside0.mk (hbox);have n8_:=Aside0.mk (gw_ hg (h_HB HB.out));have n9_:=Aside0.mk (gw_ hg (h_HB HB.out));have n10_:=Aside0.mk (nbl_ hg (bkC_ BK722.out));have n11_:=Aside0.mk (nbg_ hg (bkC_ BK722.out));have n12_:=Aside0.mk (nbl_ hg (bkC_ BK727.out));have n13_:=Aside0.mk (nbg_ hg (bkC_ BK727.out));have n14_:=Aside0.mk (nbl_ hg (bkC_ BK732.out));have n15_:=Aside0.mk (nbg_ hg (bkC_ BK732.out));clear HO721;clear HO736;clear HO740;clear BK722;clear BK727;clear BK732;clear HB;have HO721:=n0_;have HO736:=n1_;have HO740:=n2_;have BK722:=n3_;have BK727:=n4_;have BK732:=n5_;have HB:=n6_;have BK741:=n7_;have GW741:=n8_;have GE741:=n9_;have NB722_741:=n10_;have NB741_722:=n11_;have NB727_741:=n12_;have NB741_727:=n13_;have NB732_741:=n14_;have NB741_732:=n15_;clear n0_ n1_ n2_ n3_ n4_ n5_ n6_ n7_ n8_ n9_ n10_ n11_ n12_ n13_ n14_ n15_;clear hb hbox hg)|((with_reducible refine gate_dst (N:=9) rfl ?_);refine bx_ (N:=9) (cs:=#[.int .i64 0,.slice none 0 0]) (t:=24) ?_;intro gb742 hg w29 hbox hb;have n0_:=Aside0.mk (Kd.R_below (kRC_ HO721.out) hb);have n1_:=Aside0.mk (Kd.R_below (kRC_ HO736.out) hb);have n2_:=Aside0.mk (Kd.R_below (kRC_ HO740.out) hb);have n3_:=Aside0.mk (blkB_ BK722.out hb);have n4_:=Aside0.mk (blkB_ BK727.out hb);have n5_:=Aside0.mk (blkB_ BK732.out hb);have n6_:=Aside0.mk (blkB_ BK741.out hb);have n7_:=Aside0.mk (below_step (h_HB HB.out) hb);have n8_:=Aside0.mk (hbox);have n9_:=Aside0.mk (gw_ hg (h_HB HB.out));have n10_:=Aside0.mk (gw_ hg (h_HB HB.out));have n11_:=Aside0.mk (nbl_ hg (bkC_ BK722.out));have n12_:=Aside0.mk (nbg_ hg (bkC_ BK722.out));have n13_:=Aside0.mk (nbl_ hg (bkC_ BK727.out));have n14_:=Aside0.mk (nbg_ hg (bkC_ BK727.out));have n15_:=Aside0.mk (nbl_ hg (bkC_ BK732.out));have n16_:=Aside0.mk (nbg_ hg (bkC_ BK732.out));have n17_:=Aside0.mk (nbl_ hg (bkC_ BK741.out));have n18_:=Aside0.mk (nbg_ hg (bkC_ BK741.out));clear HO721;clear HO736;clear HO740;clear BK722;clear BK727;clear BK732;clear BK741;clear HB;have HO721:=n0_;have HO736:=n1_;have HO740:=n2_;have BK722:=n3_;have BK727:=n4_;have BK732:=n5_;have BK741:=n6_;have HB:=n7_;have BK742:=n8_;have GW742:=n9_;have GE742:=n10_;have NB722_742:=n11_;have NB742_722:=n12_;have NB727_742:=n13_;have NB742_727:=n14_;have NB732_742:=n15_;have NB742_732:=n16_;have NB741_742:=n17_;have NB742_741:=n18_;clear n0_ n1_ n2_ n3_ n4_ n5_ n6_ n7_ n8_ n9_ n10_ n11_ n12_ n13_ n14_ n15_ n16_ n17_ n18_;clear hb hbox hg;have hnb30:=NB741_722.out;have hnc30:=NB722_741.out;have hnb31:=NB741_727.out;have hnc31:=NB727_741.out;have hnb32:=NB741_732.out;have hnc32:=NB732_741.out;have hnb33:=NB741_742.out;have hnc33:=NB742_741.out;obtain ⟨hcz34_0,hcz34_1,hfz34_0,hfz34_1⟩:=bz2_ BK741.out;obtain ⟨Ao35,co35,eo35⟩:=Kd.R_slice HO736.out;subst eo35;have hnb36:=NB742_722.out;have hnc36:=NB722_742.out;have hnb37:=NB742_727.out;have hnc37:=NB727_742.out;have hnb38:=NB742_732.out;have hnc38:=NB732_742.out;obtain ⟨hcz39_0,hcz39_1,hfz39_0,hfz39_1⟩:=bz2_ BK742.out;obtain ⟨Ao40,co40,eo40⟩:=Kd.R_slice HO740.out;subst eo40)|((with_reducible refine gate_callee (f:=42) rfl ?_);refine goesL_ (some 42) rfl rfl Tryz.func42 krT_ rfl #[.slice A0 l0.length c0] rfl agT_ ?_;(with_reducible refine (spec_DrawUniform.calls k _ _ l0 t743 t744 _ ?side1 ?side2 A8.out).mono ?_);(case side1=>exact Kd.C_below HR0.out (h_HB HB.out));(case side2=>exact HC0.out);rintro e w41 ⟨rfl,hb⟩;refine ⟨_,rfl,?_⟩;replace HO721:=Aside0.mk (Kd.R_below (by (with_reducible repeat (first|apply Kd.R_alloc|apply Kd.R_drewN|apply Kd.R_drew));exact (Kd.R_mono (Kd.R_mono (Kd.R_far (p:=⟨gb742,1,none⟩) (Kd.R_far (p:=⟨gb742,0,none⟩) (Kd.R_far (p:=⟨gb741,1,none⟩) (Kd.R_far (p:=⟨gb741,0,none⟩) (Kd.R_types (Kd.R_types HO721.out BK741.out (by decide)) BK742.out (by decide)) (fun _ hk=>hk.1.2) (.int .i64 t733)) (fun _ hk=>hk.1.2) (.slice Ao35 t734.length co35)) (fun _ hk=>hk.2) (.int .i64 t737)) (fun _ hk=>hk.2) (.slice Ao40 t738.length co40)) (fun _ h_=>h_.1)) (fun _ h_=>h_.1))) hb);replace HO736:=Aside0.mk (Kd.R_below (by (with_reducible repeat (first|apply Kd.R_alloc|apply Kd.R_drewN|apply Kd.R_drew));exact (Kd.R_mono (Kd.R_mono (Kd.R_far (p:=⟨gb742,1,none⟩) (Kd.R_far (p:=⟨gb742,0,none⟩) (Kd.R_far (p:=⟨gb741,1,none⟩) (Kd.R_far (p:=⟨gb741,0,none⟩) (Kd.R_types (Kd.R_types HO736.out BK741.out (by decide)) BK742.out (by decide)) (fun _ hk=>hk.1.2) (.int .i64 t733)) (fun _ hk=>hk.1.2) (.slice Ao35 t734.length co35)) (fun _ hk=>hk.2) (.int .i64 t737)) (fun _ hk=>hk.2) (.slice Ao40 t738.length co40)) (fun _ h_=>h_.1)) (fun _ h_=>h_.1))) hb);replace HO740:=Aside0.mk (Kd.R_below (by (with_reducible repeat (first|apply Kd.R_alloc|apply Kd.R_drewN|apply Kd.R_drew));exact (Kd.R_mono (Kd.R_mono (Kd.R_far (p:=⟨gb742,1,none⟩) (Kd.R_far (p:=⟨gb742,0,none⟩) (Kd.R_far (p:=⟨gb741,1,none⟩) (Kd.R_far (p:=⟨gb741,0,none⟩) (Kd.R_types (Kd.R_types HO740.out BK741.out (by decide)) BK742.out (by decide)) (fun _ hk=>hk.1.2) (.int .i64 t733)) (fun _ hk=>hk.1.2) (.slice Ao35 t734.length co35)) (fun _ hk=>hk.2) (.int .i64 t737)) (fun _ hk=>hk.2) (.slice Ao40 t738.length co40)) (fun _ h_=>h_.1)) (fun _ h_=>h_.1))) hb);replace BK722:=Aside0.mk (blkB_ BK722.out hb);replace BK727:=Aside0.mk (blkB_ BK727.out hb);replace BK732:=Aside0.mk (blkB_ BK732.out hb);replace BK741:=Aside0.mk (blk_below (g:=gb741) (o:=.cells #[.int .i64 t733,.slice Ao35 t734.length co35] 24 (0,0)) (by (with_reducible repeat (first|refine blk_drewN ?_ _|refine blk_drew ?_|refine blk_alloc ?_ _));refine blk_far ?_ NB741_742.out _;(with_reducible repeat (first|refine blk_drewN ?_ _|refine blk_drew ?_|refine blk_alloc ?_ _));refine blk_far ?_ NB741_742.out _;(with_reducible repeat (first|refine blk_drewN ?_ _|refine blk_drew ?_|refine blk_alloc ?_ _));refine blk_put (cs:=#[.int .i64 t733,.slice none 0 0]) ?_ 1 _ rfl;(with_reducible repeat (first|refine blk_drewN ?_ _|refine blk_drew ?_|refine blk_alloc ?_ _));refine blk_put (cs:=#[.int .i64 0,.slice none 0 0]) ?_ 0 _ rfl;exact bkC_ BK741.out) hb);replace BK742:=Aside0.mk (blk_below (g:=gb742) (o:=.cells #[.int .i64 t737,.slice Ao40 t738.length co40] 24 (0,0)) (by (with_reducible repeat (first|refine blk_drewN ?_ _|refine blk_drew ?_|refine blk_alloc ?_ _));refine blk_put (cs:=#[.int .i64 t737,.slice none 0 0]) ?_ 1 _ rfl;(with_reducible repeat (first|refine blk_drewN ?_ _|refine blk_drew ?_|refine blk_alloc ?_ _));refine blk_put (cs:=#[.int .i64 0,.slice none 0 0]) ?_ 0 _ rfl;exact bkC_ BK742.out) hb);replace HB:=Aside0.mk (below_step (h_HB HB.out) hb);(try clear hb);(try clear hb2);(try clear hk);(try clear hi))|((with_reducible refine gate_callee (f:=43) rfl ?_);refine goesL_ (some 46) rfl rfl Tryz.func43 krT_ rfl #[.slice A0 l0.length c0] rfl agT_ ?_;(with_reducible refine (spec_DrawParseMatroid.calls k _ _ l0 t745 _ ?side1 ?side2 A9.out).mono ?_);(case side1=>exact cC_ HR0.out);(case side2=>exact HC0.out);rintro e w42 ⟨rfl,hb⟩;refine ⟨_,rfl,?_⟩;replace HO721:=Aside0.mk (Kd.R_below (kRC_ HO721.out) hb);replace HO736:=Aside0.mk (Kd.R_below (kRC_ HO736.out) hb);replace HO740:=Aside0.mk (Kd.R_below (kRC_ HO740.out) hb);replace BK722:=Aside0.mk (blkB_ BK722.out hb);replace BK727:=Aside0.mk (blkB_ BK727.out hb);replace BK732:=Aside0.mk (blkB_ BK732.out hb);replace BK741:=Aside0.mk (blkB_ BK741.out hb);replace BK742:=Aside0.mk (blkB_ BK742.out hb);replace HB:=Aside0.mk (below_step (h_HB HB.out) hb);(try clear hb))|((with_reducible refine gate_callee (f:=7) rfl ?_);refine goesL_ (some 49) rfl rfl Tryz.func7 krT_ rfl #[.string t745] rfl agT_ ?_;(with_reducible refine (impl_ParseMatroid.calls k t745 t746 t747 t750 _ ?ldq A10.out).mono ?_);(case ldq=>exact LD_below HLD.out (h_HB HB.out));rintro e w43 ⟨v748,rfl,ho0,hb⟩;refine ⟨_,rfl,?_⟩;have HO749:=Aside0.mk (Kd.R_lower (Kd.R_new' (Kd.R_new' (Kd.R_new' ho0 (Kd.R_lt (kRC_ HO721.out))) (Kd.R_lt (kRC_ HO736.out))) (Kd.R_lt (kRC_ HO740.out))) (below_size (h_HB HB.out)));replace HO721:=Aside0.mk (Kd.R_elder' (kRC_ HO721.out) (Kd.R_base ho0) hb);replace HO736:=Aside0.mk (Kd.R_elder' (kRC_ HO736.out) (Kd.R_base ho0) hb);replace HO740:=Aside0.mk (Kd.R_elder' (kRC_ HO740.out) (Kd.R_base ho0) hb);replace BK722:=Aside0.mk (blkB_ BK722.out hb);replace BK727:=Aside0.mk (blkB_ BK727.out hb);replace BK732:=Aside0.mk (blkB_ BK732.out hb);replace BK741:=Aside0.mk (blkB_ BK741.out hb);replace BK742:=Aside0.mk (blkB_ BK742.out hb);replace HB:=Aside0.mk (below_step (h_HB HB.out) hb);(try clear hb);(try clear hb2);(try clear hk);(try clear hi);(try clear ho0))|((with_reducible refine gate_dst (N:=13) rfl ?_);refine bx_ (N:=13) (cs:=#[.int .i64 0,.slice none 0 0]) (t:=24) ?_;intro gb751 hg w44 hbox hb;have n0_:=Aside0.mk (Kd.R_below (kRC_ HO721.out) hb);have n1_:=Aside0.mk (Kd.R_below (kRC_ HO736.out) hb);have n2_:=Aside0.mk (Kd.R_below (kRC_ HO740.out) hb);have n3_:=Aside0.mk (Kd.R_below (kRC_ HO749.out) hb);have n4_:=Aside0.mk (blkB_ BK722.out hb);have n5_:=Aside0.mk (blkB_ BK727.out hb);have n6_:=Aside0.mk (blkB_ BK732.out hb);have n7_:=Aside0.mk (blkB_ BK741.out hb);have n8_:=Aside0.mk (blkB_ BK742.out hb);have n9_:=Aside0.mk (below_step (h_HB HB.out) hb);have n10_:=Aside0.mk (hbox);have n11_:=Aside0.mk (gw_ hg (h_HB HB.out));have n12_:=Aside0.mk (gw_ hg (h_HB HB.out));have n13_:=Aside0.mk (nbl_ hg (bkC_ BK722.out));have n14_:=Aside0.mk (nbg_ hg (bkC_ BK722.out));have n15_:=Aside0.mk (nbl_ hg (bkC_ BK727.out));have n16_:=Aside0.mk (nbg_ hg (bkC_ BK727.out));have n17_:=Aside0.mk (nbl_ hg (bkC_ BK732.out));have n18_:=Aside0.mk (nbg_ hg (bkC_ BK732.out));have n19_:=Aside0.mk (nbl_ hg (bkC_ BK741.out));have n20_:=Aside0.mk (nbg_ hg (bkC_ BK741.out));have n21_:=Aside0.mk (nbl_ hg (bkC_ BK742.out));have n22_:=Aside0.mk (nbg_ hg (bkC_ BK742.out));clear HO721;clear HO736;clear HO740;clear HO749;clear BK722;clear BK727;clear BK732;clear BK741;clear BK742;clear HB;have HO721:=n0_;have HO736:=n1_;have HO740:=n2_;have HO749:=n3_;have BK722:=n4_;have BK727:=n5_;have BK732:=n6_;have BK741:=n7_;have BK742:=n8_;have HB:=n9_;have BK751:=n10_;have GW751:=n11_;have GE751:=n12_;have NB722_751:=n13_;have NB751_722:=n14_;have NB727_751:=n15_;have NB751_727:=n16_;have NB732_751:=n17_;have NB751_732:=n18_;have NB741_751:=n19_;have NB751_741:=n20_;have NB742_751:=n21_;have NB751_742:=n22_;clear n0_ n1_ n2_ n3_ n4_ n5_ n6_ n7_ n8_ n9_ n10_ n11_ n12_ n13_ n14_ n15_ n16_ n17_ n18_ n19_ n20_ n21_ n22_;clear hb hbox hg;have hnb45:=NB751_722.out;have hnc45:=NB722_751.out;have hnb46:=NB751_727.out;have hnc46:=NB727_751.out;have hnb47:=NB751_732.out;have hnc47:=NB732_751.out;have hnb48:=NB751_741.out;have hnc48:=NB741_751.out;have hnb49:=NB751_742.out;have hnc49:=NB742_751.out;obtain ⟨hcz50_0,hcz50_1,hfz50_0,hfz50_1⟩:=bz2_ BK751.out;obtain ⟨Ao51,co51,eo51⟩:=Kd.R_slice HO749.out;subst eo51)|((with_reducible refine gate_callee (f:=6) rfl ?_);refine goesL_ (some 54) rfl rfl Tryz.func6 krT_ rfl #[.string t745] rfl agT_ ?_;(with_reducible refine (spec_ParseMatroid.calls k t745 t752 t753 t756 _ A11.out).mono ?_);rintro e w52 ⟨v754,rfl,ho0,hb⟩;refine ⟨_,rfl,?_⟩;have n0_:=Aside0.mk (Kd.R_elder' (by (with_reducible repeat (first|apply Kd.R_alloc|apply Kd.R_drewN|apply Kd.R_drew));exact (Kd.R_mono (Kd.R_far (p:=⟨gb751,1,none⟩) (Kd.R_far (p:=⟨gb751,0,none⟩) (Kd.R_types HO721.out BK751.out (by decide)) (fun _ hk=>hk.2) (.int .i64 t746)) (fun _ hk=>hk.2) (.slice Ao51 t747.length co51)) (fun _ h_=>h_.1))) (Kd.R_base ho0) hb);have n1_:=Aside0.mk (Kd.R_elder' (by (with_reducible repeat (first|apply Kd.R_alloc|apply Kd.R_drewN|apply Kd.R_drew));exact (Kd.R_mono (Kd.R_far (p:=⟨gb751,1,none⟩) (Kd.R_far (p:=⟨gb751,0,none⟩) (Kd.R_types HO736.out BK751.out (by decide)) (fun _ hk=>hk.2) (.int .i64 t746)) (fun _ hk=>hk.2) (.slice Ao51 t747.length co51)) (fun _ h_=>h_.1))) (Kd.R_base ho0) hb);have n2_:=Aside0.mk (Kd.R_elder' (by (with_reducible repeat (first|apply Kd.R_alloc|apply Kd.R_drewN|apply Kd.R_drew));exact (Kd.R_mono (Kd.R_far (p:=⟨gb751,1,none⟩) (Kd.R_far (p:=⟨gb751,0,none⟩) (Kd.R_types HO740.out BK751.out (by decide)) (fun _ hk=>hk.2) (.int .i64 t746)) (fun _ hk=>hk.2) (.slice Ao51 t747.length co51)) (fun _ h_=>h_.1))) (Kd.R_base ho0) hb);have n3_:=Aside0.mk (Kd.R_elder' (by (with_reducible repeat (first|apply Kd.R_alloc|apply Kd.R_drewN|apply Kd.R_drew));exact (Kd.R_mono (Kd.R_far (p:=⟨gb751,1,none⟩) (Kd.R_far (p:=⟨gb751,0,none⟩) (Kd.R_types HO749.out BK751.out (by decide)) (fun _ hk=>hk.2) (.int .i64 t746)) (fun _ hk=>hk.2) (.slice Ao51 t747.length co51)) (fun _ h_=>h_.1))) (Kd.R_base ho0) hb);have n4_:=Aside0.mk (Kd.R_lower (Kd.R_new' (Kd.R_new' (Kd.R_new' (Kd.R_new' ho0 (Kd.R_lt (by (with_reducible repeat (first|apply Kd.R_alloc|apply Kd.R_drewN|apply Kd.R_drew));exact (Kd.R_mono (Kd.R_far (p:=⟨gb751,1,none⟩) (Kd.R_far (p:=⟨gb751,0,none⟩) (Kd.R_types HO721.out BK751.out (by decide)) (fun _ hk=>hk.2) (.int .i64 t746)) (fun _ hk=>hk.2) (.slice Ao51 t747.length co51)) (fun _ h_=>h_.1))))) (Kd.R_lt (by (with_reducible repeat (first|apply Kd.R_alloc|apply Kd.R_drewN|apply Kd.R_drew));exact (Kd.R_mono (Kd.R_far (p:=⟨gb751,1,none⟩) (Kd.R_far (p:=⟨gb751,0,none⟩) (Kd.R_types HO736.out BK751.out (by decide)) (fun _ hk=>hk.2) (.int .i64 t746)) (fun _ hk=>hk.2) (.slice Ao51 t747.length co51)) (fun _ h_=>h_.1))))) (Kd.R_lt (by (with_reducible repeat (first|apply Kd.R_alloc|apply Kd.R_drewN|apply Kd.R_drew));exact (Kd.R_mono (Kd.R_far (p:=⟨gb751,1,none⟩) (Kd.R_far (p:=⟨gb751,0,none⟩) (Kd.R_types HO740.out BK751.out (by decide)) (fun _ hk=>hk.2) (.int .i64 t746)) (fun _ hk=>hk.2) (.slice Ao51 t747.length co51)) (fun _ h_=>h_.1))))) (Kd.R_lt (by (with_reducible repeat (first|apply Kd.R_alloc|apply Kd.R_drewN|apply Kd.R_drew));exact (Kd.R_mono (Kd.R_far (p:=⟨gb751,1,none⟩) (Kd.R_far (p:=⟨gb751,0,none⟩) (Kd.R_types HO749.out BK751.out (by decide)) (fun _ hk=>hk.2) (.int .i64 t746)) (fun _ hk=>hk.2) (.slice Ao51 t747.length co51)) (fun _ h_=>h_.1))))) (below_size (h_HB HB.out)));have n5_:=Aside0.mk (blkB_ BK722.out hb);have n6_:=Aside0.mk (blkB_ BK727.out hb);have n7_:=Aside0.mk (blkB_ BK732.out hb);have n8_:=Aside0.mk (blkB_ BK741.out hb);have n9_:=Aside0.mk (blkB_ BK742.out hb);have n10_:=Aside0.mk (blk_below (g:=gb751) (o:=.cells #[.int .i64 t746,.slice Ao51 t747.length co51] 24 (0,0)) (by (with_reducible repeat (first|refine blk_drewN ?_ _|refine blk_drew ?_|refine blk_alloc ?_ _));refine blk_put (cs:=#[.int .i64 t746,.slice none 0 0]) ?_ 1 _ rfl;(with_reducible repeat (first|refine blk_drewN ?_ _|refine blk_drew ?_|refine blk_alloc ?_ _));refine blk_put (cs:=#[.int .i64 0,.slice none 0 0]) ?_ 0 _ rfl;exact bkC_ BK751.out) hb);have n11_:=Aside0.mk (below_step (h_HB HB.out) hb);clear HO721;clear HO736;clear HO740;clear HO749;clear BK722;clear BK727;clear BK732;clear BK741;clear BK742;clear BK751;clear HB;have HO721:=n0_;have HO736:=n1_;have HO740:=n2_;have HO749:=n3_;have HO755:=n4_;have BK722:=n5_;have BK727:=n6_;have BK732:=n7_;have BK741:=n8_;have BK742:=n9_;have BK751:=n10_;have HB:=n11_;clear n0_ n1_ n2_ n3_ n4_ n5_ n6_ n7_ n8_ n9_ n10_ n11_;(try clear hb);(try clear hb2);(try clear hk);(try clear hi);(try clear ho0))|((with_reducible refine gate_dst (N:=15) rfl ?_);refine bx_ (N:=15) (cs:=#[.int .i64 0,.slice none 0 0]) (t:=24) ?_;intro gb757 hg w53 hbox hb;have n0_:=Aside0.mk (Kd.R_below (kRC_ HO721.out) hb);have n1_:=Aside0.mk (Kd.R_below (kRC_ HO736.out) hb);have n2_:=Aside0.mk (Kd.R_below (kRC_ HO740.out) hb);have n3_:=Aside0.mk (Kd.R_below (kRC_ HO749.out) hb);have n4_:=Aside0.mk (Kd.R_below (kRC_ HO755.out) hb);have n5_:=Aside0.mk (blkB_ BK722.out hb);have n6_:=Aside0.mk (blkB_ BK727.out hb);have n7_:=Aside0.mk (blkB_ BK732.out hb);have n8_:=Aside0.mk (blkB_ BK741.out hb);have n9_:=Aside0.mk (blkB_ BK742.out hb);have n10_:=Aside0.mk (blkB_ BK751.out hb);have n11_:=Aside0.mk (below_step (h_HB HB.out) hb);have n12_:=Aside0.mk (hbox);have n13_:=Aside0.mk (gw_ hg (h_HB HB.out));have n14_:=Aside0.mk (gw_ hg (h_HB HB.out));have n15_:=Aside0.mk (nbl_ hg (bkC_ BK722.out));have n16_:=Aside0.mk (nbg_ hg (bkC_ BK722.out));have n17_:=Aside0.mk (nbl_ hg (bkC_ BK727.out));have n18_:=Aside0.mk (nbg_ hg (bkC_ BK727.out));have n19_:=Aside0.mk (nbl_ hg (bkC_ BK732.out));have n20_:=Aside0.mk (nbg_ hg (bkC_ BK732.out));have n21_:=Aside0.mk (nbl_ hg (bkC_ BK741.out));have n22_:=Aside0.mk (nbg_ hg (bkC_ BK741.out));have n23_:=Aside0.mk (nbl_ hg (bkC_ BK742.out));have n24_:=Aside0.mk (nbg_ hg (bkC_ BK742.out));have n25_:=Aside0.mk (nbl_ hg (bkC_ BK751.out));have n26_:=Aside0.mk (nbg_ hg (bkC_ BK751.out));clear HO721;clear HO736;clear HO740;clear HO749;clear HO755;clear BK722;clear BK727;clear BK732;clear BK741;clear BK742;clear BK751;clear HB;have HO721:=n0_;have HO736:=n1_;have HO740:=n2_;have HO749:=n3_;have HO755:=n4_;have BK722:=n5_;have BK727:=n6_;have BK732:=n7_;have BK741:=n8_;have BK742:=n9_;have BK751:=n10_;have HB:=n11_;have BK757:=n12_;have GW757:=n13_;have GE757:=n14_;have NB722_757:=n15_;have NB757_722:=n16_;have NB727_757:=n17_;have NB757_727:=n18_;have NB732_757:=n19_;have NB757_732:=n20_;have NB741_757:=n21_;have NB757_741:=n22_;have NB742_757:=n23_;have NB757_742:=n24_;have NB751_757:=n25_;have NB757_751:=n26_;clear n0_ n1_ n2_ n3_ n4_ n5_ n6_ n7_ n8_ n9_ n10_ n11_ n12_ n13_ n14_ n15_ n16_ n17_ n18_ n19_ n20_ n21_ n22_ n23_ n24_ n25_ n26_;clear hb hbox hg;have hnb54:=NB757_722.out;have hnc54:=NB722_757.out;have hnb55:=NB757_727.out;have hnc55:=NB727_757.out;have hnb56:=NB757_732.out;have hnc56:=NB732_757.out;have hnb57:=NB757_741.out;have hnc57:=NB741_757.out;have hnb58:=NB757_742.out;have hnc58:=NB742_757.out;have hnb59:=NB757_751.out;have hnc59:=NB751_757.out;obtain ⟨hcz60_0,hcz60_1,hfz60_0,hfz60_1⟩:=bz2_ BK757.out;obtain ⟨Ao61,co61,eo61⟩:=Kd.R_slice HO755.out;subst eo61))
  (try simp only [Act.put,List.setIfInBounds_toArray,List.set_cons_zero,List.set_cons_succ])
  go_cut [108] (fun v108 wc=>∃ (kq:Nat) (x108_11:Bool),v108=.bool x108_11∧Aside0 (laws_FnMatroids.j0 kq t726 x108_11 t718 t719 t723 t724 t725=some r)∧Aside0 (kq≤k)∧Aside0 (Kd.R (Kd.int .i64) 3 wc w.heap.size (fun k_=>some k_≠((.slice Ao35 t734.length co35):Value).ownBlock∧some k_≠((.slice Ao40 t738.length co40):Value).ownBlock∧some k_≠((.slice Ao51 t747.length co51):Value).ownBlock∧some k_≠((.slice Ao61 t753.length co61):Value).ownBlock) (.slice Ao16 t719.length co16) t719)∧Aside0 (Kd.R (Kd.int .i64) 3 wc w.heap.size (fun k_=>some k_≠((.slice Ao16 t719.length co16):Value).ownBlock∧some k_≠((.slice Ao40 t738.length co40):Value).ownBlock∧some k_≠((.slice Ao51 t747.length co51):Value).ownBlock∧some k_≠((.slice Ao61 t753.length co61):Value).ownBlock) (.slice Ao35 t734.length co35) t734)∧Aside0 (Kd.R (Kd.int .i64) 3 wc w.heap.size (fun k_=>some k_≠((.slice Ao16 t719.length co16):Value).ownBlock∧some k_≠((.slice Ao35 t734.length co35):Value).ownBlock∧some k_≠((.slice Ao51 t747.length co51):Value).ownBlock∧some k_≠((.slice Ao61 t753.length co61):Value).ownBlock) (.slice Ao40 t738.length co40) t738)∧Aside0 (Kd.R (Kd.int .i64) 3 wc w.heap.size (fun k_=>some k_≠((.slice Ao16 t719.length co16):Value).ownBlock∧some k_≠((.slice Ao35 t734.length co35):Value).ownBlock∧some k_≠((.slice Ao40 t738.length co40):Value).ownBlock∧some k_≠((.slice Ao61 t753.length co61):Value).ownBlock) (.slice Ao51 t747.length co51) t747)∧Aside0 (Kd.R (Kd.int .i64) 3 wc w.heap.size (fun k_=>some k_≠((.slice Ao16 t719.length co16):Value).ownBlock∧some k_≠((.slice Ao35 t734.length co35):Value).ownBlock∧some k_≠((.slice Ao40 t738.length co40):Value).ownBlock∧some k_≠((.slice Ao51 t747.length co51):Value).ownBlock) (.slice Ao61 t753.length co61) t753)∧Aside0 (wc.heap[gb722]?=some (.cells #[.int .i64 t718,(.slice Ao16 t719.length co16)] 24 (0,0)))∧Aside0 (wc.heap[gb727]?=some (.cells #[.int .i64 t723,.int .i64 t724,.int .i64 t725] 49 (0,0)))∧Aside0 (wc.heap[gb732]?=some (.cells #[.int .i64 t728,.int .i64 t729,.int .i64 t730] 49 (0,0)))∧Aside0 (wc.heap[gb741]?=some (.cells #[.int .i64 t733,(.slice Ao35 t734.length co35)] 24 (0,0)))∧Aside0 (wc.heap[gb742]?=some (.cells #[.int .i64 t737,(.slice Ao40 t738.length co40)] 24 (0,0)))∧Aside0 (wc.heap[gb751]?=some (.cells #[.int .i64 t746,(.slice Ao51 t747.length co51)] 24 (0,0)))∧Aside0 (wc.heap[gb757]?=some (.cells #[.int .i64 t752,(.slice Ao61 t753.length co61)] 24 (0,0)))∧Aside0 (Below w.heap.size w wc))
  case first =>
   have H:=HC12.out
   clear HC12
   by_cases c62:(t726 != t731)=true
   ·rw [if_pos c62] at H
    have c62b0:(t726 != t731)=true:=c62
    (try (have c62b1:decide (t726=t731)=false:=by simpa using c62))
    (try (have c62b2:(t726==t731)=false:=by simpa using c62))
    (try (have c62b3:¬ (t726=t731):=by simpa using c62))
    clear c62
    (first|rw [c62b0]|(simp only [i64_w,i32_w];rw [c62b0])|skip)
    exact absurd H (by simp)
   ·rw [if_neg c62] at H
    have c62b0:(t726 != t731)=false:=by simpa using c62
    (try (have c62b1:decide (t726=t731)=true:=by simpa using c62))
    (try (have c62b2:(t726==t731)=true:=by simpa using c62))
    clear c62
    (first|rw [c62b0]|(simp only [i64_w,i32_w];rw [c62b0])|skip)
    by_cases c63:(!(t723==t728) || (!(t724==t729) || (!(t725==t730))))=true
    ·rw [if_pos c63] at H
     have c63b0:(!(t723==t728) || (!(t724==t729) || (!(t725==t730))))=true:=c63
     clear c63
     exact absurd H (by simp)
    ·rw [if_neg c63] at H
     have c63b0:(!(t723==t728) || (!(t724==t729) || (!(t725==t730))))=false:=by simpa using c63
     clear c63
     replace H:=bnd_ H;obtain ⟨t758,A64,H⟩:=H
     replace H:=bnd_ H;obtain ⟨t759,A65,H⟩:=H
     by_cases c66:(t758 != t759)=true
     ·rw [if_pos c66] at H
      have c66b0:(t758 != t759)=true:=c66
      (try (have c66b1:decide (t758=t759)=false:=by simpa using c66))
      (try (have c66b2:(t758==t759)=false:=by simpa using c66))
      (try (have c66b3:¬ (t758=t759):=by simpa using c66))
      clear c66
      exact absurd H (by simp)
     ·rw [if_neg c66] at H
      have c66b0:(t758 != t759)=false:=by simpa using c66
      (try (have c66b1:decide (t758=t759)=true:=by simpa using c66))
      (try (have c66b2:(t758==t759)=true:=by simpa using c66))
      clear c66
      replace H:=bnd_ H;obtain ⟨t760,A67,H⟩:=H
      replace H:=bnd_ H;obtain ⟨t761,A68,H⟩:=H
      by_cases c69:(t760 != t761)=true
      ·rw [if_pos c69] at H
       have c69b0:(t760 != t761)=true:=c69
       (try (have c69b1:decide (t760=t761)=false:=by simpa using c69))
       (try (have c69b2:(t760==t761)=false:=by simpa using c69))
       (try (have c69b3:¬ (t760=t761):=by simpa using c69))
       clear c69
       exact absurd H (by simp)
      ·rw [if_neg c69] at H
       have c69b0:(t760 != t761)=false:=by simpa using c69
       (try (have c69b1:decide (t760=t761)=true:=by simpa using c69))
       (try (have c69b2:(t760==t761)=true:=by simpa using c69))
       clear c69
       replace H:=bnd_ H;obtain ⟨⟨t762,t763⟩,A70,H⟩:=H;dsimp only at H
       replace H:=bnd_ H;obtain ⟨⟨t766,t767⟩,A71,H⟩:=H;dsimp only at H
       replace H:=bnd_ H;obtain ⟨t770,A72,H⟩:=H
       by_cases c73:t770=true
       ·subst c73
        replace H:=bT_ H
        replace H:=bnd_ H;obtain ⟨t771,A74,H⟩:=H
        replace H:=bnd_ H;obtain ⟨t772,A75,H⟩:=H
        by_cases c76:t771=t772
        ·rw [if_pos c76] at H
         have c76b0:(t771==t772)=true:=beq_iff_eq.mpr c76
         have c76b1:(t771 != t772)=false:=bne_eq_false_iff_eq.mpr c76
         clear c76
         by_cases c77:(t750 != t756)=true
         ·rw [if_pos c77] at H
          have c77b0:(t750 != t756)=true:=c77
          (try (have c77b1:decide (t750=t756)=false:=by simpa using c77))
          (try (have c77b2:(t750==t756)=false:=by simpa using c77))
          (try (have c77b3:¬ (t750=t756):=by simpa using c77))
          clear c77
          exact absurd H (by simp)
         ·rw [if_neg c77] at H
          have c77b0:(t750 != t756)=false:=by simpa using c77
          (try (have c77b1:decide (t750=t756)=true:=by simpa using c77))
          (try (have c77b2:(t750==t756)=true:=by simpa using c77))
          clear c77
          replace H:=bnd_ H;obtain ⟨t773,A78,H⟩:=H
          have H':=Aside0.mk H
          clear H
          try go_wp2
          have n0_:Aside0 (Kd.R (Kd.int .i64) 3 ((w53.setCell ⟨gb757,0,none⟩ (.int .i64 t752)).setCell ⟨gb757,1,none⟩ (.slice Ao61 t753.length co61)) w.heap.size (fun k_=>some k_≠(.slice Ao35 t734.length co35:Value).ownBlock∧some k_≠(.slice Ao40 t738.length co40:Value).ownBlock∧some k_≠(.slice Ao51 t747.length co51:Value).ownBlock∧some k_≠(.slice Ao61 t753.length co61:Value).ownBlock) (.slice Ao16 t719.length co16) t719):=⟨by (with_reducible repeat (first|apply Kd.R_alloc|apply Kd.R_drewN|apply Kd.R_drew));exact Kd.R_mono (Kd.R_far (p:=⟨gb757,1,none⟩) (Kd.R_far (p:=⟨gb757,0,none⟩) (Kd.R_types HO721.out BK757.out (by decide)) (fun _ hk=>hk.2) (.int .i64 t752)) (fun _ hk=>hk.2) (.slice Ao61 t753.length co61)) (fun _ hk=>by first|exact ⟨hk.1.1.1.1.2,⟨hk.1.1.1.2,⟨hk.1.1.2,hk.1.2⟩⟩⟩|(simp [hk];done))⟩
          have n1_:Aside0 (Kd.R (Kd.int .i64) 3 ((w53.setCell ⟨gb757,0,none⟩ (.int .i64 t752)).setCell ⟨gb757,1,none⟩ (.slice Ao61 t753.length co61)) w.heap.size (fun k_=>some k_≠(.slice Ao16 t719.length co16:Value).ownBlock∧some k_≠(.slice Ao40 t738.length co40:Value).ownBlock∧some k_≠(.slice Ao51 t747.length co51:Value).ownBlock∧some k_≠(.slice Ao61 t753.length co61:Value).ownBlock) (.slice Ao35 t734.length co35) t734):=⟨by (with_reducible repeat (first|apply Kd.R_alloc|apply Kd.R_drewN|apply Kd.R_drew));exact Kd.R_mono (Kd.R_far (p:=⟨gb757,1,none⟩) (Kd.R_far (p:=⟨gb757,0,none⟩) (Kd.R_types HO736.out BK757.out (by decide)) (fun _ hk=>hk.2) (.int .i64 t752)) (fun _ hk=>hk.2) (.slice Ao61 t753.length co61)) (fun _ hk=>by first|exact ⟨hk.1.1.1.2,⟨hk.1.1.1.1,⟨hk.1.1.2,hk.1.2⟩⟩⟩|(simp [hk];done))⟩
          have n2_:Aside0 (Kd.R (Kd.int .i64) 3 ((w53.setCell ⟨gb757,0,none⟩ (.int .i64 t752)).setCell ⟨gb757,1,none⟩ (.slice Ao61 t753.length co61)) w.heap.size (fun k_=>some k_≠(.slice Ao16 t719.length co16:Value).ownBlock∧some k_≠(.slice Ao35 t734.length co35:Value).ownBlock∧some k_≠(.slice Ao51 t747.length co51:Value).ownBlock∧some k_≠(.slice Ao61 t753.length co61:Value).ownBlock) (.slice Ao40 t738.length co40) t738):=⟨by (with_reducible repeat (first|apply Kd.R_alloc|apply Kd.R_drewN|apply Kd.R_drew));exact Kd.R_mono (Kd.R_far (p:=⟨gb757,1,none⟩) (Kd.R_far (p:=⟨gb757,0,none⟩) (Kd.R_types HO740.out BK757.out (by decide)) (fun _ hk=>hk.2) (.int .i64 t752)) (fun _ hk=>hk.2) (.slice Ao61 t753.length co61)) (fun _ hk=>by first|exact ⟨hk.1.1.1.2,⟨hk.1.1.1.1,⟨hk.1.1.2,hk.1.2⟩⟩⟩|(simp [hk];done))⟩
          have n3_:Aside0 (Kd.R (Kd.int .i64) 3 ((w53.setCell ⟨gb757,0,none⟩ (.int .i64 t752)).setCell ⟨gb757,1,none⟩ (.slice Ao61 t753.length co61)) w.heap.size (fun k_=>some k_≠(.slice Ao16 t719.length co16:Value).ownBlock∧some k_≠(.slice Ao35 t734.length co35:Value).ownBlock∧some k_≠(.slice Ao40 t738.length co40:Value).ownBlock∧some k_≠(.slice Ao61 t753.length co61:Value).ownBlock) (.slice Ao51 t747.length co51) t747):=⟨by (with_reducible repeat (first|apply Kd.R_alloc|apply Kd.R_drewN|apply Kd.R_drew));exact Kd.R_mono (Kd.R_far (p:=⟨gb757,1,none⟩) (Kd.R_far (p:=⟨gb757,0,none⟩) (Kd.R_types HO749.out BK757.out (by decide)) (fun _ hk=>hk.2) (.int .i64 t752)) (fun _ hk=>hk.2) (.slice Ao61 t753.length co61)) (fun _ hk=>by first|exact ⟨hk.1.1.1.1.2,⟨hk.1.1.1.2,⟨hk.1.1.2,hk.1.2⟩⟩⟩|(simp [hk];done))⟩
          have n4_:Aside0 (Kd.R (Kd.int .i64) 3 ((w53.setCell ⟨gb757,0,none⟩ (.int .i64 t752)).setCell ⟨gb757,1,none⟩ (.slice Ao61 t753.length co61)) w.heap.size (fun k_=>some k_≠(.slice Ao16 t719.length co16:Value).ownBlock∧some k_≠(.slice Ao35 t734.length co35:Value).ownBlock∧some k_≠(.slice Ao40 t738.length co40:Value).ownBlock∧some k_≠(.slice Ao51 t747.length co51:Value).ownBlock) (.slice Ao61 t753.length co61) t753):=⟨by (with_reducible repeat (first|apply Kd.R_alloc|apply Kd.R_drewN|apply Kd.R_drew));exact Kd.R_mono (Kd.R_far (p:=⟨gb757,1,none⟩) (Kd.R_far (p:=⟨gb757,0,none⟩) (Kd.R_types HO755.out BK757.out (by decide)) (fun _ hk=>hk.2) (.int .i64 t752)) (fun _ hk=>hk.2) (.slice Ao61 t753.length co61)) (fun _ hk=>by first|exact ⟨hk.1.1.1.1.2,⟨hk.1.1.1.2,⟨hk.1.1.2,hk.1.2⟩⟩⟩|(simp [hk];done))⟩
          have n5_:Aside0 (((w53.setCell ⟨gb757,0,none⟩ (.int .i64 t752)).setCell ⟨gb757,1,none⟩ (.slice Ao61 t753.length co61)).heap[gb722]?=some (.cells #[.int .i64 t718,.slice Ao16 t719.length co16] 24 (0,0))):=⟨bkC_ BK722.out⟩
          have n6_:Aside0 (((w53.setCell ⟨gb757,0,none⟩ (.int .i64 t752)).setCell ⟨gb757,1,none⟩ (.slice Ao61 t753.length co61)).heap[gb727]?=some (.cells #[.int .i64 t723,.int .i64 t724,.int .i64 t725] 49 (0,0))):=⟨bkC_ BK727.out⟩
          have n7_:Aside0 (((w53.setCell ⟨gb757,0,none⟩ (.int .i64 t752)).setCell ⟨gb757,1,none⟩ (.slice Ao61 t753.length co61)).heap[gb732]?=some (.cells #[.int .i64 t728,.int .i64 t729,.int .i64 t730] 49 (0,0))):=⟨bkC_ BK732.out⟩
          have n8_:Aside0 (((w53.setCell ⟨gb757,0,none⟩ (.int .i64 t752)).setCell ⟨gb757,1,none⟩ (.slice Ao61 t753.length co61)).heap[gb741]?=some (.cells #[.int .i64 t733,.slice Ao35 t734.length co35] 24 (0,0))):=⟨bkC_ BK741.out⟩
          have n9_:Aside0 (((w53.setCell ⟨gb757,0,none⟩ (.int .i64 t752)).setCell ⟨gb757,1,none⟩ (.slice Ao61 t753.length co61)).heap[gb742]?=some (.cells #[.int .i64 t737,.slice Ao40 t738.length co40] 24 (0,0))):=⟨bkC_ BK742.out⟩
          have n10_:Aside0 (((w53.setCell ⟨gb757,0,none⟩ (.int .i64 t752)).setCell ⟨gb757,1,none⟩ (.slice Ao61 t753.length co61)).heap[gb751]?=some (.cells #[.int .i64 t746,.slice Ao51 t747.length co51] 24 (0,0))):=⟨bkC_ BK751.out⟩
          have n11_:Aside0 (((w53.setCell ⟨gb757,0,none⟩ (.int .i64 t752)).setCell ⟨gb757,1,none⟩ (.slice Ao61 t753.length co61)).heap[gb757]?=some (.cells #[.int .i64 t752,.slice Ao61 t753.length co61] 24 (0,0))):=⟨by (with_reducible repeat (first|refine blk_drewN ?_ _|refine blk_drew ?_|refine blk_alloc ?_ _));refine blk_put (cs:=#[.int .i64 t752,.slice none 0 0]) ?_ 1 _ rfl;(with_reducible repeat (first|refine blk_drewN ?_ _|refine blk_drew ?_|refine blk_alloc ?_ _));refine blk_put (cs:=#[.int .i64 0,.slice none 0 0]) ?_ 0 _ rfl;exact bkC_ BK757.out⟩
          have n12_:Aside0 (Below w.heap.size w ((w53.setCell ⟨gb757,0,none⟩ (.int .i64 t752)).setCell ⟨gb757,1,none⟩ (.slice Ao61 t753.length co61))):=⟨h_HB HB.out⟩
          (try clear HO721)
          (try clear HO736)
          (try clear HO740)
          (try clear HO749)
          (try clear HO755)
          (try clear BK722)
          (try clear BK727)
          (try clear BK732)
          (try clear BK741)
          (try clear BK742)
          (try clear BK751)
          (try clear BK757)
          (try clear HB)
          generalize ((w53.setCell ⟨gb757,0,none⟩ (.int .i64 t752)).setCell ⟨gb757,1,none⟩ (.slice Ao61 t753.length co61))=w79 at n0_ n1_ n2_ n3_ n4_ n5_ n6_ n7_ n8_ n9_ n10_ n11_ n12_ ⊢
          have HO721:=n0_
          have HO736:=n1_
          have HO740:=n2_
          have HO749:=n3_
          have HO755:=n4_
          have BK722:=n5_
          have BK727:=n6_
          have BK732:=n7_
          have BK741:=n8_
          have BK742:=n9_
          have BK751:=n10_
          have BK757:=n11_
          have HB:=n12_
          clear n0_ n1_ n2_ n3_ n4_ n5_ n6_ n7_ n8_ n9_ n10_ n11_ n12_
          have n0_:=Aside0.mk (Kd.R_drew HO721.out)
          have n1_:=Aside0.mk (Kd.R_drew HO736.out)
          have n2_:=Aside0.mk (Kd.R_drew HO740.out)
          have n3_:=Aside0.mk (Kd.R_drew HO749.out)
          have n4_:=Aside0.mk (Kd.R_drew HO755.out)
          have n5_:=Aside0.mk (blk_drew BK722.out)
          have n6_:=Aside0.mk (blk_drew BK727.out)
          have n7_:=Aside0.mk (blk_drew BK732.out)
          have n8_:=Aside0.mk (blk_drew BK741.out)
          have n9_:=Aside0.mk (blk_drew BK742.out)
          have n10_:=Aside0.mk (blk_drew BK751.out)
          have n11_:=Aside0.mk (blk_drew BK757.out)
          have n12_:=Aside0.mk (below_drew1 HB.out)
          clear HO721
          clear HO736
          clear HO740
          clear HO749
          clear HO755
          clear BK722
          clear BK727
          clear BK732
          clear BK741
          clear BK742
          clear BK751
          clear BK757
          clear HB
          have HO721:=n0_
          have HO736:=n1_
          have HO740:=n2_
          have HO749:=n3_
          have HO755:=n4_
          have BK722:=n5_
          have BK727:=n6_
          have BK732:=n7_
          have BK741:=n8_
          have BK742:=n9_
          have BK751:=n10_
          have BK757:=n11_
          have HB:=n12_
          clear n0_ n1_ n2_ n3_ n4_ n5_ n6_ n7_ n8_ n9_ n10_ n11_ n12_
          refine start_ (n:=52) (S:=fun w'=>w'.cell? ⟨gb727,0,none⟩=some (.int .i64 t723)∧w'.cell? ⟨gb727,1,none⟩=some (.int .i64 t724)∧w'.cell? ⟨gb727,2,none⟩=some (.int .i64 t725)∧w'.cell? ⟨gb732,0,none⟩=some (.int .i64 t728)∧w'.cell? ⟨gb732,1,none⟩=some (.int .i64 t729)∧w'.cell? ⟨gb732,2,none⟩=some (.int .i64 t730)∧w'.cell? ⟨gb722,0,none⟩=some (.int .i64 t718)∧w'.cell? ⟨gb722,1,none⟩=some (.slice Ao16 t719.length co16)∧w'.cell? ⟨gb741,0,none⟩=some (.int .i64 t733)∧w'.cell? ⟨gb741,1,none⟩=some (.slice Ao35 t734.length co35)∧w'.cell? ⟨gb742,0,none⟩=some (.int .i64 t737)∧w'.cell? ⟨gb742,1,none⟩=some (.slice Ao40 t738.length co40)∧w'.cell? ⟨gb751,0,none⟩=some (.int .i64 t746)∧w'.cell? ⟨gb751,1,none⟩=some (.slice Ao51 t747.length co51)∧w'.cell? ⟨gb757,0,none⟩=some (.int .i64 t752)∧w'.cell? ⟨gb757,1,none⟩=some (.slice Ao61 t753.length co61)) (ds:=[]) #[F_,F_,F_,F_,F_,F_,F_,F_,F_,F_,F_,F_,F_,F_,F_,F_,F_,F_,F_,F_,F_,F_,F_,F_,F_,F_,F_,F_,F_,F_,F_,F_,F_,F_,F_,F_,F_,F_,F_,F_,F_,F_,F_,F_,F_,F_,F_,F_,F_,F_,F_,F_] krT_ rfl rfl ⟨(blk_cell BK727.out 0).trans rfl,(blk_cell BK727.out 1).trans rfl,(blk_cell BK727.out 2).trans rfl,(blk_cell BK732.out 0).trans rfl,(blk_cell BK732.out 1).trans rfl,(blk_cell BK732.out 2).trans rfl,(blk_cell BK722.out 0).trans rfl,(blk_cell BK722.out 1).trans rfl,(blk_cell BK741.out 0).trans rfl,(blk_cell BK741.out 1).trans rfl,(blk_cell BK742.out 0).trans rfl,(blk_cell BK742.out 1).trans rfl,(blk_cell BK751.out 0).trans rfl,(blk_cell BK751.out 1).trans rfl,(blk_cell BK757.out 0).trans rfl,(blk_cell BK757.out 1).trans rfl⟩ (fun hHeld=>?_);refine with_tabW laws_FnMatroids.tab11 laws_FnMatroids.bits11 (fun HT_ HW_=>?_)
          generalize w79.drew=w80 at HO721 HO736 HO740 HO749 HO755 BK722 BK727 BK732 BK741 BK742 BK751 BK757 HB hHeld ⊢
          refine pu_ 0 (some 57) (bm_ 52 1) rfl rfl HT_.out ?_
          refine pu_ 1 (some 58) (bm_ 52 3) rfl rfl HT_.out ?_
          refine pu_ 2 (some 59) (bm_ 52 7) rfl rfl HT_.out ?_
          refine pu_ 3 (some 60) (bm_ 52 15) rfl rfl HT_.out ?_
          refine take_ (i:=4) (N:=some 61) (v:=?_) (a':=?_) (bm_ 52 31) rfl rfl (take_ofW HT_.out HW_.out krT_) (fun _ _ _ h=>h) (Or.inl ⟨by rfl,?_⟩) hHeld ?_ ?_
          rotate_left
          ·rintro w' ⟨s0,s1,s2,s3,s4,s5,s6,s7,s8,s9,s10,s11,s12,s13,s14,s15⟩
           go_simp
           with_reducible rfl
          rotate_left;exact apT_
          refine take_ (i:=5) (N:=some 62) (v:=?_) (a':=?_) (bm_ 52 63) rfl rfl (take_ofW HT_.out HW_.out krT_) (fun _ _ _ h=>h) (Or.inl ⟨by rfl,?_⟩) hHeld ?_ ?_
          rotate_left
          ·rintro w' ⟨s0,s1,s2,s3,s4,s5,s6,s7,s8,s9,s10,s11,s12,s13,s14,s15⟩
           go_simp
           with_reducible rfl
          rotate_left;exact apT_
          refine pu_ 6 (some 63) (bm_ 52 127) rfl rfl HT_.out ?_
          refine pu_ 7 (some 64) (bm_ 52 255) rfl rfl HT_.out ?_
          refine pu_ 8 (some 65) (bm_ 52 511) rfl rfl HT_.out ?_
          refine take_ (i:=9) (N:=some 66) (v:=?_) (a':=?_) (bm_ 52 1023) rfl rfl (take_ofW HT_.out HW_.out krT_) (fun _ _ _ h=>h) (Or.inl ⟨by rfl,?_⟩) hHeld ?_ ?_
          rotate_left
          ·rintro w' ⟨s0,s1,s2,s3,s4,s5,s6,s7,s8,s9,s10,s11,s12,s13,s14,s15⟩
           go_simp
           with_reducible rfl
          rotate_left;exact apT_
          refine take_ (i:=11) (N:=some 68) (v:=?_) (a':=?_) (bm_ 52 3071) rfl rfl (take_ofW HT_.out HW_.out krT_) (fun _ _ _ h=>h) (Or.inl ⟨by rfl,?_⟩) hHeld ?_ ?_
          rotate_left
          ·rintro w' ⟨s0,s1,s2,s3,s4,s5,s6,s7,s8,s9,s10,s11,s12,s13,s14,s15⟩
           go_simp
           with_reducible rfl
          rotate_left;exact apT_
          refine one_ (i:=10) (N:=some 67) (bm_ 52 4095) rfl rfl (one_of HT_.out krT_) (by decide) (fun K hK=>?_)
          refine goes_ Tryz.func44 krT_ rfl #[.agg #[.int .i64 t718,.slice Ao16 t719.length co16]] (by rfl) rfl rfl agT_ ?_
          with_reducible refine (impl_IsMatroid.calls k t718 _ _ t719 t758 _ ?side1 ?side2 A64.out).mono ?_
          (case side1=>repeat (first|exact (Kd.R_reads' HO721.out).2.2|(with_reducible refine Kd.C_alloc ?_ _)|(with_reducible refine Kd.C_drewN ?_ _)|(with_reducible refine Kd.C_drew ?_)))
          (case side2=>exact (Kd.R_reads' HO721.out).2.1)
          rintro e w81 ⟨rfl,hb⟩
          refine ⟨_,rfl,?_⟩
          have n0_:=Aside0.mk (Kd.R_below (kRC_ HO721.out) hb)
          have n1_:=Aside0.mk (Kd.R_below (kRC_ HO736.out) hb)
          have n2_:=Aside0.mk (Kd.R_below (kRC_ HO740.out) hb)
          have n3_:=Aside0.mk (Kd.R_below (kRC_ HO749.out) hb)
          have n4_:=Aside0.mk (Kd.R_below (kRC_ HO755.out) hb)
          have n5_:=Aside0.mk (blkB_ BK722.out hb)
          have n6_:=Aside0.mk (blkB_ BK727.out hb)
          have n7_:=Aside0.mk (blkB_ BK732.out hb)
          have n8_:=Aside0.mk (blkB_ BK741.out hb)
          have n9_:=Aside0.mk (blkB_ BK742.out hb)
          have n10_:=Aside0.mk (blkB_ BK751.out hb)
          have n11_:=Aside0.mk (blkB_ BK757.out hb)
          have n12_:=Aside0.mk (below_step (h_HB HB.out) hb)
          clear HO721
          clear HO736
          clear HO740
          clear HO749
          clear HO755
          clear BK722
          clear BK727
          clear BK732
          clear BK741
          clear BK742
          clear BK751
          clear BK757
          clear HB
          have HO721:=n0_
          have HO736:=n1_
          have HO740:=n2_
          have HO749:=n3_
          have HO755:=n4_
          have BK722:=n5_
          have BK727:=n6_
          have BK732:=n7_
          have BK741:=n8_
          have BK742:=n9_
          have BK751:=n10_
          have BK757:=n11_
          have HB:=n12_
          clear n0_ n1_ n2_ n3_ n4_ n5_ n6_ n7_ n8_ n9_ n10_ n11_ n12_
          (try clear hb)
          (try clear hb2)
          (try clear hk)
          (try clear hi)
          refine hK.out _ _ ⟨(blk_cell BK727.out 0).trans rfl,(blk_cell BK727.out 1).trans rfl,(blk_cell BK727.out 2).trans rfl,(blk_cell BK732.out 0).trans rfl,(blk_cell BK732.out 1).trans rfl,(blk_cell BK732.out 2).trans rfl,(blk_cell BK722.out 0).trans rfl,(blk_cell BK722.out 1).trans rfl,(blk_cell BK741.out 0).trans rfl,(blk_cell BK741.out 1).trans rfl,(blk_cell BK742.out 0).trans rfl,(blk_cell BK742.out 1).trans rfl,(blk_cell BK751.out 0).trans rfl,(blk_cell BK751.out 1).trans rfl,(blk_cell BK757.out 0).trans rfl,(blk_cell BK757.out 1).trans rfl⟩ (fun hHeld=>?_)
          clear hK K
          refine norm_ (a':=?_) ?_ ?_
          rotate_left
          ·show Act.put _ (some 67) _=_
           simp only [Act.put,List.setIfInBounds_toArray,List.set_cons_zero,List.set_cons_succ,i64_w,i32_w]
           rfl
          refine one_ (i:=12) (N:=some 69) (bm_ 52 8191) rfl rfl (one_of HT_.out krT_) (by decide) (fun K hK=>?_)
          refine goes_ Tryz.func45 krT_ rfl #[.agg #[.int .i64 t718,.slice Ao16 t719.length co16]] (by rfl) rfl rfl agT_ ?_
          with_reducible refine (spec_IsMatroid.calls k t718 _ _ t719 t759 _ ?side1 ?side2 A65.out).mono ?_
          (case side1=>repeat (first|exact (Kd.R_reads' HO721.out).2.2|(with_reducible refine Kd.C_alloc ?_ _)|(with_reducible refine Kd.C_drewN ?_ _)|(with_reducible refine Kd.C_drew ?_)))
          (case side2=>exact (Kd.R_reads' HO721.out).2.1)
          rintro e w82 ⟨rfl,hb⟩
          refine ⟨_,rfl,?_⟩
          have n0_:=Aside0.mk (Kd.R_below (kRC_ HO721.out) hb)
          have n1_:=Aside0.mk (Kd.R_below (kRC_ HO736.out) hb)
          have n2_:=Aside0.mk (Kd.R_below (kRC_ HO740.out) hb)
          have n3_:=Aside0.mk (Kd.R_below (kRC_ HO749.out) hb)
          have n4_:=Aside0.mk (Kd.R_below (kRC_ HO755.out) hb)
          have n5_:=Aside0.mk (blkB_ BK722.out hb)
          have n6_:=Aside0.mk (blkB_ BK727.out hb)
          have n7_:=Aside0.mk (blkB_ BK732.out hb)
          have n8_:=Aside0.mk (blkB_ BK741.out hb)
          have n9_:=Aside0.mk (blkB_ BK742.out hb)
          have n10_:=Aside0.mk (blkB_ BK751.out hb)
          have n11_:=Aside0.mk (blkB_ BK757.out hb)
          have n12_:=Aside0.mk (below_step (h_HB HB.out) hb)
          clear HO721
          clear HO736
          clear HO740
          clear HO749
          clear HO755
          clear BK722
          clear BK727
          clear BK732
          clear BK741
          clear BK742
          clear BK751
          clear BK757
          clear HB
          have HO721:=n0_
          have HO736:=n1_
          have HO740:=n2_
          have HO749:=n3_
          have HO755:=n4_
          have BK722:=n5_
          have BK727:=n6_
          have BK732:=n7_
          have BK741:=n8_
          have BK742:=n9_
          have BK751:=n10_
          have BK757:=n11_
          have HB:=n12_
          clear n0_ n1_ n2_ n3_ n4_ n5_ n6_ n7_ n8_ n9_ n10_ n11_ n12_
          (try clear hb)
          (try clear hb2)
          (try clear hk)
          (try clear hi)
          refine hK.out _ _ ⟨(blk_cell BK727.out 0).trans rfl,(blk_cell BK727.out 1).trans rfl,(blk_cell BK727.out 2).trans rfl,(blk_cell BK732.out 0).trans rfl,(blk_cell BK732.out 1).trans rfl,(blk_cell BK732.out 2).trans rfl,(blk_cell BK722.out 0).trans rfl,(blk_cell BK722.out 1).trans rfl,(blk_cell BK741.out 0).trans rfl,(blk_cell BK741.out 1).trans rfl,(blk_cell BK742.out 0).trans rfl,(blk_cell BK742.out 1).trans rfl,(blk_cell BK751.out 0).trans rfl,(blk_cell BK751.out 1).trans rfl,(blk_cell BK757.out 0).trans rfl,(blk_cell BK757.out 1).trans rfl⟩ (fun hHeld=>?_)
          clear hK K
          refine norm_ (a':=?_) ?_ ?_
          rotate_left
          ·show Act.put _ (some 69) _=_
           simp only [Act.put,List.setIfInBounds_toArray,List.set_cons_zero,List.set_cons_succ,i64_w,i32_w]
           rfl
          refine pu_ 13 (some 70) (bm_ 52 16383) rfl rfl HT_.out ?_
          refine pu_ 14 (some 71) (bm_ 52 32767) rfl rfl HT_.out ?_
          refine pu_ 15 (some 72) (bm_ 52 65535) rfl rfl HT_.out ?_
          refine take_ (i:=16) (N:=some 73) (v:=?_) (a':=?_) (bm_ 52 131071) rfl rfl (take_ofW HT_.out HW_.out krT_) (fun _ _ _ h=>h) (Or.inl ⟨by rfl,?_⟩) hHeld ?_ ?_
          rotate_left
          ·rintro w' ⟨s0,s1,s2,s3,s4,s5,s6,s7,s8,s9,s10,s11,s12,s13,s14,s15⟩
           go_simp
           with_reducible rfl
          rotate_left;exact apT_
          refine take_ (i:=17) (N:=some 74) (v:=?_) (a':=?_) (bm_ 52 262143) rfl rfl (take_ofW HT_.out HW_.out krT_) (fun _ _ _ h=>h) (Or.inl ⟨by rfl,?_⟩) hHeld ?_ ?_
          rotate_left
          ·rintro w' ⟨s0,s1,s2,s3,s4,s5,s6,s7,s8,s9,s10,s11,s12,s13,s14,s15⟩
           go_simp
           with_reducible rfl
          rotate_left;exact apT_
          refine take_ (i:=19) (N:=some 76) (v:=?_) (a':=?_) (bm_ 52 786431) rfl rfl (take_ofW HT_.out HW_.out krT_) (fun _ _ _ h=>h) (Or.inl ⟨by rfl,?_⟩) hHeld ?_ ?_
          rotate_left
          ·rintro w' ⟨s0,s1,s2,s3,s4,s5,s6,s7,s8,s9,s10,s11,s12,s13,s14,s15⟩
           go_simp
           with_reducible rfl
          rotate_left;exact apT_
          refine take_ (i:=20) (N:=some 77) (v:=?_) (a':=?_) (bm_ 52 1835007) rfl rfl (take_ofW HT_.out HW_.out krT_) (fun _ _ _ h=>h) (Or.inl ⟨by rfl,?_⟩) hHeld ?_ ?_
          rotate_left
          ·rintro w' ⟨s0,s1,s2,s3,s4,s5,s6,s7,s8,s9,s10,s11,s12,s13,s14,s15⟩
           go_simp
           with_reducible rfl
          rotate_left;exact apT_
          refine one_ (i:=18) (N:=some 75) (bm_ 52 2097151) rfl rfl (one_of HT_.out krT_) (by decide) (fun K hK=>?_)
          refine goes_ Tryz.func46 krT_ rfl #[.agg #[.int .i64 t733,.slice Ao35 t734.length co35],.agg #[.int .i64 t737,.slice Ao40 t738.length co40]] (by rfl) rfl rfl agT_ ?_
          with_reducible refine (impl_EqualMatroid.calls k t733 _ _ t734 t737 _ _ t738 t760 _ ?side1 ?side2 ?side3 ?side4 A67.out).mono ?_
          (case side1=>repeat (first|exact (Kd.R_reads' HO736.out).2.2|(with_reducible refine Kd.C_alloc ?_ _)|(with_reducible refine Kd.C_drewN ?_ _)|(with_reducible refine Kd.C_drew ?_)))
          (case side2=>exact (Kd.R_reads' HO736.out).2.1)
          (case side3=>repeat (first|exact (Kd.R_reads' HO740.out).2.2|(with_reducible refine Kd.C_alloc ?_ _)|(with_reducible refine Kd.C_drewN ?_ _)|(with_reducible refine Kd.C_drew ?_)))
          (case side4=>exact (Kd.R_reads' HO740.out).2.1)
          rintro e w83 ⟨rfl,hb⟩
          refine ⟨_,rfl,?_⟩
          have n0_:=Aside0.mk (Kd.R_below (kRC_ HO721.out) hb)
          have n1_:=Aside0.mk (Kd.R_below (kRC_ HO736.out) hb)
          have n2_:=Aside0.mk (Kd.R_below (kRC_ HO740.out) hb)
          have n3_:=Aside0.mk (Kd.R_below (kRC_ HO749.out) hb)
          have n4_:=Aside0.mk (Kd.R_below (kRC_ HO755.out) hb)
          have n5_:=Aside0.mk (blkB_ BK722.out hb)
          have n6_:=Aside0.mk (blkB_ BK727.out hb)
          have n7_:=Aside0.mk (blkB_ BK732.out hb)
          have n8_:=Aside0.mk (blkB_ BK741.out hb)
          have n9_:=Aside0.mk (blkB_ BK742.out hb)
          have n10_:=Aside0.mk (blkB_ BK751.out hb)
          have n11_:=Aside0.mk (blkB_ BK757.out hb)
          have n12_:=Aside0.mk (below_step (h_HB HB.out) hb)
          clear HO721
          clear HO736
          clear HO740
          clear HO749
          clear HO755
          clear BK722
          clear BK727
          clear BK732
          clear BK741
          clear BK742
          clear BK751
          clear BK757
          clear HB
          have HO721:=n0_
          have HO736:=n1_
          have HO740:=n2_
          have HO749:=n3_
          have HO755:=n4_
          have BK722:=n5_
          have BK727:=n6_
          have BK732:=n7_
          have BK741:=n8_
          have BK742:=n9_
          have BK751:=n10_
          have BK757:=n11_
          have HB:=n12_
          clear n0_ n1_ n2_ n3_ n4_ n5_ n6_ n7_ n8_ n9_ n10_ n11_ n12_
          (try clear hb)
          (try clear hb2)
          (try clear hk)
          (try clear hi)
          refine hK.out _ _ ⟨(blk_cell BK727.out 0).trans rfl,(blk_cell BK727.out 1).trans rfl,(blk_cell BK727.out 2).trans rfl,(blk_cell BK732.out 0).trans rfl,(blk_cell BK732.out 1).trans rfl,(blk_cell BK732.out 2).trans rfl,(blk_cell BK722.out 0).trans rfl,(blk_cell BK722.out 1).trans rfl,(blk_cell BK741.out 0).trans rfl,(blk_cell BK741.out 1).trans rfl,(blk_cell BK742.out 0).trans rfl,(blk_cell BK742.out 1).trans rfl,(blk_cell BK751.out 0).trans rfl,(blk_cell BK751.out 1).trans rfl,(blk_cell BK757.out 0).trans rfl,(blk_cell BK757.out 1).trans rfl⟩ (fun hHeld=>?_)
          clear hK K
          refine norm_ (a':=?_) ?_ ?_
          rotate_left
          ·show Act.put _ (some 75) _=_
           simp only [Act.put,List.setIfInBounds_toArray,List.set_cons_zero,List.set_cons_succ,i64_w,i32_w]
           rfl
          refine one_ (i:=21) (N:=some 78) (bm_ 52 4194303) rfl rfl (one_of HT_.out krT_) (by decide) (fun K hK=>?_)
          refine goes_ Tryz.func47 krT_ rfl #[.agg #[.int .i64 t733,.slice Ao35 t734.length co35],.agg #[.int .i64 t737,.slice Ao40 t738.length co40]] (by rfl) rfl rfl agT_ ?_
          with_reducible refine (spec_EqualMatroid.calls k t733 _ _ t734 t737 _ _ t738 t761 _ ?side1 ?side2 ?side3 ?side4 A68.out).mono ?_
          (case side1=>repeat (first|exact (Kd.R_reads' HO736.out).2.2|(with_reducible refine Kd.C_alloc ?_ _)|(with_reducible refine Kd.C_drewN ?_ _)|(with_reducible refine Kd.C_drew ?_)))
          (case side2=>exact (Kd.R_reads' HO736.out).2.1)
          (case side3=>repeat (first|exact (Kd.R_reads' HO740.out).2.2|(with_reducible refine Kd.C_alloc ?_ _)|(with_reducible refine Kd.C_drewN ?_ _)|(with_reducible refine Kd.C_drew ?_)))
          (case side4=>exact (Kd.R_reads' HO740.out).2.1)
          rintro e w84 ⟨rfl,hb⟩
          refine ⟨_,rfl,?_⟩
          have n0_:=Aside0.mk (Kd.R_below (kRC_ HO721.out) hb)
          have n1_:=Aside0.mk (Kd.R_below (kRC_ HO736.out) hb)
          have n2_:=Aside0.mk (Kd.R_below (kRC_ HO740.out) hb)
          have n3_:=Aside0.mk (Kd.R_below (kRC_ HO749.out) hb)
          have n4_:=Aside0.mk (Kd.R_below (kRC_ HO755.out) hb)
          have n5_:=Aside0.mk (blkB_ BK722.out hb)
          have n6_:=Aside0.mk (blkB_ BK727.out hb)
          have n7_:=Aside0.mk (blkB_ BK732.out hb)
          have n8_:=Aside0.mk (blkB_ BK741.out hb)
          have n9_:=Aside0.mk (blkB_ BK742.out hb)
          have n10_:=Aside0.mk (blkB_ BK751.out hb)
          have n11_:=Aside0.mk (blkB_ BK757.out hb)
          have n12_:=Aside0.mk (below_step (h_HB HB.out) hb)
          clear HO721
          clear HO736
          clear HO740
          clear HO749
          clear HO755
          clear BK722
          clear BK727
          clear BK732
          clear BK741
          clear BK742
          clear BK751
          clear BK757
          clear HB
          have HO721:=n0_
          have HO736:=n1_
          have HO740:=n2_
          have HO749:=n3_
          have HO755:=n4_
          have BK722:=n5_
          have BK727:=n6_
          have BK732:=n7_
          have BK741:=n8_
          have BK742:=n9_
          have BK751:=n10_
          have BK757:=n11_
          have HB:=n12_
          clear n0_ n1_ n2_ n3_ n4_ n5_ n6_ n7_ n8_ n9_ n10_ n11_ n12_
          (try clear hb)
          (try clear hb2)
          (try clear hk)
          (try clear hi)
          refine hK.out _ _ ⟨(blk_cell BK727.out 0).trans rfl,(blk_cell BK727.out 1).trans rfl,(blk_cell BK727.out 2).trans rfl,(blk_cell BK732.out 0).trans rfl,(blk_cell BK732.out 1).trans rfl,(blk_cell BK732.out 2).trans rfl,(blk_cell BK722.out 0).trans rfl,(blk_cell BK722.out 1).trans rfl,(blk_cell BK741.out 0).trans rfl,(blk_cell BK741.out 1).trans rfl,(blk_cell BK742.out 0).trans rfl,(blk_cell BK742.out 1).trans rfl,(blk_cell BK751.out 0).trans rfl,(blk_cell BK751.out 1).trans rfl,(blk_cell BK757.out 0).trans rfl,(blk_cell BK757.out 1).trans rfl⟩ (fun hHeld=>?_)
          clear hK K
          refine norm_ (a':=?_) ?_ ?_
          rotate_left
          ·show Act.put _ (some 78) _=_
           simp only [Act.put,List.setIfInBounds_toArray,List.set_cons_zero,List.set_cons_succ,i64_w,i32_w]
           rfl
          refine pu_ 22 (some 79) (bm_ 52 8388607) rfl rfl HT_.out ?_
          refine pu_ 23 (some 80) (bm_ 52 16777215) rfl rfl HT_.out ?_
          refine pu_ 24 (some 81) (bm_ 52 33554431) rfl rfl HT_.out ?_
          refine pu_ 25 (some 82) (bm_ 52 67108863) rfl rfl HT_.out ?_
          refine pu_ 26 (some 83) (bm_ 52 134217727) rfl rfl HT_.out ?_
          refine pu_ 28 (some 85) (bm_ 52 402653183) rfl rfl HT_.out ?_
          refine pu_ 29 (some 86) (bm_ 52 939524095) rfl rfl HT_.out ?_
          refine one_ (i:=27) (N:=some 84) (bm_ 52 1073741823) rfl rfl (one_of HT_.out krT_) (by decide) (fun K hK=>?_)
          refine goes_ Tryz.func48 krT_ rfl #[.int .i64 t743,.int .i64 t744] (by rfl) rfl rfl agT_ ?_
          with_reducible refine (impl_Uniform.calls k t743 t744 t762 t763 _ A70.out).mono ?_
          rintro e w85 ⟨v764,rfl,ho0,hb⟩
          refine ⟨_,rfl,?_⟩
          have n0_:=Aside0.mk (Kd.R_elder' (kRC_ HO721.out) (Kd.R_base ho0) hb)
          have n1_:=Aside0.mk (Kd.R_elder' (kRC_ HO736.out) (Kd.R_base ho0) hb)
          have n2_:=Aside0.mk (Kd.R_elder' (kRC_ HO740.out) (Kd.R_base ho0) hb)
          have n3_:=Aside0.mk (Kd.R_elder' (kRC_ HO749.out) (Kd.R_base ho0) hb)
          have n4_:=Aside0.mk (Kd.R_elder' (kRC_ HO755.out) (Kd.R_base ho0) hb)
          have n5_:=Aside0.mk (Kd.R_lower (Kd.R_new' (Kd.R_new' (Kd.R_new' (Kd.R_new' (Kd.R_new' ho0 (Kd.R_lt (kRC_ HO721.out))) (Kd.R_lt (kRC_ HO736.out))) (Kd.R_lt (kRC_ HO740.out))) (Kd.R_lt (kRC_ HO749.out))) (Kd.R_lt (kRC_ HO755.out))) (below_size (h_HB HB.out)))
          have n6_:=Aside0.mk (blkB_ BK722.out hb)
          have n7_:=Aside0.mk (blkB_ BK727.out hb)
          have n8_:=Aside0.mk (blkB_ BK732.out hb)
          have n9_:=Aside0.mk (blkB_ BK741.out hb)
          have n10_:=Aside0.mk (blkB_ BK742.out hb)
          have n11_:=Aside0.mk (blkB_ BK751.out hb)
          have n12_:=Aside0.mk (blkB_ BK757.out hb)
          have n13_:=Aside0.mk (below_step (h_HB HB.out) hb)
          clear HO721
          clear HO736
          clear HO740
          clear HO749
          clear HO755
          clear BK722
          clear BK727
          clear BK732
          clear BK741
          clear BK742
          clear BK751
          clear BK757
          clear HB
          have HO721:=n0_
          have HO736:=n1_
          have HO740:=n2_
          have HO749:=n3_
          have HO755:=n4_
          have HO765:=n5_
          have BK722:=n6_
          have BK727:=n7_
          have BK732:=n8_
          have BK741:=n9_
          have BK742:=n10_
          have BK751:=n11_
          have BK757:=n12_
          have HB:=n13_
          clear n0_ n1_ n2_ n3_ n4_ n5_ n6_ n7_ n8_ n9_ n10_ n11_ n12_ n13_
          (try clear hb)
          (try clear hb2)
          (try clear hk)
          (try clear hi)
          (try clear ho0)
          refine hK.out _ _ ⟨(blk_cell BK727.out 0).trans rfl,(blk_cell BK727.out 1).trans rfl,(blk_cell BK727.out 2).trans rfl,(blk_cell BK732.out 0).trans rfl,(blk_cell BK732.out 1).trans rfl,(blk_cell BK732.out 2).trans rfl,(blk_cell BK722.out 0).trans rfl,(blk_cell BK722.out 1).trans rfl,(blk_cell BK741.out 0).trans rfl,(blk_cell BK741.out 1).trans rfl,(blk_cell BK742.out 0).trans rfl,(blk_cell BK742.out 1).trans rfl,(blk_cell BK751.out 0).trans rfl,(blk_cell BK751.out 1).trans rfl,(blk_cell BK757.out 0).trans rfl,(blk_cell BK757.out 1).trans rfl⟩ (fun hHeld=>?_)
          clear hK K
          refine norm_ (a':=?_) ?_ ?_
          rotate_left
          ·show Act.put _ (some 84) _=_
           simp only [Act.put,List.setIfInBounds_toArray,List.set_cons_zero,List.set_cons_succ,i64_w,i32_w]
           rfl
          refine one_ (i:=30) (N:=some 87) (bm_ 52 2147483647) rfl rfl (one_of HT_.out krT_) (by decide) (fun K hK=>?_)
          refine goes_ Tryz.func49 krT_ rfl #[.int .i64 t743,.int .i64 t744] (by rfl) rfl rfl agT_ ?_
          with_reducible refine (spec_Uniform.calls k t743 t744 t766 t767 _ A71.out).mono ?_
          rintro e w86 ⟨v768,rfl,ho0,hb⟩
          refine ⟨_,rfl,?_⟩
          have n0_:=Aside0.mk (Kd.R_elder' (kRC_ HO721.out) (Kd.R_base ho0) hb)
          have n1_:=Aside0.mk (Kd.R_elder' (kRC_ HO736.out) (Kd.R_base ho0) hb)
          have n2_:=Aside0.mk (Kd.R_elder' (kRC_ HO740.out) (Kd.R_base ho0) hb)
          have n3_:=Aside0.mk (Kd.R_elder' (kRC_ HO749.out) (Kd.R_base ho0) hb)
          have n4_:=Aside0.mk (Kd.R_elder' (kRC_ HO755.out) (Kd.R_base ho0) hb)
          have n5_:=Aside0.mk (Kd.R_elder' (kRC_ HO765.out) (Kd.R_base ho0) hb)
          have n6_:=Aside0.mk (Kd.R_lower (Kd.R_new' (Kd.R_new' (Kd.R_new' (Kd.R_new' (Kd.R_new' (Kd.R_new' ho0 (Kd.R_lt (kRC_ HO721.out))) (Kd.R_lt (kRC_ HO736.out))) (Kd.R_lt (kRC_ HO740.out))) (Kd.R_lt (kRC_ HO749.out))) (Kd.R_lt (kRC_ HO755.out))) (Kd.R_lt (kRC_ HO765.out))) (below_size (h_HB HB.out)))
          have n7_:=Aside0.mk (blkB_ BK722.out hb)
          have n8_:=Aside0.mk (blkB_ BK727.out hb)
          have n9_:=Aside0.mk (blkB_ BK732.out hb)
          have n10_:=Aside0.mk (blkB_ BK741.out hb)
          have n11_:=Aside0.mk (blkB_ BK742.out hb)
          have n12_:=Aside0.mk (blkB_ BK751.out hb)
          have n13_:=Aside0.mk (blkB_ BK757.out hb)
          have n14_:=Aside0.mk (below_step (h_HB HB.out) hb)
          clear HO721
          clear HO736
          clear HO740
          clear HO749
          clear HO755
          clear HO765
          clear BK722
          clear BK727
          clear BK732
          clear BK741
          clear BK742
          clear BK751
          clear BK757
          clear HB
          have HO721:=n0_
          have HO736:=n1_
          have HO740:=n2_
          have HO749:=n3_
          have HO755:=n4_
          have HO765:=n5_
          have HO769:=n6_
          have BK722:=n7_
          have BK727:=n8_
          have BK732:=n9_
          have BK741:=n10_
          have BK742:=n11_
          have BK751:=n12_
          have BK757:=n13_
          have HB:=n14_
          clear n0_ n1_ n2_ n3_ n4_ n5_ n6_ n7_ n8_ n9_ n10_ n11_ n12_ n13_ n14_
          (try clear hb)
          (try clear hb2)
          (try clear hk)
          (try clear hi)
          (try clear ho0)
          obtain ⟨Ao87,co87,eo87⟩:=Kd.R_slice HO765.out
          (first|subst eo87|(injection eo87 with f1_ f2_ f3_;have f4_:=f1_.symm;have f5_:=f3_.symm;clear f1_ f2_ f3_;subst f4_;subst f5_))
          obtain ⟨Ao88,co88,eo88⟩:=Kd.R_slice HO769.out
          (first|subst eo88|(injection eo88 with f1_ f2_ f3_;have f4_:=f1_.symm;have f5_:=f3_.symm;clear f1_ f2_ f3_;subst f4_;subst f5_))
          refine hK.out _ _ ⟨(blk_cell BK727.out 0).trans rfl,(blk_cell BK727.out 1).trans rfl,(blk_cell BK727.out 2).trans rfl,(blk_cell BK732.out 0).trans rfl,(blk_cell BK732.out 1).trans rfl,(blk_cell BK732.out 2).trans rfl,(blk_cell BK722.out 0).trans rfl,(blk_cell BK722.out 1).trans rfl,(blk_cell BK741.out 0).trans rfl,(blk_cell BK741.out 1).trans rfl,(blk_cell BK742.out 0).trans rfl,(blk_cell BK742.out 1).trans rfl,(blk_cell BK751.out 0).trans rfl,(blk_cell BK751.out 1).trans rfl,(blk_cell BK757.out 0).trans rfl,(blk_cell BK757.out 1).trans rfl⟩ (fun hHeld=>?_)
          clear hK K
          refine norm_ (a':=?_) ?_ ?_
          rotate_left
          ·show Act.put _ (some 87) _=_
           simp only [Act.put,List.setIfInBounds_toArray,List.set_cons_zero,List.set_cons_succ,i64_w,i32_w]
           rfl
          refine one_ (i:=31) (N:=some 88) (bm_ 52 4294967295) rfl rfl (one_of HT_.out krT_) (by decide) (fun K hK=>?_)
          refine goes_ Tryz.func46 krT_ rfl #[.agg #[.int .i64 t762,.slice Ao87 t763.length co87],.agg #[.int .i64 t766,.slice Ao88 t767.length co88]] (by rfl) rfl rfl agT_ ?_
          with_reducible refine (impl_EqualMatroid.calls k t762 _ _ t763 t766 _ _ t767 true _ ?side1 ?side2 ?side3 ?side4 A72.out).mono ?_
          (case side1=>repeat (first|exact (Kd.R_reads' HO765.out).2.2|(with_reducible refine Kd.C_alloc ?_ _)|(with_reducible refine Kd.C_drewN ?_ _)|(with_reducible refine Kd.C_drew ?_)))
          (case side2=>exact (Kd.R_reads' HO765.out).2.1)
          (case side3=>repeat (first|exact (Kd.R_reads' HO769.out).2.2|(with_reducible refine Kd.C_alloc ?_ _)|(with_reducible refine Kd.C_drewN ?_ _)|(with_reducible refine Kd.C_drew ?_)))
          (case side4=>exact (Kd.R_reads' HO769.out).2.1)
          rintro e w89 ⟨rfl,hb⟩
          refine ⟨_,rfl,?_⟩
          have n0_:=Aside0.mk (Kd.R_below (kRC_ HO721.out) hb)
          have n1_:=Aside0.mk (Kd.R_below (kRC_ HO736.out) hb)
          have n2_:=Aside0.mk (Kd.R_below (kRC_ HO740.out) hb)
          have n3_:=Aside0.mk (Kd.R_below (kRC_ HO749.out) hb)
          have n4_:=Aside0.mk (Kd.R_below (kRC_ HO755.out) hb)
          have n5_:=Aside0.mk (Kd.R_below (kRC_ HO765.out) hb)
          have n6_:=Aside0.mk (Kd.R_below (kRC_ HO769.out) hb)
          have n7_:=Aside0.mk (blkB_ BK722.out hb)
          have n8_:=Aside0.mk (blkB_ BK727.out hb)
          have n9_:=Aside0.mk (blkB_ BK732.out hb)
          have n10_:=Aside0.mk (blkB_ BK741.out hb)
          have n11_:=Aside0.mk (blkB_ BK742.out hb)
          have n12_:=Aside0.mk (blkB_ BK751.out hb)
          have n13_:=Aside0.mk (blkB_ BK757.out hb)
          have n14_:=Aside0.mk (below_step (h_HB HB.out) hb)
          clear HO721
          clear HO736
          clear HO740
          clear HO749
          clear HO755
          clear HO765
          clear HO769
          clear BK722
          clear BK727
          clear BK732
          clear BK741
          clear BK742
          clear BK751
          clear BK757
          clear HB
          have HO721:=n0_
          have HO736:=n1_
          have HO740:=n2_
          have HO749:=n3_
          have HO755:=n4_
          have HO765:=n5_
          have HO769:=n6_
          have BK722:=n7_
          have BK727:=n8_
          have BK732:=n9_
          have BK741:=n10_
          have BK742:=n11_
          have BK751:=n12_
          have BK757:=n13_
          have HB:=n14_
          clear n0_ n1_ n2_ n3_ n4_ n5_ n6_ n7_ n8_ n9_ n10_ n11_ n12_ n13_ n14_
          (try clear hb)
          (try clear hb2)
          (try clear hk)
          (try clear hi)
          refine hK.out _ _ ⟨(blk_cell BK727.out 0).trans rfl,(blk_cell BK727.out 1).trans rfl,(blk_cell BK727.out 2).trans rfl,(blk_cell BK732.out 0).trans rfl,(blk_cell BK732.out 1).trans rfl,(blk_cell BK732.out 2).trans rfl,(blk_cell BK722.out 0).trans rfl,(blk_cell BK722.out 1).trans rfl,(blk_cell BK741.out 0).trans rfl,(blk_cell BK741.out 1).trans rfl,(blk_cell BK742.out 0).trans rfl,(blk_cell BK742.out 1).trans rfl,(blk_cell BK751.out 0).trans rfl,(blk_cell BK751.out 1).trans rfl,(blk_cell BK757.out 0).trans rfl,(blk_cell BK757.out 1).trans rfl⟩ (fun hHeld=>?_)
          clear hK K
          refine norm_ (a':=?_) ?_ ?_
          rotate_left
          ·show Act.put _ (some 88) _=_
           simp only [Act.put,List.setIfInBounds_toArray,List.set_cons_zero,List.set_cons_succ,i64_w,i32_w]
           rfl
          refine pu_ 32 (some 89) (bm_ 52 8589934591) rfl rfl HT_.out ?_
          refine pu_ 33 (some 90) (bm_ 52 17179869183) rfl rfl HT_.out ?_
          refine pu_ 34 (some 91) (bm_ 52 34359738367) rfl rfl HT_.out ?_
          refine take_ (i:=35) (N:=some 92) (v:=?_) (a':=?_) (bm_ 52 68719476735) rfl rfl (take_ofW HT_.out HW_.out krT_) (fun _ _ _ h=>h) (Or.inl ⟨by rfl,?_⟩) hHeld ?_ ?_
          rotate_left
          ·rintro w' ⟨s0,s1,s2,s3,s4,s5,s6,s7,s8,s9,s10,s11,s12,s13,s14,s15⟩
           go_simp
           with_reducible rfl
          rotate_left;exact apT_
          refine take_ (i:=37) (N:=some 94) (v:=?_) (a':=?_) (bm_ 52 206158430207) rfl rfl (take_ofW HT_.out HW_.out krT_) (fun _ _ _ h=>h) (Or.inl ⟨by rfl,?_⟩) hHeld ?_ ?_
          rotate_left
          ·rintro w' ⟨s0,s1,s2,s3,s4,s5,s6,s7,s8,s9,s10,s11,s12,s13,s14,s15⟩
           go_simp
           with_reducible rfl
          rotate_left;exact apT_
          refine one_ (i:=36) (N:=some 93) (bm_ 52 274877906943) rfl rfl (one_of HT_.out krT_) (by decide) (fun K hK=>?_)
          refine goes_ Tryz.func50 krT_ rfl #[.agg #[.int .i64 t718,.slice Ao16 t719.length co16]] (by rfl) rfl rfl agT_ ?_
          with_reducible refine (impl_RankOfMatroid.calls k t718 _ _ t719 t771 _ ?side1 ?side2 A74.out).mono ?_
          (case side1=>repeat (first|exact (Kd.R_reads' HO721.out).2.2|(with_reducible refine Kd.C_alloc ?_ _)|(with_reducible refine Kd.C_drewN ?_ _)|(with_reducible refine Kd.C_drew ?_)))
          (case side2=>exact (Kd.R_reads' HO721.out).2.1)
          rintro e w90 ⟨rfl,hb⟩
          refine ⟨_,rfl,?_⟩
          have n0_:=Aside0.mk (Kd.R_below (kRC_ HO721.out) hb)
          have n1_:=Aside0.mk (Kd.R_below (kRC_ HO736.out) hb)
          have n2_:=Aside0.mk (Kd.R_below (kRC_ HO740.out) hb)
          have n3_:=Aside0.mk (Kd.R_below (kRC_ HO749.out) hb)
          have n4_:=Aside0.mk (Kd.R_below (kRC_ HO755.out) hb)
          have n5_:=Aside0.mk (Kd.R_below (kRC_ HO765.out) hb)
          have n6_:=Aside0.mk (Kd.R_below (kRC_ HO769.out) hb)
          have n7_:=Aside0.mk (blkB_ BK722.out hb)
          have n8_:=Aside0.mk (blkB_ BK727.out hb)
          have n9_:=Aside0.mk (blkB_ BK732.out hb)
          have n10_:=Aside0.mk (blkB_ BK741.out hb)
          have n11_:=Aside0.mk (blkB_ BK742.out hb)
          have n12_:=Aside0.mk (blkB_ BK751.out hb)
          have n13_:=Aside0.mk (blkB_ BK757.out hb)
          have n14_:=Aside0.mk (below_step (h_HB HB.out) hb)
          clear HO721
          clear HO736
          clear HO740
          clear HO749
          clear HO755
          clear HO765
          clear HO769
          clear BK722
          clear BK727
          clear BK732
          clear BK741
          clear BK742
          clear BK751
          clear BK757
          clear HB
          have HO721:=n0_
          have HO736:=n1_
          have HO740:=n2_
          have HO749:=n3_
          have HO755:=n4_
          have HO765:=n5_
          have HO769:=n6_
          have BK722:=n7_
          have BK727:=n8_
          have BK732:=n9_
          have BK741:=n10_
          have BK742:=n11_
          have BK751:=n12_
          have BK757:=n13_
          have HB:=n14_
          clear n0_ n1_ n2_ n3_ n4_ n5_ n6_ n7_ n8_ n9_ n10_ n11_ n12_ n13_ n14_
          (try clear hb)
          (try clear hb2)
          (try clear hk)
          (try clear hi)
          refine hK.out _ _ ⟨(blk_cell BK727.out 0).trans rfl,(blk_cell BK727.out 1).trans rfl,(blk_cell BK727.out 2).trans rfl,(blk_cell BK732.out 0).trans rfl,(blk_cell BK732.out 1).trans rfl,(blk_cell BK732.out 2).trans rfl,(blk_cell BK722.out 0).trans rfl,(blk_cell BK722.out 1).trans rfl,(blk_cell BK741.out 0).trans rfl,(blk_cell BK741.out 1).trans rfl,(blk_cell BK742.out 0).trans rfl,(blk_cell BK742.out 1).trans rfl,(blk_cell BK751.out 0).trans rfl,(blk_cell BK751.out 1).trans rfl,(blk_cell BK757.out 0).trans rfl,(blk_cell BK757.out 1).trans rfl⟩ (fun hHeld=>?_)
          clear hK K
          refine norm_ (a':=?_) ?_ ?_
          rotate_left
          ·show Act.put _ (some 93) _=_
           simp only [Act.put,List.setIfInBounds_toArray,List.set_cons_zero,List.set_cons_succ,i64_w,i32_w]
           rfl
          refine one_ (i:=38) (N:=some 95) (bm_ 52 549755813887) rfl rfl (one_of HT_.out krT_) (by decide) (fun K hK=>?_)
          refine goes_ Tryz.func51 krT_ rfl #[.agg #[.int .i64 t718,.slice Ao16 t719.length co16]] (by rfl) rfl rfl agT_ ?_
          with_reducible refine (spec_RankOfMatroid.calls k t718 _ _ t719 t772 _ ?side1 ?side2 A75.out).mono ?_
          (case side1=>repeat (first|exact (Kd.R_reads' HO721.out).2.2|(with_reducible refine Kd.C_alloc ?_ _)|(with_reducible refine Kd.C_drewN ?_ _)|(with_reducible refine Kd.C_drew ?_)))
          (case side2=>exact (Kd.R_reads' HO721.out).2.1)
          rintro e w91 ⟨rfl,hb⟩
          refine ⟨_,rfl,?_⟩
          have n0_:=Aside0.mk (Kd.R_below (kRC_ HO721.out) hb)
          have n1_:=Aside0.mk (Kd.R_below (kRC_ HO736.out) hb)
          have n2_:=Aside0.mk (Kd.R_below (kRC_ HO740.out) hb)
          have n3_:=Aside0.mk (Kd.R_below (kRC_ HO749.out) hb)
          have n4_:=Aside0.mk (Kd.R_below (kRC_ HO755.out) hb)
          have n5_:=Aside0.mk (Kd.R_below (kRC_ HO765.out) hb)
          have n6_:=Aside0.mk (Kd.R_below (kRC_ HO769.out) hb)
          have n7_:=Aside0.mk (blkB_ BK722.out hb)
          have n8_:=Aside0.mk (blkB_ BK727.out hb)
          have n9_:=Aside0.mk (blkB_ BK732.out hb)
          have n10_:=Aside0.mk (blkB_ BK741.out hb)
          have n11_:=Aside0.mk (blkB_ BK742.out hb)
          have n12_:=Aside0.mk (blkB_ BK751.out hb)
          have n13_:=Aside0.mk (blkB_ BK757.out hb)
          have n14_:=Aside0.mk (below_step (h_HB HB.out) hb)
          clear HO721
          clear HO736
          clear HO740
          clear HO749
          clear HO755
          clear HO765
          clear HO769
          clear BK722
          clear BK727
          clear BK732
          clear BK741
          clear BK742
          clear BK751
          clear BK757
          clear HB
          have HO721:=n0_
          have HO736:=n1_
          have HO740:=n2_
          have HO749:=n3_
          have HO755:=n4_
          have HO765:=n5_
          have HO769:=n6_
          have BK722:=n7_
          have BK727:=n8_
          have BK732:=n9_
          have BK741:=n10_
          have BK742:=n11_
          have BK751:=n12_
          have BK757:=n13_
          have HB:=n14_
          clear n0_ n1_ n2_ n3_ n4_ n5_ n6_ n7_ n8_ n9_ n10_ n11_ n12_ n13_ n14_
          (try clear hb)
          (try clear hb2)
          (try clear hk)
          (try clear hi)
          refine hK.out _ _ ⟨(blk_cell BK727.out 0).trans rfl,(blk_cell BK727.out 1).trans rfl,(blk_cell BK727.out 2).trans rfl,(blk_cell BK732.out 0).trans rfl,(blk_cell BK732.out 1).trans rfl,(blk_cell BK732.out 2).trans rfl,(blk_cell BK722.out 0).trans rfl,(blk_cell BK722.out 1).trans rfl,(blk_cell BK741.out 0).trans rfl,(blk_cell BK741.out 1).trans rfl,(blk_cell BK742.out 0).trans rfl,(blk_cell BK742.out 1).trans rfl,(blk_cell BK751.out 0).trans rfl,(blk_cell BK751.out 1).trans rfl,(blk_cell BK757.out 0).trans rfl,(blk_cell BK757.out 1).trans rfl⟩ (fun hHeld=>?_)
          clear hK K
          refine norm_ (a':=?_) ?_ ?_
          rotate_left
          ·show Act.put _ (some 95) _=_
           simp only [Act.put,List.setIfInBounds_toArray,List.set_cons_zero,List.set_cons_succ,i64_w,i32_w]
           rfl
          refine pu_ 39 (some 96) (bm_ 52 1099511627775) rfl rfl HT_.out ?_
          refine pu_ 40 (some 97) (bm_ 52 2199023255551) rfl rfl HT_.out ?_
          refine pu_ 41 (some 98) (bm_ 52 4398046511103) rfl rfl HT_.out ?_
          refine pu_ 42 (some 99) (bm_ 52 8796093022207) rfl rfl HT_.out ?_
          refine pu_ 43 (some 100) (bm_ 52 17592186044415) rfl rfl HT_.out ?_
          refine pu_ 44 (some 101) (bm_ 52 35184372088831) rfl rfl HT_.out ?_
          refine pu_ 45 (some 102) (bm_ 52 70368744177663) rfl rfl HT_.out ?_
          refine pu_ 46 (some 103) (bm_ 52 140737488355327) rfl rfl HT_.out ?_
          refine take_ (i:=47) (N:=some 104) (v:=?_) (a':=?_) (bm_ 52 281474976710655) rfl rfl (take_ofW HT_.out HW_.out krT_) (fun _ _ _ h=>h) (Or.inl ⟨by rfl,?_⟩) hHeld ?_ ?_
          rotate_left
          ·rintro w' ⟨s0,s1,s2,s3,s4,s5,s6,s7,s8,s9,s10,s11,s12,s13,s14,s15⟩
           go_simp
           with_reducible rfl
          rotate_left;exact apT_
          refine take_ (i:=48) (N:=some 105) (v:=?_) (a':=?_) (bm_ 52 562949953421311) rfl rfl (take_ofW HT_.out HW_.out krT_) (fun _ _ _ h=>h) (Or.inl ⟨by rfl,?_⟩) hHeld ?_ ?_
          rotate_left
          ·rintro w' ⟨s0,s1,s2,s3,s4,s5,s6,s7,s8,s9,s10,s11,s12,s13,s14,s15⟩
           go_simp
           with_reducible rfl
          rotate_left;exact apT_
          refine one_ (i:=49) (N:=some 106) (bm_ 52 1125899906842623) rfl rfl (one_of HT_.out krT_) (by decide) (fun K hK=>?_)
          refine goes_ Tryz.func47 krT_ rfl #[.agg #[.int .i64 t746,.slice Ao51 t747.length co51],.agg #[.int .i64 t752,.slice Ao61 t753.length co61]] (by rfl) rfl rfl agT_ ?_
          with_reducible refine (spec_EqualMatroid.calls k t746 _ _ t747 t752 _ _ t753 t773 _ ?side1 ?side2 ?side3 ?side4 A78.out).mono ?_
          (case side1=>repeat (first|exact (Kd.R_reads' HO749.out).2.2|(with_reducible refine Kd.C_alloc ?_ _)|(with_reducible refine Kd.C_drewN ?_ _)|(with_reducible refine Kd.C_drew ?_)))
          (case side2=>exact (Kd.R_reads' HO749.out).2.1)
          (case side3=>repeat (first|exact (Kd.R_reads' HO755.out).2.2|(with_reducible refine Kd.C_alloc ?_ _)|(with_reducible refine Kd.C_drewN ?_ _)|(with_reducible refine Kd.C_drew ?_)))
          (case side4=>exact (Kd.R_reads' HO755.out).2.1)
          rintro e w92 ⟨rfl,hb⟩
          refine ⟨_,rfl,?_⟩
          have n0_:=Aside0.mk (Kd.R_below (kRC_ HO721.out) hb)
          have n1_:=Aside0.mk (Kd.R_below (kRC_ HO736.out) hb)
          have n2_:=Aside0.mk (Kd.R_below (kRC_ HO740.out) hb)
          have n3_:=Aside0.mk (Kd.R_below (kRC_ HO749.out) hb)
          have n4_:=Aside0.mk (Kd.R_below (kRC_ HO755.out) hb)
          have n5_:=Aside0.mk (Kd.R_below (kRC_ HO765.out) hb)
          have n6_:=Aside0.mk (Kd.R_below (kRC_ HO769.out) hb)
          have n7_:=Aside0.mk (blkB_ BK722.out hb)
          have n8_:=Aside0.mk (blkB_ BK727.out hb)
          have n9_:=Aside0.mk (blkB_ BK732.out hb)
          have n10_:=Aside0.mk (blkB_ BK741.out hb)
          have n11_:=Aside0.mk (blkB_ BK742.out hb)
          have n12_:=Aside0.mk (blkB_ BK751.out hb)
          have n13_:=Aside0.mk (blkB_ BK757.out hb)
          have n14_:=Aside0.mk (below_step (h_HB HB.out) hb)
          clear HO721
          clear HO736
          clear HO740
          clear HO749
          clear HO755
          clear HO765
          clear HO769
          clear BK722
          clear BK727
          clear BK732
          clear BK741
          clear BK742
          clear BK751
          clear BK757
          clear HB
          have HO721:=n0_
          have HO736:=n1_
          have HO740:=n2_
          have HO749:=n3_
          have HO755:=n4_
          have HO765:=n5_
          have HO769:=n6_
          have BK722:=n7_
          have BK727:=n8_
          have BK732:=n9_
          have BK741:=n10_
          have BK742:=n11_
          have BK751:=n12_
          have BK757:=n13_
          have HB:=n14_
          clear n0_ n1_ n2_ n3_ n4_ n5_ n6_ n7_ n8_ n9_ n10_ n11_ n12_ n13_ n14_
          (try clear hb)
          (try clear hb2)
          (try clear hk)
          (try clear hi)
          refine hK.out _ _ ⟨(blk_cell BK727.out 0).trans rfl,(blk_cell BK727.out 1).trans rfl,(blk_cell BK727.out 2).trans rfl,(blk_cell BK732.out 0).trans rfl,(blk_cell BK732.out 1).trans rfl,(blk_cell BK732.out 2).trans rfl,(blk_cell BK722.out 0).trans rfl,(blk_cell BK722.out 1).trans rfl,(blk_cell BK741.out 0).trans rfl,(blk_cell BK741.out 1).trans rfl,(blk_cell BK742.out 0).trans rfl,(blk_cell BK742.out 1).trans rfl,(blk_cell BK751.out 0).trans rfl,(blk_cell BK751.out 1).trans rfl,(blk_cell BK757.out 0).trans rfl,(blk_cell BK757.out 1).trans rfl⟩ (fun hHeld=>?_)
          clear hK K
          refine norm_ (a':=?_) ?_ ?_
          rotate_left
          ·show Act.put _ (some 106) _=_
           simp only [Act.put,List.setIfInBounds_toArray,List.set_cons_zero,List.set_cons_succ,i64_w,i32_w]
           rfl
          refine pu_ 50 (some 107) (bm_ 52 2251799813685247) rfl rfl HT_.out ?_
          refine pu_ 51 (some 108) (bm_ 52 4503599627370495) rfl rfl HT_.out ?_
          refine done_ (done_of HT_.out krT_) ?_
          try go_wp2
          go_meet
          case rel=>exact ⟨_,(!t773),sT_,H',⟨by first|omega|exact Nat.le_refl _⟩,⟨by (with_reducible repeat (first|apply Kd.R_alloc|apply Kd.R_drewN|apply Kd.R_drew));exact Kd.R_mono HO721.out (fun _ hk=>by first|exact ⟨hk.1.1.1,⟨hk.1.1.2.1,⟨hk.1.1.2.2.1,hk.1.1.2.2.2⟩⟩⟩|(simp [hk];done))⟩,⟨by (with_reducible repeat (first|apply Kd.R_alloc|apply Kd.R_drewN|apply Kd.R_drew));exact Kd.R_mono HO736.out (fun _ hk=>by first|exact ⟨hk.1.1.1,⟨hk.1.1.2.1,⟨hk.1.1.2.2.1,hk.1.1.2.2.2⟩⟩⟩|(simp [hk];done))⟩,⟨by (with_reducible repeat (first|apply Kd.R_alloc|apply Kd.R_drewN|apply Kd.R_drew));exact Kd.R_mono HO740.out (fun _ hk=>by first|exact ⟨hk.1.1.1,⟨hk.1.1.2.1,⟨hk.1.1.2.2.1,hk.1.1.2.2.2⟩⟩⟩|(simp [hk];done))⟩,⟨by (with_reducible repeat (first|apply Kd.R_alloc|apply Kd.R_drewN|apply Kd.R_drew));exact Kd.R_mono HO749.out (fun _ hk=>by first|exact ⟨hk.1.1.1,⟨hk.1.1.2.1,⟨hk.1.1.2.2.1,hk.1.1.2.2.2⟩⟩⟩|(simp [hk];done))⟩,⟨by (with_reducible repeat (first|apply Kd.R_alloc|apply Kd.R_drewN|apply Kd.R_drew));exact Kd.R_mono HO755.out (fun _ hk=>by first|exact ⟨hk.1.1.1,⟨hk.1.1.2.1,⟨hk.1.1.2.2.1,hk.1.1.2.2.2⟩⟩⟩|(simp [hk];done))⟩,⟨bkC_ BK722.out⟩,⟨bkC_ BK727.out⟩,⟨bkC_ BK732.out⟩,⟨bkC_ BK741.out⟩,⟨bkC_ BK742.out⟩,⟨bkC_ BK751.out⟩,⟨bkC_ BK757.out⟩,⟨h_HB HB.out⟩⟩
        ·rw [if_neg c76] at H
         have c76b0:(t771==t772)=false:=beq_eq_false_iff_ne.mpr c76
         have c76b1:(t771 != t772)=true:=bne_iff_ne.mpr c76
         exact absurd H (by simp)
       ·replace c73:=Bool.eq_false_iff.mpr c73
        subst c73
        replace H:=bF_ H
        exact absurd H (by simp)
  case rest =>
   clear HC12
   try clear p2
   try clear c4
   try clear c5
   try clear c7
   try clear c46
   try clear c47
   try clear c48
   try clear c49
   try clear c50
   try clear c51
   try clear c73
   try clear c76
   try clear c76b0
   try clear c76b1
   obtain ⟨kq,x108_11,rfl,HA,HJ11,HO_723001,HO_742001,HO_743001,HO_752001,HO_758001,BK722,BK727,BK732,BK741,BK742,BK751,BK757,HB⟩:=hcut
   cases kq with
   | zero=>exact absurd HA.out (by simp [laws_FnMatroids.j0])
   | succ kj11 =>
    have H:=HA.out
    clear HA
    simp only [laws_FnMatroids.j0] at H
    by_cases c93:x108_11=true
    ·subst c93
     replace H:=bT_ H
     exact absurd H (by simp)
    ·replace c93:=Bool.eq_false_iff.mpr c93
     subst c93
     replace H:=bF_ H
     replace H:=bnd_ H;obtain ⟨t774,A94,H⟩:=H
     replace H:=bnd_ H;obtain ⟨⟨t775,t776,t779⟩,A95,H⟩:=H;dsimp only at H
     have HC96:=Aside0.mk H
     clear H
     have hnb97:=NB722_727.out
     have hnc97:=NB727_722.out
     have hnb98:=NB722_732.out
     have hnc98:=NB732_722.out
     have hnb99:=NB722_741.out
     have hnc99:=NB741_722.out
     have hnb100:=NB722_742.out
     have hnc100:=NB742_722.out
     have hnb101:=NB722_751.out
     have hnc101:=NB751_722.out
     have hnb102:=NB722_757.out
     have hnc102:=NB757_722.out
     obtain ⟨hcz103_0,hcz103_1,hfz103_0,hfz103_1⟩:=bz2_ BK722.out
     go_upto_region 15 with (first|((with_reducible refine gate_callee (f:=52) rfl ?_);refine goesL_ (some 110) rfl rfl Tryz.func52 krT_ rfl #[.agg #[.int .i64 t718,.slice Ao16 t719.length co16]] rfl agT_ ?_;(with_reducible refine (impl_MatroidText.calls kj11 t718 _ _ t719 t774 _ ?ldq ?side1 ?side2 A94.out).mono ?_);(case ldq=>exact LD_below HLD.out (h_HB HB.out));(case side1=>repeat (first|exact (Kd.R_reads' HO_723001.out).2.2|(with_reducible refine Kd.C_alloc ?_ _)|(with_reducible refine Kd.C_drewN ?_ _)|(with_reducible refine Kd.C_drew ?_)));(case side2=>exact (Kd.R_reads' HO_723001.out).2.1);rintro e w104 ⟨rfl,hb⟩;refine ⟨_,rfl,?_⟩;have n0_:=Aside0.mk (Kd.R_below (kRC_ HO_723001.out) hb);have n1_:=Aside0.mk (Kd.R_below (kRC_ HO_742001.out) hb);have n2_:=Aside0.mk (Kd.R_below (kRC_ HO_743001.out) hb);have n3_:=Aside0.mk (Kd.R_below (kRC_ HO_752001.out) hb);have n4_:=Aside0.mk (Kd.R_below (kRC_ HO_758001.out) hb);have n5_:=Aside0.mk (blkB_ BK722.out hb);have n6_:=Aside0.mk (blkB_ BK727.out hb);have n7_:=Aside0.mk (blkB_ BK732.out hb);have n8_:=Aside0.mk (blkB_ BK741.out hb);have n9_:=Aside0.mk (blkB_ BK742.out hb);have n10_:=Aside0.mk (blkB_ BK751.out hb);have n11_:=Aside0.mk (blkB_ BK757.out hb);have n12_:=Aside0.mk (below_step (h_HB HB.out) hb);clear HO_723001;clear HO_742001;clear HO_743001;clear HO_752001;clear HO_758001;clear BK722;clear BK727;clear BK732;clear BK741;clear BK742;clear BK751;clear BK757;clear HB;have HO_723001:=n0_;have HO_742001:=n1_;have HO_743001:=n2_;have HO_752001:=n3_;have HO_758001:=n4_;have BK722:=n5_;have BK727:=n6_;have BK732:=n7_;have BK741:=n8_;have BK742:=n9_;have BK751:=n10_;have BK757:=n11_;have HB:=n12_;clear n0_ n1_ n2_ n3_ n4_ n5_ n6_ n7_ n8_ n9_ n10_ n11_ n12_;(try clear hb))|((with_reducible refine gate_callee (f:=7) rfl ?_);refine goesL_ (some 113) rfl rfl Tryz.func7 krT_ rfl #[.string t774] rfl agT_ ?_;(with_reducible refine (impl_ParseMatroid.calls kj11 t774 t775 t776 t779 _ ?ldq A95.out).mono ?_);(case ldq=>exact LD_below HLD.out (h_HB HB.out));rintro e w105 ⟨v777,rfl,ho0,hb⟩;refine ⟨_,rfl,?_⟩;have n0_:=Aside0.mk (Kd.R_elder' (kRC_ HO_723001.out) (Kd.R_base ho0) hb);have n1_:=Aside0.mk (Kd.R_elder' (kRC_ HO_742001.out) (Kd.R_base ho0) hb);have n2_:=Aside0.mk (Kd.R_elder' (kRC_ HO_743001.out) (Kd.R_base ho0) hb);have n3_:=Aside0.mk (Kd.R_elder' (kRC_ HO_752001.out) (Kd.R_base ho0) hb);have n4_:=Aside0.mk (Kd.R_elder' (kRC_ HO_758001.out) (Kd.R_base ho0) hb);have n5_:=Aside0.mk (Kd.R_lower (Kd.R_new' (Kd.R_new' (Kd.R_new' (Kd.R_new' (Kd.R_new' ho0 (Kd.R_lt (kRC_ HO_723001.out))) (Kd.R_lt (kRC_ HO_742001.out))) (Kd.R_lt (kRC_ HO_743001.out))) (Kd.R_lt (kRC_ HO_752001.out))) (Kd.R_lt (kRC_ HO_758001.out))) (below_size (h_HB HB.out)));have n6_:=Aside0.mk (blkB_ BK722.out hb);have n7_:=Aside0.mk (blkB_ BK727.out hb);have n8_:=Aside0.mk (blkB_ BK732.out hb);have n9_:=Aside0.mk (blkB_ BK741.out hb);have n10_:=Aside0.mk (blkB_ BK742.out hb);have n11_:=Aside0.mk (blkB_ BK751.out hb);have n12_:=Aside0.mk (blkB_ BK757.out hb);have n13_:=Aside0.mk (below_step (h_HB HB.out) hb);clear HO_723001;clear HO_742001;clear HO_743001;clear HO_752001;clear HO_758001;clear BK722;clear BK727;clear BK732;clear BK741;clear BK742;clear BK751;clear BK757;clear HB;have HO_723001:=n0_;have HO_742001:=n1_;have HO_743001:=n2_;have HO_752001:=n3_;have HO_758001:=n4_;have HO778:=n5_;have BK722:=n6_;have BK727:=n7_;have BK732:=n8_;have BK741:=n9_;have BK742:=n10_;have BK751:=n11_;have BK757:=n12_;have HB:=n13_;clear n0_ n1_ n2_ n3_ n4_ n5_ n6_ n7_ n8_ n9_ n10_ n11_ n12_ n13_;(try clear hb);(try clear hb2);(try clear hk);(try clear hi);(try clear ho0))|((with_reducible refine gate_dst (N:=18) rfl ?_);refine bx_ (N:=18) (cs:=#[.int .i64 0,.slice none 0 0]) (t:=24) ?_;intro gb780 hg w106 hbox hb;have n0_:=Aside0.mk (Kd.R_below (kRC_ HO_723001.out) hb);have n1_:=Aside0.mk (Kd.R_below (kRC_ HO_742001.out) hb);have n2_:=Aside0.mk (Kd.R_below (kRC_ HO_743001.out) hb);have n3_:=Aside0.mk (Kd.R_below (kRC_ HO_752001.out) hb);have n4_:=Aside0.mk (Kd.R_below (kRC_ HO_758001.out) hb);have n5_:=Aside0.mk (Kd.R_below (kRC_ HO778.out) hb);have n6_:=Aside0.mk (blkB_ BK722.out hb);have n7_:=Aside0.mk (blkB_ BK727.out hb);have n8_:=Aside0.mk (blkB_ BK732.out hb);have n9_:=Aside0.mk (blkB_ BK741.out hb);have n10_:=Aside0.mk (blkB_ BK742.out hb);have n11_:=Aside0.mk (blkB_ BK751.out hb);have n12_:=Aside0.mk (blkB_ BK757.out hb);have n13_:=Aside0.mk (below_step (h_HB HB.out) hb);have n14_:=Aside0.mk (hbox);have n15_:=Aside0.mk (gw_ hg (h_HB HB.out));have n16_:=Aside0.mk (gw_ hg (h_HB HB.out));have n17_:=Aside0.mk (nbl_ hg (bkC_ BK722.out));have n18_:=Aside0.mk (nbg_ hg (bkC_ BK722.out));have n19_:=Aside0.mk (nbl_ hg (bkC_ BK727.out));have n20_:=Aside0.mk (nbg_ hg (bkC_ BK727.out));have n21_:=Aside0.mk (nbl_ hg (bkC_ BK732.out));have n22_:=Aside0.mk (nbg_ hg (bkC_ BK732.out));have n23_:=Aside0.mk (nbl_ hg (bkC_ BK741.out));have n24_:=Aside0.mk (nbg_ hg (bkC_ BK741.out));have n25_:=Aside0.mk (nbl_ hg (bkC_ BK742.out));have n26_:=Aside0.mk (nbg_ hg (bkC_ BK742.out));have n27_:=Aside0.mk (nbl_ hg (bkC_ BK751.out));have n28_:=Aside0.mk (nbg_ hg (bkC_ BK751.out));have n29_:=Aside0.mk (nbl_ hg (bkC_ BK757.out));have n30_:=Aside0.mk (nbg_ hg (bkC_ BK757.out));clear HO_723001;clear HO_742001;clear HO_743001;clear HO_752001;clear HO_758001;clear HO778;clear BK722;clear BK727;clear BK732;clear BK741;clear BK742;clear BK751;clear BK757;clear HB;have HO_723001:=n0_;have HO_742001:=n1_;have HO_743001:=n2_;have HO_752001:=n3_;have HO_758001:=n4_;have HO778:=n5_;have BK722:=n6_;have BK727:=n7_;have BK732:=n8_;have BK741:=n9_;have BK742:=n10_;have BK751:=n11_;have BK757:=n12_;have HB:=n13_;have BK780:=n14_;have GW780:=n15_;have GE780:=n16_;have NB722_780:=n17_;have NB780_722:=n18_;have NB727_780:=n19_;have NB780_727:=n20_;have NB732_780:=n21_;have NB780_732:=n22_;have NB741_780:=n23_;have NB780_741:=n24_;have NB742_780:=n25_;have NB780_742:=n26_;have NB751_780:=n27_;have NB780_751:=n28_;have NB757_780:=n29_;have NB780_757:=n30_;clear n0_ n1_ n2_ n3_ n4_ n5_ n6_ n7_ n8_ n9_ n10_ n11_ n12_ n13_ n14_ n15_ n16_ n17_ n18_ n19_ n20_ n21_ n22_ n23_ n24_ n25_ n26_ n27_ n28_ n29_ n30_;clear hb hbox hg;have hnb107:=NB780_722.out;have hnc107:=NB722_780.out;have hnb108:=NB780_727.out;have hnc108:=NB727_780.out;have hnb109:=NB780_732.out;have hnc109:=NB732_780.out;have hnb110:=NB780_741.out;have hnc110:=NB741_780.out;have hnb111:=NB780_742.out;have hnc111:=NB742_780.out;have hnb112:=NB780_751.out;have hnc112:=NB751_780.out;have hnb113:=NB780_757.out;have hnc113:=NB757_780.out;obtain ⟨hcz114_0,hcz114_1,hfz114_0,hfz114_1⟩:=bz2_ BK780.out;obtain ⟨Ao115,co115,eo115⟩:=Kd.R_slice HO778.out;subst eo115))
     (try simp only [Act.put,List.setIfInBounds_toArray,List.set_cons_zero,List.set_cons_succ])
     go_cut [134] (fun v134 wc=>∃ (kq:Nat) (x134_95:Bool),v134=.bool x134_95∧Aside0 (laws_FnMatroids.j1 kq t726 x134_95 t718 t719 t723 t724 t725=some r)∧Aside0 (kq≤kj11)∧Aside0 (Kd.R (Kd.int .i64) 3 wc w.heap.size (fun k_=>some k_≠((.slice Ao35 t734.length co35):Value).ownBlock∧some k_≠((.slice Ao40 t738.length co40):Value).ownBlock∧some k_≠((.slice Ao51 t747.length co51):Value).ownBlock∧some k_≠((.slice Ao61 t753.length co61):Value).ownBlock∧some k_≠((.slice Ao115 t776.length co115):Value).ownBlock) (.slice Ao16 t719.length co16) t719)∧Aside0 (Kd.R (Kd.int .i64) 3 wc w.heap.size (fun k_=>some k_≠((.slice Ao16 t719.length co16):Value).ownBlock∧some k_≠((.slice Ao40 t738.length co40):Value).ownBlock∧some k_≠((.slice Ao51 t747.length co51):Value).ownBlock∧some k_≠((.slice Ao61 t753.length co61):Value).ownBlock∧some k_≠((.slice Ao115 t776.length co115):Value).ownBlock) (.slice Ao35 t734.length co35) t734)∧Aside0 (Kd.R (Kd.int .i64) 3 wc w.heap.size (fun k_=>some k_≠((.slice Ao16 t719.length co16):Value).ownBlock∧some k_≠((.slice Ao35 t734.length co35):Value).ownBlock∧some k_≠((.slice Ao51 t747.length co51):Value).ownBlock∧some k_≠((.slice Ao61 t753.length co61):Value).ownBlock∧some k_≠((.slice Ao115 t776.length co115):Value).ownBlock) (.slice Ao40 t738.length co40) t738)∧Aside0 (Kd.R (Kd.int .i64) 3 wc w.heap.size (fun k_=>some k_≠((.slice Ao16 t719.length co16):Value).ownBlock∧some k_≠((.slice Ao35 t734.length co35):Value).ownBlock∧some k_≠((.slice Ao40 t738.length co40):Value).ownBlock∧some k_≠((.slice Ao61 t753.length co61):Value).ownBlock∧some k_≠((.slice Ao115 t776.length co115):Value).ownBlock) (.slice Ao51 t747.length co51) t747)∧Aside0 (Kd.R (Kd.int .i64) 3 wc w.heap.size (fun k_=>some k_≠((.slice Ao16 t719.length co16):Value).ownBlock∧some k_≠((.slice Ao35 t734.length co35):Value).ownBlock∧some k_≠((.slice Ao40 t738.length co40):Value).ownBlock∧some k_≠((.slice Ao51 t747.length co51):Value).ownBlock∧some k_≠((.slice Ao115 t776.length co115):Value).ownBlock) (.slice Ao61 t753.length co61) t753)∧Aside0 (Kd.R (Kd.int .i64) 3 wc w.heap.size (fun k_=>some k_≠((.slice Ao16 t719.length co16):Value).ownBlock∧some k_≠((.slice Ao35 t734.length co35):Value).ownBlock∧some k_≠((.slice Ao40 t738.length co40):Value).ownBlock∧some k_≠((.slice Ao51 t747.length co51):Value).ownBlock∧some k_≠((.slice Ao61 t753.length co61):Value).ownBlock) (.slice Ao115 t776.length co115) t776)∧Aside0 (wc.heap[gb722]?=some (.cells #[.int .i64 t718,(.slice Ao16 t719.length co16)] 24 (0,0)))∧Aside0 (wc.heap[gb727]?=some (.cells #[.int .i64 t723,.int .i64 t724,.int .i64 t725] 49 (0,0)))∧Aside0 (wc.heap[gb732]?=some (.cells #[.int .i64 t728,.int .i64 t729,.int .i64 t730] 49 (0,0)))∧Aside0 (wc.heap[gb741]?=some (.cells #[.int .i64 t733,(.slice Ao35 t734.length co35)] 24 (0,0)))∧Aside0 (wc.heap[gb742]?=some (.cells #[.int .i64 t737,(.slice Ao40 t738.length co40)] 24 (0,0)))∧Aside0 (wc.heap[gb751]?=some (.cells #[.int .i64 t746,(.slice Ao51 t747.length co51)] 24 (0,0)))∧Aside0 (wc.heap[gb757]?=some (.cells #[.int .i64 t752,(.slice Ao61 t753.length co61)] 24 (0,0)))∧Aside0 (wc.heap[gb780]?=some (.cells #[.int .i64 t775,(.slice Ao115 t776.length co115)] 24 (0,0)))∧Aside0 (Below w.heap.size w wc))
     case first =>
      have H:=HC96.out
      clear HC96
      replace H:=bnd_ H;obtain ⟨t781,A116,H⟩:=H
      by_cases c117:t774.toList=t781.toList
      ·rw [if_pos c117] at H
       have c117b0:(t774.toList==t781.toList)=true:=beq_iff_eq.mpr c117
       have c117b1:(t774.toList != t781.toList)=false:=bne_eq_false_iff_eq.mpr c117
       clear c117
       (first|rw [c117b0]|(simp only [i64_w,i32_w];rw [c117b0])|skip)
       replace H:=bnd_ H;obtain ⟨t782,A118,H⟩:=H
       by_cases c119:(t779 != t782)=true
       ·rw [if_pos c119] at H
        exact absurd H (by simp)
       ·rw [if_neg c119] at H
        have c119b0:(t779 != t782)=false:=by simpa using c119
        (try (have c119b1:decide (t779=t782)=true:=by simpa using c119))
        (try (have c119b2:(t779==t782)=true:=by simpa using c119))
        clear c119
        by_cases c120:t779=true
        ·subst c120
         replace H:=bT_ H
         replace H:=bnd_ H;obtain ⟨t783,A121,H⟩:=H
         have H':=Aside0.mk H
         clear H
         have hnb122:=NB722_727.out
         have hnc122:=NB727_722.out
         have hnb123:=NB722_732.out
         have hnc123:=NB732_722.out
         have hnb124:=NB722_741.out
         have hnc124:=NB741_722.out
         have hnb125:=NB722_742.out
         have hnc125:=NB742_722.out
         have hnb126:=NB722_751.out
         have hnc126:=NB751_722.out
         have hnb127:=NB722_757.out
         have hnc127:=NB757_722.out
         have hnb128:=NB722_780.out
         have hnc128:=NB780_722.out
         obtain ⟨hcz129_0,hcz129_1,hfz129_0,hfz129_1⟩:=bz2_ BK722.out
         go_wp2_with (first|((with_reducible refine gate_callee (f:=53) rfl ?_);refine goesL_ (some 118) rfl rfl Tryz.func53 krT_ rfl #[.agg #[.int .i64 t718,.slice Ao16 t719.length co16]] rfl agT_ ?_;(with_reducible refine (spec_MatroidText.calls kj11 t718 _ _ t719 t781 _ ?side1 ?side2 A116.out).mono ?_);(case side1=>refine (Kd.R_reads' (e:=3) (base:=w.heap.size) (ok:=fun k_=>((some k_≠(.slice Ao35 t734.length co35:Value).ownBlock∧(some k_≠(.slice Ao40 t738.length co40:Value).ownBlock∧(some k_≠(.slice Ao51 t747.length co51:Value).ownBlock∧some k_≠(.slice Ao61 t753.length co61:Value).ownBlock)))∧some k_≠(.slice Ao115 t776.length co115:Value).ownBlock)) (n:=t719.length) (c:=co16) ?_).2.2;exact (by (with_reducible repeat (first|apply Kd.R_alloc|apply Kd.R_drewN|apply Kd.R_drew));exact (Kd.R_mono (Kd.R_far (p:=⟨gb780,1,none⟩) (Kd.R_far (p:=⟨gb780,0,none⟩) (Kd.R_types HO_723001.out BK780.out (by decide)) (fun _ hk=>hk.2) (.int .i64 t775)) (fun _ hk=>hk.2) (.slice Ao115 t776.length co115)) (fun _ h_=>h_.1))));(case side2=>exact (Kd.R_reads' HO_723001.out).2.1);rintro e w130 ⟨rfl,hb⟩;refine ⟨_,rfl,?_⟩;have n0_:=Aside0.mk (Kd.R_below (by (with_reducible repeat (first|apply Kd.R_alloc|apply Kd.R_drewN|apply Kd.R_drew));exact (Kd.R_mono (Kd.R_far (p:=⟨gb780,1,none⟩) (Kd.R_far (p:=⟨gb780,0,none⟩) (Kd.R_types HO_723001.out BK780.out (by decide)) (fun _ hk=>hk.2) (.int .i64 t775)) (fun _ hk=>hk.2) (.slice Ao115 t776.length co115)) (fun _ h_=>h_.1))) hb);have n1_:=Aside0.mk (Kd.R_below (by (with_reducible repeat (first|apply Kd.R_alloc|apply Kd.R_drewN|apply Kd.R_drew));exact (Kd.R_mono (Kd.R_far (p:=⟨gb780,1,none⟩) (Kd.R_far (p:=⟨gb780,0,none⟩) (Kd.R_types HO_742001.out BK780.out (by decide)) (fun _ hk=>hk.2) (.int .i64 t775)) (fun _ hk=>hk.2) (.slice Ao115 t776.length co115)) (fun _ h_=>h_.1))) hb);have n2_:=Aside0.mk (Kd.R_below (by (with_reducible repeat (first|apply Kd.R_alloc|apply Kd.R_drewN|apply Kd.R_drew));exact (Kd.R_mono (Kd.R_far (p:=⟨gb780,1,none⟩) (Kd.R_far (p:=⟨gb780,0,none⟩) (Kd.R_types HO_743001.out BK780.out (by decide)) (fun _ hk=>hk.2) (.int .i64 t775)) (fun _ hk=>hk.2) (.slice Ao115 t776.length co115)) (fun _ h_=>h_.1))) hb);have n3_:=Aside0.mk (Kd.R_below (by (with_reducible repeat (first|apply Kd.R_alloc|apply Kd.R_drewN|apply Kd.R_drew));exact (Kd.R_mono (Kd.R_far (p:=⟨gb780,1,none⟩) (Kd.R_far (p:=⟨gb780,0,none⟩) (Kd.R_types HO_752001.out BK780.out (by decide)) (fun _ hk=>hk.2) (.int .i64 t775)) (fun _ hk=>hk.2) (.slice Ao115 t776.length co115)) (fun _ h_=>h_.1))) hb);have n4_:=Aside0.mk (Kd.R_below (by (with_reducible repeat (first|apply Kd.R_alloc|apply Kd.R_drewN|apply Kd.R_drew));exact (Kd.R_mono (Kd.R_far (p:=⟨gb780,1,none⟩) (Kd.R_far (p:=⟨gb780,0,none⟩) (Kd.R_types HO_758001.out BK780.out (by decide)) (fun _ hk=>hk.2) (.int .i64 t775)) (fun _ hk=>hk.2) (.slice Ao115 t776.length co115)) (fun _ h_=>h_.1))) hb);have n5_:=Aside0.mk (Kd.R_below (by (with_reducible repeat (first|apply Kd.R_alloc|apply Kd.R_drewN|apply Kd.R_drew));exact (Kd.R_mono (Kd.R_far (p:=⟨gb780,1,none⟩) (Kd.R_far (p:=⟨gb780,0,none⟩) (Kd.R_types HO778.out BK780.out (by decide)) (fun _ hk=>hk.2) (.int .i64 t775)) (fun _ hk=>hk.2) (.slice Ao115 t776.length co115)) (fun _ h_=>h_.1))) hb);have n6_:=Aside0.mk (blkB_ BK722.out hb);have n7_:=Aside0.mk (blkB_ BK727.out hb);have n8_:=Aside0.mk (blkB_ BK732.out hb);have n9_:=Aside0.mk (blkB_ BK741.out hb);have n10_:=Aside0.mk (blkB_ BK742.out hb);have n11_:=Aside0.mk (blkB_ BK751.out hb);have n12_:=Aside0.mk (blkB_ BK757.out hb);have n13_:=Aside0.mk (blk_below (g:=gb780) (o:=.cells #[.int .i64 t775,.slice Ao115 t776.length co115] 24 (0,0)) (by (with_reducible repeat (first|refine blk_drewN ?_ _|refine blk_drew ?_|refine blk_alloc ?_ _));refine blk_put (cs:=#[.int .i64 t775,.slice none 0 0]) ?_ 1 _ rfl;(with_reducible repeat (first|refine blk_drewN ?_ _|refine blk_drew ?_|refine blk_alloc ?_ _));refine blk_put (cs:=#[.int .i64 0,.slice none 0 0]) ?_ 0 _ rfl;exact bkC_ BK780.out) hb);have n14_:=Aside0.mk (below_step (h_HB HB.out) hb);clear HO_723001;clear HO_742001;clear HO_743001;clear HO_752001;clear HO_758001;clear HO778;clear BK722;clear BK727;clear BK732;clear BK741;clear BK742;clear BK751;clear BK757;clear BK780;clear HB;have HO_723001:=n0_;have HO_742001:=n1_;have HO_743001:=n2_;have HO_752001:=n3_;have HO_758001:=n4_;have HO778:=n5_;have BK722:=n6_;have BK727:=n7_;have BK732:=n8_;have BK741:=n9_;have BK742:=n10_;have BK751:=n11_;have BK757:=n12_;have BK780:=n13_;have HB:=n14_;clear n0_ n1_ n2_ n3_ n4_ n5_ n6_ n7_ n8_ n9_ n10_ n11_ n12_ n13_ n14_;(try clear hb);(try clear hb2);(try clear hk);(try clear hi);obtain ⟨hcz131_0,hcz131_1,hfz131_0,hfz131_1⟩:=bz2_ BK722.out)|(go_at_call 44;(with_reducible refine (impl_IsMatroid.calls kj11 t718 _ _ t719 t782 _ ?side1 ?side2 A118.out).mono ?_);(case side1=>repeat (first|exact (Kd.R_reads' HO_723001.out).2.2|(with_reducible refine Kd.C_alloc ?_ _)|(with_reducible refine Kd.C_drewN ?_ _)|(with_reducible refine Kd.C_drew ?_)));(case side2=>exact (Kd.R_reads' HO_723001.out).2.1);rintro e w132 ⟨rfl,hb⟩;have n0_:=Aside0.mk (Kd.R_below (kRC_ HO_723001.out) hb);have n1_:=Aside0.mk (Kd.R_below (kRC_ HO_742001.out) hb);have n2_:=Aside0.mk (Kd.R_below (kRC_ HO_743001.out) hb);have n3_:=Aside0.mk (Kd.R_below (kRC_ HO_752001.out) hb);have n4_:=Aside0.mk (Kd.R_below (kRC_ HO_758001.out) hb);have n5_:=Aside0.mk (Kd.R_below (kRC_ HO778.out) hb);have n6_:=Aside0.mk (blkB_ BK722.out hb);have n7_:=Aside0.mk (blkB_ BK727.out hb);have n8_:=Aside0.mk (blkB_ BK732.out hb);have n9_:=Aside0.mk (blkB_ BK741.out hb);have n10_:=Aside0.mk (blkB_ BK742.out hb);have n11_:=Aside0.mk (blkB_ BK751.out hb);have n12_:=Aside0.mk (blkB_ BK757.out hb);have n13_:=Aside0.mk (blkB_ BK780.out hb);have n14_:=Aside0.mk (below_step (h_HB HB.out) hb);clear HO_723001;clear HO_742001;clear HO_743001;clear HO_752001;clear HO_758001;clear HO778;clear BK722;clear BK727;clear BK732;clear BK741;clear BK742;clear BK751;clear BK757;clear BK780;clear HB;have HO_723001:=n0_;have HO_742001:=n1_;have HO_743001:=n2_;have HO_752001:=n3_;have HO_758001:=n4_;have HO778:=n5_;have BK722:=n6_;have BK727:=n7_;have BK732:=n8_;have BK741:=n9_;have BK742:=n10_;have BK751:=n11_;have BK757:=n12_;have BK780:=n13_;have HB:=n14_;clear n0_ n1_ n2_ n3_ n4_ n5_ n6_ n7_ n8_ n9_ n10_ n11_ n12_ n13_ n14_;(try clear hb);have hnb133:=NB780_727.out;have hnc133:=NB727_780.out;have hnb134:=NB780_732.out;have hnc134:=NB732_780.out;have hnb135:=NB780_741.out;have hnc135:=NB741_780.out;have hnb136:=NB780_742.out;have hnc136:=NB742_780.out;have hnb137:=NB780_751.out;have hnc137:=NB751_780.out;have hnb138:=NB780_757.out;have hnc138:=NB757_780.out;obtain ⟨hcz139_0,hcz139_1,hfz139_0,hfz139_1⟩:=bz2_ BK780.out;obtain ⟨hcz140_0,hcz140_1,hfz140_0,hfz140_1⟩:=bz2_ BK722.out)|(go_at_call 47;(with_reducible refine (spec_EqualMatroid.calls kj11 t775 _ _ t776 t718 _ _ t719 t783 _ ?side1 ?side2 ?side3 ?side4 A121.out).mono ?_);(case side1=>repeat (first|exact (Kd.R_reads' HO778.out).2.2|(with_reducible refine Kd.C_alloc ?_ _)|(with_reducible refine Kd.C_drewN ?_ _)|(with_reducible refine Kd.C_drew ?_)));(case side2=>exact (Kd.R_reads' HO778.out).2.1);(case side3=>repeat (first|exact (Kd.R_reads' HO_723001.out).2.2|(with_reducible refine Kd.C_alloc ?_ _)|(with_reducible refine Kd.C_drewN ?_ _)|(with_reducible refine Kd.C_drew ?_)));(case side4=>exact (Kd.R_reads' HO_723001.out).2.1);rintro e w141 ⟨rfl,hb⟩;have n0_:=Aside0.mk (Kd.R_below (kRC_ HO_723001.out) hb);have n1_:=Aside0.mk (Kd.R_below (kRC_ HO_742001.out) hb);have n2_:=Aside0.mk (Kd.R_below (kRC_ HO_743001.out) hb);have n3_:=Aside0.mk (Kd.R_below (kRC_ HO_752001.out) hb);have n4_:=Aside0.mk (Kd.R_below (kRC_ HO_758001.out) hb);have n5_:=Aside0.mk (Kd.R_below (kRC_ HO778.out) hb);have n6_:=Aside0.mk (blkB_ BK722.out hb);have n7_:=Aside0.mk (blkB_ BK727.out hb);have n8_:=Aside0.mk (blkB_ BK732.out hb);have n9_:=Aside0.mk (blkB_ BK741.out hb);have n10_:=Aside0.mk (blkB_ BK742.out hb);have n11_:=Aside0.mk (blkB_ BK751.out hb);have n12_:=Aside0.mk (blkB_ BK757.out hb);have n13_:=Aside0.mk (blkB_ BK780.out hb);have n14_:=Aside0.mk (below_step (h_HB HB.out) hb);clear HO_723001;clear HO_742001;clear HO_743001;clear HO_752001;clear HO_758001;clear HO778;clear BK722;clear BK727;clear BK732;clear BK741;clear BK742;clear BK751;clear BK757;clear BK780;clear HB;have HO_723001:=n0_;have HO_742001:=n1_;have HO_743001:=n2_;have HO_752001:=n3_;have HO_758001:=n4_;have HO778:=n5_;have BK722:=n6_;have BK727:=n7_;have BK732:=n8_;have BK741:=n9_;have BK742:=n10_;have BK751:=n11_;have BK757:=n12_;have BK780:=n13_;have HB:=n14_;clear n0_ n1_ n2_ n3_ n4_ n5_ n6_ n7_ n8_ n9_ n10_ n11_ n12_ n13_ n14_;(try clear hb)))
         go_meet
         case rel=>exact ⟨_,(!t783),sT_,H',⟨by have:=HJ11.out;first|omega|exact Nat.le_refl _⟩,⟨by (with_reducible repeat (first|apply Kd.R_alloc|apply Kd.R_drewN|apply Kd.R_drew));exact Kd.R_mono HO_723001.out (fun _ hk=>by first|exact ⟨hk.1.1,⟨hk.1.2.1,⟨hk.1.2.2.1,⟨hk.1.2.2.2,hk.2⟩⟩⟩⟩|(simp [hk];done))⟩,⟨by (with_reducible repeat (first|apply Kd.R_alloc|apply Kd.R_drewN|apply Kd.R_drew));exact Kd.R_mono HO_742001.out (fun _ hk=>by first|exact ⟨hk.1.1,⟨hk.1.2.1,⟨hk.1.2.2.1,⟨hk.1.2.2.2,hk.2⟩⟩⟩⟩|(simp [hk];done))⟩,⟨by (with_reducible repeat (first|apply Kd.R_alloc|apply Kd.R_drewN|apply Kd.R_drew));exact Kd.R_mono HO_743001.out (fun _ hk=>by first|exact ⟨hk.1.1,⟨hk.1.2.1,⟨hk.1.2.2.1,⟨hk.1.2.2.2,hk.2⟩⟩⟩⟩|(simp [hk];done))⟩,⟨by (with_reducible repeat (first|apply Kd.R_alloc|apply Kd.R_drewN|apply Kd.R_drew));exact Kd.R_mono HO_752001.out (fun _ hk=>by first|exact ⟨hk.1.1,⟨hk.1.2.1,⟨hk.1.2.2.1,⟨hk.1.2.2.2,hk.2⟩⟩⟩⟩|(simp [hk];done))⟩,⟨by (with_reducible repeat (first|apply Kd.R_alloc|apply Kd.R_drewN|apply Kd.R_drew));exact Kd.R_mono HO_758001.out (fun _ hk=>by first|exact ⟨hk.1.1,⟨hk.1.2.1,⟨hk.1.2.2.1,⟨hk.1.2.2.2,hk.2⟩⟩⟩⟩|(simp [hk];done))⟩,⟨by (with_reducible repeat (first|apply Kd.R_alloc|apply Kd.R_drewN|apply Kd.R_drew));exact Kd.R_mono HO778.out (fun _ hk=>by first|exact ⟨hk.1.1.1.1.2,⟨hk.1.1.1.2,⟨hk.1.1.2,⟨hk.1.2,hk.2⟩⟩⟩⟩|(simp [hk];done))⟩,⟨bkC_ BK722.out⟩,⟨bkC_ BK727.out⟩,⟨bkC_ BK732.out⟩,⟨bkC_ BK741.out⟩,⟨bkC_ BK742.out⟩,⟨bkC_ BK751.out⟩,⟨bkC_ BK757.out⟩,⟨bkC_ BK780.out⟩,⟨h_HB HB.out⟩⟩
        ·replace c120:=Bool.eq_false_iff.mpr c120
         subst c120
         replace H:=bF_ H
         have H':=Aside0.mk H
         clear H
         have hnb142:=NB722_727.out
         have hnc142:=NB727_722.out
         have hnb143:=NB722_732.out
         have hnc143:=NB732_722.out
         have hnb144:=NB722_741.out
         have hnc144:=NB741_722.out
         have hnb145:=NB722_742.out
         have hnc145:=NB742_722.out
         have hnb146:=NB722_751.out
         have hnc146:=NB751_722.out
         have hnb147:=NB722_757.out
         have hnc147:=NB757_722.out
         have hnb148:=NB722_780.out
         have hnc148:=NB780_722.out
         obtain ⟨hcz149_0,hcz149_1,hfz149_0,hfz149_1⟩:=bz2_ BK722.out
         go_wp2_with (first|((with_reducible refine gate_callee (f:=53) rfl ?_);refine goesL_ (some 118) rfl rfl Tryz.func53 krT_ rfl #[.agg #[.int .i64 t718,.slice Ao16 t719.length co16]] rfl agT_ ?_;(with_reducible refine (spec_MatroidText.calls kj11 t718 _ _ t719 t781 _ ?side1 ?side2 A116.out).mono ?_);(case side1=>refine (Kd.R_reads' (e:=3) (base:=w.heap.size) (ok:=fun k_=>((some k_≠(.slice Ao35 t734.length co35:Value).ownBlock∧(some k_≠(.slice Ao40 t738.length co40:Value).ownBlock∧(some k_≠(.slice Ao51 t747.length co51:Value).ownBlock∧some k_≠(.slice Ao61 t753.length co61:Value).ownBlock)))∧some k_≠(.slice Ao115 t776.length co115:Value).ownBlock)) (n:=t719.length) (c:=co16) ?_).2.2;exact (by (with_reducible repeat (first|apply Kd.R_alloc|apply Kd.R_drewN|apply Kd.R_drew));exact (Kd.R_mono (Kd.R_far (p:=⟨gb780,1,none⟩) (Kd.R_far (p:=⟨gb780,0,none⟩) (Kd.R_types HO_723001.out BK780.out (by decide)) (fun _ hk=>hk.2) (.int .i64 t775)) (fun _ hk=>hk.2) (.slice Ao115 t776.length co115)) (fun _ h_=>h_.1))));(case side2=>exact (Kd.R_reads' HO_723001.out).2.1);rintro e w150 ⟨rfl,hb⟩;refine ⟨_,rfl,?_⟩;have n0_:=Aside0.mk (Kd.R_below (by (with_reducible repeat (first|apply Kd.R_alloc|apply Kd.R_drewN|apply Kd.R_drew));exact (Kd.R_mono (Kd.R_far (p:=⟨gb780,1,none⟩) (Kd.R_far (p:=⟨gb780,0,none⟩) (Kd.R_types HO_723001.out BK780.out (by decide)) (fun _ hk=>hk.2) (.int .i64 t775)) (fun _ hk=>hk.2) (.slice Ao115 t776.length co115)) (fun _ h_=>h_.1))) hb);have n1_:=Aside0.mk (Kd.R_below (by (with_reducible repeat (first|apply Kd.R_alloc|apply Kd.R_drewN|apply Kd.R_drew));exact (Kd.R_mono (Kd.R_far (p:=⟨gb780,1,none⟩) (Kd.R_far (p:=⟨gb780,0,none⟩) (Kd.R_types HO_742001.out BK780.out (by decide)) (fun _ hk=>hk.2) (.int .i64 t775)) (fun _ hk=>hk.2) (.slice Ao115 t776.length co115)) (fun _ h_=>h_.1))) hb);have n2_:=Aside0.mk (Kd.R_below (by (with_reducible repeat (first|apply Kd.R_alloc|apply Kd.R_drewN|apply Kd.R_drew));exact (Kd.R_mono (Kd.R_far (p:=⟨gb780,1,none⟩) (Kd.R_far (p:=⟨gb780,0,none⟩) (Kd.R_types HO_743001.out BK780.out (by decide)) (fun _ hk=>hk.2) (.int .i64 t775)) (fun _ hk=>hk.2) (.slice Ao115 t776.length co115)) (fun _ h_=>h_.1))) hb);have n3_:=Aside0.mk (Kd.R_below (by (with_reducible repeat (first|apply Kd.R_alloc|apply Kd.R_drewN|apply Kd.R_drew));exact (Kd.R_mono (Kd.R_far (p:=⟨gb780,1,none⟩) (Kd.R_far (p:=⟨gb780,0,none⟩) (Kd.R_types HO_752001.out BK780.out (by decide)) (fun _ hk=>hk.2) (.int .i64 t775)) (fun _ hk=>hk.2) (.slice Ao115 t776.length co115)) (fun _ h_=>h_.1))) hb);have n4_:=Aside0.mk (Kd.R_below (by (with_reducible repeat (first|apply Kd.R_alloc|apply Kd.R_drewN|apply Kd.R_drew));exact (Kd.R_mono (Kd.R_far (p:=⟨gb780,1,none⟩) (Kd.R_far (p:=⟨gb780,0,none⟩) (Kd.R_types HO_758001.out BK780.out (by decide)) (fun _ hk=>hk.2) (.int .i64 t775)) (fun _ hk=>hk.2) (.slice Ao115 t776.length co115)) (fun _ h_=>h_.1))) hb);have n5_:=Aside0.mk (Kd.R_below (by (with_reducible repeat (first|apply Kd.R_alloc|apply Kd.R_drewN|apply Kd.R_drew));exact (Kd.R_mono (Kd.R_far (p:=⟨gb780,1,none⟩) (Kd.R_far (p:=⟨gb780,0,none⟩) (Kd.R_types HO778.out BK780.out (by decide)) (fun _ hk=>hk.2) (.int .i64 t775)) (fun _ hk=>hk.2) (.slice Ao115 t776.length co115)) (fun _ h_=>h_.1))) hb);have n6_:=Aside0.mk (blkB_ BK722.out hb);have n7_:=Aside0.mk (blkB_ BK727.out hb);have n8_:=Aside0.mk (blkB_ BK732.out hb);have n9_:=Aside0.mk (blkB_ BK741.out hb);have n10_:=Aside0.mk (blkB_ BK742.out hb);have n11_:=Aside0.mk (blkB_ BK751.out hb);have n12_:=Aside0.mk (blkB_ BK757.out hb);have n13_:=Aside0.mk (blk_below (g:=gb780) (o:=.cells #[.int .i64 t775,.slice Ao115 t776.length co115] 24 (0,0)) (by (with_reducible repeat (first|refine blk_drewN ?_ _|refine blk_drew ?_|refine blk_alloc ?_ _));refine blk_put (cs:=#[.int .i64 t775,.slice none 0 0]) ?_ 1 _ rfl;(with_reducible repeat (first|refine blk_drewN ?_ _|refine blk_drew ?_|refine blk_alloc ?_ _));refine blk_put (cs:=#[.int .i64 0,.slice none 0 0]) ?_ 0 _ rfl;exact bkC_ BK780.out) hb);have n14_:=Aside0.mk (below_step (h_HB HB.out) hb);clear HO_723001;clear HO_742001;clear HO_743001;clear HO_752001;clear HO_758001;clear HO778;clear BK722;clear BK727;clear BK732;clear BK741;clear BK742;clear BK751;clear BK757;clear BK780;clear HB;have HO_723001:=n0_;have HO_742001:=n1_;have HO_743001:=n2_;have HO_752001:=n3_;have HO_758001:=n4_;have HO778:=n5_;have BK722:=n6_;have BK727:=n7_;have BK732:=n8_;have BK741:=n9_;have BK742:=n10_;have BK751:=n11_;have BK757:=n12_;have BK780:=n13_;have HB:=n14_;clear n0_ n1_ n2_ n3_ n4_ n5_ n6_ n7_ n8_ n9_ n10_ n11_ n12_ n13_ n14_;(try clear hb);(try clear hb2);(try clear hk);(try clear hi);obtain ⟨hcz151_0,hcz151_1,hfz151_0,hfz151_1⟩:=bz2_ BK722.out)|(go_at_call 44;(with_reducible refine (impl_IsMatroid.calls kj11 t718 _ _ t719 t782 _ ?side1 ?side2 A118.out).mono ?_);(case side1=>repeat (first|exact (Kd.R_reads' HO_723001.out).2.2|(with_reducible refine Kd.C_alloc ?_ _)|(with_reducible refine Kd.C_drewN ?_ _)|(with_reducible refine Kd.C_drew ?_)));(case side2=>exact (Kd.R_reads' HO_723001.out).2.1);rintro e w152 ⟨rfl,hb⟩;have n0_:=Aside0.mk (Kd.R_below (kRC_ HO_723001.out) hb);have n1_:=Aside0.mk (Kd.R_below (kRC_ HO_742001.out) hb);have n2_:=Aside0.mk (Kd.R_below (kRC_ HO_743001.out) hb);have n3_:=Aside0.mk (Kd.R_below (kRC_ HO_752001.out) hb);have n4_:=Aside0.mk (Kd.R_below (kRC_ HO_758001.out) hb);have n5_:=Aside0.mk (Kd.R_below (kRC_ HO778.out) hb);have n6_:=Aside0.mk (blkB_ BK722.out hb);have n7_:=Aside0.mk (blkB_ BK727.out hb);have n8_:=Aside0.mk (blkB_ BK732.out hb);have n9_:=Aside0.mk (blkB_ BK741.out hb);have n10_:=Aside0.mk (blkB_ BK742.out hb);have n11_:=Aside0.mk (blkB_ BK751.out hb);have n12_:=Aside0.mk (blkB_ BK757.out hb);have n13_:=Aside0.mk (blkB_ BK780.out hb);have n14_:=Aside0.mk (below_step (h_HB HB.out) hb);clear HO_723001;clear HO_742001;clear HO_743001;clear HO_752001;clear HO_758001;clear HO778;clear BK722;clear BK727;clear BK732;clear BK741;clear BK742;clear BK751;clear BK757;clear BK780;clear HB;have HO_723001:=n0_;have HO_742001:=n1_;have HO_743001:=n2_;have HO_752001:=n3_;have HO_758001:=n4_;have HO778:=n5_;have BK722:=n6_;have BK727:=n7_;have BK732:=n8_;have BK741:=n9_;have BK742:=n10_;have BK751:=n11_;have BK757:=n12_;have BK780:=n13_;have HB:=n14_;clear n0_ n1_ n2_ n3_ n4_ n5_ n6_ n7_ n8_ n9_ n10_ n11_ n12_ n13_ n14_;(try clear hb)))
         go_meet
         case rel=>exact ⟨_,(false),sT_,H',⟨by have:=HJ11.out;first|omega|exact Nat.le_refl _⟩,⟨by (with_reducible repeat (first|apply Kd.R_alloc|apply Kd.R_drewN|apply Kd.R_drew));exact Kd.R_mono HO_723001.out (fun _ hk=>by first|exact ⟨hk.1.1,⟨hk.1.2.1,⟨hk.1.2.2.1,⟨hk.1.2.2.2,hk.2⟩⟩⟩⟩|(simp [hk];done))⟩,⟨by (with_reducible repeat (first|apply Kd.R_alloc|apply Kd.R_drewN|apply Kd.R_drew));exact Kd.R_mono HO_742001.out (fun _ hk=>by first|exact ⟨hk.1.1,⟨hk.1.2.1,⟨hk.1.2.2.1,⟨hk.1.2.2.2,hk.2⟩⟩⟩⟩|(simp [hk];done))⟩,⟨by (with_reducible repeat (first|apply Kd.R_alloc|apply Kd.R_drewN|apply Kd.R_drew));exact Kd.R_mono HO_743001.out (fun _ hk=>by first|exact ⟨hk.1.1,⟨hk.1.2.1,⟨hk.1.2.2.1,⟨hk.1.2.2.2,hk.2⟩⟩⟩⟩|(simp [hk];done))⟩,⟨by (with_reducible repeat (first|apply Kd.R_alloc|apply Kd.R_drewN|apply Kd.R_drew));exact Kd.R_mono HO_752001.out (fun _ hk=>by first|exact ⟨hk.1.1,⟨hk.1.2.1,⟨hk.1.2.2.1,⟨hk.1.2.2.2,hk.2⟩⟩⟩⟩|(simp [hk];done))⟩,⟨by (with_reducible repeat (first|apply Kd.R_alloc|apply Kd.R_drewN|apply Kd.R_drew));exact Kd.R_mono HO_758001.out (fun _ hk=>by first|exact ⟨hk.1.1,⟨hk.1.2.1,⟨hk.1.2.2.1,⟨hk.1.2.2.2,hk.2⟩⟩⟩⟩|(simp [hk];done))⟩,⟨by (with_reducible repeat (first|apply Kd.R_alloc|apply Kd.R_drewN|apply Kd.R_drew));exact Kd.R_mono HO778.out (fun _ hk=>by first|exact ⟨hk.1.1.1.1.2,⟨hk.1.1.1.2,⟨hk.1.1.2,⟨hk.1.2,hk.2⟩⟩⟩⟩|(simp [hk];done))⟩,⟨bkC_ BK722.out⟩,⟨bkC_ BK727.out⟩,⟨bkC_ BK732.out⟩,⟨bkC_ BK741.out⟩,⟨bkC_ BK742.out⟩,⟨bkC_ BK751.out⟩,⟨bkC_ BK757.out⟩,⟨bkC_ BK780.out⟩,⟨h_HB HB.out⟩⟩
      ·rw [if_neg c117] at H
       exact absurd H (by simp)
     case rest =>
      clear HC96
      try clear c1
      try clear p2
      try clear c4
      try clear c5
      try clear c7
      try clear c9
      try clear c10
      try clear c11
      try clear c12
      try clear c13
      try clear c14
      try clear c46
      try clear c47
      try clear c48
      try clear c49
      try clear c50
      try clear c51
      try clear c52
      try clear c53
      try clear c73
      try clear c76
      try clear c76b0
      try clear c76b1
      try clear c93
      try clear c97
      try clear c98
      try clear c99
      try clear c100
      try clear c101
      try clear c102
      try clear c107
      try clear c108
      try clear c109
      try clear c110
      try clear c111
      try clear c112
      try clear c113
      try clear c117
      try clear c117b0
      try clear c117b1
      try clear c119
      try clear c119b0
      try clear c119b1
      try clear c119b2
      try clear c120
      try clear c122
      try clear c123
      try clear c124
      try clear c125
      try clear c126
      try clear c127
      try clear c128
      try clear c133
      try clear c134
      try clear c135
      try clear c136
      try clear c137
      try clear c138
      try clear c142
      try clear c143
      try clear c144
      try clear c145
      try clear c146
      try clear c147
      try clear c148
      try clear hcz103_0
      try clear hcz103_1
      try clear hcz114_0
      try clear hcz114_1
      try clear hcz129_0
      try clear hcz129_1
      try clear hcz131_0
      try clear hcz131_1
      try clear hcz139_0
      try clear hcz139_1
      try clear hcz140_0
      try clear hcz140_1
      try clear hcz149_0
      try clear hcz149_1
      try clear hcz151_0
      try clear hcz151_1
      try clear hfz103_0
      try clear hfz103_1
      try clear hfz114_0
      try clear hfz114_1
      try clear hfz129_0
      try clear hfz129_1
      try clear hfz131_0
      try clear hfz131_1
      try clear hfz139_0
      try clear hfz139_1
      try clear hfz140_0
      try clear hfz140_1
      try clear hfz149_0
      try clear hfz149_1
      try clear hfz151_0
      try clear hfz151_1
      try clear p2
      obtain ⟨kq,x134_95,rfl,HA,HJ95,HO_723001,HO_742001,HO_743001,HO_752001,HO_758001,HO_781001,BK722,BK727,BK732,BK741,BK742,BK751,BK757,BK780,HB⟩:=hcut
      cases kq with
      | zero=>exact absurd HA.out (by simp [laws_FnMatroids.j1])
      | succ kj95 =>
       have H:=HA.out
       clear HA
       simp only [laws_FnMatroids.j1] at H
       by_cases c153:x134_95=true
       ·subst c153
        replace H:=bT_ H
        exact absurd H (by simp)
       ·replace c153:=Bool.eq_false_iff.mpr c153
        subst c153
        replace H:=bF_ H
        by_cases c154:t726=true
        ·subst c154
         replace H:=bT_ H
         have H':=Aside0.mk H
         clear H
         go_wp2
         go_loopg [20] kj95 (fun kq v20 w'=>∃ (x20_3:Int),v20=.int .i64 x20_3∧Aside0 (laws_FnMatroids.l0 kq x20_3 t718 t719 t723 t724 t725=some r)∧Aside0 (kq≤kj95)∧Aside0 (Kd.R (Kd.int .i64) 3 w' w.heap.size (fun k_=>some k_≠((.slice Ao35 t734.length co35):Value).ownBlock∧some k_≠((.slice Ao40 t738.length co40):Value).ownBlock∧some k_≠((.slice Ao51 t747.length co51):Value).ownBlock∧some k_≠((.slice Ao61 t753.length co61):Value).ownBlock∧some k_≠((.slice Ao115 t776.length co115):Value).ownBlock) (.slice Ao16 t719.length co16) t719)∧Aside0 (Kd.R (Kd.int .i64) 3 w' w.heap.size (fun k_=>some k_≠((.slice Ao16 t719.length co16):Value).ownBlock∧some k_≠((.slice Ao40 t738.length co40):Value).ownBlock∧some k_≠((.slice Ao51 t747.length co51):Value).ownBlock∧some k_≠((.slice Ao61 t753.length co61):Value).ownBlock∧some k_≠((.slice Ao115 t776.length co115):Value).ownBlock) (.slice Ao35 t734.length co35) t734)∧Aside0 (Kd.R (Kd.int .i64) 3 w' w.heap.size (fun k_=>some k_≠((.slice Ao16 t719.length co16):Value).ownBlock∧some k_≠((.slice Ao35 t734.length co35):Value).ownBlock∧some k_≠((.slice Ao51 t747.length co51):Value).ownBlock∧some k_≠((.slice Ao61 t753.length co61):Value).ownBlock∧some k_≠((.slice Ao115 t776.length co115):Value).ownBlock) (.slice Ao40 t738.length co40) t738)∧Aside0 (Kd.R (Kd.int .i64) 3 w' w.heap.size (fun k_=>some k_≠((.slice Ao16 t719.length co16):Value).ownBlock∧some k_≠((.slice Ao35 t734.length co35):Value).ownBlock∧some k_≠((.slice Ao40 t738.length co40):Value).ownBlock∧some k_≠((.slice Ao61 t753.length co61):Value).ownBlock∧some k_≠((.slice Ao115 t776.length co115):Value).ownBlock) (.slice Ao51 t747.length co51) t747)∧Aside0 (Kd.R (Kd.int .i64) 3 w' w.heap.size (fun k_=>some k_≠((.slice Ao16 t719.length co16):Value).ownBlock∧some k_≠((.slice Ao35 t734.length co35):Value).ownBlock∧some k_≠((.slice Ao40 t738.length co40):Value).ownBlock∧some k_≠((.slice Ao51 t747.length co51):Value).ownBlock∧some k_≠((.slice Ao115 t776.length co115):Value).ownBlock) (.slice Ao61 t753.length co61) t753)∧Aside0 (Kd.R (Kd.int .i64) 3 w' w.heap.size (fun k_=>some k_≠((.slice Ao16 t719.length co16):Value).ownBlock∧some k_≠((.slice Ao35 t734.length co35):Value).ownBlock∧some k_≠((.slice Ao40 t738.length co40):Value).ownBlock∧some k_≠((.slice Ao51 t747.length co51):Value).ownBlock∧some k_≠((.slice Ao61 t753.length co61):Value).ownBlock) (.slice Ao115 t776.length co115) t776)∧Aside0 (w'.heap[gb722]?=some (.cells #[.int .i64 t718,(.slice Ao16 t719.length co16)] 24 (0,0)))∧Aside0 (w'.heap[gb727]?=some (.cells #[.int .i64 t723,.int .i64 t724,.int .i64 t725] 49 (0,0)))∧Aside0 (w'.heap[gb732]?=some (.cells #[.int .i64 t728,.int .i64 t729,.int .i64 t730] 49 (0,0)))∧Aside0 (w'.heap[gb741]?=some (.cells #[.int .i64 t733,(.slice Ao35 t734.length co35)] 24 (0,0)))∧Aside0 (w'.heap[gb742]?=some (.cells #[.int .i64 t737,(.slice Ao40 t738.length co40)] 24 (0,0)))∧Aside0 (w'.heap[gb751]?=some (.cells #[.int .i64 t746,(.slice Ao51 t747.length co51)] 24 (0,0)))∧Aside0 (w'.heap[gb757]?=some (.cells #[.int .i64 t752,(.slice Ao61 t753.length co61)] 24 (0,0)))∧Aside0 (w'.heap[gb780]?=some (.cells #[.int .i64 t775,(.slice Ao115 t776.length co115)] 24 (0,0)))∧Aside0 (Below w.heap.size w w'))
         case atStart=>exact ⟨(0),sT_,H',⟨Nat.le_refl _⟩,⟨kRC_ HO_723001.out⟩,⟨kRC_ HO_742001.out⟩,⟨kRC_ HO_743001.out⟩,⟨kRC_ HO_752001.out⟩,⟨kRC_ HO_758001.out⟩,⟨kRC_ HO_781001.out⟩,⟨bkC_ BK722.out⟩,⟨bkC_ BK727.out⟩,⟨bkC_ BK732.out⟩,⟨bkC_ BK741.out⟩,⟨bkC_ BK742.out⟩,⟨bkC_ BK751.out⟩,⟨bkC_ BK757.out⟩,⟨bkC_ BK780.out⟩,⟨h_HB HB.out⟩⟩
         case round =>
          clear H'
          try clear c1
          try clear p2
          try clear c4
          try clear c5
          try clear c7
          try clear c9
          try clear c10
          try clear c11
          try clear c12
          try clear c13
          try clear c14
          try clear c15
          try clear c46
          try clear c47
          try clear c48
          try clear c49
          try clear c50
          try clear c51
          try clear c52
          try clear c53
          try clear c73
          try clear c76
          try clear c76b0
          try clear c76b1
          try clear c93
          try clear c97
          try clear c98
          try clear c99
          try clear c100
          try clear c101
          try clear c102
          try clear c107
          try clear c108
          try clear c109
          try clear c110
          try clear c111
          try clear c112
          try clear c113
          try clear c117
          try clear c117b0
          try clear c117b1
          try clear c119
          try clear c119b0
          try clear c119b1
          try clear c119b2
          try clear c120
          try clear c122
          try clear c123
          try clear c124
          try clear c125
          try clear c126
          try clear c127
          try clear c128
          try clear c133
          try clear c134
          try clear c135
          try clear c136
          try clear c137
          try clear c138
          try clear c142
          try clear c143
          try clear c144
          try clear c145
          try clear c146
          try clear c147
          try clear c148
          try clear c153
          try clear c154
          try clear hcz103_0
          try clear hcz103_1
          try clear hcz114_0
          try clear hcz114_1
          try clear hcz129_0
          try clear hcz129_1
          try clear hcz131_0
          try clear hcz131_1
          try clear hcz139_0
          try clear hcz139_1
          try clear hcz140_0
          try clear hcz140_1
          try clear hcz149_0
          try clear hcz149_1
          try clear hcz151_0
          try clear hcz151_1
          try clear hfz103_0
          try clear hfz103_1
          try clear hfz114_0
          try clear hfz114_1
          try clear hfz129_0
          try clear hfz129_1
          try clear hfz131_0
          try clear hfz131_1
          try clear hfz139_0
          try clear hfz139_1
          try clear hfz140_0
          try clear hfz140_1
          try clear hfz149_0
          try clear hfz149_1
          try clear hfz151_0
          try clear hfz151_1
          try clear p2
          obtain ⟨x20_3,rfl,HA,HK3,HO_723001,HO_742001,HO_743001,HO_752001,HO_758001,HO_781001,BK722,BK727,BK732,BK741,BK742,BK751,BK757,BK780,HB⟩:=hrel
          cases gk with
          | zero=>exact absurd HA.out (by simp [laws_FnMatroids.l0])
          | succ k3 =>
           have H:=HA.out
           clear HA
           simp only [laws_FnMatroids.l0] at H
           rcases gsb_ H with ⟨c155b0,H⟩|⟨c155b0,H⟩
           ·replace H:=bnd_ H;obtain ⟨t784,A156,H⟩:=H
            by_cases c157:t784=true
            ·subst c157
             replace H:=bT_ H
             replace H:=bnd_ H;obtain ⟨t785,A158,H⟩:=H
             by_cases c159:t785=true
             ·subst c159
              replace H:=bT_ H
              have H':=Aside0.mk H
              clear H
              have hnb160:=NB722_727.out
              have hnc160:=NB727_722.out
              have hnb161:=NB722_732.out
              have hnc161:=NB732_722.out
              have hnb162:=NB722_741.out
              have hnc162:=NB741_722.out
              have hnb163:=NB722_742.out
              have hnc163:=NB742_722.out
              have hnb164:=NB722_751.out
              have hnc164:=NB751_722.out
              have hnb165:=NB722_757.out
              have hnc165:=NB757_722.out
              have hnb166:=NB722_780.out
              have hnc166:=NB780_722.out
              obtain ⟨hcz167_0,hcz167_1,hfz167_0,hfz167_1⟩:=bz2_ BK722.out
              try go_wp2
              have n0_:=Aside0.mk (Kd.R_drew HO_723001.out)
              have n1_:=Aside0.mk (Kd.R_drew HO_742001.out)
              have n2_:=Aside0.mk (Kd.R_drew HO_743001.out)
              have n3_:=Aside0.mk (Kd.R_drew HO_752001.out)
              have n4_:=Aside0.mk (Kd.R_drew HO_758001.out)
              have n5_:=Aside0.mk (Kd.R_drew HO_781001.out)
              have n6_:=Aside0.mk (blk_drew BK722.out)
              have n7_:=Aside0.mk (blk_drew BK727.out)
              have n8_:=Aside0.mk (blk_drew BK732.out)
              have n9_:=Aside0.mk (blk_drew BK741.out)
              have n10_:=Aside0.mk (blk_drew BK742.out)
              have n11_:=Aside0.mk (blk_drew BK751.out)
              have n12_:=Aside0.mk (blk_drew BK757.out)
              have n13_:=Aside0.mk (blk_drew BK780.out)
              have n14_:=Aside0.mk (below_drew1 HB.out)
              clear HO_723001
              clear HO_742001
              clear HO_743001
              clear HO_752001
              clear HO_758001
              clear HO_781001
              clear BK722
              clear BK727
              clear BK732
              clear BK741
              clear BK742
              clear BK751
              clear BK757
              clear BK780
              clear HB
              have HO_723001:=n0_
              have HO_742001:=n1_
              have HO_743001:=n2_
              have HO_752001:=n3_
              have HO_758001:=n4_
              have HO_781001:=n5_
              have BK722:=n6_
              have BK727:=n7_
              have BK732:=n8_
              have BK741:=n9_
              have BK742:=n10_
              have BK751:=n11_
              have BK757:=n12_
              have BK780:=n13_
              have HB:=n14_
              clear n0_ n1_ n2_ n3_ n4_ n5_ n6_ n7_ n8_ n9_ n10_ n11_ n12_ n13_ n14_
              refine start_ (n:=23) (S:=fun w'=>w'.cell? ⟨gb727,0,none⟩=some (.int .i64 t723)∧w'.cell? ⟨gb727,1,none⟩=some (.int .i64 t724)∧w'.cell? ⟨gb727,2,none⟩=some (.int .i64 t725)) (ds:=[]) #[F_,F_,F_,F_,F_,F_,F_,F_,F_,F_,F_,F_,F_,F_,F_,F_,F_,F_,F_,F_,F_,F_,F_] krT_ rfl rfl ⟨(blk_cell BK727.out 0).trans rfl,(blk_cell BK727.out 1).trans rfl,(blk_cell BK727.out 2).trans rfl⟩ (fun hHeld=>?_);refine with_tabW laws_FnMatroids.tab22 laws_FnMatroids.bits22 (fun HT_ HW_=>?_)
              generalize wr.drew=w168 at HO_723001 HO_742001 HO_743001 HO_752001 HO_758001 HO_781001 BK722 BK727 BK732 BK741 BK742 BK751 BK757 BK780 HB hHeld ⊢
              refine pu_ 0 (some 143) (bm_ 23 1) rfl rfl HT_.out ?_
              refine pu_ 2 (some 145) (bm_ 23 5) rfl rfl HT_.out ?_
              refine take_ (i:=1) (N:=some 144) (v:=?_) (a':=?_) (bm_ 23 7) rfl rfl (take_ofW HT_.out HW_.out krT_) (fun _ _ _ h=>h) (Or.inl ⟨by rfl,?_⟩) hHeld ?_ ?_
              rotate_left
              ·rintro w' ⟨s0,s1,s2⟩
               go_simp
               with_reducible rfl
              rotate_left;exact apT_
              refine one_ (i:=3) (N:=some 146) (bm_ 23 15) rfl rfl (one_of HT_.out krT_) (by decide) (fun K hK=>?_)
              refine goes_ Tryz.func54 krT_ rfl #[.int .i64 t724,.int .i64 x20_3] (by rfl) rfl rfl agT_ ?_
              with_reducible refine (spec_HasElement.calls t724 x20_3 true _ A156.out).mono ?_
              rintro e w' ⟨rfl,⟨nd,rfl⟩⟩
              refine ⟨_,rfl,?_⟩
              refine hK.out _ _ ⟨(blk_cell BK727.out 0).trans rfl,(blk_cell BK727.out 1).trans rfl,(blk_cell BK727.out 2).trans rfl⟩ (fun hHeld=>?_)
              clear hK K
              refine norm_ (a':=?_) ?_ ?_
              rotate_left
              ·show Act.put _ (some 146) _=_
               simp only [Act.put,List.setIfInBounds_toArray,List.set_cons_zero,List.set_cons_succ,i64_w,i32_w]
               rfl
              refine pu_ 4 (some 147) (bm_ 23 31) rfl rfl HT_.out ?_
              refine pu_ 5 (some 148) (bm_ 23 63) rfl rfl HT_.out ?_
              refine pu_ 7 (some 150) (bm_ 23 191) rfl rfl HT_.out ?_
              refine take_ (i:=6) (N:=some 149) (v:=?_) (a':=?_) (bm_ 23 255) rfl rfl (take_ofW HT_.out HW_.out krT_) (fun _ _ _ h=>h) (Or.inl ⟨by rfl,?_⟩) hHeld ?_ ?_
              rotate_left
              ·rintro w' ⟨s0,s1,s2⟩
               go_simp
               with_reducible rfl
              rotate_left;exact apT_
              refine one_ (i:=8) (N:=some 151) (bm_ 23 511) rfl rfl (one_of HT_.out krT_) (by decide) (fun K hK=>?_)
              refine goes_ Tryz.func54 krT_ rfl #[.int .i64 t723,.int .i64 x20_3] (by rfl) rfl rfl agT_ ?_
              with_reducible refine (spec_HasElement.calls t723 x20_3 true _ A158.out).mono ?_
              rintro e w' ⟨rfl,⟨nd,rfl⟩⟩
              refine ⟨_,rfl,?_⟩
              refine hK.out _ _ ⟨(blk_cell BK727.out 0).trans rfl,(blk_cell BK727.out 1).trans rfl,(blk_cell BK727.out 2).trans rfl⟩ (fun hHeld=>?_)
              clear hK K
              refine norm_ (a':=?_) ?_ ?_
              rotate_left
              ·show Act.put _ (some 151) _=_
               simp only [Act.put,List.setIfInBounds_toArray,List.set_cons_zero,List.set_cons_succ,i64_w,i32_w]
               rfl
              refine pu_ 9 (some 152) (bm_ 23 1023) rfl rfl HT_.out ?_
              refine pu_ 10 (some 153) (bm_ 23 2047) rfl rfl HT_.out ?_
              refine pu_ 11 (some 154) (bm_ 23 4095) rfl rfl HT_.out ?_
              refine pure_ (i:=12) (N:=some 155) (v:=undef) (a':=?_) (bm_ 23 8191) rfl rfl (any_of HT_.out krT_) (fun _ _ _ h=>h) (Or.inr ⟨by rfl,rfl⟩) ?_ ?_
              rotate_left;exact apT_
              refine pure_ (i:=13) (N:=some 156) (v:=undef) (a':=?_) (bm_ 23 16383) rfl rfl (any_of HT_.out krT_) (fun _ _ _ h=>h) (Or.inr ⟨by rfl,rfl⟩) ?_ ?_
              rotate_left;exact apT_
              refine pure_ (i:=14) (N:=some 157) (v:=undef) (a':=?_) (bm_ 23 32767) rfl rfl (any_of HT_.out krT_) (fun _ _ _ h=>h) (Or.inr ⟨by rfl,rfl⟩) ?_ ?_
              rotate_left;exact apT_
              refine pure_ (i:=15) (N:=some 158) (v:=undef) (a':=?_) (bm_ 23 65535) rfl rfl (any_of HT_.out krT_) (fun _ _ _ h=>h) (Or.inr ⟨by rfl,rfl⟩) ?_ ?_
              rotate_left;exact apT_
              refine pure_ (i:=16) (N:=some 159) (v:=undef) (a':=?_) (bm_ 23 131071) rfl rfl (any_of HT_.out krT_) (fun _ _ _ h=>h) (Or.inr ⟨by rfl,rfl⟩) ?_ ?_
              rotate_left;exact apT_
              refine pure_ (i:=17) (N:=some 160) (v:=undef) (a':=?_) (bm_ 23 262143) rfl rfl (any_of HT_.out krT_) (fun _ _ _ h=>h) (Or.inr ⟨by rfl,rfl⟩) ?_ ?_
              rotate_left;exact apT_
              refine pure_ (i:=18) (N:=some 161) (v:=undef) (a':=?_) (bm_ 23 524287) rfl rfl (any_of HT_.out krT_) (fun _ _ _ h=>h) (Or.inr ⟨by rfl,rfl⟩) ?_ ?_
              rotate_left;exact apT_
              refine pure_ (i:=19) (N:=some 162) (v:=undef) (a':=?_) (bm_ 23 1048575) rfl rfl (any_of HT_.out krT_) (fun _ _ _ h=>h) (Or.inr ⟨by rfl,rfl⟩) ?_ ?_
              rotate_left;exact apT_
              refine pure_ (i:=20) (N:=some 163) (v:=undef) (a':=?_) (bm_ 23 2097151) rfl rfl (any_of HT_.out krT_) (fun _ _ _ h=>h) (Or.inr ⟨by rfl,rfl⟩) ?_ ?_
              rotate_left;exact apT_
              refine pure_ (i:=21) (N:=some 164) (v:=undef) (a':=?_) (bm_ 23 4194303) rfl rfl (any_of HT_.out krT_) (fun _ _ _ h=>h) (Or.inr ⟨by rfl,rfl⟩) ?_ ?_
              rotate_left;exact apT_
              refine pu_ 22 (some 165) (bm_ 23 8388607) rfl rfl HT_.out ?_
              refine done_ (done_of HT_.out krT_) ?_
              try go_wp2
              go_roundg k3
              case measure=>have:=HJ11.out;have:=HJ95.out;have:=HK3.out;omega
              case rel=>exact ⟨(wrap64 (x20_3+1)),sT_,H',⟨by have:=HJ11.out;have:=HJ95.out;have:=HK3.out;omega⟩,⟨kRC_ HO_723001.out⟩,⟨kRC_ HO_742001.out⟩,⟨kRC_ HO_743001.out⟩,⟨kRC_ HO_752001.out⟩,⟨kRC_ HO_758001.out⟩,⟨kRC_ HO_781001.out⟩,⟨bkC_ BK722.out⟩,⟨bkC_ BK727.out⟩,⟨bkC_ BK732.out⟩,⟨bkC_ BK741.out⟩,⟨bkC_ BK742.out⟩,⟨bkC_ BK751.out⟩,⟨bkC_ BK757.out⟩,⟨bkC_ BK780.out⟩,⟨h_HB HB.out⟩⟩
             ·replace c159:=Bool.eq_false_iff.mpr c159
              subst c159
              replace H:=bF_ H
              replace H:=bnd_ H;obtain ⟨t786,A169,H⟩:=H
              replace H:=bnd_ H;obtain ⟨t787,A170,H⟩:=H
              replace H:=bnd_ H;obtain ⟨t788,A171,H⟩:=H
              by_cases c172:t788=true
              ·subst c172
               replace H:=bT_ H
               exact absurd H (by simp)
              ·replace c172:=Bool.eq_false_iff.mpr c172
               subst c172
               replace H:=bF_ H
               have H':=Aside0.mk H
               clear H
               have hnb173:=NB722_727.out
               have hnc173:=NB727_722.out
               have hnb174:=NB722_732.out
               have hnc174:=NB732_722.out
               have hnb175:=NB722_741.out
               have hnc175:=NB741_722.out
               have hnb176:=NB722_742.out
               have hnc176:=NB742_722.out
               have hnb177:=NB722_751.out
               have hnc177:=NB751_722.out
               have hnb178:=NB722_757.out
               have hnc178:=NB757_722.out
               have hnb179:=NB722_780.out
               have hnc179:=NB780_722.out
               obtain ⟨hcz180_0,hcz180_1,hfz180_0,hfz180_1⟩:=bz2_ BK722.out
               try go_wp2
               have n0_:=Aside0.mk (Kd.R_drew HO_723001.out)
               have n1_:=Aside0.mk (Kd.R_drew HO_742001.out)
               have n2_:=Aside0.mk (Kd.R_drew HO_743001.out)
               have n3_:=Aside0.mk (Kd.R_drew HO_752001.out)
               have n4_:=Aside0.mk (Kd.R_drew HO_758001.out)
               have n5_:=Aside0.mk (Kd.R_drew HO_781001.out)
               have n6_:=Aside0.mk (blk_drew BK722.out)
               have n7_:=Aside0.mk (blk_drew BK727.out)
               have n8_:=Aside0.mk (blk_drew BK732.out)
               have n9_:=Aside0.mk (blk_drew BK741.out)
               have n10_:=Aside0.mk (blk_drew BK742.out)
               have n11_:=Aside0.mk (blk_drew BK751.out)
               have n12_:=Aside0.mk (blk_drew BK757.out)
               have n13_:=Aside0.mk (blk_drew BK780.out)
               have n14_:=Aside0.mk (below_drew1 HB.out)
               clear HO_723001
               clear HO_742001
               clear HO_743001
               clear HO_752001
               clear HO_758001
               clear HO_781001
               clear BK722
               clear BK727
               clear BK732
               clear BK741
               clear BK742
               clear BK751
               clear BK757
               clear BK780
               clear HB
               have HO_723001:=n0_
               have HO_742001:=n1_
               have HO_743001:=n2_
               have HO_752001:=n3_
               have HO_758001:=n4_
               have HO_781001:=n5_
               have BK722:=n6_
               have BK727:=n7_
               have BK732:=n8_
               have BK741:=n9_
               have BK742:=n10_
               have BK751:=n11_
               have BK757:=n12_
               have BK780:=n13_
               have HB:=n14_
               clear n0_ n1_ n2_ n3_ n4_ n5_ n6_ n7_ n8_ n9_ n10_ n11_ n12_ n13_ n14_
               refine start_ (n:=23) (S:=fun w'=>w'.cell? ⟨gb727,0,none⟩=some (.int .i64 t723)∧w'.cell? ⟨gb727,1,none⟩=some (.int .i64 t724)∧w'.cell? ⟨gb727,2,none⟩=some (.int .i64 t725)∧w'.cell? ⟨gb722,0,none⟩=some (.int .i64 t718)∧w'.cell? ⟨gb722,1,none⟩=some (.slice Ao16 t719.length co16)) (ds:=[]) #[F_,F_,F_,F_,F_,F_,F_,F_,F_,F_,F_,F_,F_,F_,F_,F_,F_,F_,F_,F_,F_,F_,F_] krT_ rfl rfl ⟨(blk_cell BK727.out 0).trans rfl,(blk_cell BK727.out 1).trans rfl,(blk_cell BK727.out 2).trans rfl,(blk_cell BK722.out 0).trans rfl,(blk_cell BK722.out 1).trans rfl⟩ (fun hHeld=>?_);refine with_tabW laws_FnMatroids.tab22 laws_FnMatroids.bits22 (fun HT_ HW_=>?_)
               generalize wr.drew=w181 at HO_723001 HO_742001 HO_743001 HO_752001 HO_758001 HO_781001 BK722 BK727 BK732 BK741 BK742 BK751 BK757 BK780 HB hHeld ⊢
               refine pu_ 0 (some 143) (bm_ 23 1) rfl rfl HT_.out ?_
               refine pu_ 2 (some 145) (bm_ 23 5) rfl rfl HT_.out ?_
               refine take_ (i:=1) (N:=some 144) (v:=?_) (a':=?_) (bm_ 23 7) rfl rfl (take_ofW HT_.out HW_.out krT_) (fun _ _ _ h=>h) (Or.inl ⟨by rfl,?_⟩) hHeld ?_ ?_
               rotate_left
               ·rintro w' ⟨s0,s1,s2,s3,s4⟩
                go_simp
                with_reducible rfl
               rotate_left;exact apT_
               refine one_ (i:=3) (N:=some 146) (bm_ 23 15) rfl rfl (one_of HT_.out krT_) (by decide) (fun K hK=>?_)
               refine goes_ Tryz.func54 krT_ rfl #[.int .i64 t724,.int .i64 x20_3] (by rfl) rfl rfl agT_ ?_
               with_reducible refine (spec_HasElement.calls t724 x20_3 true _ A156.out).mono ?_
               rintro e w' ⟨rfl,⟨nd,rfl⟩⟩
               refine ⟨_,rfl,?_⟩
               refine hK.out _ _ ⟨(blk_cell BK727.out 0).trans rfl,(blk_cell BK727.out 1).trans rfl,(blk_cell BK727.out 2).trans rfl,(blk_cell BK722.out 0).trans rfl,(blk_cell BK722.out 1).trans rfl⟩ (fun hHeld=>?_)
               clear hK K
               refine norm_ (a':=?_) ?_ ?_
               rotate_left
               ·show Act.put _ (some 146) _=_
                simp only [Act.put,List.setIfInBounds_toArray,List.set_cons_zero,List.set_cons_succ,i64_w,i32_w]
                rfl
               refine pu_ 4 (some 147) (bm_ 23 31) rfl rfl HT_.out ?_
               refine pu_ 5 (some 148) (bm_ 23 63) rfl rfl HT_.out ?_
               refine pu_ 7 (some 150) (bm_ 23 191) rfl rfl HT_.out ?_
               refine take_ (i:=6) (N:=some 149) (v:=?_) (a':=?_) (bm_ 23 255) rfl rfl (take_ofW HT_.out HW_.out krT_) (fun _ _ _ h=>h) (Or.inl ⟨by rfl,?_⟩) hHeld ?_ ?_
               rotate_left
               ·rintro w' ⟨s0,s1,s2,s3,s4⟩
                go_simp
                with_reducible rfl
               rotate_left;exact apT_
               refine one_ (i:=8) (N:=some 151) (bm_ 23 511) rfl rfl (one_of HT_.out krT_) (by decide) (fun K hK=>?_)
               refine goes_ Tryz.func54 krT_ rfl #[.int .i64 t723,.int .i64 x20_3] (by rfl) rfl rfl agT_ ?_
               with_reducible refine (spec_HasElement.calls t723 x20_3 false _ A158.out).mono ?_
               rintro e w' ⟨rfl,⟨nd,rfl⟩⟩
               refine ⟨_,rfl,?_⟩
               refine hK.out _ _ ⟨(blk_cell BK727.out 0).trans rfl,(blk_cell BK727.out 1).trans rfl,(blk_cell BK727.out 2).trans rfl,(blk_cell BK722.out 0).trans rfl,(blk_cell BK722.out 1).trans rfl⟩ (fun hHeld=>?_)
               clear hK K
               refine norm_ (a':=?_) ?_ ?_
               rotate_left
               ·show Act.put _ (some 151) _=_
                simp only [Act.put,List.setIfInBounds_toArray,List.set_cons_zero,List.set_cons_succ,i64_w,i32_w]
                rfl
               refine pu_ 9 (some 152) (bm_ 23 1023) rfl rfl HT_.out ?_
               refine pu_ 10 (some 153) (bm_ 23 2047) rfl rfl HT_.out ?_
               refine pu_ 11 (some 154) (bm_ 23 4095) rfl rfl HT_.out ?_
               refine pu_ 12 (some 155) (bm_ 23 8191) rfl rfl HT_.out ?_
               refine pu_ 14 (some 157) (bm_ 23 24575) rfl rfl HT_.out ?_
               refine pu_ 16 (some 159) (bm_ 23 90111) rfl rfl HT_.out ?_
               refine pu_ 19 (some 162) (bm_ 23 614399) rfl rfl HT_.out ?_
               refine take_ (i:=13) (N:=some 156) (v:=?_) (a':=?_) (bm_ 23 622591) rfl rfl (take_ofW HT_.out HW_.out krT_) (fun _ _ _ h=>h) (Or.inl ⟨by rfl,?_⟩) hHeld ?_ ?_
               rotate_left
               ·rintro w' ⟨s0,s1,s2,s3,s4⟩
                go_simp
                with_reducible rfl
               rotate_left;exact apT_
               refine take_ (i:=15) (N:=some 158) (v:=?_) (a':=?_) (bm_ 23 655359) rfl rfl (take_ofW HT_.out HW_.out krT_) (fun _ _ _ h=>h) (Or.inl ⟨by rfl,?_⟩) hHeld ?_ ?_
               rotate_left
               ·rintro w' ⟨s0,s1,s2,s3,s4⟩
                go_simp
                with_reducible rfl
               rotate_left;exact apT_
               refine take_ (i:=17) (N:=some 160) (v:=?_) (a':=?_) (bm_ 23 786431) rfl rfl (take_ofW HT_.out HW_.out krT_) (fun _ _ _ h=>h) (Or.inl ⟨by rfl,?_⟩) hHeld ?_ ?_
               rotate_left
               ·rintro w' ⟨s0,s1,s2,s3,s4⟩
                go_simp
                with_reducible rfl
               rotate_left;exact apT_
               refine one_ (i:=18) (N:=some 161) (bm_ 23 1048575) rfl rfl (one_of HT_.out krT_) (by decide) (fun K hK=>?_)
               refine goes_ Tryz.func56 krT_ rfl #[.int .i64 t723,.int .i64 t725] (by rfl) rfl rfl agT_ ?_
               with_reducible refine (spec_WithoutElement.calls t723 t725 t786 _ A169.out).mono ?_
               rintro e w' ⟨rfl,⟨nd,rfl⟩⟩
               refine ⟨_,rfl,?_⟩
               refine hK.out _ _ ⟨(blk_cell BK727.out 0).trans rfl,(blk_cell BK727.out 1).trans rfl,(blk_cell BK727.out 2).trans rfl,(blk_cell BK722.out 0).trans rfl,(blk_cell BK722.out 1).trans rfl⟩ (fun hHeld=>?_)
               clear hK K
               refine norm_ (a':=?_) ?_ ?_
               rotate_left
               ·show Act.put _ (some 161) _=_
                simp only [Act.put,List.setIfInBounds_toArray,List.set_cons_zero,List.set_cons_succ,i64_w,i32_w]
                rfl
               refine one_ (i:=20) (N:=some 163) (bm_ 23 2097151) rfl rfl (one_of HT_.out krT_) (by decide) (fun K hK=>?_)
               refine goes_ Tryz.func55 krT_ rfl #[.int .i64 t786,.int .i64 x20_3] (by rfl) rfl rfl agT_ ?_
               with_reducible refine (spec_WithElement.calls t786 x20_3 t787 _ A170.out).mono ?_
               rintro e w' ⟨rfl,⟨nd,rfl⟩⟩
               refine ⟨_,rfl,?_⟩
               refine hK.out _ _ ⟨(blk_cell BK727.out 0).trans rfl,(blk_cell BK727.out 1).trans rfl,(blk_cell BK727.out 2).trans rfl,(blk_cell BK722.out 0).trans rfl,(blk_cell BK722.out 1).trans rfl⟩ (fun hHeld=>?_)
               clear hK K
               refine norm_ (a':=?_) ?_ ?_
               rotate_left
               ·show Act.put _ (some 163) _=_
                simp only [Act.put,List.setIfInBounds_toArray,List.set_cons_zero,List.set_cons_succ,i64_w,i32_w]
                rfl
               refine one_ (i:=21) (N:=some 164) (bm_ 23 4194303) rfl rfl (one_of HT_.out krT_) (by decide) (fun K hK=>?_)
               refine goes_ Tryz.func32 krT_ rfl #[.slice Ao16 t719.length co16,.int .i64 t787] (by rfl) rfl rfl agT_ ?_
               with_reducible refine (spec_HasSet.calls k3 _ _ t719 t787 false _ ?side1 ?side2 A171.out).mono ?_
               (case side1=>repeat (first|exact (Kd.R_reads' HO_723001.out).2.2|(with_reducible refine Kd.C_alloc ?_ _)|(with_reducible refine Kd.C_drewN ?_ _)|(with_reducible refine Kd.C_drew ?_)))
               (case side2=>exact (Kd.R_reads' HO_723001.out).2.1)
               rintro e w' ⟨rfl,⟨nd,rfl⟩⟩
               refine ⟨_,rfl,?_⟩
               refine hK.out _ _ ⟨(blk_cell BK727.out 0).trans rfl,(blk_cell BK727.out 1).trans rfl,(blk_cell BK727.out 2).trans rfl,(blk_cell BK722.out 0).trans rfl,(blk_cell BK722.out 1).trans rfl⟩ (fun hHeld=>?_)
               clear hK K
               refine norm_ (a':=?_) ?_ ?_
               rotate_left
               ·show Act.put _ (some 164) _=_
                simp only [Act.put,List.setIfInBounds_toArray,List.set_cons_zero,List.set_cons_succ,i64_w,i32_w]
                rfl
               refine pu_ 22 (some 165) (bm_ 23 8388607) rfl rfl HT_.out ?_
               refine done_ (done_of HT_.out krT_) ?_
               try go_wp2
               go_roundg k3
               case measure=>have:=HJ11.out;have:=HJ95.out;have:=HK3.out;omega
               case rel=>exact ⟨(wrap64 (x20_3+1)),sT_,H',⟨by have:=HJ11.out;have:=HJ95.out;have:=HK3.out;omega⟩,⟨kRC_ HO_723001.out⟩,⟨kRC_ HO_742001.out⟩,⟨kRC_ HO_743001.out⟩,⟨kRC_ HO_752001.out⟩,⟨kRC_ HO_758001.out⟩,⟨kRC_ HO_781001.out⟩,⟨bkC_ BK722.out⟩,⟨bkC_ BK727.out⟩,⟨bkC_ BK732.out⟩,⟨bkC_ BK741.out⟩,⟨bkC_ BK742.out⟩,⟨bkC_ BK751.out⟩,⟨bkC_ BK757.out⟩,⟨bkC_ BK780.out⟩,⟨h_HB HB.out⟩⟩
            ·replace c157:=Bool.eq_false_iff.mpr c157
             subst c157
             replace H:=bF_ H
             have H':=Aside0.mk H
             clear H
             have hnb182:=NB722_727.out
             have hnc182:=NB727_722.out
             have hnb183:=NB722_732.out
             have hnc183:=NB732_722.out
             have hnb184:=NB722_741.out
             have hnc184:=NB741_722.out
             have hnb185:=NB722_742.out
             have hnc185:=NB742_722.out
             have hnb186:=NB722_751.out
             have hnc186:=NB751_722.out
             have hnb187:=NB722_757.out
             have hnc187:=NB757_722.out
             have hnb188:=NB722_780.out
             have hnc188:=NB780_722.out
             obtain ⟨hcz189_0,hcz189_1,hfz189_0,hfz189_1⟩:=bz2_ BK722.out
             try go_wp2
             have n0_:=Aside0.mk (Kd.R_drew HO_723001.out)
             have n1_:=Aside0.mk (Kd.R_drew HO_742001.out)
             have n2_:=Aside0.mk (Kd.R_drew HO_743001.out)
             have n3_:=Aside0.mk (Kd.R_drew HO_752001.out)
             have n4_:=Aside0.mk (Kd.R_drew HO_758001.out)
             have n5_:=Aside0.mk (Kd.R_drew HO_781001.out)
             have n6_:=Aside0.mk (blk_drew BK722.out)
             have n7_:=Aside0.mk (blk_drew BK727.out)
             have n8_:=Aside0.mk (blk_drew BK732.out)
             have n9_:=Aside0.mk (blk_drew BK741.out)
             have n10_:=Aside0.mk (blk_drew BK742.out)
             have n11_:=Aside0.mk (blk_drew BK751.out)
             have n12_:=Aside0.mk (blk_drew BK757.out)
             have n13_:=Aside0.mk (blk_drew BK780.out)
             have n14_:=Aside0.mk (below_drew1 HB.out)
             clear HO_723001
             clear HO_742001
             clear HO_743001
             clear HO_752001
             clear HO_758001
             clear HO_781001
             clear BK722
             clear BK727
             clear BK732
             clear BK741
             clear BK742
             clear BK751
             clear BK757
             clear BK780
             clear HB
             have HO_723001:=n0_
             have HO_742001:=n1_
             have HO_743001:=n2_
             have HO_752001:=n3_
             have HO_758001:=n4_
             have HO_781001:=n5_
             have BK722:=n6_
             have BK727:=n7_
             have BK732:=n8_
             have BK741:=n9_
             have BK742:=n10_
             have BK751:=n11_
             have BK757:=n12_
             have BK780:=n13_
             have HB:=n14_
             clear n0_ n1_ n2_ n3_ n4_ n5_ n6_ n7_ n8_ n9_ n10_ n11_ n12_ n13_ n14_
             refine start_ (n:=23) (S:=fun w'=>w'.cell? ⟨gb727,0,none⟩=some (.int .i64 t723)∧w'.cell? ⟨gb727,1,none⟩=some (.int .i64 t724)∧w'.cell? ⟨gb727,2,none⟩=some (.int .i64 t725)) (ds:=[]) #[F_,F_,F_,F_,F_,F_,F_,F_,F_,F_,F_,F_,F_,F_,F_,F_,F_,F_,F_,F_,F_,F_,F_] krT_ rfl rfl ⟨(blk_cell BK727.out 0).trans rfl,(blk_cell BK727.out 1).trans rfl,(blk_cell BK727.out 2).trans rfl⟩ (fun hHeld=>?_);refine with_tabW laws_FnMatroids.tab22 laws_FnMatroids.bits22 (fun HT_ HW_=>?_)
             generalize wr.drew=w190 at HO_723001 HO_742001 HO_743001 HO_752001 HO_758001 HO_781001 BK722 BK727 BK732 BK741 BK742 BK751 BK757 BK780 HB hHeld ⊢
             refine pu_ 0 (some 143) (bm_ 23 1) rfl rfl HT_.out ?_
             refine pu_ 2 (some 145) (bm_ 23 5) rfl rfl HT_.out ?_
             refine take_ (i:=1) (N:=some 144) (v:=?_) (a':=?_) (bm_ 23 7) rfl rfl (take_ofW HT_.out HW_.out krT_) (fun _ _ _ h=>h) (Or.inl ⟨by rfl,?_⟩) hHeld ?_ ?_
             rotate_left
             ·rintro w' ⟨s0,s1,s2⟩
              go_simp
              with_reducible rfl
             rotate_left;exact apT_
             refine one_ (i:=3) (N:=some 146) (bm_ 23 15) rfl rfl (one_of HT_.out krT_) (by decide) (fun K hK=>?_)
             refine goes_ Tryz.func54 krT_ rfl #[.int .i64 t724,.int .i64 x20_3] (by rfl) rfl rfl agT_ ?_
             with_reducible refine (spec_HasElement.calls t724 x20_3 false _ A156.out).mono ?_
             rintro e w' ⟨rfl,⟨nd,rfl⟩⟩
             refine ⟨_,rfl,?_⟩
             refine hK.out _ _ ⟨(blk_cell BK727.out 0).trans rfl,(blk_cell BK727.out 1).trans rfl,(blk_cell BK727.out 2).trans rfl⟩ (fun hHeld=>?_)
             clear hK K
             refine norm_ (a':=?_) ?_ ?_
             rotate_left
             ·show Act.put _ (some 146) _=_
              simp only [Act.put,List.setIfInBounds_toArray,List.set_cons_zero,List.set_cons_succ,i64_w,i32_w]
              rfl
             refine pu_ 4 (some 147) (bm_ 23 31) rfl rfl HT_.out ?_
             refine pure_ (i:=5) (N:=some 148) (v:=undef) (a':=?_) (bm_ 23 63) rfl rfl (any_of HT_.out krT_) (fun _ _ _ h=>h) (Or.inr ⟨by rfl,rfl⟩) ?_ ?_
             rotate_left;exact apT_
             refine pure_ (i:=6) (N:=some 149) (v:=undef) (a':=?_) (bm_ 23 127) rfl rfl (any_of HT_.out krT_) (fun _ _ _ h=>h) (Or.inr ⟨by rfl,rfl⟩) ?_ ?_
             rotate_left;exact apT_
             refine pure_ (i:=7) (N:=some 150) (v:=undef) (a':=?_) (bm_ 23 255) rfl rfl (any_of HT_.out krT_) (fun _ _ _ h=>h) (Or.inr ⟨by rfl,rfl⟩) ?_ ?_
             rotate_left;exact apT_
             refine pure_ (i:=8) (N:=some 151) (v:=undef) (a':=?_) (bm_ 23 511) rfl rfl (any_of HT_.out krT_) (fun _ _ _ h=>h) (Or.inr ⟨by rfl,rfl⟩) ?_ ?_
             rotate_left;exact apT_
             refine pure_ (i:=9) (N:=some 152) (v:=undef) (a':=?_) (bm_ 23 1023) rfl rfl (any_of HT_.out krT_) (fun _ _ _ h=>h) (Or.inr ⟨by rfl,rfl⟩) ?_ ?_
             rotate_left;exact apT_
             refine pu_ 10 (some 153) (bm_ 23 2047) rfl rfl HT_.out ?_
             refine pu_ 11 (some 154) (bm_ 23 4095) rfl rfl HT_.out ?_
             refine pure_ (i:=12) (N:=some 155) (v:=undef) (a':=?_) (bm_ 23 8191) rfl rfl (any_of HT_.out krT_) (fun _ _ _ h=>h) (Or.inr ⟨by rfl,rfl⟩) ?_ ?_
             rotate_left;exact apT_
             refine pure_ (i:=13) (N:=some 156) (v:=undef) (a':=?_) (bm_ 23 16383) rfl rfl (any_of HT_.out krT_) (fun _ _ _ h=>h) (Or.inr ⟨by rfl,rfl⟩) ?_ ?_
             rotate_left;exact apT_
             refine pure_ (i:=14) (N:=some 157) (v:=undef) (a':=?_) (bm_ 23 32767) rfl rfl (any_of HT_.out krT_) (fun _ _ _ h=>h) (Or.inr ⟨by rfl,rfl⟩) ?_ ?_
             rotate_left;exact apT_
             refine pure_ (i:=15) (N:=some 158) (v:=undef) (a':=?_) (bm_ 23 65535) rfl rfl (any_of HT_.out krT_) (fun _ _ _ h=>h) (Or.inr ⟨by rfl,rfl⟩) ?_ ?_
             rotate_left;exact apT_
             refine pure_ (i:=16) (N:=some 159) (v:=undef) (a':=?_) (bm_ 23 131071) rfl rfl (any_of HT_.out krT_) (fun _ _ _ h=>h) (Or.inr ⟨by rfl,rfl⟩) ?_ ?_
             rotate_left;exact apT_
             refine pure_ (i:=17) (N:=some 160) (v:=undef) (a':=?_) (bm_ 23 262143) rfl rfl (any_of HT_.out krT_) (fun _ _ _ h=>h) (Or.inr ⟨by rfl,rfl⟩) ?_ ?_
             rotate_left;exact apT_
             refine pure_ (i:=18) (N:=some 161) (v:=undef) (a':=?_) (bm_ 23 524287) rfl rfl (any_of HT_.out krT_) (fun _ _ _ h=>h) (Or.inr ⟨by rfl,rfl⟩) ?_ ?_
             rotate_left;exact apT_
             refine pure_ (i:=19) (N:=some 162) (v:=undef) (a':=?_) (bm_ 23 1048575) rfl rfl (any_of HT_.out krT_) (fun _ _ _ h=>h) (Or.inr ⟨by rfl,rfl⟩) ?_ ?_
             rotate_left;exact apT_
             refine pure_ (i:=20) (N:=some 163) (v:=undef) (a':=?_) (bm_ 23 2097151) rfl rfl (any_of HT_.out krT_) (fun _ _ _ h=>h) (Or.inr ⟨by rfl,rfl⟩) ?_ ?_
             rotate_left;exact apT_
             refine pure_ (i:=21) (N:=some 164) (v:=undef) (a':=?_) (bm_ 23 4194303) rfl rfl (any_of HT_.out krT_) (fun _ _ _ h=>h) (Or.inr ⟨by rfl,rfl⟩) ?_ ?_
             rotate_left;exact apT_
             refine pu_ 22 (some 165) (bm_ 23 8388607) rfl rfl HT_.out ?_
             refine done_ (done_of HT_.out krT_) ?_
             try go_wp2
             go_roundg k3
             case measure=>have:=HJ11.out;have:=HJ95.out;have:=HK3.out;omega
             case rel=>exact ⟨(wrap64 (x20_3+1)),sT_,H',⟨by have:=HJ11.out;have:=HJ95.out;have:=HK3.out;omega⟩,⟨kRC_ HO_723001.out⟩,⟨kRC_ HO_742001.out⟩,⟨kRC_ HO_743001.out⟩,⟨kRC_ HO_752001.out⟩,⟨kRC_ HO_758001.out⟩,⟨kRC_ HO_781001.out⟩,⟨bkC_ BK722.out⟩,⟨bkC_ BK727.out⟩,⟨bkC_ BK732.out⟩,⟨bkC_ BK741.out⟩,⟨bkC_ BK742.out⟩,⟨bkC_ BK751.out⟩,⟨bkC_ BK757.out⟩,⟨bkC_ BK780.out⟩,⟨h_HB HB.out⟩⟩
           ·replace H:=bnd_ H;obtain ⟨t789,A191,H⟩:=H
            by_cases c192:t789=true
            ·subst c192
             replace H:=bT_ H
             replace H:=bnd_ H;obtain ⟨t790,A193,H⟩:=H
             by_cases c194:t790=true
             ·subst c194
              replace H:=bT_ H
              replace H:=bnd_ H;obtain ⟨t791,A195,H⟩:=H
              by_cases c196:t791=true
              ·subst c196
               replace H:=bT_ H
               replace H:=bnd_ H;obtain ⟨t792,A197,H⟩:=H
               obtain rfl:=Option.some.inj H
               have hnb198:=NB722_727.out
               have hnc198:=NB727_722.out
               have hnb199:=NB722_732.out
               have hnc199:=NB732_722.out
               have hnb200:=NB722_741.out
               have hnc200:=NB741_722.out
               have hnb201:=NB722_742.out
               have hnc201:=NB742_722.out
               have hnb202:=NB722_751.out
               have hnc202:=NB751_722.out
               have hnb203:=NB722_757.out
               have hnc203:=NB757_722.out
               have hnb204:=NB722_780.out
               have hnc204:=NB780_722.out
               obtain ⟨hcz205_0,hcz205_1,hfz205_0,hfz205_1⟩:=bz2_ BK722.out
               have hnb206:=NB727_732.out
               have hnc206:=NB732_727.out
               have hnb207:=NB727_741.out
               have hnc207:=NB741_727.out
               have hnb208:=NB727_742.out
               have hnc208:=NB742_727.out
               have hnb209:=NB727_751.out
               have hnc209:=NB751_727.out
               have hnb210:=NB727_757.out
               have hnc210:=NB757_727.out
               have hnb211:=NB727_780.out
               have hnc211:=NB780_727.out
               obtain ⟨hcz212_0,hcz212_1,hcz212_2,hfz212_0,hfz212_1,hfz212_2⟩:=bz3_ BK727.out
               go_wp2_with (first|((with_reducible refine gate_callee (f:=32) rfl ?_);refine goesL_ (some 170) rfl rfl Tryz.func32 krT_ rfl #[.slice Ao16 t719.length co16,.int .i64 t723] rfl agT_ ?_;(with_reducible refine (spec_HasSet.calls k3 _ _ t719 t723 true _ ?side1 ?side2 A191.out).mono ?_);(case side1=>repeat (first|exact (Kd.R_reads' HO_723001.out).2.2|(with_reducible refine Kd.C_alloc ?_ _)|(with_reducible refine Kd.C_drewN ?_ _)|(with_reducible refine Kd.C_drew ?_)));(case side2=>exact (Kd.R_reads' HO_723001.out).2.1);rintro e w' ⟨rfl,⟨nd,rfl⟩⟩;refine ⟨_,rfl,?_⟩)|(go_at_call 32;(with_reducible refine (spec_HasSet.calls k3 _ _ t719 t724 true _ ?side1 ?side2 A193.out).mono ?_);(case side1=>repeat (first|exact (Kd.R_reads' HO_723001.out).2.2|(with_reducible refine Kd.C_alloc ?_ _)|(with_reducible refine Kd.C_drewN ?_ _)|(with_reducible refine Kd.C_drew ?_)));(case side2=>exact (Kd.R_reads' HO_723001.out).2.1);rintro e w' ⟨rfl,⟨nd,rfl⟩⟩)|(go_at_call 54;(with_reducible refine (spec_HasElement.calls t723 t725 true _ A195.out).mono ?_);rintro e w' ⟨rfl,⟨nd,rfl⟩⟩)|(go_at_call 54;(with_reducible refine (spec_HasElement.calls t724 t725 t792 _ A197.out).mono ?_);rintro e w' ⟨rfl,⟨nd,rfl⟩⟩))
               go_ret
               exact ⟨eT_,h_HB HB.out⟩
              ·replace c196:=Bool.eq_false_iff.mpr c196
               subst c196
               replace H:=bF_ H
               exact absurd H (by simp)
             ·replace c194:=Bool.eq_false_iff.mpr c194
              subst c194
              replace H:=bF_ H
              exact absurd H (by simp)
            ·replace c192:=Bool.eq_false_iff.mpr c192
             subst c192
             replace H:=bF_ H
             exact absurd H (by simp)
        ·replace c154:=Bool.eq_false_iff.mpr c154
         subst c154
         replace H:=bF_ H
         obtain rfl:=Option.some.inj H
         go_wp2
         go_ret
         exact ⟨eT_,h_HB HB.out⟩
/-- THE ONE PURE STATEMENT of laws_FnMatroids: yours. -/
def laws_FnMatroids.Pure:Prop:=∀ (l0:List Int),l0.length≤maxLen→l0.length*1≤140737488351232→(∀ x ∈ l0,(Lit.int .u8 x).wf=true)→∃ k,laws_FnMatroids.f k l0=some true
theorem laws_FnMatroids.walk (P:laws_FnMatroids.Pure) (a0:Option Addr) (len0 cap0:Nat) (z0:List Int) (w:World) (hld:LD w) (w0:(a0=none∧len0=0∧cap0=0∧z0=[])∨∃ x,a0=some x∧len0≤cap0∧cap0≤maxLen∧z0.length=cap0∧(∀ i,i<z0.length→w.cell? (x.add i)=some (.int .u8 (z0.getD i 0)))∧∀ n ∈ z0,(Lit.int .u8 n).wf=true) (y0:len0*1≤140737488351232) :
    Calls Tryz.prog 5 #[.slice a0 len0 cap0] w fun e w'=>e=.returned (.bool true)∧Below w.heap.size w w':=by
 obtain ⟨l0,rfl,hr0,hm0,hw0,hc0⟩:=ReadsInt.ofRowC w0
 obtain ⟨k,h⟩:=P l0 hm0 y0 hw0
 refine (laws_FnMatroids.calls k _ _ l0 true w hld (Kd.C_of_reads (d:=(0:Int)) (h1:=fun _=>rfl) hr0) hc0 h).mono ?_
 rintro e w' ⟨rfl,hd⟩
 exact ⟨rfl,hd⟩
end Go.Proofs.YtekegbacnagbcaaGreatDoor.P
