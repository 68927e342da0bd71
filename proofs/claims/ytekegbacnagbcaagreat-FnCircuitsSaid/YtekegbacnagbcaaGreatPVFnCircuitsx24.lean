-- written by gprint (a program of this session's, round the kit's print), out of the translation and hand-written texts
import Derived.Test.YtekegbacnagbcaaGreatPVFnCircuitsx0
import Derived.Test.YtekegbacnagbcaaGreatPVFnCircuitsx1
import Derived.Test.YtekegbacnagbcaaGreatPVFnCircuitsx2
import Derived.Test.YtekegbacnagbcaaGreatPVFnCircuitsx5
import Derived.Test.YtekegbacnagbcaaGreatPVFnCircuitsx6
import Derived.Test.YtekegbacnagbcaaGreatPVFnCircuitsx12
import Derived.Test.YtekegbacnagbcaaGreatPVFnCircuitsx14
import Derived.Test.YtekegbacnagbcaaGreatPVFnCircuitsx15
import Derived.Test.YtekegbacnagbcaaGreatPVFnCircuitsx16
import Derived.Test.YtekegbacnagbcaaGreatPVFnCircuitsx17
import Derived.Test.YtekegbacnagbcaaGreatPVFnCircuitsx18
import Derived.Test.YtekegbacnagbcaaGreatPVFnCircuitsx20
import Derived.Test.YtekegbacnagbcaaGreatPVFnCircuitsx21
import Derived.Test.YtekegbacnagbcaaGreatPVFnCircuitsx22
import Derived.Test.YtekegbacnagbcaaGreatPVFnCircuitsx23
namespace Go.Proofs.YtekegbacnagbcaaGreat.P
open Go.RowKit Go.Proofs.YtekegbacnagbcaaGreatW.PrintWords Go.Proofs.YtekegbacnagbcaaGreatW.PrintLast Go.Proofs.YtekegbacnagbcaaGreatW.PrintMore
attribute [local go_sem] max2_int min2_int max_two min_two max_three min_three max_four min_four
set_option linter.unusedVariables false
set_option maxHeartbeats 8000000
set_option maxRecDepth 100000
set_option linter.unusedSimpArgs false
theorem kQF2_ {α:Type} {d:Kd α} {e:Nat} {w0 w:World} {b:Nat} {ok:Nat → Prop} {v:Value} {xs:List α} (_x:Kd.Q d e w0 b ok v xs) (h:Kd.Q d e w b ok v xs:=by (with_reducible repeat (first|apply Kd.Q_alloc|apply Kd.Q_drewN|apply Kd.Q_drew));exact rQf2_ (Aside0.out (by assumption)) (Aside0.out (by assumption))):Kd.Q d e w b ok v xs:=h
theorem kQF3_ {α:Type} {d:Kd α} {e:Nat} {w0 w:World} {b:Nat} {ok:Nat → Prop} {v:Value} {xs:List α} (_x:Kd.Q d e w0 b ok v xs) (h:Kd.Q d e w b ok v xs:=by (with_reducible repeat (first|apply Kd.Q_alloc|apply Kd.Q_drewN|apply Kd.Q_drew));exact rQf3_ (Aside0.out (by assumption)) (Aside0.out (by assumption))):Kd.Q d e w b ok v xs:=h
theorem kRF2_ {α:Type} {d:Kd α} {e:Nat} {w0 w:World} {b:Nat} {ok:Nat → Prop} {v:Value} {xs:List α} (_x:Kd.R d e w0 b ok v xs) (h:Kd.R d e w b ok v xs:=by (with_reducible repeat (first|apply Kd.R_alloc|apply Kd.R_drewN|apply Kd.R_drew));exact rRf2_ (Aside0.out (by assumption)) (Aside0.out (by assumption))):Kd.R d e w b ok v xs:=h
theorem kRF3_ {α:Type} {d:Kd α} {e:Nat} {w0 w:World} {b:Nat} {ok:Nat → Prop} {v:Value} {xs:List α} (_x:Kd.R d e w0 b ok v xs) (h:Kd.R d e w b ok v xs:=by (with_reducible repeat (first|apply Kd.R_alloc|apply Kd.R_drewN|apply Kd.R_drew));exact rRf3_ (Aside0.out (by assumption)) (Aside0.out (by assumption))):Kd.R d e w b ok v xs:=h
attribute [local go_sem high] eqA32
mutual
def laws_FnCircuits.j0:Nat→List Int→List Int→Bool→Int→Int→Int→Bool→Int→List Int→Int→List Int→Int→List Int→Option (Bool)
 | 0,_,_,_,_,_,_,_,_,_,_,_,_,_=>none
 | k+1,x4,x6,x12,x16,x17,x18,x106,x865000,x865001,x888000,x888001,x901000,x901001=>if x106=true then (none) else (if x12=true then ((spec_IsMatroid.f k x888000 x888001).bind fun t910=>(if t910=true then ((impl_Circuits.f k x888000 x888001).bind fun t911=>((laws_sameInts.f k t911 x6).bind fun t914=>(if t914=true then (if x18=0 then (laws_FnCircuits.j1 k x4 false x865000 x865001) else ((spec_Circuits.f k x901000 x901001).bind fun t915=>((spec_HasSet.f k t915 x18).bind fun t918=>(if t918=true then ((spec_WithoutElement.f x18 x17).bind fun t919=>((spec_WithoutElement.f x18 x17).bind fun t920=>(laws_FnCircuits.j1 k x4 ((Go.bits .and .i64 t919 x16) != t920) x865000 x865001))) else (none))))) else (none)))) else (none))) else (if x18=0 then (laws_FnCircuits.j1 k x4 false x865000 x865001) else ((spec_Circuits.f k x901000 x901001).bind fun t921=>((spec_HasSet.f k t921 x18).bind fun t924=>(if t924=true then ((spec_WithoutElement.f x18 x17).bind fun t925=>((spec_WithoutElement.f x18 x17).bind fun t926=>(laws_FnCircuits.j1 k x4 ((Go.bits .and .i64 t925 x16) != t926) x865000 x865001))) else (none))))))
def laws_FnCircuits.j1:Nat→List Int→Bool→Int→List Int→Option (Bool)
 | 0,_,_,_,_=>none
 | k+1,x4,x145,x865000,x865001=>if x145=true then (none) else ((impl_FromCircuits.f k x865000 x4).bind fun bt927=>((spec_IsMatroid.f k x865000 x865001).bind fun t933=>(if t933=true then (if bt927.2.2=true then ((spec_EqualMatroid.f k bt927.1 bt927.2.1 x865000 x865001).bind fun t934=>(some t934)) else (none)) else (some true))))
end
def laws_FnCircuits.f (k:Nat) (l0:List Int):Option (Bool):=(laws_big.f l0).bind fun t859=>(if t859=true then (some true) else ((spec_DrawCircuits.f k l0).bind fun bt860=>((impl_Circuits.f k bt860.1 bt860.2).bind fun t865=>((spec_DrawCircuitFailure.f k l0).bind fun bt868=>((impl_CircuitFailure.f k bt868.1 bt868.2).bind fun bt872=>((spec_CircuitFailure.f k bt868.1 bt868.2).bind fun bt877=>((impl_FromCircuits.f k bt868.1 bt868.2).bind fun bt882=>((spec_FromCircuits.f k bt868.1 bt868.2).bind fun bt888=>((spec_DrawCircuitOf.f k l0).bind fun bt894=>((impl_CircuitOf.f k bt894.1 bt894.2.1 bt894.2.2.1 bt894.2.2.2).bind fun t901=>((spec_Circuits.f k bt860.1 bt860.2).bind fun t902=>((laws_sameInts.f k t865 t902).bind fun t905=>(if t905=true then (if (bt872.2.2.2 != bt877.2.2.2)=true then (none) else (if (!(bt872.1==bt877.1) || (!(bt872.2.1==bt877.2.1) || (!(bt872.2.2.1==bt877.2.2.1))))=true then (none) else (if (bt882.2.2 != bt888.2.2)=true then (none) else ((spec_EqualMatroid.f k bt882.1 bt882.2.1 bt888.1 bt888.2.1).bind fun t906=>(if t906=true then ((spec_CircuitOf.f k bt894.1 bt894.2.1 bt894.2.2.1 bt894.2.2.2).bind fun t907=>(if t901=t907 then ((impl_GirthOf.f k bt860.1 bt860.2).bind fun t908=>((spec_GirthOf.f k bt860.1 bt860.2).bind fun t909=>(laws_FnCircuits.j0 k t865 bt868.2 bt882.2.2 bt894.2.2.1 bt894.2.2.2 t901 (t908 != t909) bt860.1 bt860.2 bt882.1 bt882.2.1 bt894.1 bt894.2.1))) else (none))) else (none)))))) else (none))))))))))))))
def laws_FnCircuits.T12:Bool × List (List Nat × List Nat):=(true,[([],[]),([],[]),([1],[1]),([0,2,2],[0,2]),([3],[3]),([4,3],[4]),([5],[5]),([5],[5]),([6,7,5],[5,6,7]),([5,8],[5,8]),([9,5],[9]),([10],[10]),([10],[10]),([11,12,10],[10,11,12]),([10,13],[10,13]),([14,10],[14]),([15],[15]),([15],[15]),([16,17,15],[15,16,17]),([15,18],[15,18]),([19,15],[19]),([20],[20]),([20],[20]),([21,22,20,20],[20,21,22]),([23,20],[20,23]),([20,24],[20,24]),([25,23],[25]),([26],[26]),([26],[26]),([26],[26]),([26],[26]),([28,29,30,26,26],[26,28,29,30]),([27,31,26],[26,27,31]),([26,32],[26,32]),([33,31],[33]),([34],[34]),([35,34,34],[34,35]),([34],[34]),([37,36,34],[34,37]),([36,38,34],[34,36,38]),([34,39],[34,39])])
def laws_FnCircuits.B12:List Nat:=[0,0,2,7,15,31,63,63,255,511,1023,2047,2047,8191,16383,32767,65535,65535,262143,524287,1048575,2097151,2097151,8388607,16777215,33554431,67108863,134217727,134217727,134217727,134217727,2013265919,4294967295,8589934591,17179869183,34359738367,68719476735,34359738367,274877906943,549755813887,1099511627775]
theorem laws_FnCircuits.tab12:rtab .any (opsOf Tryz.f3 12)=laws_FnCircuits.T12:=by kernel_rfl
theorem laws_FnCircuits.bits12:waitsOk laws_FnCircuits.T12.2 laws_FnCircuits.B12=true:=by kernel_rfl
theorem laws_FnCircuits.calls (k:Nat) (A0:Option Addr) (c0:Nat) (l0:List Int) (r:Bool) (w:World) (hr0:Kd.C (Kd.int .u8) w A0 l0.length l0) (hc0:l0.length≤c0) (h:laws_FnCircuits.f k l0=some r) :
    Calls Tryz.prog 3 #[.slice A0 l0.length c0] w fun e w'=>e=.returned (.bool r)∧Below w.heap.size w w':=by
 have hu26:=Tryz.underlying26
 have hu32:=Tryz.underlying32
 have HR0:=Aside0.mk hr0
 have HC0:=Aside0.mk hc0
 clear hr0 hc0
 have HB:=Aside0.mk (Below.refl w.heap.size w)
 unfold laws_FnCircuits.f at h
 have H:=h
 clear h
 replace H:=bnd_ H;obtain ⟨t859,A2,H⟩:=H
 replace H:=gst_ H;rcases H with ⟨rfl,H⟩|⟨rfl,H⟩
 ·obtain rfl:=Option.some.inj H
  go_enter Tryz.func3,Tryz.ntmps3
  go_wp2_with (first|((with_reducible refine gate_callee (f:=4) rfl ?_);refine goesL_ (some 22) rfl rfl Tryz.func4 krT_ rfl #[.slice A0 l0.length c0] rfl agT_ ?_;(with_reducible refine (laws_big.calls _ _ l0 true _ ?side1 ?side2 A2.out).mono ?_);(case side1=>repeat (first|exact HR0.out|(with_reducible refine Kd.C_alloc ?_ _)|(with_reducible refine Kd.C_drewN ?_ _)|(with_reducible refine Kd.C_drew ?_)));(case side2=>exact HC0.out);rintro e w' ⟨rfl,⟨nd,rfl⟩⟩;refine ⟨_,rfl,?_⟩))
  go_ret
  exact ⟨eT_,h_HB HB.out⟩
 replace H:=bnd_ H;obtain ⟨⟨t860,t861⟩,A4,H⟩:=H;dsimp only at H
 replace H:=bnd_ H;obtain ⟨t865,A5,H⟩:=H
 replace H:=bnd_ H;obtain ⟨⟨t868,t869⟩,A6,H⟩:=H;dsimp only at H
 replace H:=bnd_ H;obtain ⟨⟨t872,t873,t874,t875⟩,A7,H⟩:=H;dsimp only at H
 replace H:=bnd_ H;obtain ⟨⟨t877,t878,t879,t880⟩,A8,H⟩:=H;dsimp only at H
 replace H:=bnd_ H;obtain ⟨⟨t882,t883,t886⟩,A9,H⟩:=H;dsimp only at H
 replace H:=bnd_ H;obtain ⟨⟨t888,t889,t892⟩,A10,H⟩:=H;dsimp only at H
 replace H:=bnd_ H;obtain ⟨⟨t894,t895,t898,t899⟩,A11,H⟩:=H;dsimp only at H
 replace H:=bnd_ H;obtain ⟨t901,A12,H⟩:=H
 have HC13:=Aside0.mk H
 clear H
 go_enter Tryz.func3,Tryz.ntmps3
 go_upto_region 12 with (first|((with_reducible refine gate_callee (f:=4) rfl ?_);refine goesL_ (some 22) rfl rfl Tryz.func4 krT_ rfl #[.slice A0 l0.length c0] rfl agT_ ?_;(with_reducible refine (laws_big.calls _ _ l0 false _ ?side1 ?side2 A2.out).mono ?_);(case side1=>repeat (first|exact HR0.out|(with_reducible refine Kd.C_alloc ?_ _)|(with_reducible refine Kd.C_drewN ?_ _)|(with_reducible refine Kd.C_drew ?_)));(case side2=>exact HC0.out);rintro e w' ⟨rfl,⟨nd,rfl⟩⟩;refine ⟨_,rfl,?_⟩)|((with_reducible refine gate_callee (f:=5) rfl ?_);refine goesL_ (some 24) rfl rfl Tryz.func5 krT_ rfl #[.slice A0 l0.length c0] rfl agT_ ?_;(with_reducible refine (spec_DrawCircuits.calls k _ _ l0 t860 t861 _ ?side1 ?side2 A4.out).mono ?_);(case side1=>repeat (first|exact HR0.out|(with_reducible refine Kd.C_alloc ?_ _)|(with_reducible refine Kd.C_drewN ?_ _)|(with_reducible refine Kd.C_drew ?_)));(case side2=>exact HC0.out);rintro e w14 ⟨v862,rfl,ho0,hb⟩;refine ⟨_,rfl,?_⟩;have HO863:=Aside0.mk (Kd.R_lower ho0 (below_size (h_HB HB.out)));replace HB:=s_HB HB.out hb;(try clear hb);(try clear ho0))|((with_reducible refine gate_dst (N:=3) rfl ?_);refine bx_ (N:=3) (cs:=#[.int .i64 0,.slice none 0 0]) (t:=26) ?_;intro gb864 hg w15 hbox hb;replace HO863:=Aside0.mk (Kd.R_below (kRC_ HO863.out) hb);have BK864:=Aside0.mk (hbox);have GW864:=Aside0.mk (gw_ hg (h_HB HB.out));have GE864:=GW864;replace HB:=s_HB HB.out hb;clear hb hbox hg;obtain ⟨hcz16_0,hcz16_1,hfz16_0,hfz16_1⟩:=bz2_ BK864.out;obtain ⟨Ao17,co17,eo17⟩:=Kd.R_slice HO863.out;subst eo17)|((with_reducible refine gate_callee (f:=6) rfl ?_);refine goesL_ (some 26) rfl rfl Tryz.func6 krT_ rfl #[.agg #[.int .i64 t860,.slice Ao17 t861.length co17]] rfl agT_ ?_;(with_reducible refine (impl_Circuits.calls k t860 _ _ t861 t865 _ ?side1 ?side2 A5.out).mono ?_);(case side1=>refine (Kd.R_reads' (e:=3) (base:=w.heap.size) (ok:=fun k_=>True) (n:=t861.length) (c:=co17) ?_).2.2;exact (kRF2_ HO863.out));(case side2=>exact (Kd.R_reads' HO863.out).2.1);rintro e w18 ⟨v866,rfl,ho0,hb⟩;refine ⟨_,rfl,?_⟩;have HO867:=Aside0.mk (Kd.R_lower (Kd.R_new' ho0 (Kd.R_lt (kRF2_ HO863.out))) (below_size (h_HB HB.out)));replace HO863:=Aside0.mk (Kd.R_elder' (kRF2_ HO863.out) (Kd.R_base ho0) hb);replace BK864:=Aside0.mk (blk_below (g:=gb864) (o:=.cells #[.int .i64 t860,.slice Ao17 t861.length co17] 26 (0,0)) (by (with_reducible repeat (first|refine blk_drewN ?_ _|refine blk_drew ?_|refine blk_alloc ?_ _));exact bp2_ (bkC_ BK864.out)) hb);replace HB:=s_HB HB.out hb;(try clear hb);(try clear ho0))|((with_reducible refine gate_callee (f:=7) rfl ?_);refine goesL_ (some 29) rfl rfl Tryz.func7 krT_ rfl #[.slice A0 l0.length c0] rfl agT_ ?_;(with_reducible refine (spec_DrawCircuitFailure.calls k _ _ l0 t868 t869 _ ?side1 ?side2 A6.out).mono ?_);(case side1=>exact cC_ HR0.out);(case side2=>exact HC0.out);rintro e w19 ⟨v870,rfl,ho0,hb⟩;refine ⟨_,rfl,?_⟩;have HO871:=Aside0.mk (Kd.Q_lower (Kd.Q_new' (Kd.Q_new' ho0 (Kd.R_lt (kRC_ HO863.out))) (Kd.R_lt (kRC_ HO867.out))) (below_size (h_HB HB.out)));replace HO863:=Aside0.mk (Kd.R_elder' (kRC_ HO863.out) (Kd.Q_base ho0) hb);replace HO867:=Aside0.mk (Kd.R_elder' (kRC_ HO867.out) (Kd.Q_base ho0) hb);replace BK864:=sBK_ BK864.out hb;replace HB:=s_HB HB.out hb;(try clear hb);(try clear ho0);obtain ⟨Ao20,co20,eo20,_⟩:=Kd.Q_slice HO871.out;subst eo20)|((with_reducible refine gate_callee (f:=8) rfl ?_);refine goesL_ (some 35) rfl rfl Tryz.func8 krT_ rfl #[.int .i64 t868,.slice Ao20 t869.length co20] rfl agT_ ?_;(with_reducible refine (impl_CircuitFailure.calls k t868 _ _ t869 t872 t873 t874 t875 _ ?side1 ?side2 A7.out).mono ?_);(case side1=>repeat (first|exact (Kd.Q_reads' HO871.out).2.2|(with_reducible refine Kd.C_alloc ?_ _)|(with_reducible refine Kd.C_drewN ?_ _)|(with_reducible refine Kd.C_drew ?_)));(case side2=>exact (Kd.Q_reads' HO871.out).2.1);rintro e w21 ⟨rfl,hb⟩;refine ⟨_,rfl,?_⟩;replace HO863:=Aside0.mk (Kd.R_below (kRC_ HO863.out) hb);replace HO867:=Aside0.mk (Kd.R_below (kRC_ HO867.out) hb);replace HO871:=Aside0.mk (Kd.Q_below (kQC_ HO871.out) hb);replace BK864:=sBK_ BK864.out hb;replace HB:=s_HB HB.out hb;(try clear hb))|((with_reducible refine gate_dst (N:=7) rfl ?_);refine bx_ (N:=7) (cs:=#[.int .i64 0,.int .i64 0,.int .i64 0]) (t:=32) ?_;intro gb876 hg w22 hbox hb;replace HO863:=Aside0.mk (Kd.R_below (kRC_ HO863.out) hb);replace HO867:=Aside0.mk (Kd.R_below (kRC_ HO867.out) hb);replace HO871:=Aside0.mk (Kd.Q_below (kQC_ HO871.out) hb);have BK876:=Aside0.mk (hbox);have GW876:=Aside0.mk (gw_ hg (h_HB HB.out));have GE876:=GW876;replace HB:=s_HB HB.out hb;have NB864_876:=Aside0.mk (nbl_ hg (bkC_ BK864.out));have NB876_864:=Aside0.mk NB864_876.out.symm;replace BK864:=sBK_ BK864.out hb;clear hb hbox hg;have hnb23:=NB876_864.out;have hnc23:=NB864_876.out;obtain ⟨hcz24_0,hcz24_1,hcz24_2,hfz24_0,hfz24_1,hfz24_2⟩:=bz3_ BK876.out)|((with_reducible refine gate_callee (f:=9) rfl ?_);refine goesL_ (some 41) rfl rfl Tryz.func9 krT_ rfl #[.int .i64 t868,.slice Ao20 t869.length co20] rfl agT_ ?_;(with_reducible refine (spec_CircuitFailure.calls k t868 _ _ t869 t877 t878 t879 t880 _ ?side1 ?side2 A8.out).mono ?_);(case side1=>refine (Kd.Q_reads' (e:=3) (base:=w.heap.size) (ok:=fun k_=>((True∧some k_≠(.slice Ao17 t861.length co17:Value).ownBlock)∧some k_≠(v866:Value).ownBlock)) (n:=t869.length) (c:=co20) ?_).2.2;exact (kQF3_ HO871.out));(case side2=>exact (Kd.Q_reads' HO871.out).2.1);rintro e w25 ⟨rfl,hb⟩;refine ⟨_,rfl,?_⟩;replace HO863:=Aside0.mk (Kd.R_below (kRF3_ HO863.out) hb);replace HO867:=Aside0.mk (Kd.R_below (kRF3_ HO867.out) hb);replace HO871:=Aside0.mk (Kd.Q_below (kQF3_ HO871.out) hb);replace BK864:=sBK_ BK864.out hb;replace BK876:=Aside0.mk (blk_below (g:=gb876) (o:=.cells #[.int .i64 t872,.int .i64 t873,.int .i64 t874] 32 (0,0)) (by (with_reducible repeat (first|refine blk_drewN ?_ _|refine blk_drew ?_|refine blk_alloc ?_ _));exact bp3_ (bkC_ BK876.out)) hb);replace HB:=s_HB HB.out hb;(try clear hb))|((with_reducible refine gate_dst (N:=9) rfl ?_);refine bx_ (N:=9) (cs:=#[.int .i64 0,.int .i64 0,.int .i64 0]) (t:=32) ?_;intro gb881 hg w26 hbox hb;replace HO863:=Aside0.mk (Kd.R_below (kRC_ HO863.out) hb);replace HO867:=Aside0.mk (Kd.R_below (kRC_ HO867.out) hb);replace HO871:=Aside0.mk (Kd.Q_below (kQC_ HO871.out) hb);have BK881:=Aside0.mk (hbox);have GW881:=Aside0.mk (gw_ hg (h_HB HB.out));have GE881:=GW881;replace HB:=s_HB HB.out hb;have NB864_881:=Aside0.mk (nbl_ hg (bkC_ BK864.out));have NB881_864:=Aside0.mk NB864_881.out.symm;replace BK864:=sBK_ BK864.out hb;have NB876_881:=Aside0.mk (nbl_ hg (bkC_ BK876.out));have NB881_876:=Aside0.mk NB876_881.out.symm;replace BK876:=sBK_ BK876.out hb;clear hb hbox hg;have hnb27:=NB881_864.out;have hnc27:=NB864_881.out;have hnb28:=NB881_876.out;have hnc28:=NB876_881.out;obtain ⟨hcz29_0,hcz29_1,hcz29_2,hfz29_0,hfz29_1,hfz29_2⟩:=bz3_ BK881.out)|((with_reducible refine gate_callee (f:=10) rfl ?_);refine goesL_ (some 47) rfl rfl Tryz.func10 krT_ rfl #[.int .i64 t868,.slice Ao20 t869.length co20] rfl agT_ ?_;(with_reducible refine (impl_FromCircuits.calls k t868 _ _ t869 t882 t883 t886 _ ?side1 ?side2 A9.out).mono ?_);(case side1=>refine (Kd.Q_reads' (e:=3) (base:=w.heap.size) (ok:=fun k_=>((True∧some k_≠(.slice Ao17 t861.length co17:Value).ownBlock)∧some k_≠(v866:Value).ownBlock)) (n:=t869.length) (c:=co20) ?_).2.2;exact (kQF3_ HO871.out));(case side2=>exact (Kd.Q_reads' HO871.out).2.1);rintro e w30 ⟨v884,rfl,ho0,hb⟩;refine ⟨_,rfl,?_⟩;have HO885:=Aside0.mk (Kd.R_lower (Kd.R_new' (Kd.R_new' (Kd.R_new' ho0 (Kd.R_lt (kRF3_ HO863.out))) (Kd.R_lt (kRF3_ HO867.out))) (Kd.Q_lt (kQF3_ HO871.out))) (below_size (h_HB HB.out)));replace HO863:=Aside0.mk (Kd.R_elder' (kRF3_ HO863.out) (Kd.R_base ho0) hb);replace HO867:=Aside0.mk (Kd.R_elder' (kRF3_ HO867.out) (Kd.R_base ho0) hb);replace HO871:=Aside0.mk (Kd.Q_elder' (kQF3_ HO871.out) (Kd.R_base ho0) hb);replace BK864:=sBK_ BK864.out hb;replace BK876:=sBK_ BK876.out hb;replace BK881:=Aside0.mk (blk_below (g:=gb881) (o:=.cells #[.int .i64 t877,.int .i64 t878,.int .i64 t879] 32 (0,0)) (by (with_reducible repeat (first|refine blk_drewN ?_ _|refine blk_drew ?_|refine blk_alloc ?_ _));exact bp3_ (bkC_ BK881.out)) hb);replace HB:=s_HB HB.out hb;(try clear hb);(try clear ho0))|((with_reducible refine gate_dst (N:=11) rfl ?_);refine bx_ (N:=11) (cs:=#[.int .i64 0,.slice none 0 0]) (t:=26) ?_;intro gb887 hg w31 hbox hb;replace HO863:=Aside0.mk (Kd.R_below (kRC_ HO863.out) hb);replace HO867:=Aside0.mk (Kd.R_below (kRC_ HO867.out) hb);replace HO871:=Aside0.mk (Kd.Q_below (kQC_ HO871.out) hb);replace HO885:=Aside0.mk (Kd.R_below (kRC_ HO885.out) hb);have BK887:=Aside0.mk (hbox);have GW887:=Aside0.mk (gw_ hg (h_HB HB.out));have GE887:=GW887;replace HB:=s_HB HB.out hb;have NB864_887:=Aside0.mk (nbl_ hg (bkC_ BK864.out));have NB887_864:=Aside0.mk NB864_887.out.symm;replace BK864:=sBK_ BK864.out hb;have NB876_887:=Aside0.mk (nbl_ hg (bkC_ BK876.out));have NB887_876:=Aside0.mk NB876_887.out.symm;replace BK876:=sBK_ BK876.out hb;have NB881_887:=Aside0.mk (nbl_ hg (bkC_ BK881.out));have NB887_881:=Aside0.mk NB881_887.out.symm;replace BK881:=sBK_ BK881.out hb;clear hb hbox hg;have hnb32:=NB887_864.out;have hnc32:=NB864_887.out;have hnb33:=NB887_876.out;have hnc33:=NB876_887.out;have hnb34:=NB887_881.out;have hnc34:=NB881_887.out;obtain ⟨hcz35_0,hcz35_1,hfz35_0,hfz35_1⟩:=bz2_ BK887.out;obtain ⟨Ao36,co36,eo36⟩:=Kd.R_slice HO885.out;subst eo36)|((with_reducible refine gate_callee (f:=11) rfl ?_);refine goesL_ (some 53) rfl rfl Tryz.func11 krT_ rfl #[.int .i64 t868,.slice Ao20 t869.length co20] rfl agT_ ?_;(with_reducible refine (spec_FromCircuits.calls k t868 _ _ t869 t888 t889 t892 _ ?side1 ?side2 A10.out).mono ?_);(case side1=>refine (Kd.Q_reads' (e:=3) (base:=w.heap.size) (ok:=fun k_=>(((True∧some k_≠(.slice Ao17 t861.length co17:Value).ownBlock)∧some k_≠(v866:Value).ownBlock)∧some k_≠(.slice Ao36 t883.length co36:Value).ownBlock)) (n:=t869.length) (c:=co20) ?_).2.2;exact (kQF2_ HO871.out));(case side2=>exact (Kd.Q_reads' HO871.out).2.1);rintro e w37 ⟨v890,rfl,ho0,hb⟩;refine ⟨_,rfl,?_⟩;have HO891:=Aside0.mk (Kd.R_lower (Kd.R_new' (Kd.R_new' (Kd.R_new' (Kd.R_new' ho0 (Kd.R_lt (kRF2_ HO863.out))) (Kd.R_lt (kRF2_ HO867.out))) (Kd.Q_lt (kQF2_ HO871.out))) (Kd.R_lt (kRF2_ HO885.out))) (below_size (h_HB HB.out)));replace HO863:=Aside0.mk (Kd.R_elder' (kRF2_ HO863.out) (Kd.R_base ho0) hb);replace HO867:=Aside0.mk (Kd.R_elder' (kRF2_ HO867.out) (Kd.R_base ho0) hb);replace HO871:=Aside0.mk (Kd.Q_elder' (kQF2_ HO871.out) (Kd.R_base ho0) hb);replace HO885:=Aside0.mk (Kd.R_elder' (kRF2_ HO885.out) (Kd.R_base ho0) hb);replace BK864:=sBK_ BK864.out hb;replace BK876:=sBK_ BK876.out hb;replace BK881:=sBK_ BK881.out hb;replace BK887:=Aside0.mk (blk_below (g:=gb887) (o:=.cells #[.int .i64 t882,.slice Ao36 t883.length co36] 26 (0,0)) (by (with_reducible repeat (first|refine blk_drewN ?_ _|refine blk_drew ?_|refine blk_alloc ?_ _));exact bp2_ (bkC_ BK887.out)) hb);replace HB:=s_HB HB.out hb;(try clear hb);(try clear ho0))|((with_reducible refine gate_dst (N:=13) rfl ?_);refine bx_ (N:=13) (cs:=#[.int .i64 0,.slice none 0 0]) (t:=26) ?_;intro gb893 hg w38 hbox hb;replace HO863:=Aside0.mk (Kd.R_below (kRC_ HO863.out) hb);replace HO867:=Aside0.mk (Kd.R_below (kRC_ HO867.out) hb);replace HO871:=Aside0.mk (Kd.Q_below (kQC_ HO871.out) hb);replace HO885:=Aside0.mk (Kd.R_below (kRC_ HO885.out) hb);replace HO891:=Aside0.mk (Kd.R_below (kRC_ HO891.out) hb);have BK893:=Aside0.mk (hbox);have GW893:=Aside0.mk (gw_ hg (h_HB HB.out));have GE893:=GW893;replace HB:=s_HB HB.out hb;have NB864_893:=Aside0.mk (nbl_ hg (bkC_ BK864.out));have NB893_864:=Aside0.mk NB864_893.out.symm;replace BK864:=sBK_ BK864.out hb;have NB876_893:=Aside0.mk (nbl_ hg (bkC_ BK876.out));have NB893_876:=Aside0.mk NB876_893.out.symm;replace BK876:=sBK_ BK876.out hb;have NB881_893:=Aside0.mk (nbl_ hg (bkC_ BK881.out));have NB893_881:=Aside0.mk NB881_893.out.symm;replace BK881:=sBK_ BK881.out hb;have NB887_893:=Aside0.mk (nbl_ hg (bkC_ BK887.out));have NB893_887:=Aside0.mk NB887_893.out.symm;replace BK887:=sBK_ BK887.out hb;clear hb hbox hg;have hnb39:=NB893_864.out;have hnc39:=NB864_893.out;have hnb40:=NB893_876.out;have hnc40:=NB876_893.out;have hnb41:=NB893_881.out;have hnc41:=NB881_893.out;have hnb42:=NB893_887.out;have hnc42:=NB887_893.out;obtain ⟨hcz43_0,hcz43_1,hfz43_0,hfz43_1⟩:=bz2_ BK893.out;obtain ⟨Ao44,co44,eo44⟩:=Kd.R_slice HO891.out;subst eo44)|((with_reducible refine gate_callee (f:=12) rfl ?_);refine goesL_ (some 58) rfl rfl Tryz.func12 krT_ rfl #[.slice A0 l0.length c0] rfl agT_ ?_;(with_reducible refine (spec_DrawCircuitOf.calls k _ _ l0 t894 t895 t898 t899 _ ?side1 ?side2 A11.out).mono ?_);(case side1=>exact Kd.C_below HR0.out (h_HB HB.out));(case side2=>exact HC0.out);rintro e w45 ⟨v896,rfl,ho0,hb⟩;refine ⟨_,rfl,?_⟩;have HO897:=Aside0.mk (Kd.R_lower (Kd.R_new' (Kd.R_new' (Kd.R_new' (Kd.R_new' (Kd.R_new' ho0 (Kd.R_lt (kRF2_ HO863.out))) (Kd.R_lt (kRF2_ HO867.out))) (Kd.Q_lt (kQF2_ HO871.out))) (Kd.R_lt (kRF2_ HO885.out))) (Kd.R_lt (kRF2_ HO891.out))) (below_size (h_HB HB.out)));replace HO863:=Aside0.mk (Kd.R_elder' (kRF2_ HO863.out) (Kd.R_base ho0) hb);replace HO867:=Aside0.mk (Kd.R_elder' (kRF2_ HO867.out) (Kd.R_base ho0) hb);replace HO871:=Aside0.mk (Kd.Q_elder' (kQF2_ HO871.out) (Kd.R_base ho0) hb);replace HO885:=Aside0.mk (Kd.R_elder' (kRF2_ HO885.out) (Kd.R_base ho0) hb);replace HO891:=Aside0.mk (Kd.R_elder' (kRF2_ HO891.out) (Kd.R_base ho0) hb);replace BK864:=sBK_ BK864.out hb;replace BK876:=sBK_ BK876.out hb;replace BK881:=sBK_ BK881.out hb;replace BK887:=sBK_ BK887.out hb;replace BK893:=Aside0.mk (blk_below (g:=gb893) (o:=.cells #[.int .i64 t888,.slice Ao44 t889.length co44] 26 (0,0)) (by (with_reducible repeat (first|refine blk_drewN ?_ _|refine blk_drew ?_|refine blk_alloc ?_ _));exact bp2_ (bkC_ BK893.out)) hb);replace HB:=s_HB HB.out hb;(try clear hb);(try clear ho0))|((with_reducible refine gate_dst (N:=15) rfl ?_);refine bx_ (N:=15) (cs:=#[.int .i64 0,.slice none 0 0]) (t:=26) ?_;intro gb900 hg w46 hbox hb;replace HO863:=Aside0.mk (Kd.R_below (kRC_ HO863.out) hb);replace HO867:=Aside0.mk (Kd.R_below (kRC_ HO867.out) hb);replace HO871:=Aside0.mk (Kd.Q_below (kQC_ HO871.out) hb);replace HO885:=Aside0.mk (Kd.R_below (kRC_ HO885.out) hb);replace HO891:=Aside0.mk (Kd.R_below (kRC_ HO891.out) hb);replace HO897:=Aside0.mk (Kd.R_below (kRC_ HO897.out) hb);have BK900:=Aside0.mk (hbox);have GW900:=Aside0.mk (gw_ hg (h_HB HB.out));have GE900:=GW900;replace HB:=s_HB HB.out hb;have NB864_900:=Aside0.mk (nbl_ hg (bkC_ BK864.out));have NB900_864:=Aside0.mk NB864_900.out.symm;replace BK864:=sBK_ BK864.out hb;have NB876_900:=Aside0.mk (nbl_ hg (bkC_ BK876.out));have NB900_876:=Aside0.mk NB876_900.out.symm;replace BK876:=sBK_ BK876.out hb;have NB881_900:=Aside0.mk (nbl_ hg (bkC_ BK881.out));have NB900_881:=Aside0.mk NB881_900.out.symm;replace BK881:=sBK_ BK881.out hb;have NB887_900:=Aside0.mk (nbl_ hg (bkC_ BK887.out));have NB900_887:=Aside0.mk NB887_900.out.symm;replace BK887:=sBK_ BK887.out hb;have NB893_900:=Aside0.mk (nbl_ hg (bkC_ BK893.out));have NB900_893:=Aside0.mk NB893_900.out.symm;replace BK893:=sBK_ BK893.out hb;clear hb hbox hg;have hnb47:=NB900_864.out;have hnc47:=NB864_900.out;have hnb48:=NB900_876.out;have hnc48:=NB876_900.out;have hnb49:=NB900_881.out;have hnc49:=NB881_900.out;have hnb50:=NB900_887.out;have hnc50:=NB887_900.out;have hnb51:=NB900_893.out;have hnc51:=NB893_900.out;obtain ⟨hcz52_0,hcz52_1,hfz52_0,hfz52_1⟩:=bz2_ BK900.out;obtain ⟨Ao53,co53,eo53⟩:=Kd.R_slice HO897.out;subst eo53)|((with_reducible refine gate_callee (f:=13) rfl ?_);refine goesL_ (some 65) rfl rfl Tryz.func13 krT_ rfl #[.agg #[.int .i64 t894,.slice Ao53 t895.length co53],.int .i64 t898,.int .i64 t899] rfl agT_ ?_;(with_reducible refine (impl_CircuitOf.calls k t894 _ _ t895 t898 t899 t901 _ ?side1 ?side2 A12.out).mono ?_);(case side1=>refine (Kd.R_reads' (e:=3) (base:=w.heap.size) (ok:=fun k_=>(((((True∧some k_≠(.slice Ao17 t861.length co17:Value).ownBlock)∧some k_≠(v866:Value).ownBlock)∧some k_≠(.slice Ao20 t869.length co20:Value).ownBlock)∧some k_≠(.slice Ao36 t883.length co36:Value).ownBlock)∧some k_≠(.slice Ao44 t889.length co44:Value).ownBlock)) (n:=t895.length) (c:=co53) ?_).2.2;exact (kRF2_ HO897.out));(case side2=>exact (Kd.R_reads' HO897.out).2.1);rintro e w54 ⟨rfl,hb⟩;refine ⟨_,rfl,?_⟩;replace HO863:=Aside0.mk (Kd.R_below (kRF2_ HO863.out) hb);replace HO867:=Aside0.mk (Kd.R_below (kRF2_ HO867.out) hb);replace HO871:=Aside0.mk (Kd.Q_below (kQF2_ HO871.out) hb);replace HO885:=Aside0.mk (Kd.R_below (kRF2_ HO885.out) hb);replace HO891:=Aside0.mk (Kd.R_below (kRF2_ HO891.out) hb);replace HO897:=Aside0.mk (Kd.R_below (kRF2_ HO897.out) hb);replace BK864:=sBK_ BK864.out hb;replace BK876:=sBK_ BK876.out hb;replace BK881:=sBK_ BK881.out hb;replace BK887:=sBK_ BK887.out hb;replace BK893:=sBK_ BK893.out hb;replace BK900:=Aside0.mk (blk_below (g:=gb900) (o:=.cells #[.int .i64 t894,.slice Ao53 t895.length co53] 26 (0,0)) (by (with_reducible repeat (first|refine blk_drewN ?_ _|refine blk_drew ?_|refine blk_alloc ?_ _));exact bp2_ (bkC_ BK900.out)) hb);replace HB:=s_HB HB.out hb;(try clear hb)))
 (try simp only [Act.put,List.setIfInBounds_toArray,List.set_cons_zero,List.set_cons_succ])
 go_cut [106] (fun v106 wc=>∃ (kq:Nat) (x106_12:Bool),v106=.bool x106_12∧Aside0 (laws_FnCircuits.j0 kq t865 t869 t886 t898 t899 t901 x106_12 t860 t861 t882 t883 t894 t895=some r)∧Aside0 (kq≤k)∧Aside0 (Kd.R (Kd.int .i64) 3 wc w.heap.size (fun k_=>some k_≠((.slice Ao20 t869.length co20):Value).ownBlock∧some k_≠((.slice Ao17 t861.length co17):Value).ownBlock∧some k_≠((.slice Ao36 t883.length co36):Value).ownBlock∧some k_≠((.slice Ao44 t889.length co44):Value).ownBlock∧some k_≠((.slice Ao53 t895.length co53):Value).ownBlock) v866 t865)∧Aside0 (Kd.Q (Kd.int .i64) 3 wc w.heap.size (fun k_=>some k_≠(v866:Value).ownBlock∧some k_≠((.slice Ao17 t861.length co17):Value).ownBlock∧some k_≠((.slice Ao36 t883.length co36):Value).ownBlock∧some k_≠((.slice Ao44 t889.length co44):Value).ownBlock∧some k_≠((.slice Ao53 t895.length co53):Value).ownBlock) (.slice Ao20 t869.length co20) t869)∧Aside0 (Kd.R (Kd.int .i64) 3 wc w.heap.size (fun k_=>some k_≠(v866:Value).ownBlock∧some k_≠((.slice Ao20 t869.length co20):Value).ownBlock∧some k_≠((.slice Ao36 t883.length co36):Value).ownBlock∧some k_≠((.slice Ao44 t889.length co44):Value).ownBlock∧some k_≠((.slice Ao53 t895.length co53):Value).ownBlock) (.slice Ao17 t861.length co17) t861)∧Aside0 (Kd.R (Kd.int .i64) 3 wc w.heap.size (fun k_=>some k_≠(v866:Value).ownBlock∧some k_≠((.slice Ao20 t869.length co20):Value).ownBlock∧some k_≠((.slice Ao17 t861.length co17):Value).ownBlock∧some k_≠((.slice Ao44 t889.length co44):Value).ownBlock∧some k_≠((.slice Ao53 t895.length co53):Value).ownBlock) (.slice Ao36 t883.length co36) t883)∧Aside0 (Kd.R (Kd.int .i64) 3 wc w.heap.size (fun k_=>some k_≠(v866:Value).ownBlock∧some k_≠((.slice Ao20 t869.length co20):Value).ownBlock∧some k_≠((.slice Ao17 t861.length co17):Value).ownBlock∧some k_≠((.slice Ao36 t883.length co36):Value).ownBlock∧some k_≠((.slice Ao53 t895.length co53):Value).ownBlock) (.slice Ao44 t889.length co44) t889)∧Aside0 (Kd.R (Kd.int .i64) 3 wc w.heap.size (fun k_=>some k_≠(v866:Value).ownBlock∧some k_≠((.slice Ao20 t869.length co20):Value).ownBlock∧some k_≠((.slice Ao17 t861.length co17):Value).ownBlock∧some k_≠((.slice Ao36 t883.length co36):Value).ownBlock∧some k_≠((.slice Ao44 t889.length co44):Value).ownBlock) (.slice Ao53 t895.length co53) t895)∧Aside0 (wc.heap[gb864]?=some (.cells #[.int .i64 t860,(.slice Ao17 t861.length co17)] 26 (0,0)))∧Aside0 (wc.heap[gb876]?=some (.cells #[.int .i64 t872,.int .i64 t873,.int .i64 t874] 32 (0,0)))∧Aside0 (wc.heap[gb881]?=some (.cells #[.int .i64 t877,.int .i64 t878,.int .i64 t879] 32 (0,0)))∧Aside0 (wc.heap[gb887]?=some (.cells #[.int .i64 t882,(.slice Ao36 t883.length co36)] 26 (0,0)))∧Aside0 (wc.heap[gb893]?=some (.cells #[.int .i64 t888,(.slice Ao44 t889.length co44)] 26 (0,0)))∧Aside0 (wc.heap[gb900]?=some (.cells #[.int .i64 t894,(.slice Ao53 t895.length co53)] 26 (0,0)))∧Aside0 (Below w.heap.size w wc))
 case first =>
  have H:=HC13.out
  clear HC13
  replace H:=bnd_ H;obtain ⟨t902,A55,H⟩:=H
  replace H:=bnd_ H;obtain ⟨t905,A56,H⟩:=H
  replace H:=gsp_ H;obtain ⟨rfl,H⟩:=H
  replace H:=gsq_ H;rcases H with ⟨c58,H⟩|⟨c58,H⟩
  ·have c58b0:(t875 != t880)=true:=c58
   (try (have c58b1:decide (t875=t880)=false:=by simpa using c58))
   (try (have c58b2:(t875==t880)=false:=by simpa using c58))
   (try (have c58b3:¬ (t875=t880):=by simpa using c58))
   clear c58
   (first|rw [c58b0]|(simp only [i64_w,i32_w];rw [c58b0])|skip)
   exact absurd H (by simp)
  have c58b0:(t875 != t880)=false:=by simpa using c58
  (try (have c58b1:decide (t875=t880)=true:=by simpa using c58))
  (try (have c58b2:(t875==t880)=true:=by simpa using c58))
  clear c58
  (first|rw [c58b0]|(simp only [i64_w,i32_w];rw [c58b0])|skip)
  replace H:=gsq_ H;rcases H with ⟨c59,H⟩|⟨c59,H⟩
  ·have c59b0:(!(t872==t877) || (!(t873==t878) || (!(t874==t879))))=true:=c59
   clear c59
   exact absurd H (by simp)
  have c59b0:(!(t872==t877) || (!(t873==t878) || (!(t874==t879))))=false:=by simpa using c59
  clear c59
  replace H:=gsq_ H;rcases H with ⟨c60,H⟩|⟨c60,H⟩
  ·have c60b0:(t886 != t892)=true:=c60
   (try (have c60b1:decide (t886=t892)=false:=by simpa using c60))
   (try (have c60b2:(t886==t892)=false:=by simpa using c60))
   (try (have c60b3:¬ (t886=t892):=by simpa using c60))
   clear c60
   exact absurd H (by simp)
  have c60b0:(t886 != t892)=false:=by simpa using c60
  (try (have c60b1:decide (t886=t892)=true:=by simpa using c60))
  (try (have c60b2:(t886==t892)=true:=by simpa using c60))
  clear c60
  replace H:=bnd_ H;obtain ⟨t906,A61,H⟩:=H
  replace H:=gsp_ H;obtain ⟨rfl,H⟩:=H
  replace H:=bnd_ H;obtain ⟨t907,A63,H⟩:=H
  replace H:=(gse_ H).symm;rcases H with ⟨c64b0,c64b1,c64,H⟩|⟨c64b0,c64b1,H⟩
  ·exact absurd H (by simp)
  replace H:=bnd_ H;obtain ⟨t908,A65,H⟩:=H
  replace H:=bnd_ H;obtain ⟨t909,A66,H⟩:=H
  have H':=Aside0.mk H
  clear H
  try go_wp2
  replace HO863:=Aside0.mk (Kd.R_drew HO863.out);replace HO867:=Aside0.mk (Kd.R_drew HO867.out);replace HO871:=Aside0.mk (Kd.Q_drew HO871.out);replace HO885:=Aside0.mk (Kd.R_drew HO885.out);replace HO891:=Aside0.mk (Kd.R_drew HO891.out);replace HO897:=Aside0.mk (Kd.R_drew HO897.out);replace BK864:=Aside0.mk (blk_drew BK864.out);replace BK876:=Aside0.mk (blk_drew BK876.out);replace BK881:=Aside0.mk (blk_drew BK881.out);replace BK887:=Aside0.mk (blk_drew BK887.out);replace BK893:=Aside0.mk (blk_drew BK893.out);replace BK900:=Aside0.mk (blk_drew BK900.out);replace HB:=Aside0.mk (below_drew1 HB.out)
  refine start_ (n:=41) (S:=fun w'=>w'.cell? ⟨gb864,0,none⟩=some (.int .i64 t860)∧w'.cell? ⟨gb864,1,none⟩=some (.slice Ao17 t861.length co17)∧w'.cell? ⟨gb876,0,none⟩=some (.int .i64 t872)∧w'.cell? ⟨gb876,1,none⟩=some (.int .i64 t873)∧w'.cell? ⟨gb876,2,none⟩=some (.int .i64 t874)∧w'.cell? ⟨gb881,0,none⟩=some (.int .i64 t877)∧w'.cell? ⟨gb881,1,none⟩=some (.int .i64 t878)∧w'.cell? ⟨gb881,2,none⟩=some (.int .i64 t879)∧w'.cell? ⟨gb887,0,none⟩=some (.int .i64 t882)∧w'.cell? ⟨gb887,1,none⟩=some (.slice Ao36 t883.length co36)∧w'.cell? ⟨gb893,0,none⟩=some (.int .i64 t888)∧w'.cell? ⟨gb893,1,none⟩=some (.slice Ao44 t889.length co44)∧w'.cell? ⟨gb900,0,none⟩=some (.int .i64 t894)∧w'.cell? ⟨gb900,1,none⟩=some (.slice Ao53 t895.length co53)) (ds:=[]) #[F_,F_,F_,F_,F_,F_,F_,F_,F_,F_,F_,F_,F_,F_,F_,F_,F_,F_,F_,F_,F_,F_,F_,F_,F_,F_,F_,F_,F_,F_,F_,F_,F_,F_,F_,F_,F_,F_,F_,F_,F_] krT_ rfl rfl ⟨(blk_cell BK864.out 0).trans rfl,(blk_cell BK864.out 1).trans rfl,(blk_cell BK876.out 0).trans rfl,(blk_cell BK876.out 1).trans rfl,(blk_cell BK876.out 2).trans rfl,(blk_cell BK881.out 0).trans rfl,(blk_cell BK881.out 1).trans rfl,(blk_cell BK881.out 2).trans rfl,(blk_cell BK887.out 0).trans rfl,(blk_cell BK887.out 1).trans rfl,(blk_cell BK893.out 0).trans rfl,(blk_cell BK893.out 1).trans rfl,(blk_cell BK900.out 0).trans rfl,(blk_cell BK900.out 1).trans rfl⟩ (fun hHeld=>?_);refine with_tabW laws_FnCircuits.tab12 laws_FnCircuits.bits12 (fun HT_ HW_=>?_)
  generalize w54.drew=w67 at HO863 HO867 HO871 HO885 HO891 HO897 BK864 BK876 BK881 BK887 BK893 BK900 HB hHeld ⊢
  refine pu_ 0 (some 66) (bm_ 41 1) rfl rfl HT_.out ?_
  refine take_ (i:=1) (N:=some 67) (v:=?_) (a':=?_) (bm_ 41 3) rfl rfl (take_ofW HT_.out HW_.out krT_) (fun _ _ _ h=>h) (Or.inl ⟨by rfl,?_⟩) hHeld ?_ ?_
  rotate_left
  ·rintro w' ⟨s0,s1,s2,s3,s4,s5,s6,s7,s8,s9,s10,s11,s12,s13⟩
   go_simp
   with_reducible rfl
  rotate_left;exact apT_
  refine one_ (i:=2) (N:=some 68) (bm_ 41 7) rfl rfl (one_of HT_.out krT_) (by decide) (fun K hK=>?_)
  refine goes_ Tryz.func15 krT_ rfl #[.agg #[.int .i64 t860,.slice Ao17 t861.length co17]] (by rfl) rfl rfl agT_ ?_
  with_reducible refine (spec_Circuits.calls k t860 _ _ t861 t902 _ ?side1 ?side2 A55.out).mono ?_
  (case side1=>repeat (first|exact (Kd.R_reads' HO863.out).2.2|(with_reducible refine Kd.C_alloc ?_ _)|(with_reducible refine Kd.C_drewN ?_ _)|(with_reducible refine Kd.C_drew ?_)))
  (case side2=>exact (Kd.R_reads' HO863.out).2.1)
  rintro e w68 ⟨v903,rfl,ho0,hb⟩
  refine ⟨_,rfl,?_⟩
  have HO904:=Aside0.mk (Kd.R_lower (Kd.R_new' (Kd.R_new' (Kd.R_new' (Kd.R_new' (Kd.R_new' (Kd.R_new' ho0 (Kd.R_lt (kRC_ HO863.out))) (Kd.R_lt (kRC_ HO867.out))) (Kd.Q_lt (kQC_ HO871.out))) (Kd.R_lt (kRC_ HO885.out))) (Kd.R_lt (kRC_ HO891.out))) (Kd.R_lt (kRC_ HO897.out))) (below_size (h_HB HB.out)));replace HO863:=Aside0.mk (Kd.R_elder' (kRC_ HO863.out) (Kd.R_base ho0) hb);replace HO867:=Aside0.mk (Kd.R_elder' (kRC_ HO867.out) (Kd.R_base ho0) hb);replace HO871:=Aside0.mk (Kd.Q_elder' (kQC_ HO871.out) (Kd.R_base ho0) hb);replace HO885:=Aside0.mk (Kd.R_elder' (kRC_ HO885.out) (Kd.R_base ho0) hb);replace HO891:=Aside0.mk (Kd.R_elder' (kRC_ HO891.out) (Kd.R_base ho0) hb);replace HO897:=Aside0.mk (Kd.R_elder' (kRC_ HO897.out) (Kd.R_base ho0) hb);replace BK864:=sBK_ BK864.out hb;replace BK876:=sBK_ BK876.out hb;replace BK881:=sBK_ BK881.out hb;replace BK887:=sBK_ BK887.out hb;replace BK893:=sBK_ BK893.out hb;replace BK900:=sBK_ BK900.out hb;replace HB:=s_HB HB.out hb
  (try clear hb)
  (try clear hb2)
  (try clear hk)
  (try clear hi)
  (try clear ho0)
  obtain ⟨Ao69,co69,eo69⟩:=Kd.R_slice HO867.out
  (first|subst eo69|(injection eo69 with f1_ f2_ f3_;have f4_:=f1_.symm;have f5_:=f3_.symm;clear f1_ f2_ f3_;subst f4_;subst f5_))
  obtain ⟨Ao70,co70,eo70⟩:=Kd.R_slice HO904.out
  (first|subst eo70|(injection eo70 with f1_ f2_ f3_;have f4_:=f1_.symm;have f5_:=f3_.symm;clear f1_ f2_ f3_;subst f4_;subst f5_))
  refine hK.out _ _ ⟨(blk_cell BK864.out 0).trans rfl,(blk_cell BK864.out 1).trans rfl,(blk_cell BK876.out 0).trans rfl,(blk_cell BK876.out 1).trans rfl,(blk_cell BK876.out 2).trans rfl,(blk_cell BK881.out 0).trans rfl,(blk_cell BK881.out 1).trans rfl,(blk_cell BK881.out 2).trans rfl,(blk_cell BK887.out 0).trans rfl,(blk_cell BK887.out 1).trans rfl,(blk_cell BK893.out 0).trans rfl,(blk_cell BK893.out 1).trans rfl,(blk_cell BK900.out 0).trans rfl,(blk_cell BK900.out 1).trans rfl⟩ (fun hHeld=>?_)
  clear hK K
  refine norm_ (a':=?_) ?_ ?_
  rotate_left
  ·show Act.put _ (some 68) _=_
   simp only [Act.put,List.setIfInBounds_toArray,List.set_cons_zero,List.set_cons_succ,i64_w,i32_w]
   rfl
  refine one_ (i:=3) (N:=some 69) (bm_ 41 15) rfl rfl (one_of HT_.out krT_) (by decide) (fun K hK=>?_)
  refine goes_ Tryz.func14 krT_ rfl #[.slice Ao69 t865.length co69,.slice Ao70 t902.length co70] (by rfl) rfl rfl agT_ ?_
  with_reducible refine (laws_sameInts.calls k _ _ t865 _ _ t902 true _ ?side1 ?side2 ?side3 ?side4 A56.out).mono ?_
  (case side1=>repeat (first|exact (Kd.R_reads' HO867.out).2.2|(with_reducible refine Kd.C_alloc ?_ _)|(with_reducible refine Kd.C_drewN ?_ _)|(with_reducible refine Kd.C_drew ?_)))
  (case side2=>exact (Kd.R_reads' HO867.out).2.1)
  (case side3=>repeat (first|exact (Kd.R_reads' HO904.out).2.2|(with_reducible refine Kd.C_alloc ?_ _)|(with_reducible refine Kd.C_drewN ?_ _)|(with_reducible refine Kd.C_drew ?_)))
  (case side4=>exact (Kd.R_reads' HO904.out).2.1)
  rintro e w' ⟨rfl,⟨nd,rfl⟩⟩
  refine ⟨_,rfl,?_⟩
  refine hK.out _ _ ⟨(blk_cell BK864.out 0).trans rfl,(blk_cell BK864.out 1).trans rfl,(blk_cell BK876.out 0).trans rfl,(blk_cell BK876.out 1).trans rfl,(blk_cell BK876.out 2).trans rfl,(blk_cell BK881.out 0).trans rfl,(blk_cell BK881.out 1).trans rfl,(blk_cell BK881.out 2).trans rfl,(blk_cell BK887.out 0).trans rfl,(blk_cell BK887.out 1).trans rfl,(blk_cell BK893.out 0).trans rfl,(blk_cell BK893.out 1).trans rfl,(blk_cell BK900.out 0).trans rfl,(blk_cell BK900.out 1).trans rfl⟩ (fun hHeld=>?_)
  clear hK K
  refine norm_ (a':=?_) ?_ ?_
  rotate_left
  ·show Act.put _ (some 69) _=_
   simp only [Act.put,List.setIfInBounds_toArray,List.set_cons_zero,List.set_cons_succ,i64_w,i32_w]
   rfl
  refine pu_ 4 (some 70) (bm_ 41 31) rfl rfl HT_.out ?_
  refine pu_ 5 (some 71) (bm_ 41 63) rfl rfl HT_.out ?_
  refine pu_ 6 (some 72) (bm_ 41 127) rfl rfl HT_.out ?_
  refine pu_ 7 (some 73) (bm_ 41 255) rfl rfl HT_.out ?_
  refine pu_ 8 (some 74) (bm_ 41 511) rfl rfl HT_.out ?_
  refine pu_ 9 (some 75) (bm_ 41 1023) rfl rfl HT_.out ?_
  refine pu_ 10 (some 76) (bm_ 41 2047) rfl rfl HT_.out ?_
  refine take_ (i:=11) (N:=some 77) (v:=?_) (a':=?_) (bm_ 41 4095) rfl rfl (take_ofW HT_.out HW_.out krT_) (fun _ _ _ h=>h) (Or.inl ⟨by rfl,?_⟩) hHeld ?_ ?_
  rotate_left
  ·rintro w' ⟨s0,s1,s2,s3,s4,s5,s6,s7,s8,s9,s10,s11,s12,s13⟩
   go_simp
   with_reducible rfl
  rotate_left;exact apT_
  refine take_ (i:=12) (N:=some 78) (v:=?_) (a':=?_) (bm_ 41 8191) rfl rfl (take_ofW HT_.out HW_.out krT_) (fun _ _ _ h=>h) (Or.inl ⟨by rfl,?_⟩) hHeld ?_ ?_
  rotate_left
  ·rintro w' ⟨s0,s1,s2,s3,s4,s5,s6,s7,s8,s9,s10,s11,s12,s13⟩
   go_simp
   with_reducible rfl
  rotate_left;exact apT_
  refine pu_ 13 (some 79) (bm_ 41 16383) rfl rfl HT_.out ?_
  refine pu_ 14 (some 80) (bm_ 41 32767) rfl rfl HT_.out ?_
  refine pu_ 15 (some 81) (bm_ 41 65535) rfl rfl HT_.out ?_
  refine pu_ 16 (some 82) (bm_ 41 131071) rfl rfl HT_.out ?_
  refine pu_ 17 (some 83) (bm_ 41 262143) rfl rfl HT_.out ?_
  refine pu_ 18 (some 84) (bm_ 41 524287) rfl rfl HT_.out ?_
  refine pu_ 19 (some 85) (bm_ 41 1048575) rfl rfl HT_.out ?_
  refine pu_ 20 (some 86) (bm_ 41 2097151) rfl rfl HT_.out ?_
  refine take_ (i:=21) (N:=some 87) (v:=?_) (a':=?_) (bm_ 41 4194303) rfl rfl (take_ofW HT_.out HW_.out krT_) (fun _ _ _ h=>h) (Or.inl ⟨by rfl,?_⟩) hHeld ?_ ?_
  rotate_left
  ·rintro w' ⟨s0,s1,s2,s3,s4,s5,s6,s7,s8,s9,s10,s11,s12,s13⟩
   go_simp
   with_reducible rfl
  rotate_left;exact apT_
  refine take_ (i:=22) (N:=some 88) (v:=?_) (a':=?_) (bm_ 41 8388607) rfl rfl (take_ofW HT_.out HW_.out krT_) (fun _ _ _ h=>h) (Or.inl ⟨by rfl,?_⟩) hHeld ?_ ?_
  rotate_left
  ·rintro w' ⟨s0,s1,s2,s3,s4,s5,s6,s7,s8,s9,s10,s11,s12,s13⟩
   go_simp
   with_reducible rfl
  rotate_left;exact apT_
  refine one_ (i:=23) (N:=some 89) (bm_ 41 16777215) rfl rfl (one_of HT_.out krT_) (by decide) (fun K hK=>?_)
  refine goes_ Tryz.func16 krT_ rfl #[.agg #[.int .i64 t882,.slice Ao36 t883.length co36],.agg #[.int .i64 t888,.slice Ao44 t889.length co44]] (by rfl) rfl rfl agT_ ?_
  with_reducible refine (spec_EqualMatroid.calls k t882 _ _ t883 t888 _ _ t889 true _ ?side1 ?side2 ?side3 ?side4 A61.out).mono ?_
  (case side1=>repeat (first|exact (Kd.R_reads' HO885.out).2.2|(with_reducible refine Kd.C_alloc ?_ _)|(with_reducible refine Kd.C_drewN ?_ _)|(with_reducible refine Kd.C_drew ?_)))
  (case side2=>exact (Kd.R_reads' HO885.out).2.1)
  (case side3=>repeat (first|exact (Kd.R_reads' HO891.out).2.2|(with_reducible refine Kd.C_alloc ?_ _)|(with_reducible refine Kd.C_drewN ?_ _)|(with_reducible refine Kd.C_drew ?_)))
  (case side4=>exact (Kd.R_reads' HO891.out).2.1)
  rintro e w71 ⟨rfl,hb⟩
  refine ⟨_,rfl,?_⟩
  replace HO863:=Aside0.mk (Kd.R_below (kRC_ HO863.out) hb);replace HO867:=Aside0.mk (Kd.R_below (kRC_ HO867.out) hb);replace HO871:=Aside0.mk (Kd.Q_below (kQC_ HO871.out) hb);replace HO885:=Aside0.mk (Kd.R_below (kRC_ HO885.out) hb);replace HO891:=Aside0.mk (Kd.R_below (kRC_ HO891.out) hb);replace HO897:=Aside0.mk (Kd.R_below (kRC_ HO897.out) hb);replace HO904:=Aside0.mk (Kd.R_below (kRC_ HO904.out) hb);replace BK864:=sBK_ BK864.out hb;replace BK876:=sBK_ BK876.out hb;replace BK881:=sBK_ BK881.out hb;replace BK887:=sBK_ BK887.out hb;replace BK893:=sBK_ BK893.out hb;replace BK900:=sBK_ BK900.out hb;replace HB:=s_HB HB.out hb
  (try clear hb)
  (try clear hb2)
  (try clear hk)
  (try clear hi)
  refine hK.out _ _ ⟨(blk_cell BK864.out 0).trans rfl,(blk_cell BK864.out 1).trans rfl,(blk_cell BK876.out 0).trans rfl,(blk_cell BK876.out 1).trans rfl,(blk_cell BK876.out 2).trans rfl,(blk_cell BK881.out 0).trans rfl,(blk_cell BK881.out 1).trans rfl,(blk_cell BK881.out 2).trans rfl,(blk_cell BK887.out 0).trans rfl,(blk_cell BK887.out 1).trans rfl,(blk_cell BK893.out 0).trans rfl,(blk_cell BK893.out 1).trans rfl,(blk_cell BK900.out 0).trans rfl,(blk_cell BK900.out 1).trans rfl⟩ (fun hHeld=>?_)
  clear hK K
  refine norm_ (a':=?_) ?_ ?_
  rotate_left
  ·show Act.put _ (some 89) _=_
   simp only [Act.put,List.setIfInBounds_toArray,List.set_cons_zero,List.set_cons_succ,i64_w,i32_w]
   rfl
  refine pu_ 24 (some 90) (bm_ 41 33554431) rfl rfl HT_.out ?_
  refine pu_ 25 (some 91) (bm_ 41 67108863) rfl rfl HT_.out ?_
  refine pu_ 26 (some 92) (bm_ 41 134217727) rfl rfl HT_.out ?_
  refine pu_ 27 (some 93) (bm_ 41 268435455) rfl rfl HT_.out ?_
  refine pu_ 29 (some 95) (bm_ 41 805306367) rfl rfl HT_.out ?_
  refine pu_ 30 (some 96) (bm_ 41 1879048191) rfl rfl HT_.out ?_
  refine take_ (i:=28) (N:=some 94) (v:=?_) (a':=?_) (bm_ 41 2147483647) rfl rfl (take_ofW HT_.out HW_.out krT_) (fun _ _ _ h=>h) (Or.inl ⟨by rfl,?_⟩) hHeld ?_ ?_
  rotate_left
  ·rintro w' ⟨s0,s1,s2,s3,s4,s5,s6,s7,s8,s9,s10,s11,s12,s13⟩
   go_simp
   with_reducible rfl
  rotate_left;exact apT_
  refine one_ (i:=31) (N:=some 97) (bm_ 41 4294967295) rfl rfl (one_of HT_.out krT_) (by decide) (fun K hK=>?_)
  refine goes_ Tryz.func17 krT_ rfl #[.agg #[.int .i64 t894,.slice Ao53 t895.length co53],.int .i64 t898,.int .i64 t899] (by rfl) rfl rfl agT_ ?_
  with_reducible refine (spec_CircuitOf.calls k t894 _ _ t895 t898 t899 t907 _ ?side1 ?side2 A63.out).mono ?_
  (case side1=>repeat (first|exact (Kd.R_reads' HO897.out).2.2|(with_reducible refine Kd.C_alloc ?_ _)|(with_reducible refine Kd.C_drewN ?_ _)|(with_reducible refine Kd.C_drew ?_)))
  (case side2=>exact (Kd.R_reads' HO897.out).2.1)
  rintro e w72 ⟨rfl,hb⟩
  refine ⟨_,rfl,?_⟩
  replace HO863:=Aside0.mk (Kd.R_below (kRC_ HO863.out) hb);replace HO867:=Aside0.mk (Kd.R_below (kRC_ HO867.out) hb);replace HO871:=Aside0.mk (Kd.Q_below (kQC_ HO871.out) hb);replace HO885:=Aside0.mk (Kd.R_below (kRC_ HO885.out) hb);replace HO891:=Aside0.mk (Kd.R_below (kRC_ HO891.out) hb);replace HO897:=Aside0.mk (Kd.R_below (kRC_ HO897.out) hb);replace HO904:=Aside0.mk (Kd.R_below (kRC_ HO904.out) hb);replace BK864:=sBK_ BK864.out hb;replace BK876:=sBK_ BK876.out hb;replace BK881:=sBK_ BK881.out hb;replace BK887:=sBK_ BK887.out hb;replace BK893:=sBK_ BK893.out hb;replace BK900:=sBK_ BK900.out hb;replace HB:=s_HB HB.out hb
  (try clear hb)
  (try clear hb2)
  (try clear hk)
  (try clear hi)
  refine hK.out _ _ ⟨(blk_cell BK864.out 0).trans rfl,(blk_cell BK864.out 1).trans rfl,(blk_cell BK876.out 0).trans rfl,(blk_cell BK876.out 1).trans rfl,(blk_cell BK876.out 2).trans rfl,(blk_cell BK881.out 0).trans rfl,(blk_cell BK881.out 1).trans rfl,(blk_cell BK881.out 2).trans rfl,(blk_cell BK887.out 0).trans rfl,(blk_cell BK887.out 1).trans rfl,(blk_cell BK893.out 0).trans rfl,(blk_cell BK893.out 1).trans rfl,(blk_cell BK900.out 0).trans rfl,(blk_cell BK900.out 1).trans rfl⟩ (fun hHeld=>?_)
  clear hK K
  refine norm_ (a':=?_) ?_ ?_
  rotate_left
  ·show Act.put _ (some 97) _=_
   simp only [Act.put,List.setIfInBounds_toArray,List.set_cons_zero,List.set_cons_succ,i64_w,i32_w]
   rfl
  refine pu_ 32 (some 98) (bm_ 41 8589934591) rfl rfl HT_.out ?_
  refine pu_ 33 (some 99) (bm_ 41 17179869183) rfl rfl HT_.out ?_
  refine pu_ 34 (some 100) (bm_ 41 34359738367) rfl rfl HT_.out ?_
  refine take_ (i:=35) (N:=some 101) (v:=?_) (a':=?_) (bm_ 41 68719476735) rfl rfl (take_ofW HT_.out HW_.out krT_) (fun _ _ _ h=>h) (Or.inl ⟨by rfl,?_⟩) hHeld ?_ ?_
  rotate_left
  ·rintro w' ⟨s0,s1,s2,s3,s4,s5,s6,s7,s8,s9,s10,s11,s12,s13⟩
   go_simp
   with_reducible rfl
  rotate_left;exact apT_
  refine take_ (i:=37) (N:=some 103) (v:=?_) (a':=?_) (bm_ 41 206158430207) rfl rfl (take_ofW HT_.out HW_.out krT_) (fun _ _ _ h=>h) (Or.inl ⟨by rfl,?_⟩) hHeld ?_ ?_
  rotate_left
  ·rintro w' ⟨s0,s1,s2,s3,s4,s5,s6,s7,s8,s9,s10,s11,s12,s13⟩
   go_simp
   with_reducible rfl
  rotate_left;exact apT_
  refine one_ (i:=36) (N:=some 102) (bm_ 41 274877906943) rfl rfl (one_of HT_.out krT_) (by decide) (fun K hK=>?_)
  refine goes_ Tryz.func18 krT_ rfl #[.agg #[.int .i64 t860,.slice Ao17 t861.length co17]] (by rfl) rfl rfl agT_ ?_
  with_reducible refine (impl_GirthOf.calls k t860 _ _ t861 t908 _ ?side1 ?side2 A65.out).mono ?_
  (case side1=>repeat (first|exact (Kd.R_reads' HO863.out).2.2|(with_reducible refine Kd.C_alloc ?_ _)|(with_reducible refine Kd.C_drewN ?_ _)|(with_reducible refine Kd.C_drew ?_)))
  (case side2=>exact (Kd.R_reads' HO863.out).2.1)
  rintro e w73 ⟨rfl,hb⟩
  refine ⟨_,rfl,?_⟩
  replace HO863:=Aside0.mk (Kd.R_below (kRC_ HO863.out) hb);replace HO867:=Aside0.mk (Kd.R_below (kRC_ HO867.out) hb);replace HO871:=Aside0.mk (Kd.Q_below (kQC_ HO871.out) hb);replace HO885:=Aside0.mk (Kd.R_below (kRC_ HO885.out) hb);replace HO891:=Aside0.mk (Kd.R_below (kRC_ HO891.out) hb);replace HO897:=Aside0.mk (Kd.R_below (kRC_ HO897.out) hb);replace HO904:=Aside0.mk (Kd.R_below (kRC_ HO904.out) hb);replace BK864:=sBK_ BK864.out hb;replace BK876:=sBK_ BK876.out hb;replace BK881:=sBK_ BK881.out hb;replace BK887:=sBK_ BK887.out hb;replace BK893:=sBK_ BK893.out hb;replace BK900:=sBK_ BK900.out hb;replace HB:=s_HB HB.out hb
  (try clear hb)
  (try clear hb2)
  (try clear hk)
  (try clear hi)
  refine hK.out _ _ ⟨(blk_cell BK864.out 0).trans rfl,(blk_cell BK864.out 1).trans rfl,(blk_cell BK876.out 0).trans rfl,(blk_cell BK876.out 1).trans rfl,(blk_cell BK876.out 2).trans rfl,(blk_cell BK881.out 0).trans rfl,(blk_cell BK881.out 1).trans rfl,(blk_cell BK881.out 2).trans rfl,(blk_cell BK887.out 0).trans rfl,(blk_cell BK887.out 1).trans rfl,(blk_cell BK893.out 0).trans rfl,(blk_cell BK893.out 1).trans rfl,(blk_cell BK900.out 0).trans rfl,(blk_cell BK900.out 1).trans rfl⟩ (fun hHeld=>?_)
  clear hK K
  refine norm_ (a':=?_) ?_ ?_
  rotate_left
  ·show Act.put _ (some 102) _=_
   simp only [Act.put,List.setIfInBounds_toArray,List.set_cons_zero,List.set_cons_succ,i64_w,i32_w]
   rfl
  refine one_ (i:=38) (N:=some 104) (bm_ 41 549755813887) rfl rfl (one_of HT_.out krT_) (by decide) (fun K hK=>?_)
  refine goes_ Tryz.func19 krT_ rfl #[.agg #[.int .i64 t860,.slice Ao17 t861.length co17]] (by rfl) rfl rfl agT_ ?_
  with_reducible refine (spec_GirthOf.calls k t860 _ _ t861 t909 _ ?side1 ?side2 A66.out).mono ?_
  (case side1=>repeat (first|exact (Kd.R_reads' HO863.out).2.2|(with_reducible refine Kd.C_alloc ?_ _)|(with_reducible refine Kd.C_drewN ?_ _)|(with_reducible refine Kd.C_drew ?_)))
  (case side2=>exact (Kd.R_reads' HO863.out).2.1)
  rintro e w74 ⟨rfl,hb⟩
  refine ⟨_,rfl,?_⟩
  replace HO863:=Aside0.mk (Kd.R_below (kRC_ HO863.out) hb);replace HO867:=Aside0.mk (Kd.R_below (kRC_ HO867.out) hb);replace HO871:=Aside0.mk (Kd.Q_below (kQC_ HO871.out) hb);replace HO885:=Aside0.mk (Kd.R_below (kRC_ HO885.out) hb);replace HO891:=Aside0.mk (Kd.R_below (kRC_ HO891.out) hb);replace HO897:=Aside0.mk (Kd.R_below (kRC_ HO897.out) hb);replace HO904:=Aside0.mk (Kd.R_below (kRC_ HO904.out) hb);replace BK864:=sBK_ BK864.out hb;replace BK876:=sBK_ BK876.out hb;replace BK881:=sBK_ BK881.out hb;replace BK887:=sBK_ BK887.out hb;replace BK893:=sBK_ BK893.out hb;replace BK900:=sBK_ BK900.out hb;replace HB:=s_HB HB.out hb
  (try clear hb)
  (try clear hb2)
  (try clear hk)
  (try clear hi)
  refine hK.out _ _ ⟨(blk_cell BK864.out 0).trans rfl,(blk_cell BK864.out 1).trans rfl,(blk_cell BK876.out 0).trans rfl,(blk_cell BK876.out 1).trans rfl,(blk_cell BK876.out 2).trans rfl,(blk_cell BK881.out 0).trans rfl,(blk_cell BK881.out 1).trans rfl,(blk_cell BK881.out 2).trans rfl,(blk_cell BK887.out 0).trans rfl,(blk_cell BK887.out 1).trans rfl,(blk_cell BK893.out 0).trans rfl,(blk_cell BK893.out 1).trans rfl,(blk_cell BK900.out 0).trans rfl,(blk_cell BK900.out 1).trans rfl⟩ (fun hHeld=>?_)
  clear hK K
  refine norm_ (a':=?_) ?_ ?_
  rotate_left
  ·show Act.put _ (some 104) _=_
   simp only [Act.put,List.setIfInBounds_toArray,List.set_cons_zero,List.set_cons_succ,i64_w,i32_w]
   rfl
  refine pu_ 39 (some 105) (bm_ 41 1099511627775) rfl rfl HT_.out ?_
  refine pu_ 40 (some 106) (bm_ 41 2199023255551) rfl rfl HT_.out ?_
  refine done_ (done_of HT_.out krT_) ?_
  try go_wp2
  go_meet
  case rel=>exact ⟨_,((t908 != t909)),sT_,H',⟨by first|omega|exact Nat.le_refl _⟩,⟨by (with_reducible repeat (first|apply Kd.R_alloc|apply Kd.R_drewN|apply Kd.R_drew));exact Kd.R_mono HO867.out (fun _ hk=>by first|exact ⟨hk.1.1.1.1.2,⟨hk.1.1.1.1.1.2,⟨hk.1.1.1.2,⟨hk.1.1.2,hk.1.2⟩⟩⟩⟩|(simp [hk];done))⟩,⟨by (with_reducible repeat (first|apply Kd.Q_alloc|apply Kd.Q_drewN|apply Kd.Q_drew));exact Kd.Q_mono HO871.out (fun _ hk=>by first|exact ⟨hk.1.1.1.1.2,⟨hk.1.1.1.1.1.2,⟨hk.1.1.1.2,⟨hk.1.1.2,hk.1.2⟩⟩⟩⟩|(simp [hk];done))⟩,⟨by (with_reducible repeat (first|apply Kd.R_alloc|apply Kd.R_drewN|apply Kd.R_drew));exact Kd.R_mono HO863.out (fun _ hk=>by first|exact ⟨hk.1.1.1.1.1.2,⟨hk.1.1.1.1.2,⟨hk.1.1.1.2,⟨hk.1.1.2,hk.1.2⟩⟩⟩⟩|(simp [hk];done))⟩,⟨by (with_reducible repeat (first|apply Kd.R_alloc|apply Kd.R_drewN|apply Kd.R_drew));exact Kd.R_mono HO885.out (fun _ hk=>by first|exact ⟨hk.1.1.1.1.2,⟨hk.1.1.1.2,⟨hk.1.1.1.1.1.2,⟨hk.1.1.2,hk.1.2⟩⟩⟩⟩|(simp [hk];done))⟩,⟨by (with_reducible repeat (first|apply Kd.R_alloc|apply Kd.R_drewN|apply Kd.R_drew));exact Kd.R_mono HO891.out (fun _ hk=>by first|exact ⟨hk.1.1.1.1.2,⟨hk.1.1.1.2,⟨hk.1.1.1.1.1.2,⟨hk.1.1.2,hk.1.2⟩⟩⟩⟩|(simp [hk];done))⟩,⟨by (with_reducible repeat (first|apply Kd.R_alloc|apply Kd.R_drewN|apply Kd.R_drew));exact Kd.R_mono HO897.out (fun _ hk=>by first|exact ⟨hk.1.1.1.1.2,⟨hk.1.1.1.2,⟨hk.1.1.1.1.1.2,⟨hk.1.1.2,hk.1.2⟩⟩⟩⟩|(simp [hk];done))⟩,⟨bkC_ BK864.out⟩,⟨bkC_ BK876.out⟩,⟨bkC_ BK881.out⟩,⟨bkC_ BK887.out⟩,⟨bkC_ BK893.out⟩,⟨bkC_ BK900.out⟩,⟨h_HB HB.out⟩⟩
 case rest =>
 clear HC13
 try clear c1
 try clear p2
 try clear c5
 try clear c6
 try clear c14
 try clear c16
 try clear c17
 try clear c18
 try clear c19
 try clear c57
 try clear c62
 try clear c64
 try clear c64b0
 try clear c64b1
 obtain ⟨kq,x106_12,rfl,HA,HJ12,HO_4,HO_6,HO_865001,HO_888001,HO_894001,HO_901001,BK864,BK876,BK881,BK887,BK893,BK900,HB⟩:=hcut
 cases kq with
 | zero=>exact absurd HA.out (by simp [laws_FnCircuits.j0])
 | succ kj12 =>
 have H:=HA.out
 clear HA
 simp only [laws_FnCircuits.j0] at H
 replace H:=gsF_ H;obtain ⟨rfl,H⟩:=H
 have HC76:=Aside0.mk H
 clear H
 go_upto_region 14 with (fail)
 go_cut [145] (fun v145 wc=>∃ (kq:Nat) (x145_75:Bool),v145=.bool x145_75∧Aside0 (laws_FnCircuits.j1 kq t865 x145_75 t860 t861=some r)∧Aside0 (kq≤kj12)∧Aside0 (Kd.R (Kd.int .i64) 3 wc w.heap.size (fun k_=>some k_≠((.slice Ao17 t861.length co17):Value).ownBlock∧some k_≠((.slice Ao36 t883.length co36):Value).ownBlock∧some k_≠((.slice Ao44 t889.length co44):Value).ownBlock∧some k_≠((.slice Ao53 t895.length co53):Value).ownBlock) v866 t865)∧Aside0 (Kd.R (Kd.int .i64) 3 wc w.heap.size (fun k_=>some k_≠(v866:Value).ownBlock∧some k_≠((.slice Ao36 t883.length co36):Value).ownBlock∧some k_≠((.slice Ao44 t889.length co44):Value).ownBlock∧some k_≠((.slice Ao53 t895.length co53):Value).ownBlock) (.slice Ao17 t861.length co17) t861)∧Aside0 (Kd.R (Kd.int .i64) 3 wc w.heap.size (fun k_=>some k_≠(v866:Value).ownBlock∧some k_≠((.slice Ao17 t861.length co17):Value).ownBlock∧some k_≠((.slice Ao44 t889.length co44):Value).ownBlock∧some k_≠((.slice Ao53 t895.length co53):Value).ownBlock) (.slice Ao36 t883.length co36) t883)∧Aside0 (Kd.R (Kd.int .i64) 3 wc w.heap.size (fun k_=>some k_≠(v866:Value).ownBlock∧some k_≠((.slice Ao17 t861.length co17):Value).ownBlock∧some k_≠((.slice Ao36 t883.length co36):Value).ownBlock∧some k_≠((.slice Ao53 t895.length co53):Value).ownBlock) (.slice Ao44 t889.length co44) t889)∧Aside0 (Kd.R (Kd.int .i64) 3 wc w.heap.size (fun k_=>some k_≠(v866:Value).ownBlock∧some k_≠((.slice Ao17 t861.length co17):Value).ownBlock∧some k_≠((.slice Ao36 t883.length co36):Value).ownBlock∧some k_≠((.slice Ao44 t889.length co44):Value).ownBlock) (.slice Ao53 t895.length co53) t895)∧Aside0 (wc.heap[gb864]?=some (.cells #[.int .i64 t860,(.slice Ao17 t861.length co17)] 26 (0,0)))∧Aside0 (wc.heap[gb876]?=some (.cells #[.int .i64 t872,.int .i64 t873,.int .i64 t874] 32 (0,0)))∧Aside0 (wc.heap[gb881]?=some (.cells #[.int .i64 t877,.int .i64 t878,.int .i64 t879] 32 (0,0)))∧Aside0 (wc.heap[gb887]?=some (.cells #[.int .i64 t882,(.slice Ao36 t883.length co36)] 26 (0,0)))∧Aside0 (wc.heap[gb893]?=some (.cells #[.int .i64 t888,(.slice Ao44 t889.length co44)] 26 (0,0)))∧Aside0 (wc.heap[gb900]?=some (.cells #[.int .i64 t894,(.slice Ao53 t895.length co53)] 26 (0,0)))∧Aside0 (Below w.heap.size w wc))
 case first =>
  have H:=HC76.out
  clear HC76
  replace H:=(gst_ H).symm;rcases H with ⟨rfl,H⟩|⟨rfl,H⟩
  ·replace H:=gse_ H;rcases H with ⟨c116b0,c116b1,H⟩|⟨c116b0,c116b1,c116,H⟩
   ·have H':=Aside0.mk H
    clear H
    go_wp2
    go_meet
    case rel=>exact ⟨_,(false),sT_,H',⟨by have:=HJ12.out;first|omega|exact Nat.le_refl _⟩,⟨by (with_reducible repeat (first|apply Kd.R_alloc|apply Kd.R_drewN|apply Kd.R_drew));exact Kd.R_mono HO_4.out (fun _ hk=>by first|exact ⟨hk.2.1,⟨hk.2.2.1,⟨hk.2.2.2.1,hk.2.2.2.2⟩⟩⟩|(simp [hk];done))⟩,⟨by (with_reducible repeat (first|apply Kd.R_alloc|apply Kd.R_drewN|apply Kd.R_drew));exact Kd.R_mono HO_865001.out (fun _ hk=>by first|exact ⟨hk.1,⟨hk.2.2.1,⟨hk.2.2.2.1,hk.2.2.2.2⟩⟩⟩|(simp [hk];done))⟩,⟨by (with_reducible repeat (first|apply Kd.R_alloc|apply Kd.R_drewN|apply Kd.R_drew));exact Kd.R_mono HO_888001.out (fun _ hk=>by first|exact ⟨hk.1,⟨hk.2.2.1,⟨hk.2.2.2.1,hk.2.2.2.2⟩⟩⟩|(simp [hk];done))⟩,⟨by (with_reducible repeat (first|apply Kd.R_alloc|apply Kd.R_drewN|apply Kd.R_drew));exact Kd.R_mono HO_894001.out (fun _ hk=>by first|exact ⟨hk.1,⟨hk.2.2.1,⟨hk.2.2.2.1,hk.2.2.2.2⟩⟩⟩|(simp [hk];done))⟩,⟨by (with_reducible repeat (first|apply Kd.R_alloc|apply Kd.R_drewN|apply Kd.R_drew));exact Kd.R_mono HO_901001.out (fun _ hk=>by first|exact ⟨hk.1,⟨hk.2.2.1,⟨hk.2.2.2.1,hk.2.2.2.2⟩⟩⟩|(simp [hk];done))⟩,⟨bkC_ BK864.out⟩,⟨bkC_ BK876.out⟩,⟨bkC_ BK881.out⟩,⟨bkC_ BK887.out⟩,⟨bkC_ BK893.out⟩,⟨bkC_ BK900.out⟩,⟨h_HB HB.out⟩⟩
   replace H:=bnd_ H;obtain ⟨t921,A117,H⟩:=H
   replace H:=bnd_ H;obtain ⟨t924,A118,H⟩:=H
   replace H:=gsp_ H;obtain ⟨rfl,H⟩:=H
   replace H:=bnd_ H;obtain ⟨t925,A120,H⟩:=H
   replace H:=bnd_ H;obtain ⟨t926,A121,H⟩:=H
   have E_:=Option.some.inj (A120.out.symm.trans A121.out)
   have H':=Aside0.mk H
   clear H
   have hnb122:=NB900_864.out
   have hnc122:=NB864_900.out
   have hnb123:=NB900_876.out
   have hnc123:=NB876_900.out
   have hnb124:=NB900_881.out
   have hnc124:=NB881_900.out
   have hnb125:=NB900_887.out
   have hnc125:=NB887_900.out
   have hnb126:=NB900_893.out
   have hnc126:=NB893_900.out
   obtain ⟨hcz127_0,hcz127_1,hfz127_0,hfz127_1⟩:=bz2_ BK900.out
   go_wp2_with (first|(go_at_call 15;(with_reducible refine (spec_Circuits.calls kj12 t894 _ _ t895 t921 _ ?side1 ?side2 A117.out).mono ?_);(case side1=>repeat (first|exact (Kd.R_reads' HO_901001.out).2.2|(with_reducible refine Kd.C_alloc ?_ _)|(with_reducible refine Kd.C_drewN ?_ _)|(with_reducible refine Kd.C_drew ?_)));(case side2=>exact (Kd.R_reads' HO_901001.out).2.1);rintro e w128 ⟨v922,rfl,ho0,hb⟩;have HO923:=Aside0.mk (Kd.R_lower (Kd.R_new' (Kd.R_new' (Kd.R_new' (Kd.R_new' (Kd.R_new' (Kd.R_new' ho0 (Kd.R_lt (kRC_ HO_4.out))) (Kd.Q_lt (kQC_ HO_6.out))) (Kd.R_lt (kRC_ HO_865001.out))) (Kd.R_lt (kRC_ HO_888001.out))) (Kd.R_lt (kRC_ HO_894001.out))) (Kd.R_lt (kRC_ HO_901001.out))) (below_size (h_HB HB.out)));replace HO_4:=Aside0.mk (Kd.R_elder' (kRC_ HO_4.out) (Kd.R_base ho0) hb);replace HO_6:=Aside0.mk (Kd.Q_elder' (kQC_ HO_6.out) (Kd.R_base ho0) hb);replace HO_865001:=Aside0.mk (Kd.R_elder' (kRC_ HO_865001.out) (Kd.R_base ho0) hb);replace HO_888001:=Aside0.mk (Kd.R_elder' (kRC_ HO_888001.out) (Kd.R_base ho0) hb);replace HO_894001:=Aside0.mk (Kd.R_elder' (kRC_ HO_894001.out) (Kd.R_base ho0) hb);replace HO_901001:=Aside0.mk (Kd.R_elder' (kRC_ HO_901001.out) (Kd.R_base ho0) hb);replace BK864:=sBK_ BK864.out hb;replace BK876:=sBK_ BK876.out hb;replace BK881:=sBK_ BK881.out hb;replace BK887:=sBK_ BK887.out hb;replace BK893:=sBK_ BK893.out hb;replace BK900:=sBK_ BK900.out hb;replace HB:=s_HB HB.out hb;(try clear hb);(try clear ho0);obtain ⟨Ao129,co129,eo129⟩:=Kd.R_slice HO923.out;subst eo129)|(go_at_call 21;(with_reducible refine (spec_HasSet.calls kj12 _ _ t921 t901 true _ ?side1 ?side2 A118.out).mono ?_);(case side1=>repeat (first|exact (Kd.R_reads' HO923.out).2.2|(with_reducible refine Kd.C_alloc ?_ _)|(with_reducible refine Kd.C_drewN ?_ _)|(with_reducible refine Kd.C_drew ?_)));(case side2=>exact (Kd.R_reads' HO923.out).2.1);rintro e w' ⟨rfl,⟨nd,rfl⟩⟩)|(go_at_call 22;(with_reducible refine (spec_WithoutElement.calls t901 t899 t925 _ A120.out).mono ?_);rintro e w' ⟨rfl,⟨nd,rfl⟩⟩)|(go_at_call 22;(with_reducible refine (spec_WithoutElement.calls t901 t899 t926 _ A121.out).mono ?_);rintro e w' ⟨rfl,⟨nd,rfl⟩⟩))
   go_meet
   case rel=>exact ⟨_,(((Go.bits .and .i64 t925 t898) != t926)),sT_,H',⟨by have:=HJ12.out;first|omega|exact Nat.le_refl _⟩,⟨by (with_reducible repeat (first|apply Kd.R_alloc|apply Kd.R_drewN|apply Kd.R_drew));exact Kd.R_mono HO_4.out (fun _ hk=>by first|exact ⟨hk.1.2.1,⟨hk.1.2.2.1,⟨hk.1.2.2.2.1,hk.1.2.2.2.2⟩⟩⟩|(simp [hk];done))⟩,⟨by (with_reducible repeat (first|apply Kd.R_alloc|apply Kd.R_drewN|apply Kd.R_drew));exact Kd.R_mono HO_865001.out (fun _ hk=>by first|exact ⟨hk.1.1,⟨hk.1.2.2.1,⟨hk.1.2.2.2.1,hk.1.2.2.2.2⟩⟩⟩|(simp [hk];done))⟩,⟨by (with_reducible repeat (first|apply Kd.R_alloc|apply Kd.R_drewN|apply Kd.R_drew));exact Kd.R_mono HO_888001.out (fun _ hk=>by first|exact ⟨hk.1.1,⟨hk.1.2.2.1,⟨hk.1.2.2.2.1,hk.1.2.2.2.2⟩⟩⟩|(simp [hk];done))⟩,⟨by (with_reducible repeat (first|apply Kd.R_alloc|apply Kd.R_drewN|apply Kd.R_drew));exact Kd.R_mono HO_894001.out (fun _ hk=>by first|exact ⟨hk.1.1,⟨hk.1.2.2.1,⟨hk.1.2.2.2.1,hk.1.2.2.2.2⟩⟩⟩|(simp [hk];done))⟩,⟨by (with_reducible repeat (first|apply Kd.R_alloc|apply Kd.R_drewN|apply Kd.R_drew));exact Kd.R_mono HO_901001.out (fun _ hk=>by first|exact ⟨hk.1.1,⟨hk.1.2.2.1,⟨hk.1.2.2.2.1,hk.1.2.2.2.2⟩⟩⟩|(simp [hk];done))⟩,⟨bkC_ BK864.out⟩,⟨bkC_ BK876.out⟩,⟨bkC_ BK881.out⟩,⟨bkC_ BK887.out⟩,⟨bkC_ BK893.out⟩,⟨bkC_ BK900.out⟩,⟨h_HB HB.out⟩⟩
  replace H:=bnd_ H;obtain ⟨t910,A78,H⟩:=H
  replace H:=gsp_ H;obtain ⟨rfl,H⟩:=H
  replace H:=bnd_ H;obtain ⟨t911,A80,H⟩:=H
  replace H:=bnd_ H;obtain ⟨t914,A81,H⟩:=H
  replace H:=gsp_ H;obtain ⟨rfl,H⟩:=H
  replace H:=gse_ H;rcases H with ⟨c83b0,c83b1,H⟩|⟨c83b0,c83b1,c83,H⟩
  ·(first|rw [c83b0]|(simp only [i64_w,i32_w];rw [c83b0])|skip)
   have H':=Aside0.mk H
   clear H
   have hnb84:=NB887_864.out
   have hnc84:=NB864_887.out
   have hnb85:=NB887_876.out
   have hnc85:=NB876_887.out
   have hnb86:=NB887_881.out
   have hnc86:=NB881_887.out
   have hnb87:=NB887_893.out
   have hnc87:=NB893_887.out
   have hnb88:=NB887_900.out
   have hnc88:=NB900_887.out
   obtain ⟨hcz89_0,hcz89_1,hfz89_0,hfz89_1⟩:=bz2_ BK887.out
   go_wp2_with (first|(go_at_call 20;(with_reducible refine (spec_IsMatroid.calls kj12 t882 _ _ t883 true _ ?side1 ?side2 A78.out).mono ?_);(case side1=>repeat (first|exact (Kd.R_reads' HO_888001.out).2.2|(with_reducible refine Kd.C_alloc ?_ _)|(with_reducible refine Kd.C_drewN ?_ _)|(with_reducible refine Kd.C_drew ?_)));(case side2=>exact (Kd.R_reads' HO_888001.out).2.1);rintro e w90 ⟨rfl,hb⟩;replace HO_4:=Aside0.mk (Kd.R_below (kRC_ HO_4.out) hb);replace HO_6:=Aside0.mk (Kd.Q_below (kQC_ HO_6.out) hb);replace HO_865001:=Aside0.mk (Kd.R_below (kRC_ HO_865001.out) hb);replace HO_888001:=Aside0.mk (Kd.R_below (kRC_ HO_888001.out) hb);replace HO_894001:=Aside0.mk (Kd.R_below (kRC_ HO_894001.out) hb);replace HO_901001:=Aside0.mk (Kd.R_below (kRC_ HO_901001.out) hb);replace BK864:=sBK_ BK864.out hb;replace BK876:=sBK_ BK876.out hb;replace BK881:=sBK_ BK881.out hb;replace BK887:=sBK_ BK887.out hb;replace BK893:=sBK_ BK893.out hb;replace BK900:=sBK_ BK900.out hb;replace HB:=s_HB HB.out hb;(try clear hb);obtain ⟨hcz91_0,hcz91_1,hfz91_0,hfz91_1⟩:=bz2_ BK887.out)|(go_at_call 6;(with_reducible refine (impl_Circuits.calls kj12 t882 _ _ t883 t911 _ ?side1 ?side2 A80.out).mono ?_);(case side1=>repeat (first|exact (Kd.R_reads' HO_888001.out).2.2|(with_reducible refine Kd.C_alloc ?_ _)|(with_reducible refine Kd.C_drewN ?_ _)|(with_reducible refine Kd.C_drew ?_)));(case side2=>exact (Kd.R_reads' HO_888001.out).2.1);rintro e w92 ⟨v912,rfl,ho0,hb⟩;have HO913:=Aside0.mk (Kd.R_lower (Kd.R_new' (Kd.R_new' (Kd.R_new' (Kd.R_new' (Kd.R_new' (Kd.R_new' ho0 (Kd.R_lt (kRC_ HO_4.out))) (Kd.Q_lt (kQC_ HO_6.out))) (Kd.R_lt (kRC_ HO_865001.out))) (Kd.R_lt (kRC_ HO_888001.out))) (Kd.R_lt (kRC_ HO_894001.out))) (Kd.R_lt (kRC_ HO_901001.out))) (below_size (h_HB HB.out)));replace HO_4:=Aside0.mk (Kd.R_elder' (kRC_ HO_4.out) (Kd.R_base ho0) hb);replace HO_6:=Aside0.mk (Kd.Q_elder' (kQC_ HO_6.out) (Kd.R_base ho0) hb);replace HO_865001:=Aside0.mk (Kd.R_elder' (kRC_ HO_865001.out) (Kd.R_base ho0) hb);replace HO_888001:=Aside0.mk (Kd.R_elder' (kRC_ HO_888001.out) (Kd.R_base ho0) hb);replace HO_894001:=Aside0.mk (Kd.R_elder' (kRC_ HO_894001.out) (Kd.R_base ho0) hb);replace HO_901001:=Aside0.mk (Kd.R_elder' (kRC_ HO_901001.out) (Kd.R_base ho0) hb);replace BK864:=sBK_ BK864.out hb;replace BK876:=sBK_ BK876.out hb;replace BK881:=sBK_ BK881.out hb;replace BK887:=sBK_ BK887.out hb;replace BK893:=sBK_ BK893.out hb;replace BK900:=sBK_ BK900.out hb;replace HB:=s_HB HB.out hb;(try clear hb);(try clear ho0);obtain ⟨Ao93,co93,eo93⟩:=Kd.R_slice HO913.out;subst eo93)|(go_at_call 14;(with_reducible refine (laws_sameInts.calls kj12 _ _ t911 _ _ t869 true _ ?side1 ?side2 ?side3 ?side4 A81.out).mono ?_);(case side1=>repeat (first|exact (Kd.R_reads' HO913.out).2.2|(with_reducible refine Kd.C_alloc ?_ _)|(with_reducible refine Kd.C_drewN ?_ _)|(with_reducible refine Kd.C_drew ?_)));(case side2=>exact (Kd.R_reads' HO913.out).2.1);(case side3=>repeat (first|exact (Kd.Q_reads' HO_6.out).2.2|(with_reducible refine Kd.C_alloc ?_ _)|(with_reducible refine Kd.C_drewN ?_ _)|(with_reducible refine Kd.C_drew ?_)));(case side4=>exact (Kd.Q_reads' HO_6.out).2.1);rintro e w' ⟨rfl,⟨nd,rfl⟩⟩))
   go_meet
   case rel=>exact ⟨_,(false),sT_,H',⟨by have:=HJ12.out;first|omega|exact Nat.le_refl _⟩,⟨by (with_reducible repeat (first|apply Kd.R_alloc|apply Kd.R_drewN|apply Kd.R_drew));exact Kd.R_mono HO_4.out (fun _ hk=>by first|exact ⟨hk.1.2.1,⟨hk.1.2.2.1,⟨hk.1.2.2.2.1,hk.1.2.2.2.2⟩⟩⟩|(simp [hk];done))⟩,⟨by (with_reducible repeat (first|apply Kd.R_alloc|apply Kd.R_drewN|apply Kd.R_drew));exact Kd.R_mono HO_865001.out (fun _ hk=>by first|exact ⟨hk.1.1,⟨hk.1.2.2.1,⟨hk.1.2.2.2.1,hk.1.2.2.2.2⟩⟩⟩|(simp [hk];done))⟩,⟨by (with_reducible repeat (first|apply Kd.R_alloc|apply Kd.R_drewN|apply Kd.R_drew));exact Kd.R_mono HO_888001.out (fun _ hk=>by first|exact ⟨hk.1.1,⟨hk.1.2.2.1,⟨hk.1.2.2.2.1,hk.1.2.2.2.2⟩⟩⟩|(simp [hk];done))⟩,⟨by (with_reducible repeat (first|apply Kd.R_alloc|apply Kd.R_drewN|apply Kd.R_drew));exact Kd.R_mono HO_894001.out (fun _ hk=>by first|exact ⟨hk.1.1,⟨hk.1.2.2.1,⟨hk.1.2.2.2.1,hk.1.2.2.2.2⟩⟩⟩|(simp [hk];done))⟩,⟨by (with_reducible repeat (first|apply Kd.R_alloc|apply Kd.R_drewN|apply Kd.R_drew));exact Kd.R_mono HO_901001.out (fun _ hk=>by first|exact ⟨hk.1.1,⟨hk.1.2.2.1,⟨hk.1.2.2.2.1,hk.1.2.2.2.2⟩⟩⟩|(simp [hk];done))⟩,⟨bkC_ BK864.out⟩,⟨bkC_ BK876.out⟩,⟨bkC_ BK881.out⟩,⟨bkC_ BK887.out⟩,⟨bkC_ BK893.out⟩,⟨bkC_ BK900.out⟩,⟨h_HB HB.out⟩⟩
  (first|rw [c83b0]|(simp only [i64_w,i32_w];rw [c83b0])|skip)
  replace H:=bnd_ H;obtain ⟨t915,A94,H⟩:=H
  replace H:=bnd_ H;obtain ⟨t918,A95,H⟩:=H
  replace H:=gsp_ H;obtain ⟨rfl,H⟩:=H
  replace H:=bnd_ H;obtain ⟨t919,A97,H⟩:=H
  replace H:=bnd_ H;obtain ⟨t920,A98,H⟩:=H
  have E_:=Option.some.inj (A97.out.symm.trans A98.out)
  have H':=Aside0.mk H
  clear H
  have hnb99:=NB887_864.out
  have hnc99:=NB864_887.out
  have hnb100:=NB887_876.out
  have hnc100:=NB876_887.out
  have hnb101:=NB887_881.out
  have hnc101:=NB881_887.out
  have hnb102:=NB887_893.out
  have hnc102:=NB893_887.out
  have hnb103:=NB887_900.out
  have hnc103:=NB900_887.out
  obtain ⟨hcz104_0,hcz104_1,hfz104_0,hfz104_1⟩:=bz2_ BK887.out
  go_wp2_with (first|(go_at_call 20;(with_reducible refine (spec_IsMatroid.calls kj12 t882 _ _ t883 true _ ?side1 ?side2 A78.out).mono ?_);(case side1=>repeat (first|exact (Kd.R_reads' HO_888001.out).2.2|(with_reducible refine Kd.C_alloc ?_ _)|(with_reducible refine Kd.C_drewN ?_ _)|(with_reducible refine Kd.C_drew ?_)));(case side2=>exact (Kd.R_reads' HO_888001.out).2.1);rintro e w105 ⟨rfl,hb⟩;replace HO_4:=Aside0.mk (Kd.R_below (kRC_ HO_4.out) hb);replace HO_6:=Aside0.mk (Kd.Q_below (kQC_ HO_6.out) hb);replace HO_865001:=Aside0.mk (Kd.R_below (kRC_ HO_865001.out) hb);replace HO_888001:=Aside0.mk (Kd.R_below (kRC_ HO_888001.out) hb);replace HO_894001:=Aside0.mk (Kd.R_below (kRC_ HO_894001.out) hb);replace HO_901001:=Aside0.mk (Kd.R_below (kRC_ HO_901001.out) hb);replace BK864:=sBK_ BK864.out hb;replace BK876:=sBK_ BK876.out hb;replace BK881:=sBK_ BK881.out hb;replace BK887:=sBK_ BK887.out hb;replace BK893:=sBK_ BK893.out hb;replace BK900:=sBK_ BK900.out hb;replace HB:=s_HB HB.out hb;(try clear hb);obtain ⟨hcz106_0,hcz106_1,hfz106_0,hfz106_1⟩:=bz2_ BK887.out)|(go_at_call 6;(with_reducible refine (impl_Circuits.calls kj12 t882 _ _ t883 t911 _ ?side1 ?side2 A80.out).mono ?_);(case side1=>repeat (first|exact (Kd.R_reads' HO_888001.out).2.2|(with_reducible refine Kd.C_alloc ?_ _)|(with_reducible refine Kd.C_drewN ?_ _)|(with_reducible refine Kd.C_drew ?_)));(case side2=>exact (Kd.R_reads' HO_888001.out).2.1);rintro e w107 ⟨v912,rfl,ho0,hb⟩;have HO913:=Aside0.mk (Kd.R_lower (Kd.R_new' (Kd.R_new' (Kd.R_new' (Kd.R_new' (Kd.R_new' (Kd.R_new' ho0 (Kd.R_lt (kRC_ HO_4.out))) (Kd.Q_lt (kQC_ HO_6.out))) (Kd.R_lt (kRC_ HO_865001.out))) (Kd.R_lt (kRC_ HO_888001.out))) (Kd.R_lt (kRC_ HO_894001.out))) (Kd.R_lt (kRC_ HO_901001.out))) (below_size (h_HB HB.out)));replace HO_4:=Aside0.mk (Kd.R_elder' (kRC_ HO_4.out) (Kd.R_base ho0) hb);replace HO_6:=Aside0.mk (Kd.Q_elder' (kQC_ HO_6.out) (Kd.R_base ho0) hb);replace HO_865001:=Aside0.mk (Kd.R_elder' (kRC_ HO_865001.out) (Kd.R_base ho0) hb);replace HO_888001:=Aside0.mk (Kd.R_elder' (kRC_ HO_888001.out) (Kd.R_base ho0) hb);replace HO_894001:=Aside0.mk (Kd.R_elder' (kRC_ HO_894001.out) (Kd.R_base ho0) hb);replace HO_901001:=Aside0.mk (Kd.R_elder' (kRC_ HO_901001.out) (Kd.R_base ho0) hb);replace BK864:=sBK_ BK864.out hb;replace BK876:=sBK_ BK876.out hb;replace BK881:=sBK_ BK881.out hb;replace BK887:=sBK_ BK887.out hb;replace BK893:=sBK_ BK893.out hb;replace BK900:=sBK_ BK900.out hb;replace HB:=s_HB HB.out hb;(try clear hb);(try clear ho0);obtain ⟨Ao108,co108,eo108⟩:=Kd.R_slice HO913.out;subst eo108)|(go_at_call 14;(with_reducible refine (laws_sameInts.calls kj12 _ _ t911 _ _ t869 true _ ?side1 ?side2 ?side3 ?side4 A81.out).mono ?_);(case side1=>repeat (first|exact (Kd.R_reads' HO913.out).2.2|(with_reducible refine Kd.C_alloc ?_ _)|(with_reducible refine Kd.C_drewN ?_ _)|(with_reducible refine Kd.C_drew ?_)));(case side2=>exact (Kd.R_reads' HO913.out).2.1);(case side3=>repeat (first|exact (Kd.Q_reads' HO_6.out).2.2|(with_reducible refine Kd.C_alloc ?_ _)|(with_reducible refine Kd.C_drewN ?_ _)|(with_reducible refine Kd.C_drew ?_)));(case side4=>exact (Kd.Q_reads' HO_6.out).2.1);rintro e w' ⟨rfl,⟨nd,rfl⟩⟩;have hnb109:=NB900_864.out;have hnc109:=NB864_900.out;have hnb110:=NB900_876.out;have hnc110:=NB876_900.out;have hnb111:=NB900_881.out;have hnc111:=NB881_900.out;have hnb112:=NB900_893.out;have hnc112:=NB893_900.out;obtain ⟨hcz113_0,hcz113_1,hfz113_0,hfz113_1⟩:=bz2_ BK900.out)|(go_at_call 15;(with_reducible refine (spec_Circuits.calls kj12 t894 _ _ t895 t915 _ ?side1 ?side2 A94.out).mono ?_);(case side1=>repeat (first|exact (Kd.R_reads' HO_901001.out).2.2|(with_reducible refine Kd.C_alloc ?_ _)|(with_reducible refine Kd.C_drewN ?_ _)|(with_reducible refine Kd.C_drew ?_)));(case side2=>exact (Kd.R_reads' HO_901001.out).2.1);rintro e w114 ⟨v916,rfl,ho0,hb⟩;have HO917:=Aside0.mk (Kd.R_lower (Kd.R_new' (Kd.R_new' (Kd.R_new' (Kd.R_new' (Kd.R_new' (Kd.R_new' (Kd.R_new' ho0 (Kd.R_lt (kRC_ HO_4.out))) (Kd.Q_lt (kQC_ HO_6.out))) (Kd.R_lt (kRC_ HO_865001.out))) (Kd.R_lt (kRC_ HO_888001.out))) (Kd.R_lt (kRC_ HO_894001.out))) (Kd.R_lt (kRC_ HO_901001.out))) (Kd.R_lt (kRC_ HO913.out))) (below_size (h_HB HB.out)));replace HO_4:=Aside0.mk (Kd.R_elder' (kRC_ HO_4.out) (Kd.R_base ho0) hb);replace HO_6:=Aside0.mk (Kd.Q_elder' (kQC_ HO_6.out) (Kd.R_base ho0) hb);replace HO_865001:=Aside0.mk (Kd.R_elder' (kRC_ HO_865001.out) (Kd.R_base ho0) hb);replace HO_888001:=Aside0.mk (Kd.R_elder' (kRC_ HO_888001.out) (Kd.R_base ho0) hb);replace HO_894001:=Aside0.mk (Kd.R_elder' (kRC_ HO_894001.out) (Kd.R_base ho0) hb);replace HO_901001:=Aside0.mk (Kd.R_elder' (kRC_ HO_901001.out) (Kd.R_base ho0) hb);replace HO913:=Aside0.mk (Kd.R_elder' (kRC_ HO913.out) (Kd.R_base ho0) hb);replace BK864:=sBK_ BK864.out hb;replace BK876:=sBK_ BK876.out hb;replace BK881:=sBK_ BK881.out hb;replace BK887:=sBK_ BK887.out hb;replace BK893:=sBK_ BK893.out hb;replace BK900:=sBK_ BK900.out hb;replace HB:=s_HB HB.out hb;(try clear hb);(try clear ho0);obtain ⟨Ao115,co115,eo115⟩:=Kd.R_slice HO917.out;subst eo115)|(go_at_call 21;(with_reducible refine (spec_HasSet.calls kj12 _ _ t915 t901 true _ ?side1 ?side2 A95.out).mono ?_);(case side1=>repeat (first|exact (Kd.R_reads' HO917.out).2.2|(with_reducible refine Kd.C_alloc ?_ _)|(with_reducible refine Kd.C_drewN ?_ _)|(with_reducible refine Kd.C_drew ?_)));(case side2=>exact (Kd.R_reads' HO917.out).2.1);rintro e w' ⟨rfl,⟨nd,rfl⟩⟩)|(go_at_call 22;(with_reducible refine (spec_WithoutElement.calls t901 t899 t919 _ A97.out).mono ?_);rintro e w' ⟨rfl,⟨nd,rfl⟩⟩)|(go_at_call 22;(with_reducible refine (spec_WithoutElement.calls t901 t899 t920 _ A98.out).mono ?_);rintro e w' ⟨rfl,⟨nd,rfl⟩⟩))
  go_meet
  case rel=>exact ⟨_,(((Go.bits .and .i64 t919 t898) != t920)),sT_,H',⟨by have:=HJ12.out;first|omega|exact Nat.le_refl _⟩,⟨by (with_reducible repeat (first|apply Kd.R_alloc|apply Kd.R_drewN|apply Kd.R_drew));exact Kd.R_mono HO_4.out (fun _ hk=>by first|exact ⟨hk.1.1.2.1,⟨hk.1.1.2.2.1,⟨hk.1.1.2.2.2.1,hk.1.1.2.2.2.2⟩⟩⟩|(simp [hk];done))⟩,⟨by (with_reducible repeat (first|apply Kd.R_alloc|apply Kd.R_drewN|apply Kd.R_drew));exact Kd.R_mono HO_865001.out (fun _ hk=>by first|exact ⟨hk.1.1.1,⟨hk.1.1.2.2.1,⟨hk.1.1.2.2.2.1,hk.1.1.2.2.2.2⟩⟩⟩|(simp [hk];done))⟩,⟨by (with_reducible repeat (first|apply Kd.R_alloc|apply Kd.R_drewN|apply Kd.R_drew));exact Kd.R_mono HO_888001.out (fun _ hk=>by first|exact ⟨hk.1.1.1,⟨hk.1.1.2.2.1,⟨hk.1.1.2.2.2.1,hk.1.1.2.2.2.2⟩⟩⟩|(simp [hk];done))⟩,⟨by (with_reducible repeat (first|apply Kd.R_alloc|apply Kd.R_drewN|apply Kd.R_drew));exact Kd.R_mono HO_894001.out (fun _ hk=>by first|exact ⟨hk.1.1.1,⟨hk.1.1.2.2.1,⟨hk.1.1.2.2.2.1,hk.1.1.2.2.2.2⟩⟩⟩|(simp [hk];done))⟩,⟨by (with_reducible repeat (first|apply Kd.R_alloc|apply Kd.R_drewN|apply Kd.R_drew));exact Kd.R_mono HO_901001.out (fun _ hk=>by first|exact ⟨hk.1.1.1,⟨hk.1.1.2.2.1,⟨hk.1.1.2.2.2.1,hk.1.1.2.2.2.2⟩⟩⟩|(simp [hk];done))⟩,⟨bkC_ BK864.out⟩,⟨bkC_ BK876.out⟩,⟨bkC_ BK881.out⟩,⟨bkC_ BK887.out⟩,⟨bkC_ BK893.out⟩,⟨bkC_ BK900.out⟩,⟨h_HB HB.out⟩⟩
 case rest =>
 clear HC76
 try clear c1
 try clear p2
 try clear c5
 try clear c6
 try clear c7
 try clear c8
 try clear c9
 try clear c10
 try clear c11
 try clear c12
 try clear c14
 try clear c16
 try clear c17
 try clear c18
 try clear c19
 try clear c57
 try clear c62
 try clear c64
 try clear c64b0
 try clear c64b1
 try clear c75
 try clear c77
 try clear c79
 try clear c82
 try clear c83
 try clear c83b0
 try clear c83b1
 try clear c84
 try clear c85
 try clear c86
 try clear c87
 try clear c88
 try clear c96
 try clear c99
 try clear c100
 try clear c101
 try clear c102
 try clear c103
 try clear c109
 try clear c110
 try clear c111
 try clear c112
 try clear c116
 try clear c116b0
 try clear c116b1
 try clear c119
 try clear c122
 try clear c123
 try clear c124
 try clear c125
 try clear c126
 try clear hcz104_0
 try clear hcz104_1
 try clear hcz106_0
 try clear hcz106_1
 try clear hcz113_0
 try clear hcz113_1
 try clear hcz127_0
 try clear hcz127_1
 try clear hcz89_0
 try clear hcz89_1
 try clear hcz91_0
 try clear hcz91_1
 try clear hfz104_0
 try clear hfz104_1
 try clear hfz106_0
 try clear hfz106_1
 try clear hfz113_0
 try clear hfz113_1
 try clear hfz127_0
 try clear hfz127_1
 try clear hfz89_0
 try clear hfz89_1
 try clear hfz91_0
 try clear hfz91_1
 try clear p2
 obtain ⟨kq,x145_75,rfl,HA,HJ75,HO_4,HO_865001,HO_888001,HO_894001,HO_901001,BK864,BK876,BK881,BK887,BK893,BK900,HB⟩:=hcut
 cases kq with
 | zero=>exact absurd HA.out (by simp [laws_FnCircuits.j1])
 | succ kj75 =>
 have H:=HA.out
 clear HA
 simp only [laws_FnCircuits.j1] at H
 replace H:=gsF_ H;obtain ⟨rfl,H⟩:=H
 replace H:=bnd_ H;obtain ⟨⟨t927,t928,t931⟩,A131,H⟩:=H;dsimp only at H
 replace H:=bnd_ H;obtain ⟨t933,A132,H⟩:=H
 replace H:=(gst_ H).symm;rcases H with ⟨rfl,H⟩|⟨rfl,H⟩
 ·obtain rfl:=Option.some.inj H
  have hnb158:=NB864_876.out
  have hnc158:=NB876_864.out
  have hnb159:=NB864_881.out
  have hnc159:=NB881_864.out
  have hnb160:=NB864_887.out
  have hnc160:=NB887_864.out
  have hnb161:=NB864_893.out
  have hnc161:=NB893_864.out
  have hnb162:=NB864_900.out
  have hnc162:=NB900_864.out
  obtain ⟨hcz163_0,hcz163_1,hfz163_0,hfz163_1⟩:=bz2_ BK864.out
  obtain ⟨Ao164,co164,eo164⟩:=Kd.R_slice HO_4.out
  subst eo164
  go_wp2_with (first|((with_reducible refine gate_callee (f:=10) rfl ?_);refine goesL_ (some 150) rfl rfl Tryz.func10 krT_ rfl #[.int .i64 t860,.slice Ao164 t865.length co164] rfl agT_ ?_;(with_reducible refine (impl_FromCircuits.calls kj75 t860 _ _ t865 t927 t928 t931 _ ?side1 ?side2 A131.out).mono ?_);(case side1=>repeat (first|exact (Kd.R_reads' HO_4.out).2.2|(with_reducible refine Kd.C_alloc ?_ _)|(with_reducible refine Kd.C_drewN ?_ _)|(with_reducible refine Kd.C_drew ?_)));(case side2=>exact (Kd.R_reads' HO_4.out).2.1);rintro e w165 ⟨v929,rfl,ho0,hb⟩;refine ⟨_,rfl,?_⟩;have HO930:=Aside0.mk (Kd.R_lower (Kd.R_new' (Kd.R_new' (Kd.R_new' (Kd.R_new' (Kd.R_new' ho0 (Kd.R_lt (kRC_ HO_4.out))) (Kd.R_lt (kRC_ HO_865001.out))) (Kd.R_lt (kRC_ HO_888001.out))) (Kd.R_lt (kRC_ HO_894001.out))) (Kd.R_lt (kRC_ HO_901001.out))) (below_size (h_HB HB.out)));replace HO_4:=Aside0.mk (Kd.R_elder' (kRC_ HO_4.out) (Kd.R_base ho0) hb);replace HO_865001:=Aside0.mk (Kd.R_elder' (kRC_ HO_865001.out) (Kd.R_base ho0) hb);replace HO_888001:=Aside0.mk (Kd.R_elder' (kRC_ HO_888001.out) (Kd.R_base ho0) hb);replace HO_894001:=Aside0.mk (Kd.R_elder' (kRC_ HO_894001.out) (Kd.R_base ho0) hb);replace HO_901001:=Aside0.mk (Kd.R_elder' (kRC_ HO_901001.out) (Kd.R_base ho0) hb);replace BK864:=sBK_ BK864.out hb;replace BK876:=sBK_ BK876.out hb;replace BK881:=sBK_ BK881.out hb;replace BK887:=sBK_ BK887.out hb;replace BK893:=sBK_ BK893.out hb;replace BK900:=sBK_ BK900.out hb;replace HB:=s_HB HB.out hb;(try clear hb);(try clear ho0))|((with_reducible refine gate_dst (N:=19) rfl ?_);refine bx_ (N:=19) (cs:=#[.int .i64 0,.slice none 0 0]) (t:=26) ?_;intro gb932 hg w166 hbox hb;replace HO_4:=Aside0.mk (Kd.R_below (kRC_ HO_4.out) hb);replace HO_865001:=Aside0.mk (Kd.R_below (kRC_ HO_865001.out) hb);replace HO_888001:=Aside0.mk (Kd.R_below (kRC_ HO_888001.out) hb);replace HO_894001:=Aside0.mk (Kd.R_below (kRC_ HO_894001.out) hb);replace HO_901001:=Aside0.mk (Kd.R_below (kRC_ HO_901001.out) hb);replace HO930:=Aside0.mk (Kd.R_below (kRC_ HO930.out) hb);have BK932:=Aside0.mk (hbox);have GW932:=Aside0.mk (gw_ hg (h_HB HB.out));have GE932:=GW932;replace HB:=s_HB HB.out hb;have NB864_932:=Aside0.mk (nbl_ hg (bkC_ BK864.out));have NB932_864:=Aside0.mk NB864_932.out.symm;replace BK864:=sBK_ BK864.out hb;have NB876_932:=Aside0.mk (nbl_ hg (bkC_ BK876.out));have NB932_876:=Aside0.mk NB876_932.out.symm;replace BK876:=sBK_ BK876.out hb;have NB881_932:=Aside0.mk (nbl_ hg (bkC_ BK881.out));have NB932_881:=Aside0.mk NB881_932.out.symm;replace BK881:=sBK_ BK881.out hb;have NB887_932:=Aside0.mk (nbl_ hg (bkC_ BK887.out));have NB932_887:=Aside0.mk NB887_932.out.symm;replace BK887:=sBK_ BK887.out hb;have NB893_932:=Aside0.mk (nbl_ hg (bkC_ BK893.out));have NB932_893:=Aside0.mk NB893_932.out.symm;replace BK893:=sBK_ BK893.out hb;have NB900_932:=Aside0.mk (nbl_ hg (bkC_ BK900.out));have NB932_900:=Aside0.mk NB900_932.out.symm;replace BK900:=sBK_ BK900.out hb;clear hb hbox hg;have hnb167:=NB932_864.out;have hnc167:=NB864_932.out;have hnb168:=NB932_876.out;have hnc168:=NB876_932.out;have hnb169:=NB932_881.out;have hnc169:=NB881_932.out;have hnb170:=NB932_887.out;have hnc170:=NB887_932.out;have hnb171:=NB932_893.out;have hnc171:=NB893_932.out;have hnb172:=NB932_900.out;have hnc172:=NB900_932.out;obtain ⟨hcz173_0,hcz173_1,hfz173_0,hfz173_1⟩:=bz2_ BK932.out;obtain ⟨Ao174,co174,eo174⟩:=Kd.R_slice HO930.out;subst eo174;obtain ⟨hcz175_0,hcz175_1,hfz175_0,hfz175_1⟩:=bz2_ BK864.out)|((with_reducible refine gate_callee (f:=20) rfl ?_);refine goesL_ (some 154) rfl rfl Tryz.func20 krT_ rfl #[.agg #[.int .i64 t860,.slice Ao17 t861.length co17]] rfl agT_ ?_;(with_reducible refine (spec_IsMatroid.calls kj75 t860 _ _ t861 false _ ?side1 ?side2 A132.out).mono ?_);(case side1=>refine (Kd.R_reads' (e:=3) (base:=w.heap.size) (ok:=fun k_=>((some k_≠(.slice Ao164 t865.length co164:Value).ownBlock∧(some k_≠(.slice Ao36 t883.length co36:Value).ownBlock∧(some k_≠(.slice Ao44 t889.length co44:Value).ownBlock∧some k_≠(.slice Ao53 t895.length co53:Value).ownBlock)))∧some k_≠(.slice Ao174 t928.length co174:Value).ownBlock)) (n:=t861.length) (c:=co17) ?_).2.2;exact (kRF2_ HO_865001.out));(case side2=>exact (Kd.R_reads' HO_865001.out).2.1);rintro e w176 ⟨rfl,hb⟩;refine ⟨_,rfl,?_⟩;replace HO_4:=Aside0.mk (Kd.R_below (kRF2_ HO_4.out) hb);replace HO_865001:=Aside0.mk (Kd.R_below (kRF2_ HO_865001.out) hb);replace HO_888001:=Aside0.mk (Kd.R_below (kRF2_ HO_888001.out) hb);replace HO_894001:=Aside0.mk (Kd.R_below (kRF2_ HO_894001.out) hb);replace HO_901001:=Aside0.mk (Kd.R_below (kRF2_ HO_901001.out) hb);replace HO930:=Aside0.mk (Kd.R_below (kRF2_ HO930.out) hb);replace BK864:=sBK_ BK864.out hb;replace BK876:=sBK_ BK876.out hb;replace BK881:=sBK_ BK881.out hb;replace BK887:=sBK_ BK887.out hb;replace BK893:=sBK_ BK893.out hb;replace BK900:=sBK_ BK900.out hb;replace BK932:=Aside0.mk (blk_below (g:=gb932) (o:=.cells #[.int .i64 t927,.slice Ao174 t928.length co174] 26 (0,0)) (by (with_reducible repeat (first|refine blk_drewN ?_ _|refine blk_drew ?_|refine blk_alloc ?_ _));exact bp2_ (bkC_ BK932.out)) hb);replace HB:=s_HB HB.out hb;(try clear hb)))
  go_ret
  exact ⟨eT_,h_HB HB.out⟩
 replace H:=gsp_ H;obtain ⟨rfl,H⟩:=H
 replace H:=bnd_ H;obtain ⟨t934,A135,H⟩:=H
 obtain rfl:=Option.some.inj H
 have hnb136:=NB864_876.out
 have hnc136:=NB876_864.out
 have hnb137:=NB864_881.out
 have hnc137:=NB881_864.out
 have hnb138:=NB864_887.out
 have hnc138:=NB887_864.out
 have hnb139:=NB864_893.out
 have hnc139:=NB893_864.out
 have hnb140:=NB864_900.out
 have hnc140:=NB900_864.out
 obtain ⟨hcz141_0,hcz141_1,hfz141_0,hfz141_1⟩:=bz2_ BK864.out
 obtain ⟨Ao142,co142,eo142⟩:=Kd.R_slice HO_4.out
 subst eo142
 go_wp2_with (first|((with_reducible refine gate_callee (f:=10) rfl ?_);refine goesL_ (some 150) rfl rfl Tryz.func10 krT_ rfl #[.int .i64 t860,.slice Ao142 t865.length co142] rfl agT_ ?_;(with_reducible refine (impl_FromCircuits.calls kj75 t860 _ _ t865 t927 t928 true _ ?side1 ?side2 A131.out).mono ?_);(case side1=>repeat (first|exact (Kd.R_reads' HO_4.out).2.2|(with_reducible refine Kd.C_alloc ?_ _)|(with_reducible refine Kd.C_drewN ?_ _)|(with_reducible refine Kd.C_drew ?_)));(case side2=>exact (Kd.R_reads' HO_4.out).2.1);rintro e w143 ⟨v929,rfl,ho0,hb⟩;refine ⟨_,rfl,?_⟩;have HO930:=Aside0.mk (Kd.R_lower (Kd.R_new' (Kd.R_new' (Kd.R_new' (Kd.R_new' (Kd.R_new' ho0 (Kd.R_lt (kRC_ HO_4.out))) (Kd.R_lt (kRC_ HO_865001.out))) (Kd.R_lt (kRC_ HO_888001.out))) (Kd.R_lt (kRC_ HO_894001.out))) (Kd.R_lt (kRC_ HO_901001.out))) (below_size (h_HB HB.out)));replace HO_4:=Aside0.mk (Kd.R_elder' (kRC_ HO_4.out) (Kd.R_base ho0) hb);replace HO_865001:=Aside0.mk (Kd.R_elder' (kRC_ HO_865001.out) (Kd.R_base ho0) hb);replace HO_888001:=Aside0.mk (Kd.R_elder' (kRC_ HO_888001.out) (Kd.R_base ho0) hb);replace HO_894001:=Aside0.mk (Kd.R_elder' (kRC_ HO_894001.out) (Kd.R_base ho0) hb);replace HO_901001:=Aside0.mk (Kd.R_elder' (kRC_ HO_901001.out) (Kd.R_base ho0) hb);replace BK864:=sBK_ BK864.out hb;replace BK876:=sBK_ BK876.out hb;replace BK881:=sBK_ BK881.out hb;replace BK887:=sBK_ BK887.out hb;replace BK893:=sBK_ BK893.out hb;replace BK900:=sBK_ BK900.out hb;replace HB:=s_HB HB.out hb;(try clear hb);(try clear ho0))|((with_reducible refine gate_dst (N:=19) rfl ?_);refine bx_ (N:=19) (cs:=#[.int .i64 0,.slice none 0 0]) (t:=26) ?_;intro gb932 hg w144 hbox hb;replace HO_4:=Aside0.mk (Kd.R_below (kRC_ HO_4.out) hb);replace HO_865001:=Aside0.mk (Kd.R_below (kRC_ HO_865001.out) hb);replace HO_888001:=Aside0.mk (Kd.R_below (kRC_ HO_888001.out) hb);replace HO_894001:=Aside0.mk (Kd.R_below (kRC_ HO_894001.out) hb);replace HO_901001:=Aside0.mk (Kd.R_below (kRC_ HO_901001.out) hb);replace HO930:=Aside0.mk (Kd.R_below (kRC_ HO930.out) hb);have BK932:=Aside0.mk (hbox);have GW932:=Aside0.mk (gw_ hg (h_HB HB.out));have GE932:=GW932;replace HB:=s_HB HB.out hb;have NB864_932:=Aside0.mk (nbl_ hg (bkC_ BK864.out));have NB932_864:=Aside0.mk NB864_932.out.symm;replace BK864:=sBK_ BK864.out hb;have NB876_932:=Aside0.mk (nbl_ hg (bkC_ BK876.out));have NB932_876:=Aside0.mk NB876_932.out.symm;replace BK876:=sBK_ BK876.out hb;have NB881_932:=Aside0.mk (nbl_ hg (bkC_ BK881.out));have NB932_881:=Aside0.mk NB881_932.out.symm;replace BK881:=sBK_ BK881.out hb;have NB887_932:=Aside0.mk (nbl_ hg (bkC_ BK887.out));have NB932_887:=Aside0.mk NB887_932.out.symm;replace BK887:=sBK_ BK887.out hb;have NB893_932:=Aside0.mk (nbl_ hg (bkC_ BK893.out));have NB932_893:=Aside0.mk NB893_932.out.symm;replace BK893:=sBK_ BK893.out hb;have NB900_932:=Aside0.mk (nbl_ hg (bkC_ BK900.out));have NB932_900:=Aside0.mk NB900_932.out.symm;replace BK900:=sBK_ BK900.out hb;clear hb hbox hg;have hnb145:=NB932_864.out;have hnc145:=NB864_932.out;have hnb146:=NB932_876.out;have hnc146:=NB876_932.out;have hnb147:=NB932_881.out;have hnc147:=NB881_932.out;have hnb148:=NB932_887.out;have hnc148:=NB887_932.out;have hnb149:=NB932_893.out;have hnc149:=NB893_932.out;have hnb150:=NB932_900.out;have hnc150:=NB900_932.out;obtain ⟨hcz151_0,hcz151_1,hfz151_0,hfz151_1⟩:=bz2_ BK932.out;obtain ⟨Ao152,co152,eo152⟩:=Kd.R_slice HO930.out;subst eo152;obtain ⟨hcz153_0,hcz153_1,hfz153_0,hfz153_1⟩:=bz2_ BK864.out)|((with_reducible refine gate_callee (f:=20) rfl ?_);refine goesL_ (some 154) rfl rfl Tryz.func20 krT_ rfl #[.agg #[.int .i64 t860,.slice Ao17 t861.length co17]] rfl agT_ ?_;(with_reducible refine (spec_IsMatroid.calls kj75 t860 _ _ t861 true _ ?side1 ?side2 A132.out).mono ?_);(case side1=>refine (Kd.R_reads' (e:=3) (base:=w.heap.size) (ok:=fun k_=>((some k_≠(.slice Ao142 t865.length co142:Value).ownBlock∧(some k_≠(.slice Ao36 t883.length co36:Value).ownBlock∧(some k_≠(.slice Ao44 t889.length co44:Value).ownBlock∧some k_≠(.slice Ao53 t895.length co53:Value).ownBlock)))∧some k_≠(.slice Ao152 t928.length co152:Value).ownBlock)) (n:=t861.length) (c:=co17) ?_).2.2;exact (kRF2_ HO_865001.out));(case side2=>exact (Kd.R_reads' HO_865001.out).2.1);rintro e w154 ⟨rfl,hb⟩;refine ⟨_,rfl,?_⟩;replace HO_4:=Aside0.mk (Kd.R_below (kRF2_ HO_4.out) hb);replace HO_865001:=Aside0.mk (Kd.R_below (kRF2_ HO_865001.out) hb);replace HO_888001:=Aside0.mk (Kd.R_below (kRF2_ HO_888001.out) hb);replace HO_894001:=Aside0.mk (Kd.R_below (kRF2_ HO_894001.out) hb);replace HO_901001:=Aside0.mk (Kd.R_below (kRF2_ HO_901001.out) hb);replace HO930:=Aside0.mk (Kd.R_below (kRF2_ HO930.out) hb);replace BK864:=sBK_ BK864.out hb;replace BK876:=sBK_ BK876.out hb;replace BK881:=sBK_ BK881.out hb;replace BK887:=sBK_ BK887.out hb;replace BK893:=sBK_ BK893.out hb;replace BK900:=sBK_ BK900.out hb;replace BK932:=Aside0.mk (blk_below (g:=gb932) (o:=.cells #[.int .i64 t927,.slice Ao152 t928.length co152] 26 (0,0)) (by (with_reducible repeat (first|refine blk_drewN ?_ _|refine blk_drew ?_|refine blk_alloc ?_ _));exact bp2_ (bkC_ BK932.out)) hb);replace HB:=s_HB HB.out hb;(try clear hb);obtain ⟨hcz155_0,hcz155_1,hfz155_0,hfz155_1⟩:=bz2_ BK932.out;obtain ⟨hcz156_0,hcz156_1,hfz156_0,hfz156_1⟩:=bz2_ BK864.out)|(go_at_call 16;(with_reducible refine (spec_EqualMatroid.calls kj75 t927 _ _ t928 t860 _ _ t861 t934 _ ?side1 ?side2 ?side3 ?side4 A135.out).mono ?_);(case side1=>repeat (first|exact (Kd.R_reads' HO930.out).2.2|(with_reducible refine Kd.C_alloc ?_ _)|(with_reducible refine Kd.C_drewN ?_ _)|(with_reducible refine Kd.C_drew ?_)));(case side2=>exact (Kd.R_reads' HO930.out).2.1);(case side3=>repeat (first|exact (Kd.R_reads' HO_865001.out).2.2|(with_reducible refine Kd.C_alloc ?_ _)|(with_reducible refine Kd.C_drewN ?_ _)|(with_reducible refine Kd.C_drew ?_)));(case side4=>exact (Kd.R_reads' HO_865001.out).2.1);rintro e w157 ⟨rfl,hb⟩;replace HO_4:=Aside0.mk (Kd.R_below (kRC_ HO_4.out) hb);replace HO_865001:=Aside0.mk (Kd.R_below (kRC_ HO_865001.out) hb);replace HO_888001:=Aside0.mk (Kd.R_below (kRC_ HO_888001.out) hb);replace HO_894001:=Aside0.mk (Kd.R_below (kRC_ HO_894001.out) hb);replace HO_901001:=Aside0.mk (Kd.R_below (kRC_ HO_901001.out) hb);replace HO930:=Aside0.mk (Kd.R_below (kRC_ HO930.out) hb);replace BK864:=sBK_ BK864.out hb;replace BK876:=sBK_ BK876.out hb;replace BK881:=sBK_ BK881.out hb;replace BK887:=sBK_ BK887.out hb;replace BK893:=sBK_ BK893.out hb;replace BK900:=sBK_ BK900.out hb;replace BK932:=sBK_ BK932.out hb;replace HB:=s_HB HB.out hb;(try clear hb)))
 go_ret
 exact ⟨eT_,h_HB HB.out⟩
/-- THE ONE PURE STATEMENT of laws_FnCircuits: yours. -/
def laws_FnCircuits.Pure:Prop:=∀ (l0:List Int),l0.length≤maxLen→l0.length*1≤140737488351232→(∀ x ∈ l0,(Lit.int .u8 x).wf=true)→∃ k,laws_FnCircuits.f k l0=some true
theorem laws_FnCircuits.walk (P:laws_FnCircuits.Pure) (a0:Option Addr) (len0 cap0:Nat) (z0:List Int) (w:World) (w0:(a0=none∧len0=0∧cap0=0∧z0=[])∨∃ x,a0=some x∧len0≤cap0∧cap0≤maxLen∧z0.length=cap0∧(∀ i,i<z0.length→w.cell? (x.add i)=some (.int .u8 (z0.getD i 0)))∧∀ n ∈ z0,(Lit.int .u8 n).wf=true) (y0:len0*1≤140737488351232) :
    Calls Tryz.prog 3 #[.slice a0 len0 cap0] w fun e w'=>e=.returned (.bool true)∧Below w.heap.size w w':=by
 obtain ⟨l0,rfl,hr0,hm0,hw0,hc0⟩:=ReadsInt.ofRowC w0
 obtain ⟨k,h⟩:=P l0 hm0 y0 hw0
 refine (laws_FnCircuits.calls k _ _ l0 true w (Kd.C_of_reads (d:=(0:Int)) (h1:=fun _=>rfl) hr0) hc0 h).mono ?_
 rintro e w' ⟨rfl,hd⟩
 exact ⟨rfl,hd⟩
end Go.Proofs.YtekegbacnagbcaaGreat.P
