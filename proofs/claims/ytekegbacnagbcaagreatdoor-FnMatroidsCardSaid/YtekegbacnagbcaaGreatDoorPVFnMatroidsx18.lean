-- written by gprint (a program of this session's, round the kit's print), out of the translation and hand-written texts
import Derived.Test.YtekegbacnagbcaaGreatDoorPVFnMatroidsx0
import Derived.Test.YtekegbacnagbcaaGreatDoorPVFnMatroidsx2
import Derived.Test.YtekegbacnagbcaaGreatDoorPVFnMatroidsx5
import Derived.Test.YtekegbacnagbcaaGreatDoorPVFnMatroidsx8
import Derived.Test.YtekegbacnagbcaaGreatDoorPVFnMatroidsx9
import Derived.Test.YtekegbacnagbcaaGreatDoorPVFnMatroidsx12
import Derived.Test.YtekegbacnagbcaaGreatDoorPVFnMatroidsx17
namespace Go.Proofs.YtekegbacnagbcaaGreatDoor.P
open Go.RowKit Go.Proofs.YtekegbacnagbcaaGreatDoorW.PrintWords Go.Proofs.YtekegbacnagbcaaGreatDoorW.PrintLast Go.Proofs.YtekegbacnagbcaaGreatDoorW.PrintMore
attribute [local go_sem] max2_int min2_int max_two min_two max_three min_three max_four min_four   -- for this text's walks alone
set_option linter.unusedVariables false
set_option linter.unusedSimpArgs false
/-! ### impl_RankOfMatroid: function 50 -/
def impl_RankOfMatroid.f (k:Nat) (a0_0:Int) (l0_1:List Int):Option (Int):=(impl_IsMatroid.f k a0_0 l0_1).bind fun t705=>(if t705=true then (if 0<(l0_1.length:Int) then ((impl_CountOf.f (rd l0_1 0)).bind fun t707=>(some t707)) else (none)) else (some (-1)))
set_option maxHeartbeats 8000000 in
set_option maxRecDepth 100000 in
theorem impl_RankOfMatroid.calls (k:Nat) (a0_0:Int) (A0_1:Option Addr) (c0_1:Nat) (l0_1:List Int) (r:Int) (w:World) (hr0_1:Kd.C (Kd.int .i64) w A0_1 l0_1.length l0_1) (hc0_1:l0_1.length≤c0_1) (h:impl_RankOfMatroid.f k a0_0 l0_1=some r) :
    Calls Tryz.prog 50 #[.agg #[.int .i64 a0_0,.slice A0_1 l0_1.length c0_1]] w fun e w'=>e=.returned (.int .i64 r)∧Below w.heap.size w w':=by
 have hu24:=Tryz.underlying24
 have HR0_1:=Aside0.mk hr0_1
 have HC0_1:=Aside0.mk hc0_1
 clear hr0_1 hc0_1
 have HB:=Aside0.mk (Below.refl w.heap.size w)
 unfold impl_RankOfMatroid.f at h
 have H:=h
 clear h
 replace H:=bnd_ H;obtain ⟨t705,A2,H⟩:=H
 by_cases c3:t705=true
 ·subst c3
  replace H:=bT_ H
  by_cases c4:0<(l0_1.length:Int)
  ·rw [if_pos c4] at H
   have c4b0:decide (0<(l0_1.length:Int))=true:=decide_eq_true c4
   have c4b1:decide (0<l0_1.length)=true:=decide_eq_true (by omega)
   clear c4
   replace H:=bnd_ H;obtain ⟨t707,A5,H⟩:=H
   obtain rfl:=Option.some.inj H
   go_enter Tryz.func50,Tryz.ntmps50
   go_wp2_with (first|((with_reducible refine gate_dst (N:=1) rfl ?_);refine bx_ (N:=1) (cs:=#[.int .i64 a0_0,.slice A0_1 l0_1.length c0_1]) (t:=24) ?_;intro gb704 hg w6 hbox hb;have BK704:=Aside0.mk (hbox);have GW704:=Aside0.mk (gw_ hg (h_HB HB.out));have GE704:=Aside0.mk (gw_ hg (h_HB HB.out));replace HB:=Aside0.mk (below_step (h_HB HB.out) hb);clear hb hbox hg;obtain ⟨hcz7_0,hcz7_1,hfz7_0,hfz7_1⟩:=bz2_ BK704.out)|((with_reducible refine gate_callee (f:=44) rfl ?_);refine goesL_ (some 4) rfl rfl Tryz.func44 krT_ rfl #[.agg #[.int .i64 a0_0,.slice A0_1 l0_1.length c0_1]] rfl agT_ ?_;(with_reducible refine (impl_IsMatroid.calls k a0_0 _ _ l0_1 true _ ?side1 ?side2 A2.out).mono ?_);(case side1=>exact cC_ HR0_1.out);(case side2=>exact HC0_1.out);rintro e w8 ⟨rfl,hb⟩;refine ⟨_,rfl,?_⟩;replace BK704:=Aside0.mk (blkB_ BK704.out hb);replace HB:=Aside0.mk (below_step (h_HB HB.out) hb);(try clear hb);obtain ⟨hcz9_0,hcz9_1,hfz9_0,hfz9_1⟩:=bz2_ BK704.out;have p706:0≤(0:Int):=(by omega);have q706:0<(l0_1.length:Int):=odT_;obtain ⟨ad706,e706,hx706_0⟩:=Kd.at_int HR0_1.out 0 p706 q706;cases e706;have qi706:(0<l0_1.length)=True:=eq_true (by omega);(try rw [show ((0:Int)).toNat=0 from rfl] at hx706_0);(try rw [Addr.add_zero'] at hx706_0);replace hx706_0:=(HB.out.cell (World.block_lt_of_cell? w _ hx706_0)).trans hx706_0;replace p706:=eq_true p706;replace q706:=eq_true q706)|((with_reducible refine gate_callee (f:=106) rfl ?_);refine goesL_ (some 10) rfl rfl Tryz.func106 krT_ rfl #[.int .i64 (rd l0_1 0)] rfl agT_ ?_;(with_reducible refine (impl_CountOf.calls (rd l0_1 0) t707 _ A5.out).mono ?_);rintro e w' ⟨rfl,⟨nd,rfl⟩⟩;refine ⟨_,rfl,?_⟩))
   go_ret
   exact ⟨eT_,h_HB HB.out⟩
  ·rw [if_neg c4] at H
   exact absurd H (by simp)
 ·replace c3:=Bool.eq_false_iff.mpr c3
  subst c3
  replace H:=bF_ H
  obtain rfl:=Option.some.inj H
  go_enter Tryz.func50,Tryz.ntmps50
  go_wp2_with (first|((with_reducible refine gate_dst (N:=1) rfl ?_);refine bx_ (N:=1) (cs:=#[.int .i64 a0_0,.slice A0_1 l0_1.length c0_1]) (t:=24) ?_;intro gb704 hg w10 hbox hb;have BK704:=Aside0.mk (hbox);have GW704:=Aside0.mk (gw_ hg (h_HB HB.out));have GE704:=Aside0.mk (gw_ hg (h_HB HB.out));replace HB:=Aside0.mk (below_step (h_HB HB.out) hb);clear hb hbox hg;obtain ⟨hcz11_0,hcz11_1,hfz11_0,hfz11_1⟩:=bz2_ BK704.out)|((with_reducible refine gate_callee (f:=44) rfl ?_);refine goesL_ (some 4) rfl rfl Tryz.func44 krT_ rfl #[.agg #[.int .i64 a0_0,.slice A0_1 l0_1.length c0_1]] rfl agT_ ?_;(with_reducible refine (impl_IsMatroid.calls k a0_0 _ _ l0_1 false _ ?side1 ?side2 A2.out).mono ?_);(case side1=>exact cC_ HR0_1.out);(case side2=>exact HC0_1.out);rintro e w12 ⟨rfl,hb⟩;refine ⟨_,rfl,?_⟩;replace BK704:=Aside0.mk (blkB_ BK704.out hb);replace HB:=Aside0.mk (below_step (h_HB HB.out) hb);(try clear hb)))
  go_ret
  exact ⟨eT_,h_HB HB.out⟩
/-! ### spec_RankOfMatroid: function 51 -/
def spec_RankOfMatroid.f (k:Nat) (a0_0:Int) (l0_1:List Int):Option (Int):=(spec_IsMatroid.f k a0_0 l0_1).bind fun t709=>(if t709=true then (if 0<(l0_1.length:Int) then ((spec_CountOf.f k (rd l0_1 0)).bind fun t711=>(some t711)) else (none)) else (some (-1)))
set_option maxHeartbeats 8000000 in
set_option maxRecDepth 100000 in
theorem spec_RankOfMatroid.calls (k:Nat) (a0_0:Int) (A0_1:Option Addr) (c0_1:Nat) (l0_1:List Int) (r:Int) (w:World) (hr0_1:Kd.C (Kd.int .i64) w A0_1 l0_1.length l0_1) (hc0_1:l0_1.length≤c0_1) (h:spec_RankOfMatroid.f k a0_0 l0_1=some r) :
    Calls Tryz.prog 51 #[.agg #[.int .i64 a0_0,.slice A0_1 l0_1.length c0_1]] w fun e w'=>e=.returned (.int .i64 r)∧Below w.heap.size w w':=by
 have hu24:=Tryz.underlying24
 have HR0_1:=Aside0.mk hr0_1
 have HC0_1:=Aside0.mk hc0_1
 clear hr0_1 hc0_1
 have HB:=Aside0.mk (Below.refl w.heap.size w)
 unfold spec_RankOfMatroid.f at h
 have H:=h
 clear h
 replace H:=bnd_ H;obtain ⟨t709,A2,H⟩:=H
 by_cases c3:t709=true
 ·subst c3
  replace H:=bT_ H
  by_cases c4:0<(l0_1.length:Int)
  ·rw [if_pos c4] at H
   have c4b0:decide (0<(l0_1.length:Int))=true:=decide_eq_true c4
   have c4b1:decide (0<l0_1.length)=true:=decide_eq_true (by omega)
   clear c4
   replace H:=bnd_ H;obtain ⟨t711,A5,H⟩:=H
   obtain rfl:=Option.some.inj H
   go_enter Tryz.func51,Tryz.ntmps51
   go_wp2_with (first|((with_reducible refine gate_dst (N:=1) rfl ?_);refine bx_ (N:=1) (cs:=#[.int .i64 a0_0,.slice A0_1 l0_1.length c0_1]) (t:=24) ?_;intro gb708 hg w6 hbox hb;have BK708:=Aside0.mk (hbox);have GW708:=Aside0.mk (gw_ hg (h_HB HB.out));have GE708:=Aside0.mk (gw_ hg (h_HB HB.out));replace HB:=Aside0.mk (below_step (h_HB HB.out) hb);clear hb hbox hg;obtain ⟨hcz7_0,hcz7_1,hfz7_0,hfz7_1⟩:=bz2_ BK708.out)|((with_reducible refine gate_callee (f:=45) rfl ?_);refine goesL_ (some 4) rfl rfl Tryz.func45 krT_ rfl #[.agg #[.int .i64 a0_0,.slice A0_1 l0_1.length c0_1]] rfl agT_ ?_;(with_reducible refine (spec_IsMatroid.calls k a0_0 _ _ l0_1 true _ ?side1 ?side2 A2.out).mono ?_);(case side1=>exact cC_ HR0_1.out);(case side2=>exact HC0_1.out);rintro e w8 ⟨rfl,hb⟩;refine ⟨_,rfl,?_⟩;replace BK708:=Aside0.mk (blkB_ BK708.out hb);replace HB:=Aside0.mk (below_step (h_HB HB.out) hb);(try clear hb);obtain ⟨hcz9_0,hcz9_1,hfz9_0,hfz9_1⟩:=bz2_ BK708.out;have p710:0≤(0:Int):=(by omega);have q710:0<(l0_1.length:Int):=odT_;obtain ⟨ad710,e710,hx710_0⟩:=Kd.at_int HR0_1.out 0 p710 q710;cases e710;have qi710:(0<l0_1.length)=True:=eq_true (by omega);(try rw [show ((0:Int)).toNat=0 from rfl] at hx710_0);(try rw [Addr.add_zero'] at hx710_0);replace hx710_0:=(HB.out.cell (World.block_lt_of_cell? w _ hx710_0)).trans hx710_0;replace p710:=eq_true p710;replace q710:=eq_true q710)|((with_reducible refine gate_callee (f:=107) rfl ?_);refine goesL_ (some 10) rfl rfl Tryz.func107 krT_ rfl #[.int .i64 (rd l0_1 0)] rfl agT_ ?_;(with_reducible refine (spec_CountOf.calls k (rd l0_1 0) t711 _ A5.out).mono ?_);rintro e w' ⟨rfl,⟨nd,rfl⟩⟩;refine ⟨_,rfl,?_⟩))
   go_ret
   exact ⟨eT_,h_HB HB.out⟩
  ·rw [if_neg c4] at H
   exact absurd H (by simp)
 ·replace c3:=Bool.eq_false_iff.mpr c3
  subst c3
  replace H:=bF_ H
  obtain rfl:=Option.some.inj H
  go_enter Tryz.func51,Tryz.ntmps51
  go_wp2_with (first|((with_reducible refine gate_dst (N:=1) rfl ?_);refine bx_ (N:=1) (cs:=#[.int .i64 a0_0,.slice A0_1 l0_1.length c0_1]) (t:=24) ?_;intro gb708 hg w10 hbox hb;have BK708:=Aside0.mk (hbox);have GW708:=Aside0.mk (gw_ hg (h_HB HB.out));have GE708:=Aside0.mk (gw_ hg (h_HB HB.out));replace HB:=Aside0.mk (below_step (h_HB HB.out) hb);clear hb hbox hg;obtain ⟨hcz11_0,hcz11_1,hfz11_0,hfz11_1⟩:=bz2_ BK708.out)|((with_reducible refine gate_callee (f:=45) rfl ?_);refine goesL_ (some 4) rfl rfl Tryz.func45 krT_ rfl #[.agg #[.int .i64 a0_0,.slice A0_1 l0_1.length c0_1]] rfl agT_ ?_;(with_reducible refine (spec_IsMatroid.calls k a0_0 _ _ l0_1 false _ ?side1 ?side2 A2.out).mono ?_);(case side1=>exact cC_ HR0_1.out);(case side2=>exact HC0_1.out);rintro e w12 ⟨rfl,hb⟩;refine ⟨_,rfl,?_⟩;replace BK708:=Aside0.mk (blkB_ BK708.out hb);replace HB:=Aside0.mk (below_step (h_HB HB.out) hb);(try clear hb)))
  go_ret
  exact ⟨eT_,h_HB HB.out⟩
/-! ### impl_MatroidText: function 52 -/
def impl_MatroidText.f (k:Nat) (a0_0:Int) (l0_1:List Int):Option (ByteArray):=(impl_IsMatroid.f k a0_0 l0_1).bind fun t713=>(if t713=true then ((impl_FormatInt.f a0_0).bind fun t714=>(if t714.size+1≤9223372036854775807 then ((impl_FamilyText.f k l0_1).bind fun t715=>(if (t714++(⟨#[32]⟩:ByteArray)).size+t715.size≤9223372036854775807 then (some ((t714++(⟨#[32]⟩:ByteArray))++t715)) else (none))) else (none))) else (some (⟨#[]⟩:ByteArray)))
def impl_MatroidText.T3:Bool × List (List Nat × List Nat):=(true,[([],[]),([0],[0]),([1],[1]),([2],[2]),([],[]),([4],[4]),([5,2],[5]),([3,6],[3,6]),([7,6,0,1,2,3,4,5,6,7],[7])])
def impl_MatroidText.B3:List Nat:=[0,1,3,7,0,16,55,127,255]
theorem impl_MatroidText.tab3:rtab .any (opsOf Tryz.f52 3)=impl_MatroidText.T3:=by kernel_rfl
theorem impl_MatroidText.bits3:waitsOk impl_MatroidText.T3.2 impl_MatroidText.B3=true:=by kernel_rfl
set_option maxHeartbeats 8000000 in
set_option maxRecDepth 100000 in
theorem impl_MatroidText.calls (k:Nat) (a0_0:Int) (A0_1:Option Addr) (c0_1:Nat) (l0_1:List Int) (r:ByteArray) (w:World) (hld:LD w) (hr0_1:Kd.C (Kd.int .i64) w A0_1 l0_1.length l0_1) (hc0_1:l0_1.length≤c0_1) (h:impl_MatroidText.f k a0_0 l0_1=some r) :
    Calls Tryz.prog 52 #[.agg #[.int .i64 a0_0,.slice A0_1 l0_1.length c0_1]] w fun e w'=>e=.returned (.string r)∧Below w.heap.size w w':=by
 have HLD:=Aside0.mk hld
 clear hld
 have hu24:=Tryz.underlying24
 have HR0_1:=Aside0.mk hr0_1
 have HC0_1:=Aside0.mk hc0_1
 clear hr0_1 hc0_1
 have HB:=Aside0.mk (Below.refl w.heap.size w)
 unfold impl_MatroidText.f at h
 have H:=h
 clear h
 replace H:=bnd_ H;obtain ⟨t713,A2,H⟩:=H
 by_cases c3:t713=true
 rotate_left
 ·replace c3:=Bool.eq_false_iff.mpr c3
  subst c3
  replace H:=bF_ H
  obtain rfl:=Option.some.inj H
  go_enter Tryz.func52,Tryz.ntmps52
  go_wp2_with (first|((with_reducible refine gate_dst (N:=1) rfl ?_);refine bx_ (N:=1) (cs:=#[.int .i64 a0_0,.slice A0_1 l0_1.length c0_1]) (t:=24) ?_;intro gb712 hg w14 hbox hb;have BK712:=Aside0.mk (hbox);have GW712:=Aside0.mk (gw_ hg (h_HB HB.out));have GE712:=Aside0.mk (gw_ hg (h_HB HB.out));replace HB:=Aside0.mk (below_step (h_HB HB.out) hb);clear hb hbox hg;obtain ⟨hcz15_0,hcz15_1,hfz15_0,hfz15_1⟩:=bz2_ BK712.out)|((with_reducible refine gate_callee (f:=44) rfl ?_);refine goesL_ (some 4) rfl rfl Tryz.func44 krT_ rfl #[.agg #[.int .i64 a0_0,.slice A0_1 l0_1.length c0_1]] rfl agT_ ?_;(with_reducible refine (impl_IsMatroid.calls k a0_0 _ _ l0_1 false _ ?side1 ?side2 A2.out).mono ?_);(case side1=>exact cC_ HR0_1.out);(case side2=>exact HC0_1.out);rintro e w16 ⟨rfl,hb⟩;refine ⟨_,rfl,?_⟩;replace BK712:=Aside0.mk (blkB_ BK712.out hb);replace HB:=Aside0.mk (below_step (h_HB HB.out) hb);(try clear hb)))
  go_ret
  exact ⟨eT_,h_HB HB.out⟩
 subst c3
 replace H:=bT_ H
 replace H:=bnd_ H;obtain ⟨t714,A4,H⟩:=H
 by_cases c5:t714.size+1≤9223372036854775807
 rotate_left
 ·rw [if_neg c5] at H
  exact absurd H (by simp)
 rw [if_pos c5] at H
 have c5b0:=eq_true c5
 have c5b1:decide (t714.size+1≤9223372036854775807)=true:=decide_eq_true c5
 try have c5b2:(9223372036854775807<t714.size+1)=False:=eq_false (Nat.not_lt.2 c5)
 replace H:=bnd_ H;obtain ⟨t715,A6,H⟩:=H
 by_cases c7:(t714++(⟨#[32]⟩:ByteArray)).size+t715.size≤9223372036854775807
 rotate_left
 ·rw [if_neg c7] at H
  exact absurd H (by simp)
 rw [if_pos c7] at H
 have c7b0:=eq_true c7
 have c7b1:decide ((t714++(⟨#[32]⟩:ByteArray)).size+t715.size≤9223372036854775807)=true:=decide_eq_true c7
 try have c7b2:(9223372036854775807<(t714++(⟨#[32]⟩:ByteArray)).size+t715.size)=False:=eq_false (Nat.not_lt.2 c7)
 try have c7b3:(9223372036854775807<t714.size+1+t715.size)=False:=eq_false (by have h_:=c7;simp only [ByteArray.size_append] at h_;have e_:(⟨#[32]⟩:ByteArray).size=1:=rfl;omega)
 obtain rfl:=Option.some.inj H
 go_enter Tryz.func52,Tryz.ntmps52
 try go_wp2_with (first|((with_reducible refine gate_dst (N:=1) rfl ?_);refine bx_ (N:=1) (cs:=#[.int .i64 a0_0,.slice A0_1 l0_1.length c0_1]) (t:=24) ?_;intro gb712 hg w8 hbox hb;have BK712:=Aside0.mk (hbox);have GW712:=Aside0.mk (gw_ hg (h_HB HB.out));have GE712:=Aside0.mk (gw_ hg (h_HB HB.out));replace HB:=Aside0.mk (below_step (h_HB HB.out) hb);clear hb hbox hg;obtain ⟨hcz9_0,hcz9_1,hfz9_0,hfz9_1⟩:=bz2_ BK712.out)|((with_reducible refine gate_callee (f:=44) rfl ?_);refine goesL_ (some 4) rfl rfl Tryz.func44 krT_ rfl #[.agg #[.int .i64 a0_0,.slice A0_1 l0_1.length c0_1]] rfl agT_ ?_;(with_reducible refine (impl_IsMatroid.calls k a0_0 _ _ l0_1 true _ ?side1 ?side2 A2.out).mono ?_);(case side1=>exact cC_ HR0_1.out);(case side2=>exact HC0_1.out);rintro e w10 ⟨rfl,hb⟩;refine ⟨_,rfl,?_⟩;replace BK712:=Aside0.mk (blkB_ BK712.out hb);replace HB:=Aside0.mk (below_step (h_HB HB.out) hb);(try clear hb)))
 replace BK712:=Aside0.mk (blk_drew BK712.out);replace HB:=Aside0.mk (below_drew1 HB.out)
 refine start_ (n:=9) (S:=fun w'=>w'.cell? ⟨gb712,0,none⟩=some (.int .i64 a0_0)∧w'.cell? ⟨gb712,1,none⟩=some (.slice A0_1 l0_1.length c0_1)) (ds:=[]) #[F_,F_,F_,F_,F_,F_,F_,F_,F_] krT_ rfl rfl ⟨(blk_cell BK712.out 0).trans rfl,(blk_cell BK712.out 1).trans rfl⟩ (fun hHeld=>?_);refine with_tabW impl_MatroidText.tab3 impl_MatroidText.bits3 (fun HT_ HW_=>?_)
 generalize w10.drew=w11 at BK712 HB hHeld ⊢
 refine pu_ 0 (some 6) (bm_ 9 1) rfl rfl HT_.out ?_
 refine pu_ 4 (some 10) (bm_ 9 17) rfl rfl HT_.out ?_
 refine take_ (i:=1) (N:=some 7) (v:=?_) (a':=?_) (bm_ 9 19) rfl rfl (take_ofW HT_.out HW_.out krT_) (fun _ _ _ h=>h) (Or.inl ⟨by rfl,?_⟩) hHeld ?_ ?_
 rotate_left
 ·rintro w' ⟨s0,s1⟩
  go_simp
  with_reducible rfl
 rotate_left;exact apT_
 refine take_ (i:=5) (N:=some 11) (v:=?_) (a':=?_) (bm_ 9 51) rfl rfl (take_ofW HT_.out HW_.out krT_) (fun _ _ _ h=>h) (Or.inl ⟨by rfl,?_⟩) hHeld ?_ ?_
 rotate_left
 ·rintro w' ⟨s0,s1⟩
  go_simp
  with_reducible rfl
 rotate_left;exact apT_
 refine one_ (i:=2) (N:=some 8) (bm_ 9 55) rfl rfl (one_of HT_.out krT_) (by decide) (fun K hK=>?_)
 refine goes_ Tryz.func108 krT_ rfl #[.int .i64 a0_0] (by rfl) rfl rfl agT_ ?_
 with_reducible refine (impl_FormatInt.calls a0_0 t714 _ ?ldq A4.out).mono ?_
 (case ldq=>exact LD_below HLD.out (h_HB HB.out))
 rintro e w12 ⟨rfl,hb⟩
 refine ⟨_,rfl,?_⟩
 replace BK712:=Aside0.mk (blkB_ BK712.out hb);replace HB:=Aside0.mk (below_step (h_HB HB.out) hb)
 (try clear hb)
 (try clear hb2)
 (try clear hk)
 (try clear hi)
 refine hK.out _ _ ⟨(blk_cell BK712.out 0).trans rfl,(blk_cell BK712.out 1).trans rfl⟩ (fun hHeld=>?_)
 clear hK K
 refine norm_ (a':=?_) ?_ ?_
 rotate_left
 ·show Act.put _ (some 8) _=_
  simp only [Act.put,List.setIfInBounds_toArray,List.set_cons_zero,List.set_cons_succ,i64_w,i32_w]
  rfl
 refine pu_ 3 (some 9) (bm_ 9 63) rfl rfl HT_.out ?_
 refine one_ (i:=6) (N:=some 12) (bm_ 9 127) rfl rfl (one_of HT_.out krT_) (by decide) (fun K hK=>?_)
 refine goes_ Tryz.func33 krT_ rfl #[.slice A0_1 l0_1.length c0_1] (by rfl) rfl rfl agT_ ?_
 with_reducible refine (impl_FamilyText.calls k _ _ l0_1 t715 _ ?side1 ?side2 A6.out).mono ?_
 (case side1=>exact cC_ HR0_1.out)
 (case side2=>exact HC0_1.out)
 rintro e w13 ⟨rfl,hb⟩
 refine ⟨_,rfl,?_⟩
 replace BK712:=Aside0.mk (blkB_ BK712.out hb);replace HB:=Aside0.mk (below_step (h_HB HB.out) hb)
 (try clear hb)
 (try clear hb2)
 (try clear hk)
 (try clear hi)
 refine hK.out _ _ ⟨(blk_cell BK712.out 0).trans rfl,(blk_cell BK712.out 1).trans rfl⟩ (fun hHeld=>?_)
 clear hK K
 refine norm_ (a':=?_) ?_ ?_
 rotate_left
 ·show Act.put _ (some 12) _=_
  simp only [Act.put,List.setIfInBounds_toArray,List.set_cons_zero,List.set_cons_succ,i64_w,i32_w]
  rfl
 refine pu_ 7 (some 13) (bm_ 9 255) rfl rfl HT_.out ?_
 refine pu_ 8 (some 2) (bm_ 9 511) rfl rfl HT_.out ?_
 refine done_ (done_of HT_.out krT_) ?_
 try go_wp2
 go_ret
 exact ⟨eT_,h_HB HB.out⟩
/-! ### spec_WithoutElement: function 56 -/
def spec_WithoutElement.f (a0:Int) (a1:Int):Option (Int):=(spec_HasElement.f a0 a1).bind fun t716=>(if t716=true then (if 0≤(IntKind.u64.wrap (a1)) then (some (wrap64 (a0-(shl .i64 1 (IntKind.u64.wrap (a1)))))) else (none)) else (some a0))
set_option maxHeartbeats 8000000 in
set_option maxRecDepth 100000 in
theorem spec_WithoutElement.calls (a0:Int) (a1:Int) (r:Int) (w:World) (h:spec_WithoutElement.f a0 a1=some r) :
    Calls Tryz.prog 56 #[.int .i64 a0,.int .i64 a1] w fun e w'=>e=.returned (.int .i64 r)∧Drawn0 w w':=by
 unfold spec_WithoutElement.f at h
 have H:=h
 clear h
 replace H:=bnd_ H;obtain ⟨t716,A3,H⟩:=H
 by_cases c4:t716=true
 rotate_left
 ·replace c4:=Bool.eq_false_iff.mpr c4
  subst c4
  replace H:=bF_ H
  obtain rfl:=Option.some.inj H
  go_enter Tryz.func56,Tryz.ntmps56
  go_wp2_with (first|((with_reducible refine gate_callee (f:=54) rfl ?_);refine goesL_ (some 7) rfl rfl Tryz.func54 krT_ rfl #[.int .i64 a0,.int .i64 a1] rfl agT_ ?_;(with_reducible refine (spec_HasElement.calls a0 a1 false _ A3.out).mono ?_);rintro e w' ⟨rfl,⟨nd,rfl⟩⟩;refine ⟨_,rfl,?_⟩))
  go_ret
  exact ⟨sT_,dT_⟩
 subst c4
 replace H:=bT_ H
 obtain ⟨ji5,hji5⟩:∃ j_:Int,(IntKind.u64.wrap (a1))=j_:=⟨_,rfl⟩
 first |rw [hji5] at H|simp only [hji5] at H
 (try rw [hji5] at A3)
 by_cases c6:0≤(ji5)
 rotate_left
 ·rw [if_neg c6] at H
  exact absurd H (by simp)
 rw [if_pos c6] at H
 have c6b0:=eq_true c6
 have c6b1:decide (0≤(ji5))=true:=decide_eq_true c6
 clear c6
 obtain ⟨ji7,hji7⟩:∃ j_:Int,(shl .i64 1 (ji5))=j_:=⟨_,rfl⟩
 first |rw [hji7] at H|simp only [hji7] at H
 (try rw [hji7] at A3)
 have hji7_:(IntKind.i64.wrap (1*2 ^ min (ji5).toNat 64))=ji7:=hji7
 have hji7z:(ji5)≤64→(IntKind.i64.wrap (1*2 ^ (ji5).toNat))=ji7:=shl_small hji7
 have hji7u:(IntKind.i64.wrap (2 ^ min (ji5).toNat 64))=ji7:=by have h_:=hji7_;rw [Int.one_mul] at h_;exact h_
 have hji7v:(ji5)≤64→(IntKind.i64.wrap (2 ^ (ji5).toNat))=ji7:=fun hle_=>by have h_:=hji7z hle_;rw [Int.one_mul] at h_;exact h_
 have hji7y:(wrap64 (1*2 ^ min (ji5).toNat 64))=ji7:=(i64_w _).symm.trans hji7_
 have hji7x:(ji5)≤64→(wrap64 (1*2 ^ (ji5).toNat))=ji7:=fun h_=>(i64_w _).symm.trans (hji7z h_)
 obtain rfl:=Option.some.inj H
 go_enter Tryz.func56,Tryz.ntmps56
 go_wp2_with (first|((with_reducible refine gate_callee (f:=54) rfl ?_);refine goesL_ (some 7) rfl rfl Tryz.func54 krT_ rfl #[.int .i64 a0,.int .i64 a1] rfl agT_ ?_;(with_reducible refine (spec_HasElement.calls a0 a1 true _ A3.out).mono ?_);rintro e w' ⟨rfl,⟨nd,rfl⟩⟩;refine ⟨_,rfl,?_⟩))
 go_ret
 exact ⟨by first|rfl|(simp;done)|(simp only [← hji5,← hji7]<;>(first|rfl|simp))|(simp [*];done),dT_⟩
end Go.Proofs.YtekegbacnagbcaaGreatDoor.P
