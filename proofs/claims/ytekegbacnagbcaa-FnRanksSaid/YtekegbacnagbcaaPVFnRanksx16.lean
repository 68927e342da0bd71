-- written by gprint (a program of this session's, round the kit's print), out of the translation and hand-written texts
import Derived.Test.YtekegbacnagbcaaPVFnRanksx0
import Derived.Test.YtekegbacnagbcaaPVFnRanksx3
import Derived.Test.YtekegbacnagbcaaPVFnRanksx7
import Derived.Test.YtekegbacnagbcaaPVFnRanksx13
import Derived.Test.YtekegbacnagbcaaPVFnRanksx14
import Derived.Test.YtekegbacnagbcaaPVFnRanksx15
namespace Go.Proofs.Ytekegbacnagbcaa.P
open Go.RowKit Go.Proofs.YtekegbacnagbcaaW.PrintWords Go.Proofs.YtekegbacnagbcaaW.PrintLast Go.Proofs.YtekegbacnagbcaaW.PrintMore
attribute [local go_sem] max2_int min2_int max_two min_two max_three min_three max_four min_four   -- for this text's walks alone
set_option linter.unusedVariables false
set_option linter.unusedSimpArgs false
/-! ### spec_ClosureOf: function 12 -/
def spec_ClosureOf.f (k:Nat) (a0_0:Int) (l0_1:List Int) (a1:Int):Option (Int):=(spec_RankOf.f k a0_0 l0_1 a1).bind fun t641=>(if t641<0 then (some a1) else ((spec_l5Closure.f k a0_0 l0_1 a1).bind fun t642=>(some t642)))
set_option maxHeartbeats 8000000 in
set_option maxRecDepth 100000 in
theorem spec_ClosureOf.calls (k:Nat) (a0_0:Int) (A0_1:Option Addr) (c0_1:Nat) (l0_1:List Int) (a1:Int) (r:Int) (w:World) (hr0_1:Kd.C (Kd.int .i64) w A0_1 l0_1.length l0_1) (hc0_1:l0_1.length≤c0_1) (h:spec_ClosureOf.f k a0_0 l0_1 a1=some r) :
    Calls Try.prog 12 #[.agg #[.int .i64 a0_0,.slice A0_1 l0_1.length c0_1],.int .i64 a1] w fun e w'=>e=.returned (.int .i64 r)∧Below w.heap.size w w':=by
 have hu26:=Try.underlying26
 have HR0_1:=Aside0.mk hr0_1
 have HC0_1:=Aside0.mk hc0_1
 clear hr0_1 hc0_1
 have HB:=Aside0.mk (Below.refl w.heap.size w)
 unfold spec_ClosureOf.f at h
 have H:=h
 clear h
 replace H:=bnd_ H;obtain ⟨t641,A3,H⟩:=H
 rcases gsb_ H with ⟨c4b0,H⟩|⟨c4b0,H⟩
 ·obtain rfl:=Option.some.inj H
  go_enter Try.func12,Try.ntmps12
  go_wp2_with (first|((with_reducible refine gate_dst (N:=2) rfl ?_);refine bx_ (N:=2) (cs:=#[.int .i64 a0_0,.slice A0_1 l0_1.length c0_1]) (t:=26) ?_;intro gb640 hg w5 hbox hb;have BK640:=Aside0.mk (hbox);have GW640:=Aside0.mk (gw_ hg (h_HB HB.out));have GE640:=Aside0.mk (gw_ hg (h_HB HB.out));replace HB:=Aside0.mk (below_step (h_HB HB.out) hb);clear hb hbox hg;obtain ⟨hcz6_0,hcz6_1,hfz6_0,hfz6_1⟩:=bz2_ BK640.out)|((with_reducible refine gate_callee (f:=11) rfl ?_);refine goesL_ (some 7) rfl rfl Try.func11 krT_ rfl #[.agg #[.int .i64 a0_0,.slice A0_1 l0_1.length c0_1],.int .i64 a1] rfl agT_ ?_;(with_reducible refine (spec_RankOf.calls k a0_0 _ _ l0_1 a1 t641 _ ?side1 ?side2 A3.out).mono ?_);(case side1=>exact cC_ HR0_1.out);(case side2=>exact HC0_1.out);rintro e w7 ⟨rfl,hb⟩;refine ⟨_,rfl,?_⟩;replace BK640:=Aside0.mk (blkB_ BK640.out hb);replace HB:=Aside0.mk (below_step (h_HB HB.out) hb);(try clear hb)))
  go_ret
  exact ⟨eT_,h_HB HB.out⟩
 replace H:=bnd_ H;obtain ⟨t642,A8,H⟩:=H
 obtain rfl:=Option.some.inj H
 go_enter Try.func12,Try.ntmps12
 go_wp2_with (first|((with_reducible refine gate_dst (N:=2) rfl ?_);refine bx_ (N:=2) (cs:=#[.int .i64 a0_0,.slice A0_1 l0_1.length c0_1]) (t:=26) ?_;intro gb640 hg w9 hbox hb;have BK640:=Aside0.mk (hbox);have GW640:=Aside0.mk (gw_ hg (h_HB HB.out));have GE640:=Aside0.mk (gw_ hg (h_HB HB.out));replace HB:=Aside0.mk (below_step (h_HB HB.out) hb);clear hb hbox hg;obtain ⟨hcz10_0,hcz10_1,hfz10_0,hfz10_1⟩:=bz2_ BK640.out)|((with_reducible refine gate_callee (f:=11) rfl ?_);refine goesL_ (some 7) rfl rfl Try.func11 krT_ rfl #[.agg #[.int .i64 a0_0,.slice A0_1 l0_1.length c0_1],.int .i64 a1] rfl agT_ ?_;(with_reducible refine (spec_RankOf.calls k a0_0 _ _ l0_1 a1 t641 _ ?side1 ?side2 A3.out).mono ?_);(case side1=>exact cC_ HR0_1.out);(case side2=>exact HC0_1.out);rintro e w11 ⟨rfl,hb⟩;refine ⟨_,rfl,?_⟩;replace BK640:=Aside0.mk (blkB_ BK640.out hb);replace HB:=Aside0.mk (below_step (h_HB HB.out) hb);(try clear hb);obtain ⟨hcz12_0,hcz12_1,hfz12_0,hfz12_1⟩:=bz2_ BK640.out)|((with_reducible refine gate_callee (f:=43) rfl ?_);refine goesL_ (some 12) rfl rfl Try.func43 krT_ rfl #[.agg #[.int .i64 a0_0,.slice A0_1 l0_1.length c0_1],.int .i64 a1] rfl agT_ ?_;(with_reducible refine (spec_l5Closure.calls k a0_0 _ _ l0_1 a1 t642 _ ?side1 ?side2 A8.out).mono ?_);(case side1=>exact cC_ HR0_1.out);(case side2=>exact HC0_1.out);rintro e w13 ⟨rfl,hb⟩;refine ⟨_,rfl,?_⟩;replace BK640:=Aside0.mk (blkB_ BK640.out hb);replace HB:=Aside0.mk (below_step (h_HB HB.out) hb);(try clear hb)))
 go_ret
 exact ⟨eT_,h_HB HB.out⟩
/-! ### impl_IsIndependent: function 13 -/
def impl_IsIndependent.f (k:Nat) (a0_0:Int) (l0_1:List Int) (a1:Int):Option (Bool):=(impl_IsMatroid.f k a0_0 l0_1).bind fun t644=>(if t644=true then ((impl_independent.f k a0_0 l0_1 a1).bind fun t645=>(some t645)) else (some false))
set_option maxHeartbeats 8000000 in
set_option maxRecDepth 100000 in
theorem impl_IsIndependent.calls (k:Nat) (a0_0:Int) (A0_1:Option Addr) (c0_1:Nat) (l0_1:List Int) (a1:Int) (r:Bool) (w:World) (hr0_1:Kd.C (Kd.int .i64) w A0_1 l0_1.length l0_1) (hc0_1:l0_1.length≤c0_1) (h:impl_IsIndependent.f k a0_0 l0_1 a1=some r) :
    Calls Try.prog 13 #[.agg #[.int .i64 a0_0,.slice A0_1 l0_1.length c0_1],.int .i64 a1] w fun e w'=>e=.returned (.bool r)∧Below w.heap.size w w':=by
 have hu26:=Try.underlying26
 have HR0_1:=Aside0.mk hr0_1
 have HC0_1:=Aside0.mk hc0_1
 clear hr0_1 hc0_1
 have HB:=Aside0.mk (Below.refl w.heap.size w)
 unfold impl_IsIndependent.f at h
 have H:=h
 clear h
 replace H:=bnd_ H;obtain ⟨t644,A3,H⟩:=H
 by_cases c4:t644=true
 ·subst c4
  replace H:=bT_ H
  replace H:=bnd_ H;obtain ⟨t645,A5,H⟩:=H
  obtain rfl:=Option.some.inj H
  go_enter Try.func13,Try.ntmps13
  go_wp2_with (first|((with_reducible refine gate_dst (N:=2) rfl ?_);refine bx_ (N:=2) (cs:=#[.int .i64 a0_0,.slice A0_1 l0_1.length c0_1]) (t:=26) ?_;intro gb643 hg w6 hbox hb;have BK643:=Aside0.mk (hbox);have GW643:=Aside0.mk (gw_ hg (h_HB HB.out));have GE643:=Aside0.mk (gw_ hg (h_HB HB.out));replace HB:=Aside0.mk (below_step (h_HB HB.out) hb);clear hb hbox hg;obtain ⟨hcz7_0,hcz7_1,hfz7_0,hfz7_1⟩:=bz2_ BK643.out)|((with_reducible refine gate_callee (f:=44) rfl ?_);refine goesL_ (some 6) rfl rfl Try.func44 krT_ rfl #[.agg #[.int .i64 a0_0,.slice A0_1 l0_1.length c0_1]] rfl agT_ ?_;(with_reducible refine (impl_IsMatroid.calls k a0_0 _ _ l0_1 true _ ?side1 ?side2 A3.out).mono ?_);(case side1=>exact cC_ HR0_1.out);(case side2=>exact HC0_1.out);rintro e w8 ⟨rfl,hb⟩;refine ⟨_,rfl,?_⟩;replace BK643:=Aside0.mk (blkB_ BK643.out hb);replace HB:=Aside0.mk (below_step (h_HB HB.out) hb);(try clear hb);obtain ⟨hcz9_0,hcz9_1,hfz9_0,hfz9_1⟩:=bz2_ BK643.out)|(go_at_call 39;(with_reducible refine (impl_independent.calls k a0_0 _ _ l0_1 a1 t645 _ ?side1 ?side2 A5.out).mono ?_);(case side1=>exact cC_ HR0_1.out);(case side2=>exact HC0_1.out);rintro e w10 ⟨rfl,hb⟩;replace BK643:=Aside0.mk (blkB_ BK643.out hb);replace HB:=Aside0.mk (below_step (h_HB HB.out) hb);(try clear hb)))
  go_ret
  exact ⟨eT_,h_HB HB.out⟩
 replace c4:=Bool.eq_false_iff.mpr c4
 subst c4
 replace H:=bF_ H
 obtain rfl:=Option.some.inj H
 go_enter Try.func13,Try.ntmps13
 go_wp2_with (first|((with_reducible refine gate_dst (N:=2) rfl ?_);refine bx_ (N:=2) (cs:=#[.int .i64 a0_0,.slice A0_1 l0_1.length c0_1]) (t:=26) ?_;intro gb643 hg w11 hbox hb;have BK643:=Aside0.mk (hbox);have GW643:=Aside0.mk (gw_ hg (h_HB HB.out));have GE643:=Aside0.mk (gw_ hg (h_HB HB.out));replace HB:=Aside0.mk (below_step (h_HB HB.out) hb);clear hb hbox hg;obtain ⟨hcz12_0,hcz12_1,hfz12_0,hfz12_1⟩:=bz2_ BK643.out)|((with_reducible refine gate_callee (f:=44) rfl ?_);refine goesL_ (some 6) rfl rfl Try.func44 krT_ rfl #[.agg #[.int .i64 a0_0,.slice A0_1 l0_1.length c0_1]] rfl agT_ ?_;(with_reducible refine (impl_IsMatroid.calls k a0_0 _ _ l0_1 false _ ?side1 ?side2 A3.out).mono ?_);(case side1=>exact cC_ HR0_1.out);(case side2=>exact HC0_1.out);rintro e w13 ⟨rfl,hb⟩;refine ⟨_,rfl,?_⟩;replace BK643:=Aside0.mk (blkB_ BK643.out hb);replace HB:=Aside0.mk (below_step (h_HB HB.out) hb);(try clear hb)))
 go_ret
 exact ⟨eT_,h_HB HB.out⟩
/-! ### spec_IsIndependent: function 14 -/
def spec_IsIndependent.f (k:Nat) (a0_0:Int) (l0_1:List Int) (a1:Int):Option (Bool):=(spec_RankOf.f k a0_0 l0_1 a1).bind fun t647=>((spec_CountOf.f k a1).bind fun t648=>(if t647=t648 then ((spec_IsSet.f a0_0 a1).bind fun t649=>(some t649)) else (some false)))
set_option maxHeartbeats 8000000 in
set_option maxRecDepth 100000 in
theorem spec_IsIndependent.calls (k:Nat) (a0_0:Int) (A0_1:Option Addr) (c0_1:Nat) (l0_1:List Int) (a1:Int) (r:Bool) (w:World) (hr0_1:Kd.C (Kd.int .i64) w A0_1 l0_1.length l0_1) (hc0_1:l0_1.length≤c0_1) (h:spec_IsIndependent.f k a0_0 l0_1 a1=some r) :
    Calls Try.prog 14 #[.agg #[.int .i64 a0_0,.slice A0_1 l0_1.length c0_1],.int .i64 a1] w fun e w'=>e=.returned (.bool r)∧Below w.heap.size w w':=by
 have hu26:=Try.underlying26
 have HR0_1:=Aside0.mk hr0_1
 have HC0_1:=Aside0.mk hc0_1
 clear hr0_1 hc0_1
 have HB:=Aside0.mk (Below.refl w.heap.size w)
 unfold spec_IsIndependent.f at h
 have H:=h
 clear h
 replace H:=bnd_ H;obtain ⟨t647,A3,H⟩:=H
 replace H:=bnd_ H;obtain ⟨t648,A4,H⟩:=H
 by_cases c5:t647=t648
 ·rw [if_pos c5] at H
  have c5b0:(t647==t648)=true:=beq_iff_eq.mpr c5
  have c5b1:(t647 != t648)=false:=bne_eq_false_iff_eq.mpr c5
  clear c5
  replace H:=bnd_ H;obtain ⟨t649,A6,H⟩:=H
  obtain rfl:=Option.some.inj H
  go_enter Try.func14,Try.ntmps14
  go_wp2_with (first|((with_reducible refine gate_dst (N:=2) rfl ?_);refine bx_ (N:=2) (cs:=#[.int .i64 a0_0,.slice A0_1 l0_1.length c0_1]) (t:=26) ?_;intro gb646 hg w7 hbox hb;have BK646:=Aside0.mk (hbox);have GW646:=Aside0.mk (gw_ hg (h_HB HB.out));have GE646:=Aside0.mk (gw_ hg (h_HB HB.out));replace HB:=Aside0.mk (below_step (h_HB HB.out) hb);clear hb hbox hg;obtain ⟨hcz8_0,hcz8_1,hfz8_0,hfz8_1⟩:=bz2_ BK646.out)|((with_reducible refine gate_callee (f:=11) rfl ?_);refine goesL_ (some 7) rfl rfl Try.func11 krT_ rfl #[.agg #[.int .i64 a0_0,.slice A0_1 l0_1.length c0_1],.int .i64 a1] rfl agT_ ?_;(with_reducible refine (spec_RankOf.calls k a0_0 _ _ l0_1 a1 t647 _ ?side1 ?side2 A3.out).mono ?_);(case side1=>exact cC_ HR0_1.out);(case side2=>exact HC0_1.out);rintro e w9 ⟨rfl,hb⟩;refine ⟨_,rfl,?_⟩;replace BK646:=Aside0.mk (blkB_ BK646.out hb);replace HB:=Aside0.mk (below_step (h_HB HB.out) hb);(try clear hb))|((with_reducible refine gate_callee (f:=26) rfl ?_);refine goesL_ (some 9) rfl rfl Try.func26 krT_ rfl #[.int .i64 a1] rfl agT_ ?_;(with_reducible refine (spec_CountOf.calls k a1 t648 _ A4.out).mono ?_);rintro e w' ⟨rfl,⟨nd,rfl⟩⟩;refine ⟨_,rfl,?_⟩;obtain ⟨hcz10_0,hcz10_1,hfz10_0,hfz10_1⟩:=bz2_ BK646.out)|(go_at_call 41;(with_reducible refine (spec_IsSet.calls a0_0 a1 t649 _ A6.out).mono ?_);rintro e w' ⟨rfl,⟨nd,rfl⟩⟩))
  go_ret
  exact ⟨eT_,h_HB HB.out⟩
 ·rw [if_neg c5] at H
  have c5b0:(t647==t648)=false:=beq_eq_false_iff_ne.mpr c5
  have c5b1:(t647 != t648)=true:=bne_iff_ne.mpr c5
  obtain rfl:=Option.some.inj H
  go_enter Try.func14,Try.ntmps14
  go_wp2_with (first|((with_reducible refine gate_dst (N:=2) rfl ?_);refine bx_ (N:=2) (cs:=#[.int .i64 a0_0,.slice A0_1 l0_1.length c0_1]) (t:=26) ?_;intro gb646 hg w11 hbox hb;have BK646:=Aside0.mk (hbox);have GW646:=Aside0.mk (gw_ hg (h_HB HB.out));have GE646:=Aside0.mk (gw_ hg (h_HB HB.out));replace HB:=Aside0.mk (below_step (h_HB HB.out) hb);clear hb hbox hg;obtain ⟨hcz12_0,hcz12_1,hfz12_0,hfz12_1⟩:=bz2_ BK646.out)|((with_reducible refine gate_callee (f:=11) rfl ?_);refine goesL_ (some 7) rfl rfl Try.func11 krT_ rfl #[.agg #[.int .i64 a0_0,.slice A0_1 l0_1.length c0_1],.int .i64 a1] rfl agT_ ?_;(with_reducible refine (spec_RankOf.calls k a0_0 _ _ l0_1 a1 t647 _ ?side1 ?side2 A3.out).mono ?_);(case side1=>exact cC_ HR0_1.out);(case side2=>exact HC0_1.out);rintro e w13 ⟨rfl,hb⟩;refine ⟨_,rfl,?_⟩;replace BK646:=Aside0.mk (blkB_ BK646.out hb);replace HB:=Aside0.mk (below_step (h_HB HB.out) hb);(try clear hb))|((with_reducible refine gate_callee (f:=26) rfl ?_);refine goesL_ (some 9) rfl rfl Try.func26 krT_ rfl #[.int .i64 a1] rfl agT_ ?_;(with_reducible refine (spec_CountOf.calls k a1 t648 _ A4.out).mono ?_);rintro e w' ⟨rfl,⟨nd,rfl⟩⟩;refine ⟨_,rfl,?_⟩))
  go_ret
  exact ⟨eT_,h_HB HB.out⟩
/-! ### laws_sameInts: function 15 -/
def laws_sameInts.l0:Nat→List Int→List Int→Int→Option (Bool)
 | 0,_,_,_=>none
 | k+1,x0,x1,x5=>if x5<(x0.length:Int) then (if 0≤x5 then (if x5<(x1.length:Int) then (if (rd x0 x5)=(rd x1 x5) then (laws_sameInts.l0 k x0 x1 (wrap64 (x5+1))) else (some false)) else (none)) else (none)) else (some true)
def laws_sameInts.f (k:Nat) (l0:List Int) (l1:List Int):Option (Bool):=if (l0.length:Int)=(l1.length:Int) then (laws_sameInts.l0 k l0 l1 0) else (some false)
set_option maxHeartbeats 8000000 in
set_option maxRecDepth 100000 in
theorem laws_sameInts.calls (k:Nat) (A0:Option Addr) (c0:Nat) (l0:List Int) (A1:Option Addr) (c1:Nat) (l1:List Int) (r:Bool) (w:World) (hr0:Kd.C (Kd.int .i64) w A0 l0.length l0) (hc0:l0.length≤c0) (hr1:Kd.C (Kd.int .i64) w A1 l1.length l1) (hc1:l1.length≤c1) (h:laws_sameInts.f k l0 l1=some r) :
    Calls Try.prog 15 #[.slice A0 l0.length c0,.slice A1 l1.length c1] w fun e w'=>e=.returned (.bool r)∧Drawn0 w w':=by
 have HR0:=Aside0.mk hr0
 have HC0:=Aside0.mk hc0
 clear hr0 hc0
 have HR1:=Aside0.mk hr1
 have HC1:=Aside0.mk hc1
 clear hr1 hc1
 have H:(if (l0.length:Int)=(l1.length:Int) then (laws_sameInts.l0 k l0 l1 0) else (some false))=some r:=h
 clear h
 by_cases c3:(l0.length:Int)=(l1.length:Int)
 rotate_left
 ·rw [if_neg c3] at H
  have c3b0:((l0.length:Int)==(l1.length:Int))=false:=beq_eq_false_iff_ne.mpr c3
  have c3b1:((l0.length:Int) != (l1.length:Int))=true:=bne_iff_ne.mpr c3
  have c3b2:(l0.length==l1.length)=false:=by first|simpa using c3|(simp at c3 ⊢;omega)
  obtain rfl:=Option.some.inj H
  go_enter Try.func15,Try.ntmps15
  go_wp2
  repeat (go_quiet (fail);try go_wp2)
  go_ret
  exact ⟨sT_,dT_⟩
 rw [if_pos c3] at H
 have c3b0:((l0.length:Int)==(l1.length:Int))=true:=beq_iff_eq.mpr c3
 have c3b1:((l0.length:Int) != (l1.length:Int))=false:=bne_eq_false_iff_eq.mpr c3
 have c3b2:(l0.length==l1.length)=true:=by first|simpa using c3|(simp at c3 ⊢;omega)
 clear c3
 have H':=Aside0.mk H
 clear H
 go_enter Try.func15,Try.ntmps15
 go_wp2
 repeat (go_quiet (fail);try go_wp2)
 go_loopg [5] k (fun kq v5 w'=>∃ (x5_1:Int),v5=.int .i64 x5_1∧Aside0 (laws_sameInts.l0 kq l0 l1 x5_1=some r)∧Aside0 (kq≤k)∧Drawn0 w w')
 case atStart=>exact ⟨(0),sT_,H',⟨Nat.le_refl _⟩,dT_⟩
 case round =>
 clear H'
 try clear c1
 try clear p2
 try clear c3
 try clear c3b0
 try clear c3b1
 try clear c3b2
 obtain ⟨x5_1,rfl,HA,HK1,⟨m1,rfl⟩⟩:=hrel
 cases gk with
 | zero=>exact absurd HA.out (by simp [laws_sameInts.l0])
 | succ k1 =>
 have H:=HA.out
 clear HA
 simp only [laws_sameInts.l0] at H
 rcases gsn_ H with ⟨c4b0,H⟩|⟨c4b0,H⟩
 ·obtain rfl:=Option.some.inj H
  go_wp2
  repeat (go_quiet (fail);try go_wp2)
  go_ret
  exact ⟨sT_,dT_⟩
 replace H:=gsm_ H;obtain ⟨c5b0,H⟩:=H
 replace H:=gsm_ H;obtain ⟨c6b0,H⟩:=H
 by_cases c7:(rd l0 x5_1)=(rd l1 x5_1)
 ·rw [if_pos c7] at H
  have c7b0:((rd l0 x5_1)==(rd l1 x5_1))=true:=beq_iff_eq.mpr c7
  have c7b1:((rd l0 x5_1) != (rd l1 x5_1))=false:=bne_eq_false_iff_eq.mpr c7
  clear c7
  have H':=Aside0.mk H
  clear H
  obtain ⟨ad650,e650,hx650_0,p650,q650⟩:=aiI_ HR0.out x5_1
  cases e650
  obtain ⟨ad651,e651,hx651_0,p651,q651⟩:=aiI_ HR1.out x5_1
  cases e651
  go_wp2
  repeat (go_quiet (fail);try go_wp2)
  go_roundg k1
  case measure=>have:=HK1.out;omega
  case rel=>exact ⟨(wrap64 (x5_1+1)),sT_,H',⟨by have:=HK1.out;omega⟩,dT_⟩
 ·rw [if_neg c7] at H
  have c7b0:((rd l0 x5_1)==(rd l1 x5_1))=false:=beq_eq_false_iff_ne.mpr c7
  have c7b1:((rd l0 x5_1) != (rd l1 x5_1))=true:=bne_iff_ne.mpr c7
  obtain rfl:=Option.some.inj H
  obtain ⟨ad650,e650,hx650_0,p650,q650⟩:=aiI_ HR0.out x5_1
  cases e650
  obtain ⟨ad651,e651,hx651_0,p651,q651⟩:=aiI_ HR1.out x5_1
  cases e651
  go_wp2
  repeat (go_quiet (fail);try go_wp2)
  go_ret
  exact ⟨sT_,dT_⟩
/-! ### impl_IndependentSets_1: function 45 -/
-- needs impl.independent
-- needs impl.setsOf
def impl_IndependentSets_1.f (k:Nat) (m0:Int) (m1:List Int) (x:Int):Option Bool:=impl_independent.f k m0 m1 x
set_option maxHeartbeats 4000000 in
set_option maxRecDepth 100000 in
theorem impl_IndependentSets_1.makes (k:Nat) (m0:Int) (A1:Option Addr) (c1:Nat) (m1:List Int) (w:World) (hr1:Kd.C (Kd.int .i64) w A1 m1.length m1) (hc1:m1.length≤c1) (g1:Nat)
  (b1:w.heap[g1]?=some (.cells #[.int .i64 m0,.slice A1 m1.length c1] 26 (0,0))) :
  Makes1 45 #[.pointer (some ⟨g1,0,none⟩)] w (impl_IndependentSets_1.f k m0 m1):=by
 intro x b W hW h
 have hu:=Try.underlying26
 have q1:W.cell? ⟨g1,0,none⟩=some (.int .i64 m0):=(blk_cell (blk_below b1 hW) 0).trans rfl
 have q2:W.cell? ⟨g1,1,none⟩=some (.slice A1 m1.length c1):=(blk_cell (blk_below b1 hW) 1).trans rfl
 have HS:=Aside0.mk (fun n'=>impl_independent.calls k m0 A1 c1 m1 x b (W.drewN n') (Kd.C_drewN (Kd.C_below hr1 hW) n') hc1 h)
 clear h b1 hr1 hc1 hW
 show Calls Try.prog 45 #[.int .i64 x,.pointer (some ⟨g1,0,none⟩)] W _
 go_enter Try.func45,Try.ntmps45
 go_wp2_with (go_at_call 39;(first|refine (HS.out 0).mono ?_|refine (HS.out 1).mono ?_|refine (HS.out _).mono ?_);rintro e w' ⟨rfl,hb⟩;have HB:=Aside0.mk hb;clear hb)
 go_ret
 exact ⟨by first|rfl|(simp;done),by repeat (first|exact HB.out|apply pw_below_drewN)⟩
def on_impl_IndependentSets_1.f (k:Nat) (n m0:Int) (m1:List Int):Option (List Int):=setsL n (impl_IndependentSets_1.f k m0 m1) k [] 0
theorem on_impl_IndependentSets_1.calls (k:Nat) (n m0:Int) (A1:Option Addr) (c1:Nat) (m1:List Int) (r:List Int) (w:World) (hr1:Kd.C (Kd.int .i64) w A1 m1.length m1) (hc1:m1.length≤c1) (h:on_impl_IndependentSets_1.f k n m0 m1=some r) (g1:Nat)
  (b1:w.heap[g1]?=some (.cells #[.int .i64 m0,.slice A1 m1.length c1] 26 (0,0))) :
    Calls Try.prog 35 #[.int .i64 n,.func (.func 45) #[] #[.pointer (some ⟨g1,0,none⟩)]] w fun e w'=>∃ v0_:Value,e=.returned (v0_)∧Kd.R (Kd.int .i64) 3 w' w.heap.size (fun _=>True) v0_ r∧Below w.heap.size w w' :=
 setsOf_calls _ _ (s_enters Try.func45 krT_ rfl) n _ k r w (impl_IndependentSets_1.makes k m0 A1 c1 m1 w hr1 hc1 g1 b1) h
/-! ### impl_IndependentSets: function 16 -/
def impl_IndependentSets.f (k:Nat) (a0_0:Int) (l0_1:List Int):Option (List Int):=(impl_IsMatroid.f k a0_0 l0_1).bind fun t653=>(if t653=true then ((on_impl_IndependentSets_1.f k a0_0 a0_0 l0_1).bind fun t654=>(some t654)) else (some ([]:List Int)))
set_option maxHeartbeats 8000000 in
set_option maxRecDepth 100000 in
theorem impl_IndependentSets.calls (k:Nat) (a0_0:Int) (A0_1:Option Addr) (c0_1:Nat) (l0_1:List Int) (r:List Int) (w:World) (hr0_1:Kd.C (Kd.int .i64) w A0_1 l0_1.length l0_1) (hc0_1:l0_1.length≤c0_1) (h:impl_IndependentSets.f k a0_0 l0_1=some r) :
    Calls Try.prog 16 #[.agg #[.int .i64 a0_0,.slice A0_1 l0_1.length c0_1]] w fun e w'=>∃ v0_:Value,e=.returned (v0_)∧Kd.R (Kd.int .i64) 3 w' w.heap.size (fun _=>True) v0_ r∧Below w.heap.size w w':=by
 have hu26:=Try.underlying26
 have HR0_1:=Aside0.mk hr0_1
 have HC0_1:=Aside0.mk hc0_1
 clear hr0_1 hc0_1
 have HB:=Aside0.mk (Below.refl w.heap.size w)
 unfold impl_IndependentSets.f at h
 have H:=h
 clear h
 replace H:=bnd_ H;obtain ⟨t653,A2,H⟩:=H
 by_cases c3:t653=true
 ·subst c3
  replace H:=bT_ H
  replace H:=bnd_ H;obtain ⟨t654,A4,H⟩:=H
  obtain rfl:=Option.some.inj H
  go_enter Try.func16,Try.ntmps16
  go_wp2_with (first|((with_reducible refine gate_dst (N:=1) rfl ?_);refine bx_ (N:=1) (cs:=#[.int .i64 a0_0,.slice A0_1 l0_1.length c0_1]) (t:=26) ?_;intro gb652 hg w5 hbox hb;have BK652:=Aside0.mk (hbox);have GW652:=Aside0.mk (gw_ hg (h_HB HB.out));have GE652:=Aside0.mk (gw_ hg (h_HB HB.out));replace HB:=Aside0.mk (below_step (h_HB HB.out) hb);clear hb hbox hg;obtain ⟨hcz6_0,hcz6_1,hfz6_0,hfz6_1⟩:=bz2_ BK652.out)|((with_reducible refine gate_callee (f:=44) rfl ?_);refine goesL_ (some 4) rfl rfl Try.func44 krT_ rfl #[.agg #[.int .i64 a0_0,.slice A0_1 l0_1.length c0_1]] rfl agT_ ?_;(with_reducible refine (impl_IsMatroid.calls k a0_0 _ _ l0_1 true _ ?side1 ?side2 A2.out).mono ?_);(case side1=>exact cC_ HR0_1.out);(case side2=>exact HC0_1.out);rintro e w7 ⟨rfl,hb⟩;refine ⟨_,rfl,?_⟩;replace BK652:=Aside0.mk (blkB_ BK652.out hb);replace HB:=Aside0.mk (below_step (h_HB HB.out) hb);(try clear hb);obtain ⟨hcz8_0,hcz8_1,hfz8_0,hfz8_1⟩:=bz2_ BK652.out)|((with_reducible refine gate_callee (f:=35) rfl ?_);refine goesL_ (some 9) rfl rfl Try.func35 krT_ rfl #[.int .i64 a0_0,.func (.func 45) #[] #[.pointer (some ⟨gb652,0,none⟩)]] rfl agT_ ?_;(with_reducible refine (on_impl_IndependentSets_1.calls k a0_0 a0_0 A0_1 c0_1 l0_1 t654 _ ?side1 ?side2 A4.out gb652 ?side3).mono ?_);(case side1=>exact cC_ HR0_1.out);(case side2=>exact HC0_1.out);(case side3=>exact (bkC_ BK652.out));rintro e w9 ⟨v655,rfl,ho0,hb⟩;refine ⟨_,rfl,?_⟩;have HO656:=Aside0.mk (Kd.R_lower ho0 (below_size (h_HB HB.out)));replace BK652:=Aside0.mk (blkB_ BK652.out hb);replace HB:=Aside0.mk (below_step (h_HB HB.out) hb);(try clear hb);(try clear hb2);(try clear hk);(try clear hi);(try clear ho0)))
  go_ret
  exact ⟨_,eT_,kRC_ HO656.out,h_HB HB.out⟩
 replace c3:=Bool.eq_false_iff.mpr c3
 subst c3
 replace H:=bF_ H
 obtain rfl:=Option.some.inj H
 go_enter Try.func16,Try.ntmps16
 go_wp2_with (first|((with_reducible refine gate_dst (N:=1) rfl ?_);refine bx_ (N:=1) (cs:=#[.int .i64 a0_0,.slice A0_1 l0_1.length c0_1]) (t:=26) ?_;intro gb652 hg w10 hbox hb;have BK652:=Aside0.mk (hbox);have GW652:=Aside0.mk (gw_ hg (h_HB HB.out));have GE652:=Aside0.mk (gw_ hg (h_HB HB.out));replace HB:=Aside0.mk (below_step (h_HB HB.out) hb);clear hb hbox hg;obtain ⟨hcz11_0,hcz11_1,hfz11_0,hfz11_1⟩:=bz2_ BK652.out)|((with_reducible refine gate_callee (f:=44) rfl ?_);refine goesL_ (some 4) rfl rfl Try.func44 krT_ rfl #[.agg #[.int .i64 a0_0,.slice A0_1 l0_1.length c0_1]] rfl agT_ ?_;(with_reducible refine (impl_IsMatroid.calls k a0_0 _ _ l0_1 false _ ?side1 ?side2 A2.out).mono ?_);(case side1=>exact cC_ HR0_1.out);(case side2=>exact HC0_1.out);rintro e w12 ⟨rfl,hb⟩;refine ⟨_,rfl,?_⟩;replace BK652:=Aside0.mk (blkB_ BK652.out hb);replace HB:=Aside0.mk (below_step (h_HB HB.out) hb);(try clear hb)))
 go_ret
 exact ⟨_,eT_,by first|exact Kd.R_nil _ _ _ _ _|exact Kd.N_nil _ _ _ _ _|exact Kd.V_nil _ _ _ _ _|exact Kd.Q_nil _ _ _ _ _|exact Kd.S_nil _ _ _ _ _,h_HB HB.out⟩
/-! ### spec_IndependentSets: function 17 -/
def spec_IndependentSets.l0:Nat→List Int→Int→Int→List Int→Option (List Int)
 | 0,_,_,_,_=>none
 | k+1,x3,x4,x658000,x658001=>(spec_FullSet.f x658000).bind fun t662=>(if x4≤t662 then ((spec_l5Rank.f k x658000 x658001 x4).bind fun t663=>((spec_CountOf.f k x4).bind fun t664=>(if t663=t664 then (if x3.length<17592186044416 then (spec_IndependentSets.l0 k (x3++[x4]) (wrap64 (x4+1)) x658000 x658001) else (none)) else (spec_IndependentSets.l0 k x3 (wrap64 (x4+1)) x658000 x658001)))) else (some x3))
def spec_IndependentSets.f (k:Nat) (a0_0:Int) (l0_1:List Int):Option (List Int):=(some (([]:List Int):List Int)).bind fun y658=>((spec_IsMatroid.f k a0_0 l0_1).bind fun t661=>(if t661=true then (spec_IndependentSets.l0 k y658 0 a0_0 l0_1) else (some y658)))
set_option maxHeartbeats 8000000 in
set_option maxRecDepth 100000 in
theorem spec_IndependentSets.calls (k:Nat) (a0_0:Int) (A0_1:Option Addr) (c0_1:Nat) (l0_1:List Int) (r:List Int) (w:World) (hr0_1:Kd.C (Kd.int .i64) w A0_1 l0_1.length l0_1) (hc0_1:l0_1.length≤c0_1) (h:spec_IndependentSets.f k a0_0 l0_1=some r) :
    Calls Try.prog 17 #[.agg #[.int .i64 a0_0,.slice A0_1 l0_1.length c0_1]] w fun e w'=>∃ v0_:Value,e=.returned (v0_)∧Kd.R (Kd.int .i64) 3 w' w.heap.size (fun _=>True) v0_ r∧Below w.heap.size w w':=by
 have hu26:=Try.underlying26
 have HR0_1:=Aside0.mk hr0_1
 have HC0_1:=Aside0.mk hc0_1
 clear hr0_1 hc0_1
 have HB:=Aside0.mk (Below.refl w.heap.size w)
 unfold spec_IndependentSets.f at h
 have H:=h
 clear h
 obtain ⟨y658,hy658⟩:∃ y_:List Int,y_=(([]:List Int)):=⟨_,rfl⟩
 replace H:((spec_IsMatroid.f k a0_0 l0_1).bind fun t661=>(if t661=true then (spec_IndependentSets.l0 k y658 0 a0_0 l0_1) else (some y658)))=some r:=by first|(rw [hy658];with_reducible exact H)|(have H2_:=(Option.bind_some _ _).symm.trans H;rw [hy658];with_reducible exact H2_)|(have H2_:=(Option.bind_some _ _).symm.trans H;with_reducible exact H2_)|with_reducible exact H|(rw [hy658];exact H)|exact H
 have Ny658:=Aside0.mk hy658
 clear hy658
 replace H:=bnd_ H;obtain ⟨t661,A2,H⟩:=H
 by_cases c3:t661=true
 ·subst c3
  replace H:=bT_ H
  have H':=Aside0.mk H
  clear H
  go_enter Try.func17,Try.ntmps17
  go_wp2_with (first|((with_reducible refine gate_dst (N:=1) rfl ?_);refine bx_ (N:=1) (cs:=#[.int .i64 a0_0,.slice A0_1 l0_1.length c0_1]) (t:=26) ?_;intro gb657 hg w4 hbox hb;have BK657:=Aside0.mk (hbox);have GW657:=Aside0.mk (gw_ hg (h_HB HB.out));have GE657:=Aside0.mk (gw_ hg (h_HB HB.out));replace HB:=Aside0.mk (below_step (h_HB HB.out) hb);clear hb hbox hg)|((with_reducible refine gate_dst (N:=5) rfl ?_);refine Kd.R_lit (Kd.int .i64) _ 3 ?hg (N:=5) ?hd (xs:=([]:List Int)) (inner:=[]) (ok:=fun _=>True) (okp:=fun _=>True) ?hr ?hp (fun _ hk=>hk) trivial (Below.refl _ _) (Nat.le_refl _) (by simp) ?_;(case hd=>rfl);(case hg=>rfl);(case hr=>exact hrT_);(case hp=>exact (Reps.none _ _));intro v659 w5 ho6 hb hg_ hnew_;clear hg_ hnew_;(first|rw [← Ny658.out] at ho6|(simp only [Int.reduceToNat] at ho6;rw [← Ny658.out] at ho6));have HO660:=Aside0.mk (Kd.R_lower ho6 (below_size (h_HB HB.out)));replace BK657:=Aside0.mk (blkB_ BK657.out hb);replace HB:=Aside0.mk (below_step (h_HB HB.out) hb);clear hb ho6;obtain ⟨hcz7_0,hcz7_1,hfz7_0,hfz7_1⟩:=bz2_ BK657.out)|((with_reducible refine gate_callee (f:=40) rfl ?_);refine goesL_ (some 7) rfl rfl Try.func40 krT_ rfl #[.agg #[.int .i64 a0_0,.slice A0_1 l0_1.length c0_1]] rfl agT_ ?_;(with_reducible refine (spec_IsMatroid.calls k a0_0 _ _ l0_1 true _ ?side1 ?side2 A2.out).mono ?_);(case side1=>exact cC_ HR0_1.out);(case side2=>exact HC0_1.out);rintro e w8 ⟨rfl,hb⟩;refine ⟨_,rfl,?_⟩;replace HO660:=Aside0.mk (Kd.R_below (kRC_ HO660.out) hb);replace BK657:=Aside0.mk (blkB_ BK657.out hb);replace HB:=Aside0.mk (below_step (h_HB HB.out) hb);(try clear hb)))
  go_loopg [3,4] k (fun kq v3 v4 w'=>∃ (x3_1:List Int) (x4_1:Int),v4=.int .i64 x4_1∧Aside0 (spec_IndependentSets.l0 kq x3_1 x4_1 a0_0 l0_1=some r)∧Aside0 (kq≤k)∧Aside0 (Kd.R (Kd.int .i64) 3 w' w.heap.size (fun _=>True) v3 x3_1)∧Aside0 (w'.heap[gb657]?=some (.cells #[.int .i64 a0_0,(.slice A0_1 l0_1.length c0_1)] 26 (0,0)))∧Aside0 (Below w.heap.size w w'))
  case atStart=>exact ⟨(y658),(0),sT_,H',⟨Nat.le_refl _⟩,⟨kRC_ HO660.out⟩,⟨bkC_ BK657.out⟩,⟨h_HB HB.out⟩⟩
  case round =>
   clear H'
   try clear c1
   try clear p2
   try clear c3
   try clear c4
   try clear hcz7_0
   try clear hcz7_1
   try clear hfz7_0
   try clear hfz7_1
   obtain ⟨x3_1,x4_1,rfl,HA,HK1,HO_3,BK657,HB⟩:=hrel
   cases gk with
   | zero=>exact absurd HA.out (by simp [spec_IndependentSets.l0])
   | succ k1 =>
    have H:=HA.out
    clear HA
    simp only [spec_IndependentSets.l0] at H
    replace H:=bnd_ H;obtain ⟨t662,A9,H⟩:=H
    rcases gsb_ H with ⟨c10b0,H⟩|⟨c10b0,H⟩
    ·replace H:=bnd_ H;obtain ⟨t663,A11,H⟩:=H
     replace H:=bnd_ H;obtain ⟨t664,A12,H⟩:=H
     by_cases c13:t663=t664
     ·rw [if_pos c13] at H
      have c13b0:(t663==t664)=true:=beq_iff_eq.mpr c13
      have c13b1:(t663 != t664)=false:=bne_eq_false_iff_eq.mpr c13
      clear c13
      by_cases c14:x3_1.length<17592186044416
      ·rw [if_pos c14] at H
       have LMc14:=Aside0.mk c14
       clear c14
       obtain ⟨y665,hy665⟩:∃ y_:List Int,y_=(x3_1++[x4_1]):=⟨_,rfl⟩
       replace H:(spec_IndependentSets.l0 k1 y665 (wrap64 (x4_1+1)) a0_0 l0_1)=some r:=by first|(rw [hy665];with_reducible exact H)|(have H2_:=(Option.bind_some _ _).symm.trans H;rw [hy665];with_reducible exact H2_)|(have H2_:=(Option.bind_some _ _).symm.trans H;with_reducible exact H2_)|with_reducible exact H|(rw [hy665];exact H)|exact H
       have Ny665:=Aside0.mk hy665
       clear hy665
       have H':=Aside0.mk H
       clear H
       obtain ⟨hcz15_0,hcz15_1,hfz15_0,hfz15_1⟩:=bz2_ BK657.out
       go_wp2_with (first|((with_reducible refine gate_callee (f:=25) rfl ?_);refine goesL_ (some 13) rfl rfl Try.func25 krT_ rfl #[.int .i64 a0_0] rfl agT_ ?_;(with_reducible refine (spec_FullSet.calls a0_0 t662 _ A9.out).mono ?_);rintro e w' ⟨rfl,⟨nd,rfl⟩⟩;refine ⟨_,rfl,?_⟩)|((with_reducible refine gate_callee (f:=42) rfl ?_);refine goesL_ (some 19) rfl rfl Try.func42 krT_ rfl #[.agg #[.int .i64 a0_0,.slice A0_1 l0_1.length c0_1],.int .i64 x4_1] rfl agT_ ?_;(with_reducible refine (spec_l5Rank.calls k1 a0_0 _ _ l0_1 x4_1 t663 _ ?side1 ?side2 A11.out).mono ?_);(case side1=>repeat (first|exact (Kd.C_below HR0_1.out (h_HB HB.out))|(with_reducible refine Kd.C_alloc ?_ _)|(with_reducible refine Kd.C_drewN ?_ _)|(with_reducible refine Kd.C_drew ?_)));(case side2=>exact HC0_1.out);rintro e w16 ⟨rfl,hb⟩;refine ⟨_,rfl,?_⟩;replace HO_3:=Aside0.mk (Kd.R_below (kRC_ HO_3.out) hb);replace BK657:=Aside0.mk (blkB_ BK657.out hb);replace HB:=Aside0.mk (below_step (h_HB HB.out) hb);(try clear hb))|((with_reducible refine gate_callee (f:=26) rfl ?_);refine goesL_ (some 21) rfl rfl Try.func26 krT_ rfl #[.int .i64 x4_1] rfl agT_ ?_;(with_reducible refine (spec_CountOf.calls k1 x4_1 t664 _ A12.out).mono ?_);rintro e w' ⟨rfl,⟨nd,rfl⟩⟩;refine ⟨_,rfl,?_⟩)|((with_reducible refine gate_builtin (b:=.append) (xs:=#[.tmp 23,.tmp 25]) rfl ?_);at_builtin;refine Kd.R_append (Kd.int .i64) (w0:=w) w.heap.size rfl (.tmp 23) (.tmp 25) 24 3 (.int .i64 0) 8 rfl Try.underlying24 info3 rfl (by decide) (by omega) u3 x3_1 x4_1 [.int .i64 x4_1] (fun _=>True) (fun _=>False) rfl rfl ?aP (fun _ hk=>hk.elim) ?aF ?aO ?aB ?aS ?aL ?_;(case aP=>exact rfl);(case aB=>exact (h_HB HB.out));(case aF=>exact (fun _ _=>trivial));(case aO=>exact (kRC_ HO_3.out));(case aS=>exact (below_size (h_HB HB.out)));(case aL=>have:=LMc14.out;omega);intro v666 w17 ho hb hg hat;rw [← Ny665.out] at ho;replace BK657:=Aside0.mk (blk_grown (bkC_ BK657.out) hg (Kd.R_ne HO_3.out BK657.out (by decide)));replace HB:=Aside0.mk (hb);have HO667:=Aside0.mk (ho);clear HO_3;clear ho hb hg hat))
       go_roundg k1
       case measure=>have:=HK1.out;omega
       case rel=>exact ⟨(y665),(wrap64 (x4_1+1)),sT_,H',⟨by have:=HK1.out;omega⟩,⟨kRC_ HO667.out⟩,⟨bkC_ BK657.out⟩,⟨h_HB HB.out⟩⟩
      ·rw [if_neg c14] at H
       exact absurd H (by simp)
     ·rw [if_neg c13] at H
      have c13b0:(t663==t664)=false:=beq_eq_false_iff_ne.mpr c13
      have c13b1:(t663 != t664)=true:=bne_iff_ne.mpr c13
      have H':=Aside0.mk H
      clear H
      obtain ⟨hcz18_0,hcz18_1,hfz18_0,hfz18_1⟩:=bz2_ BK657.out
      go_wp2_with (first|((with_reducible refine gate_callee (f:=25) rfl ?_);refine goesL_ (some 13) rfl rfl Try.func25 krT_ rfl #[.int .i64 a0_0] rfl agT_ ?_;(with_reducible refine (spec_FullSet.calls a0_0 t662 _ A9.out).mono ?_);rintro e w' ⟨rfl,⟨nd,rfl⟩⟩;refine ⟨_,rfl,?_⟩)|((with_reducible refine gate_callee (f:=42) rfl ?_);refine goesL_ (some 19) rfl rfl Try.func42 krT_ rfl #[.agg #[.int .i64 a0_0,.slice A0_1 l0_1.length c0_1],.int .i64 x4_1] rfl agT_ ?_;(with_reducible refine (spec_l5Rank.calls k1 a0_0 _ _ l0_1 x4_1 t663 _ ?side1 ?side2 A11.out).mono ?_);(case side1=>repeat (first|exact (Kd.C_below HR0_1.out (h_HB HB.out))|(with_reducible refine Kd.C_alloc ?_ _)|(with_reducible refine Kd.C_drewN ?_ _)|(with_reducible refine Kd.C_drew ?_)));(case side2=>exact HC0_1.out);rintro e w19 ⟨rfl,hb⟩;refine ⟨_,rfl,?_⟩;replace HO_3:=Aside0.mk (Kd.R_below (kRC_ HO_3.out) hb);replace BK657:=Aside0.mk (blkB_ BK657.out hb);replace HB:=Aside0.mk (below_step (h_HB HB.out) hb);(try clear hb))|((with_reducible refine gate_callee (f:=26) rfl ?_);refine goesL_ (some 21) rfl rfl Try.func26 krT_ rfl #[.int .i64 x4_1] rfl agT_ ?_;(with_reducible refine (spec_CountOf.calls k1 x4_1 t664 _ A12.out).mono ?_);rintro e w' ⟨rfl,⟨nd,rfl⟩⟩;refine ⟨_,rfl,?_⟩))
      go_roundg k1
      case measure=>have:=HK1.out;omega
      case rel=>exact ⟨(x3_1),(wrap64 (x4_1+1)),sT_,H',⟨by have:=HK1.out;omega⟩,⟨kRC_ HO_3.out⟩,⟨bkC_ BK657.out⟩,⟨h_HB HB.out⟩⟩
    ·obtain rfl:=Option.some.inj H
     obtain ⟨hcz20_0,hcz20_1,hfz20_0,hfz20_1⟩:=bz2_ BK657.out
     go_wp2_with (first|((with_reducible refine gate_callee (f:=25) rfl ?_);refine goesL_ (some 13) rfl rfl Try.func25 krT_ rfl #[.int .i64 a0_0] rfl agT_ ?_;(with_reducible refine (spec_FullSet.calls a0_0 t662 _ A9.out).mono ?_);rintro e w' ⟨rfl,⟨nd,rfl⟩⟩;refine ⟨_,rfl,?_⟩))
     go_ret
     exact ⟨_,eT_,kRC_ HO_3.out,h_HB HB.out⟩
 ·replace c3:=Bool.eq_false_iff.mpr c3
  subst c3
  replace H:=bF_ H
  obtain rfl:=Option.some.inj H
  go_enter Try.func17,Try.ntmps17
  go_wp2_with (first|((with_reducible refine gate_dst (N:=1) rfl ?_);refine bx_ (N:=1) (cs:=#[.int .i64 a0_0,.slice A0_1 l0_1.length c0_1]) (t:=26) ?_;intro gb657 hg w21 hbox hb;have BK657:=Aside0.mk (hbox);have GW657:=Aside0.mk (gw_ hg (h_HB HB.out));have GE657:=Aside0.mk (gw_ hg (h_HB HB.out));replace HB:=Aside0.mk (below_step (h_HB HB.out) hb);clear hb hbox hg)|((with_reducible refine gate_dst (N:=5) rfl ?_);refine Kd.R_lit (Kd.int .i64) _ 3 ?hg (N:=5) ?hd (xs:=([]:List Int)) (inner:=[]) (ok:=fun _=>True) (okp:=fun _=>True) ?hr ?hp (fun _ hk=>hk) trivial (Below.refl _ _) (Nat.le_refl _) (by simp) ?_;(case hd=>rfl);(case hg=>rfl);(case hr=>exact hrT_);(case hp=>exact (Reps.none _ _));intro v659 w22 ho23 hb hg_ hnew_;clear hg_ hnew_;(first|rw [← Ny658.out] at ho23|(simp only [Int.reduceToNat] at ho23;rw [← Ny658.out] at ho23));have HO660:=Aside0.mk (Kd.R_lower ho23 (below_size (h_HB HB.out)));replace BK657:=Aside0.mk (blkB_ BK657.out hb);replace HB:=Aside0.mk (below_step (h_HB HB.out) hb);clear hb ho23;obtain ⟨hcz24_0,hcz24_1,hfz24_0,hfz24_1⟩:=bz2_ BK657.out)|((with_reducible refine gate_callee (f:=40) rfl ?_);refine goesL_ (some 7) rfl rfl Try.func40 krT_ rfl #[.agg #[.int .i64 a0_0,.slice A0_1 l0_1.length c0_1]] rfl agT_ ?_;(with_reducible refine (spec_IsMatroid.calls k a0_0 _ _ l0_1 false _ ?side1 ?side2 A2.out).mono ?_);(case side1=>exact cC_ HR0_1.out);(case side2=>exact HC0_1.out);rintro e w25 ⟨rfl,hb⟩;refine ⟨_,rfl,?_⟩;replace HO660:=Aside0.mk (Kd.R_below (kRC_ HO660.out) hb);replace BK657:=Aside0.mk (blkB_ BK657.out hb);replace HB:=Aside0.mk (below_step (h_HB HB.out) hb);(try clear hb)))
  go_ret
  exact ⟨_,eT_,kRC_ HO660.out,h_HB HB.out⟩
end Go.Proofs.Ytekegbacnagbcaa.P
