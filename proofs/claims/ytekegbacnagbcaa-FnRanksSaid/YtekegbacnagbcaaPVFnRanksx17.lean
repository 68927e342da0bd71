-- written by gprint (a program of this session's, round the kit's print), out of the translation and hand-written texts
import Derived.Test.YtekegbacnagbcaaPVFnRanksx0
import Derived.Test.YtekegbacnagbcaaPVFnRanksx2
import Derived.Test.YtekegbacnagbcaaPVFnRanksx3
import Derived.Test.YtekegbacnagbcaaPVFnRanksx7
import Derived.Test.YtekegbacnagbcaaPVFnRanksx13
import Derived.Test.YtekegbacnagbcaaPVFnRanksx14
import Derived.Test.YtekegbacnagbcaaPVFnRanksx15
namespace Go.Proofs.Ytekegbacnagbcaa.P
open Go.RowKit Go.Proofs.YtekegbacnagbcaaW.PrintWords Go.Proofs.YtekegbacnagbcaaW.PrintLast Go.Proofs.YtekegbacnagbcaaW.PrintMore
attribute [local go_sem] max2_int min2_int max_two min_two max_three min_three max_four min_four   -- for this text's walks alone
set_option linter.unusedVariables false
set_option linter.unusedSimpArgs false
/-! ### impl_IsSpanning: function 18 -/
def impl_IsSpanning.f (k:Nat) (a0_0:Int) (l0_1:List Int) (a1:Int):Option (Bool):=(impl_knows.f k a0_0 l0_1 a1).bind fun t669=>(if t669=true then ((impl_rankIn.f k a0_0 l0_1 a1).bind fun t670=>(if 0<(l0_1.length:Int) then ((impl_CountOf.f (rd l0_1 0)).bind fun t672=>(some (t670==t672))) else (none))) else (some false))
def impl_IsSpanning.T1:Bool × List (List Nat × List Nat):=(true,[([],[]),([],[]),([0,1],[0,1]),([2,2],[2]),([3],[3]),([3],[3]),([4,5,3,3],[3,4,5]),([3],[3]),([7,3],[3,7]),([8,3],[3,8]),([9,3],[3,9]),([10,6,3],[3,10]),([6,11,3],[3,6,11]),([3,12],[3,12]),([13,11,0,1,2,3,4,5,6,7,8,9,10,11,12,13],[13])])
def impl_IsSpanning.B1:List Nat:=[0,0,3,7,15,15,63,15,143,399,911,2047,4095,8191,16383]
theorem impl_IsSpanning.tab1:rtab .any (opsOf Try.f18 1)=impl_IsSpanning.T1:=by kernel_rfl
theorem impl_IsSpanning.bits1:waitsOk impl_IsSpanning.T1.2 impl_IsSpanning.B1=true:=by kernel_rfl
set_option maxHeartbeats 8000000 in
set_option maxRecDepth 100000 in
theorem impl_IsSpanning.calls (k:Nat) (a0_0:Int) (A0_1:Option Addr) (c0_1:Nat) (l0_1:List Int) (a1:Int) (r:Bool) (w:World) (hr0_1:Kd.C (Kd.int .i64) w A0_1 l0_1.length l0_1) (hc0_1:l0_1.length≤c0_1) (h:impl_IsSpanning.f k a0_0 l0_1 a1=some r) :
    Calls Try.prog 18 #[.agg #[.int .i64 a0_0,.slice A0_1 l0_1.length c0_1],.int .i64 a1] w fun e w'=>e=.returned (.bool r)∧Below w.heap.size w w':=by
 have hu26:=Try.underlying26
 have HR0_1:=Aside0.mk hr0_1
 have HC0_1:=Aside0.mk hc0_1
 clear hr0_1 hc0_1
 have HB:=Aside0.mk (Below.refl w.heap.size w)
 unfold impl_IsSpanning.f at h
 have H:=h
 clear h
 replace H:=bnd_ H;obtain ⟨t669,A3,H⟩:=H
 by_cases c4:t669=true
 rotate_left
 ·replace c4:=Bool.eq_false_iff.mpr c4
  subst c4
  replace H:=bF_ H
  obtain rfl:=Option.some.inj H
  go_enter Try.func18,Try.ntmps18
  try go_wp2_with (first|((with_reducible refine gate_dst (N:=2) rfl ?_);refine bx_ (N:=2) (cs:=#[.int .i64 a0_0,.slice A0_1 l0_1.length c0_1]) (t:=26) ?_;intro gb668 hg w12 hbox hb;have BK668:=Aside0.mk (hbox);have GW668:=Aside0.mk (gw_ hg (h_HB HB.out));have GE668:=Aside0.mk (gw_ hg (h_HB HB.out));replace HB:=Aside0.mk (below_step (h_HB HB.out) hb);clear hb hbox hg))
  replace BK668:=Aside0.mk (blk_drew BK668.out);replace HB:=Aside0.mk (below_drew1 HB.out)
  refine start_ (n:=15) (S:=fun w'=>w'.cell? ⟨gb668,0,none⟩=some (.int .i64 a0_0)∧w'.cell? ⟨gb668,1,none⟩=some (.slice A0_1 l0_1.length c0_1)) (ds:=[]) #[F_,F_,F_,F_,F_,F_,F_,F_,F_,F_,F_,F_,F_,F_,F_] krT_ rfl rfl ⟨(blk_cell BK668.out 0).trans rfl,(blk_cell BK668.out 1).trans rfl⟩ (fun hHeld=>?_);refine with_tabW impl_IsSpanning.tab1 impl_IsSpanning.bits1 (fun HT_ HW_=>?_)
  generalize w12.drew=w13 at BK668 HB hHeld ⊢
  refine pu_ 1 (some 6) (bm_ 15 2) rfl rfl HT_.out ?_
  refine take_ (i:=0) (N:=some 5) (v:=?_) (a':=?_) (bm_ 15 3) rfl rfl (take_ofW HT_.out HW_.out krT_) (fun _ _ _ h=>h) (Or.inl ⟨by rfl,?_⟩) hHeld ?_ ?_
  rotate_left
  ·rintro w' ⟨s0,s1⟩
   go_simp
   with_reducible rfl
  rotate_left;exact apT_
  refine one_ (i:=2) (N:=some 7) (bm_ 15 7) rfl rfl (one_of HT_.out krT_) (by decide) (fun K hK=>?_)
  refine goes_ Try.func31 krT_ rfl #[.agg #[.int .i64 a0_0,.slice A0_1 l0_1.length c0_1],.int .i64 a1] (by rfl) rfl rfl agT_ ?_
  with_reducible refine (impl_knows.calls k a0_0 _ _ l0_1 a1 false _ ?side1 ?side2 A3.out).mono ?_
  (case side1=>exact cC_ HR0_1.out)
  (case side2=>exact HC0_1.out)
  rintro e w14 ⟨rfl,hb⟩
  refine ⟨_,rfl,?_⟩
  replace BK668:=Aside0.mk (blkB_ BK668.out hb);replace HB:=Aside0.mk (below_step (h_HB HB.out) hb)
  (try clear hb)
  (try clear hb2)
  (try clear hk)
  (try clear hi)
  refine hK.out _ _ ⟨(blk_cell BK668.out 0).trans rfl,(blk_cell BK668.out 1).trans rfl⟩ (fun hHeld=>?_)
  clear hK K
  refine norm_ (a':=?_) ?_ ?_
  rotate_left
  ·show Act.put _ (some 7) _=_
   simp only [Act.put,List.setIfInBounds_toArray,List.set_cons_zero,List.set_cons_succ,i64_w,i32_w]
   rfl
  refine pu_ 3 (some 8) (bm_ 15 15) rfl rfl HT_.out ?_
  refine pure_ (i:=4) (N:=some 9) (v:=undef) (a':=?_) (bm_ 15 31) rfl rfl (any_of HT_.out krT_) (fun _ _ _ h=>h) (Or.inr ⟨by rfl,rfl⟩) ?_ ?_
  rotate_left;exact apT_
  refine pure_ (i:=5) (N:=some 10) (v:=undef) (a':=?_) (bm_ 15 63) rfl rfl (any_of HT_.out krT_) (fun _ _ _ h=>h) (Or.inr ⟨by rfl,rfl⟩) ?_ ?_
  rotate_left;exact apT_
  refine pure_ (i:=6) (N:=some 11) (v:=undef) (a':=?_) (bm_ 15 127) rfl rfl (any_of HT_.out krT_) (fun _ _ _ h=>h) (Or.inr ⟨by rfl,rfl⟩) ?_ ?_
  rotate_left;exact apT_
  refine pure_ (i:=7) (N:=some 12) (v:=undef) (a':=?_) (bm_ 15 255) rfl rfl (any_of HT_.out krT_) (fun _ _ _ h=>h) (Or.inr ⟨by rfl,rfl⟩) ?_ ?_
  rotate_left;exact apT_
  refine pure_ (i:=8) (N:=some 13) (v:=undef) (a':=?_) (bm_ 15 511) rfl rfl (any_of HT_.out krT_) (fun _ _ _ h=>h) (Or.inr ⟨by rfl,rfl⟩) ?_ ?_
  rotate_left;exact apT_
  refine pure_ (i:=9) (N:=some 14) (v:=undef) (a':=?_) (bm_ 15 1023) rfl rfl (any_of HT_.out krT_) (fun _ _ _ h=>h) (Or.inr ⟨by rfl,rfl⟩) ?_ ?_
  rotate_left;exact apT_
  refine pure_ (i:=10) (N:=some 15) (v:=undef) (a':=?_) (bm_ 15 2047) rfl rfl (any_of HT_.out krT_) (fun _ _ _ h=>h) (Or.inr ⟨by rfl,rfl⟩) ?_ ?_
  rotate_left;exact apT_
  refine pure_ (i:=11) (N:=some 16) (v:=undef) (a':=?_) (bm_ 15 4095) rfl rfl (any_of HT_.out krT_) (fun _ _ _ h=>h) (Or.inr ⟨by rfl,rfl⟩) ?_ ?_
  rotate_left;exact apT_
  refine pure_ (i:=12) (N:=some 17) (v:=undef) (a':=?_) (bm_ 15 8191) rfl rfl (any_of HT_.out krT_) (fun _ _ _ h=>h) (Or.inr ⟨by rfl,rfl⟩) ?_ ?_
  rotate_left;exact apT_
  refine pu_ 13 (some 18) (bm_ 15 16383) rfl rfl HT_.out ?_
  refine pu_ 14 (some 4) (bm_ 15 32767) rfl rfl HT_.out ?_
  refine done_ (done_of HT_.out krT_) ?_
  try go_wp2
  go_ret
  exact ⟨eT_,h_HB HB.out⟩
 subst c4
 replace H:=bT_ H
 replace H:=bnd_ H;obtain ⟨t670,A5,H⟩:=H
 by_cases c6:0<(l0_1.length:Int)
 rotate_left
 ·rw [if_neg c6] at H
  exact absurd H (by simp)
 rw [if_pos c6] at H
 have c6b0:decide (0<(l0_1.length:Int))=true:=decide_eq_true c6
 have c6b1:decide (0<l0_1.length)=true:=decide_eq_true (by omega)
 clear c6
 replace H:=bnd_ H;obtain ⟨t672,A7,H⟩:=H
 obtain rfl:=Option.some.inj H
 go_enter Try.func18,Try.ntmps18
 try go_wp2_with (first|((with_reducible refine gate_dst (N:=2) rfl ?_);refine bx_ (N:=2) (cs:=#[.int .i64 a0_0,.slice A0_1 l0_1.length c0_1]) (t:=26) ?_;intro gb668 hg w8 hbox hb;have BK668:=Aside0.mk (hbox);have GW668:=Aside0.mk (gw_ hg (h_HB HB.out));have GE668:=Aside0.mk (gw_ hg (h_HB HB.out));replace HB:=Aside0.mk (below_step (h_HB HB.out) hb);clear hb hbox hg))
 replace BK668:=Aside0.mk (blk_drew BK668.out);replace HB:=Aside0.mk (below_drew1 HB.out)
 have p671:0≤(0:Int):=(by omega)
 have q671:0<(l0_1.length:Int):=odT_
 obtain ⟨ad671,e671,hx671_0⟩:=Kd.at_int HR0_1.out 0 p671 q671
 have hw671_0:=hx671_0
 (try rw [show ((0:Int)).toNat=0 from rfl] at hw671_0)
 (try rw [show 0*1=0 from rfl] at hw671_0)
 (try rw [Addr.add_zero'] at hw671_0)
 cases e671
 have qi671:(0<l0_1.length)=True:=eq_true (by omega)
 (try rw [show ((0:Int)).toNat=0 from rfl] at hx671_0)
 (try rw [Addr.add_zero'] at hx671_0)
 replace hx671_0:=(HB.out.cell (World.block_lt_of_cell? w _ hx671_0)).trans hx671_0
 replace p671:=eq_true p671
 replace q671:=eq_true q671
 refine start_ (n:=15) (S:=fun w'=>w'.cell? ⟨gb668,0,none⟩=some (.int .i64 a0_0)∧w'.cell? ⟨gb668,1,none⟩=some (.slice (some ad671) l0_1.length c0_1)∧w'.cell? ad671=some (.int .i64 (rd l0_1 0))) (ds:=[]) #[F_,F_,F_,F_,F_,F_,F_,F_,F_,F_,F_,F_,F_,F_,F_] krT_ rfl rfl ⟨(blk_cell BK668.out 0).trans rfl,(blk_cell BK668.out 1).trans rfl,((HB.out.cell (World.block_lt_of_cell? w _ hw671_0)).trans hw671_0)⟩ (fun hHeld=>?_);refine with_tabW impl_IsSpanning.tab1 impl_IsSpanning.bits1 (fun HT_ HW_=>?_)
 generalize w8.drew=w9 at BK668 HB hx671_0 hHeld ⊢
 refine pu_ 1 (some 6) (bm_ 15 2) rfl rfl HT_.out ?_
 refine take_ (i:=0) (N:=some 5) (v:=?_) (a':=?_) (bm_ 15 3) rfl rfl (take_ofW HT_.out HW_.out krT_) (fun _ _ _ h=>h) (Or.inl ⟨by rfl,?_⟩) hHeld ?_ ?_
 rotate_left
 ·rintro w' ⟨s0,s1,s2⟩
  go_simp
  with_reducible rfl
 rotate_left;exact apT_
 refine one_ (i:=2) (N:=some 7) (bm_ 15 7) rfl rfl (one_of HT_.out krT_) (by decide) (fun K hK=>?_)
 refine goes_ Try.func31 krT_ rfl #[.agg #[.int .i64 a0_0,.slice (some ad671) l0_1.length c0_1],.int .i64 a1] (by rfl) rfl rfl agT_ ?_
 with_reducible refine (impl_knows.calls k a0_0 _ _ l0_1 a1 true _ ?side1 ?side2 A3.out).mono ?_
 (case side1=>exact cC_ HR0_1.out)
 (case side2=>exact HC0_1.out)
 rintro e w10 ⟨rfl,hb⟩
 refine ⟨_,rfl,?_⟩
 replace BK668:=Aside0.mk (blkB_ BK668.out hb);replace HB:=Aside0.mk (below_step (h_HB HB.out) hb)
 (try clear hb)
 (try clear hb2)
 (try clear hk)
 (try clear hi)
 refine hK.out _ _ ⟨(blk_cell BK668.out 0).trans rfl,(blk_cell BK668.out 1).trans rfl,((HB.out.cell (World.block_lt_of_cell? w _ hw671_0)).trans hw671_0)⟩ (fun hHeld=>?_)
 clear hK K
 refine norm_ (a':=?_) ?_ ?_
 rotate_left
 ·show Act.put _ (some 7) _=_
  simp only [Act.put,List.setIfInBounds_toArray,List.set_cons_zero,List.set_cons_succ,i64_w,i32_w]
  rfl
 refine pu_ 3 (some 8) (bm_ 15 15) rfl rfl HT_.out ?_
 refine pu_ 5 (some 10) (bm_ 15 47) rfl rfl HT_.out ?_
 refine pu_ 7 (some 12) (bm_ 15 175) rfl rfl HT_.out ?_
 refine take_ (i:=4) (N:=some 9) (v:=?_) (a':=?_) (bm_ 15 191) rfl rfl (take_ofW HT_.out HW_.out krT_) (fun _ _ _ h=>h) (Or.inl ⟨by rfl,?_⟩) hHeld ?_ ?_
 rotate_left
 ·rintro w' ⟨s0,s1,s2⟩
  go_simp
  with_reducible rfl
 rotate_left;exact apT_
 refine take_ (i:=8) (N:=some 13) (v:=?_) (a':=?_) (bm_ 15 447) rfl rfl (take_ofW HT_.out HW_.out krT_) (fun _ _ _ h=>h) (Or.inl ⟨by rfl,?_⟩) hHeld ?_ ?_
 rotate_left
 ·rintro w' ⟨s0,s1,s2⟩
  go_simp
  with_reducible rfl
 rotate_left;exact apT_
 refine pu_ 9 (some 14) (bm_ 15 959) rfl rfl HT_.out ?_
 refine take_ (i:=10) (N:=some 15) (v:=?_) (a':=?_) (bm_ 15 1983) rfl rfl (take_ofW HT_.out HW_.out krT_) (fun _ _ _ h=>h) (Or.inl ⟨by rfl,?_⟩) hHeld ?_ ?_
 rotate_left
 ·rintro w' ⟨s0,s1,s2⟩
  go_simp
  with_reducible rfl
 rotate_left;exact apT_
 refine one_ (i:=6) (N:=some 11) (bm_ 15 2047) rfl rfl (one_of HT_.out krT_) (by decide) (fun K hK=>?_)
 refine goes_ Try.func32 krT_ rfl #[.agg #[.int .i64 a0_0,.slice (some ad671) l0_1.length c0_1],.int .i64 a1] (by rfl) rfl rfl agT_ ?_
 with_reducible refine (impl_rankIn.calls k a0_0 _ _ l0_1 a1 t670 _ ?side1 ?side2 A5.out).mono ?_
 (case side1=>exact cC_ HR0_1.out)
 (case side2=>exact HC0_1.out)
 rintro e w11 ⟨rfl,hb⟩
 refine ⟨_,rfl,?_⟩
 replace BK668:=Aside0.mk (blkB_ BK668.out hb);replace HB:=Aside0.mk (below_step (h_HB HB.out) hb)
 (try clear hb)
 (try clear hb2)
 (try clear hk)
 (try clear hi)
 refine hK.out _ _ ⟨(blk_cell BK668.out 0).trans rfl,(blk_cell BK668.out 1).trans rfl,((HB.out.cell (World.block_lt_of_cell? w _ hw671_0)).trans hw671_0)⟩ (fun hHeld=>?_)
 clear hK K
 refine norm_ (a':=?_) ?_ ?_
 rotate_left
 ·show Act.put _ (some 11) _=_
  simp only [Act.put,List.setIfInBounds_toArray,List.set_cons_zero,List.set_cons_succ,i64_w,i32_w]
  rfl
 refine one_ (i:=11) (N:=some 16) (bm_ 15 4095) rfl rfl (one_of HT_.out krT_) (by decide) (fun K hK=>?_)
 refine goes_ Try.func38 krT_ rfl #[.int .i64 (rd l0_1 0)] (by rfl) rfl rfl agT_ ?_
 with_reducible refine (impl_CountOf.calls (rd l0_1 0) t672 _ A7.out).mono ?_
 rintro e w' ⟨rfl,⟨nd,rfl⟩⟩
 refine ⟨_,rfl,?_⟩
 refine hK.out _ _ ⟨(blk_cell BK668.out 0).trans rfl,(blk_cell BK668.out 1).trans rfl,((HB.out.cell (World.block_lt_of_cell? w _ hw671_0)).trans hw671_0)⟩ (fun hHeld=>?_)
 clear hK K
 refine norm_ (a':=?_) ?_ ?_
 rotate_left
 ·show Act.put _ (some 16) _=_
  simp only [Act.put,List.setIfInBounds_toArray,List.set_cons_zero,List.set_cons_succ,i64_w,i32_w]
  rfl
 refine pu_ 12 (some 17) (bm_ 15 8191) rfl rfl HT_.out ?_
 refine pu_ 13 (some 18) (bm_ 15 16383) rfl rfl HT_.out ?_
 refine pu_ 14 (some 4) (bm_ 15 32767) rfl rfl HT_.out ?_
 refine done_ (done_of HT_.out krT_) ?_
 try go_wp2
 go_ret
 exact ⟨eT_,h_HB HB.out⟩
/-! ### spec_RankOfMatroid: function 46 -/
def spec_RankOfMatroid.f (k:Nat) (a0_0:Int) (l0_1:List Int):Option (Int):=(spec_IsMatroid.f k a0_0 l0_1).bind fun t674=>(if t674=true then (if 0<(l0_1.length:Int) then ((spec_CountOf.f k (rd l0_1 0)).bind fun t676=>(some t676)) else (none)) else (some (-1)))
set_option maxHeartbeats 8000000 in
set_option maxRecDepth 100000 in
theorem spec_RankOfMatroid.calls (k:Nat) (a0_0:Int) (A0_1:Option Addr) (c0_1:Nat) (l0_1:List Int) (r:Int) (w:World) (hr0_1:Kd.C (Kd.int .i64) w A0_1 l0_1.length l0_1) (hc0_1:l0_1.length≤c0_1) (h:spec_RankOfMatroid.f k a0_0 l0_1=some r) :
    Calls Try.prog 46 #[.agg #[.int .i64 a0_0,.slice A0_1 l0_1.length c0_1]] w fun e w'=>e=.returned (.int .i64 r)∧Below w.heap.size w w':=by
 have hu26:=Try.underlying26
 have HR0_1:=Aside0.mk hr0_1
 have HC0_1:=Aside0.mk hc0_1
 clear hr0_1 hc0_1
 have HB:=Aside0.mk (Below.refl w.heap.size w)
 unfold spec_RankOfMatroid.f at h
 have H:=h
 clear h
 replace H:=bnd_ H;obtain ⟨t674,A2,H⟩:=H
 by_cases c3:t674=true
 ·subst c3
  replace H:=bT_ H
  by_cases c4:0<(l0_1.length:Int)
  ·rw [if_pos c4] at H
   have c4b0:decide (0<(l0_1.length:Int))=true:=decide_eq_true c4
   have c4b1:decide (0<l0_1.length)=true:=decide_eq_true (by omega)
   clear c4
   replace H:=bnd_ H;obtain ⟨t676,A5,H⟩:=H
   obtain rfl:=Option.some.inj H
   go_enter Try.func46,Try.ntmps46
   go_wp2_with (first|((with_reducible refine gate_dst (N:=1) rfl ?_);refine bx_ (N:=1) (cs:=#[.int .i64 a0_0,.slice A0_1 l0_1.length c0_1]) (t:=26) ?_;intro gb673 hg w6 hbox hb;have BK673:=Aside0.mk (hbox);have GW673:=Aside0.mk (gw_ hg (h_HB HB.out));have GE673:=Aside0.mk (gw_ hg (h_HB HB.out));replace HB:=Aside0.mk (below_step (h_HB HB.out) hb);clear hb hbox hg;obtain ⟨hcz7_0,hcz7_1,hfz7_0,hfz7_1⟩:=bz2_ BK673.out)|((with_reducible refine gate_callee (f:=40) rfl ?_);refine goesL_ (some 4) rfl rfl Try.func40 krT_ rfl #[.agg #[.int .i64 a0_0,.slice A0_1 l0_1.length c0_1]] rfl agT_ ?_;(with_reducible refine (spec_IsMatroid.calls k a0_0 _ _ l0_1 true _ ?side1 ?side2 A2.out).mono ?_);(case side1=>exact cC_ HR0_1.out);(case side2=>exact HC0_1.out);rintro e w8 ⟨rfl,hb⟩;refine ⟨_,rfl,?_⟩;replace BK673:=Aside0.mk (blkB_ BK673.out hb);replace HB:=Aside0.mk (below_step (h_HB HB.out) hb);(try clear hb);obtain ⟨hcz9_0,hcz9_1,hfz9_0,hfz9_1⟩:=bz2_ BK673.out;have p675:0≤(0:Int):=(by omega);have q675:0<(l0_1.length:Int):=odT_;obtain ⟨ad675,e675,hx675_0⟩:=Kd.at_int HR0_1.out 0 p675 q675;cases e675;have qi675:(0<l0_1.length)=True:=eq_true (by omega);(try rw [show ((0:Int)).toNat=0 from rfl] at hx675_0);(try rw [Addr.add_zero'] at hx675_0);replace hx675_0:=(HB.out.cell (World.block_lt_of_cell? w _ hx675_0)).trans hx675_0;replace p675:=eq_true p675;replace q675:=eq_true q675)|((with_reducible refine gate_callee (f:=26) rfl ?_);refine goesL_ (some 10) rfl rfl Try.func26 krT_ rfl #[.int .i64 (rd l0_1 0)] rfl agT_ ?_;(with_reducible refine (spec_CountOf.calls k (rd l0_1 0) t676 _ A5.out).mono ?_);rintro e w' ⟨rfl,⟨nd,rfl⟩⟩;refine ⟨_,rfl,?_⟩))
   go_ret
   exact ⟨eT_,h_HB HB.out⟩
  ·rw [if_neg c4] at H
   exact absurd H (by simp)
 ·replace c3:=Bool.eq_false_iff.mpr c3
  subst c3
  replace H:=bF_ H
  obtain rfl:=Option.some.inj H
  go_enter Try.func46,Try.ntmps46
  go_wp2_with (first|((with_reducible refine gate_dst (N:=1) rfl ?_);refine bx_ (N:=1) (cs:=#[.int .i64 a0_0,.slice A0_1 l0_1.length c0_1]) (t:=26) ?_;intro gb673 hg w10 hbox hb;have BK673:=Aside0.mk (hbox);have GW673:=Aside0.mk (gw_ hg (h_HB HB.out));have GE673:=Aside0.mk (gw_ hg (h_HB HB.out));replace HB:=Aside0.mk (below_step (h_HB HB.out) hb);clear hb hbox hg;obtain ⟨hcz11_0,hcz11_1,hfz11_0,hfz11_1⟩:=bz2_ BK673.out)|((with_reducible refine gate_callee (f:=40) rfl ?_);refine goesL_ (some 4) rfl rfl Try.func40 krT_ rfl #[.agg #[.int .i64 a0_0,.slice A0_1 l0_1.length c0_1]] rfl agT_ ?_;(with_reducible refine (spec_IsMatroid.calls k a0_0 _ _ l0_1 false _ ?side1 ?side2 A2.out).mono ?_);(case side1=>exact cC_ HR0_1.out);(case side2=>exact HC0_1.out);rintro e w12 ⟨rfl,hb⟩;refine ⟨_,rfl,?_⟩;replace BK673:=Aside0.mk (blkB_ BK673.out hb);replace HB:=Aside0.mk (below_step (h_HB HB.out) hb);(try clear hb)))
  go_ret
  exact ⟨eT_,h_HB HB.out⟩
/-! ### spec_IsSpanning: function 19 -/
def spec_IsSpanning.f (k:Nat) (a0_0:Int) (l0_1:List Int) (a1:Int):Option (Bool):=(spec_RankOf.f k a0_0 l0_1 a1).bind fun t678=>(if t678≥0 then ((spec_RankOfMatroid.f k a0_0 l0_1).bind fun t679=>(some (t678==t679))) else (some false))
set_option maxHeartbeats 8000000 in
set_option maxRecDepth 100000 in
theorem spec_IsSpanning.calls (k:Nat) (a0_0:Int) (A0_1:Option Addr) (c0_1:Nat) (l0_1:List Int) (a1:Int) (r:Bool) (w:World) (hr0_1:Kd.C (Kd.int .i64) w A0_1 l0_1.length l0_1) (hc0_1:l0_1.length≤c0_1) (h:spec_IsSpanning.f k a0_0 l0_1 a1=some r) :
    Calls Try.prog 19 #[.agg #[.int .i64 a0_0,.slice A0_1 l0_1.length c0_1],.int .i64 a1] w fun e w'=>e=.returned (.bool r)∧Below w.heap.size w w':=by
 have hu26:=Try.underlying26
 have HR0_1:=Aside0.mk hr0_1
 have HC0_1:=Aside0.mk hc0_1
 clear hr0_1 hc0_1
 have HB:=Aside0.mk (Below.refl w.heap.size w)
 unfold spec_IsSpanning.f at h
 have H:=h
 clear h
 replace H:=bnd_ H;obtain ⟨t678,A3,H⟩:=H
 by_cases c4:t678≥0
 ·rw [if_pos c4] at H
  have c4b0:decide (0≤t678)=true:=decide_eq_true c4
  clear c4
  replace H:=bnd_ H;obtain ⟨t679,A5,H⟩:=H
  obtain rfl:=Option.some.inj H
  go_enter Try.func19,Try.ntmps19
  go_wp2_with (first|((with_reducible refine gate_dst (N:=2) rfl ?_);refine bx_ (N:=2) (cs:=#[.int .i64 a0_0,.slice A0_1 l0_1.length c0_1]) (t:=26) ?_;intro gb677 hg w6 hbox hb;have BK677:=Aside0.mk (hbox);have GW677:=Aside0.mk (gw_ hg (h_HB HB.out));have GE677:=Aside0.mk (gw_ hg (h_HB HB.out));replace HB:=Aside0.mk (below_step (h_HB HB.out) hb);clear hb hbox hg;obtain ⟨hcz7_0,hcz7_1,hfz7_0,hfz7_1⟩:=bz2_ BK677.out)|((with_reducible refine gate_callee (f:=11) rfl ?_);refine goesL_ (some 8) rfl rfl Try.func11 krT_ rfl #[.agg #[.int .i64 a0_0,.slice A0_1 l0_1.length c0_1],.int .i64 a1] rfl agT_ ?_;(with_reducible refine (spec_RankOf.calls k a0_0 _ _ l0_1 a1 t678 _ ?side1 ?side2 A3.out).mono ?_);(case side1=>exact cC_ HR0_1.out);(case side2=>exact HC0_1.out);rintro e w8 ⟨rfl,hb⟩;refine ⟨_,rfl,?_⟩;replace BK677:=Aside0.mk (blkB_ BK677.out hb);replace HB:=Aside0.mk (below_step (h_HB HB.out) hb);(try clear hb);obtain ⟨hcz9_0,hcz9_1,hfz9_0,hfz9_1⟩:=bz2_ BK677.out)|(go_at_call 46;(with_reducible refine (spec_RankOfMatroid.calls k a0_0 _ _ l0_1 t679 _ ?side1 ?side2 A5.out).mono ?_);(case side1=>exact cC_ HR0_1.out);(case side2=>exact HC0_1.out);rintro e w10 ⟨rfl,hb⟩;replace BK677:=Aside0.mk (blkB_ BK677.out hb);replace HB:=Aside0.mk (below_step (h_HB HB.out) hb);(try clear hb)))
  go_ret
  exact ⟨eT_,h_HB HB.out⟩
 ·rw [if_neg c4] at H
  have c4b0:decide (0≤t678)=false:=decide_eq_false c4
  clear c4
  obtain rfl:=Option.some.inj H
  go_enter Try.func19,Try.ntmps19
  go_wp2_with (first|((with_reducible refine gate_dst (N:=2) rfl ?_);refine bx_ (N:=2) (cs:=#[.int .i64 a0_0,.slice A0_1 l0_1.length c0_1]) (t:=26) ?_;intro gb677 hg w11 hbox hb;have BK677:=Aside0.mk (hbox);have GW677:=Aside0.mk (gw_ hg (h_HB HB.out));have GE677:=Aside0.mk (gw_ hg (h_HB HB.out));replace HB:=Aside0.mk (below_step (h_HB HB.out) hb);clear hb hbox hg;obtain ⟨hcz12_0,hcz12_1,hfz12_0,hfz12_1⟩:=bz2_ BK677.out)|((with_reducible refine gate_callee (f:=11) rfl ?_);refine goesL_ (some 8) rfl rfl Try.func11 krT_ rfl #[.agg #[.int .i64 a0_0,.slice A0_1 l0_1.length c0_1],.int .i64 a1] rfl agT_ ?_;(with_reducible refine (spec_RankOf.calls k a0_0 _ _ l0_1 a1 t678 _ ?side1 ?side2 A3.out).mono ?_);(case side1=>exact cC_ HR0_1.out);(case side2=>exact HC0_1.out);rintro e w13 ⟨rfl,hb⟩;refine ⟨_,rfl,?_⟩;replace BK677:=Aside0.mk (blkB_ BK677.out hb);replace HB:=Aside0.mk (below_step (h_HB HB.out) hb);(try clear hb)))
  go_ret
  exact ⟨eT_,h_HB HB.out⟩
/-! ### spec_BasesOf: function 20 -/
def spec_BasesOf.l0:Nat→Int→List Int→Int→Int→Int→List Int→Option (List Int)
 | 0,_,_,_,_,_,_=>none
 | k+1,x1,x5,x6,x7,x681000,x681001=>if x7<(x681001.length:Int) then (if 0≤x7 then ((spec_CountOf.f k (Go.bits .and .i64 (rd x681001 x7) x1)).bind fun t686=>(if t686=x6 then (if x5.length<17592186044416 then (spec_BasesOf.l0 k x1 (x5++[Go.bits .and .i64 (rd x681001 x7) x1]) x6 (wrap64 (x7+1)) x681000 x681001) else (none)) else (spec_BasesOf.l0 k x1 x5 x6 (wrap64 (x7+1)) x681000 x681001))) else (none)) else ((spec_SortSets.f k x5).bind fun t691=>(some t691))
def spec_BasesOf.f (k:Nat) (a0_0:Int) (l0_1:List Int) (a1:Int):Option (List Int):=(some (([]:List Int):List Int)).bind fun y681=>((spec_RankOf.f k a0_0 l0_1 a1).bind fun t684=>(if t684<0 then (some y681) else (spec_BasesOf.l0 k a1 y681 t684 0 a0_0 l0_1)))
set_option maxHeartbeats 8000000 in
set_option maxRecDepth 100000 in
theorem spec_BasesOf.calls (k:Nat) (a0_0:Int) (A0_1:Option Addr) (c0_1:Nat) (l0_1:List Int) (a1:Int) (r:List Int) (w:World) (hr0_1:Kd.C (Kd.int .i64) w A0_1 l0_1.length l0_1) (hc0_1:l0_1.length≤c0_1) (h:spec_BasesOf.f k a0_0 l0_1 a1=some r) :
    Calls Try.prog 20 #[.agg #[.int .i64 a0_0,.slice A0_1 l0_1.length c0_1],.int .i64 a1] w fun e w'=>∃ v0_:Value,e=.returned (v0_)∧Kd.R (Kd.int .i64) 3 w' w.heap.size (fun _=>True) v0_ r∧Below w.heap.size w w':=by
 have hu26:=Try.underlying26
 have HR0_1:=Aside0.mk hr0_1
 have HC0_1:=Aside0.mk hc0_1
 clear hr0_1 hc0_1
 have HB:=Aside0.mk (Below.refl w.heap.size w)
 unfold spec_BasesOf.f at h
 have H:=h
 clear h
 obtain ⟨y681,hy681⟩:∃ y_:List Int,y_=(([]:List Int)):=⟨_,rfl⟩
 replace H:((spec_RankOf.f k a0_0 l0_1 a1).bind fun t684=>(if t684<0 then (some y681) else (spec_BasesOf.l0 k a1 y681 t684 0 a0_0 l0_1)))=some r:=by first|(rw [hy681];with_reducible exact H)|(have H2_:=(Option.bind_some _ _).symm.trans H;rw [hy681];with_reducible exact H2_)|(have H2_:=(Option.bind_some _ _).symm.trans H;with_reducible exact H2_)|with_reducible exact H|(rw [hy681];exact H)|exact H
 have Ny681:=Aside0.mk hy681
 clear hy681
 replace H:=bnd_ H;obtain ⟨t684,A3,H⟩:=H
 rcases gsb_ H with ⟨c4b0,H⟩|⟨c4b0,H⟩
 ·obtain rfl:=Option.some.inj H
  go_enter Try.func20,Try.ntmps20
  go_wp2_with (first|((with_reducible refine gate_dst (N:=2) rfl ?_);refine bx_ (N:=2) (cs:=#[.int .i64 a0_0,.slice A0_1 l0_1.length c0_1]) (t:=26) ?_;intro gb680 hg w5 hbox hb;have BK680:=Aside0.mk (hbox);have GW680:=Aside0.mk (gw_ hg (h_HB HB.out));have GE680:=Aside0.mk (gw_ hg (h_HB HB.out));replace HB:=Aside0.mk (below_step (h_HB HB.out) hb);clear hb hbox hg)|((with_reducible refine gate_dst (N:=8) rfl ?_);refine Kd.R_lit (Kd.int .i64) _ 3 ?hg (N:=8) ?hd (xs:=([]:List Int)) (inner:=[]) (ok:=fun _=>True) (okp:=fun _=>True) ?hr ?hp (fun _ hk=>hk) trivial (Below.refl _ _) (Nat.le_refl _) (by simp) ?_;(case hd=>rfl);(case hg=>rfl);(case hr=>exact hrT_);(case hp=>exact (Reps.none _ _));intro v682 w6 ho7 hb hg_ hnew_;clear hg_ hnew_;(first|rw [← Ny681.out] at ho7|(simp only [Int.reduceToNat] at ho7;rw [← Ny681.out] at ho7));have HO683:=Aside0.mk (Kd.R_lower ho7 (below_size (h_HB HB.out)));replace BK680:=Aside0.mk (blkB_ BK680.out hb);replace HB:=Aside0.mk (below_step (h_HB HB.out) hb);clear hb ho7;obtain ⟨hcz8_0,hcz8_1,hfz8_0,hfz8_1⟩:=bz2_ BK680.out)|((with_reducible refine gate_callee (f:=11) rfl ?_);refine goesL_ (some 11) rfl rfl Try.func11 krT_ rfl #[.agg #[.int .i64 a0_0,.slice A0_1 l0_1.length c0_1],.int .i64 a1] rfl agT_ ?_;(with_reducible refine (spec_RankOf.calls k a0_0 _ _ l0_1 a1 t684 _ ?side1 ?side2 A3.out).mono ?_);(case side1=>exact cC_ HR0_1.out);(case side2=>exact HC0_1.out);rintro e w9 ⟨rfl,hb⟩;refine ⟨_,rfl,?_⟩;replace HO683:=Aside0.mk (Kd.R_below (kRC_ HO683.out) hb);replace BK680:=Aside0.mk (blkB_ BK680.out hb);replace HB:=Aside0.mk (below_step (h_HB HB.out) hb);(try clear hb)))
  go_ret
  exact ⟨_,eT_,kRC_ HO683.out,h_HB HB.out⟩
 have H':=Aside0.mk H
 clear H
 go_enter Try.func20,Try.ntmps20
 go_wp2_with (first|((with_reducible refine gate_dst (N:=2) rfl ?_);refine bx_ (N:=2) (cs:=#[.int .i64 a0_0,.slice A0_1 l0_1.length c0_1]) (t:=26) ?_;intro gb680 hg w10 hbox hb;have BK680:=Aside0.mk (hbox);have GW680:=Aside0.mk (gw_ hg (h_HB HB.out));have GE680:=Aside0.mk (gw_ hg (h_HB HB.out));replace HB:=Aside0.mk (below_step (h_HB HB.out) hb);clear hb hbox hg)|((with_reducible refine gate_dst (N:=8) rfl ?_);refine Kd.R_lit (Kd.int .i64) _ 3 ?hg (N:=8) ?hd (xs:=([]:List Int)) (inner:=[]) (ok:=fun _=>True) (okp:=fun _=>True) ?hr ?hp (fun _ hk=>hk) trivial (Below.refl _ _) (Nat.le_refl _) (by simp) ?_;(case hd=>rfl);(case hg=>rfl);(case hr=>exact hrT_);(case hp=>exact (Reps.none _ _));intro v682 w11 ho12 hb hg_ hnew_;clear hg_ hnew_;(first|rw [← Ny681.out] at ho12|(simp only [Int.reduceToNat] at ho12;rw [← Ny681.out] at ho12));have HO683:=Aside0.mk (Kd.R_lower ho12 (below_size (h_HB HB.out)));replace BK680:=Aside0.mk (blkB_ BK680.out hb);replace HB:=Aside0.mk (below_step (h_HB HB.out) hb);clear hb ho12;obtain ⟨hcz13_0,hcz13_1,hfz13_0,hfz13_1⟩:=bz2_ BK680.out)|((with_reducible refine gate_callee (f:=11) rfl ?_);refine goesL_ (some 11) rfl rfl Try.func11 krT_ rfl #[.agg #[.int .i64 a0_0,.slice A0_1 l0_1.length c0_1],.int .i64 a1] rfl agT_ ?_;(with_reducible refine (spec_RankOf.calls k a0_0 _ _ l0_1 a1 t684 _ ?side1 ?side2 A3.out).mono ?_);(case side1=>exact cC_ HR0_1.out);(case side2=>exact HC0_1.out);rintro e w14 ⟨rfl,hb⟩;refine ⟨_,rfl,?_⟩;replace HO683:=Aside0.mk (Kd.R_below (kRC_ HO683.out) hb);replace BK680:=Aside0.mk (blkB_ BK680.out hb);replace HB:=Aside0.mk (below_step (h_HB HB.out) hb);(try clear hb)))
 go_loopg [5,7] k (fun kq v5 v7 w'=>∃ (x5_1:List Int) (x7_1:Int),v7=.int .i64 x7_1∧Aside0 (spec_BasesOf.l0 kq a1 x5_1 t684 x7_1 a0_0 l0_1=some r)∧Aside0 (kq≤k)∧Aside0 (Kd.R (Kd.int .i64) 3 w' w.heap.size (fun _=>True) v5 x5_1)∧Aside0 (w'.heap[gb680]?=some (.cells #[.int .i64 a0_0,(.slice A0_1 l0_1.length c0_1)] 26 (0,0)))∧Aside0 (Below w.heap.size w w'))
 case atStart=>exact ⟨(y681),(0),sT_,H',⟨Nat.le_refl _⟩,⟨kRC_ HO683.out⟩,⟨bkC_ BK680.out⟩,⟨h_HB HB.out⟩⟩
 case round =>
 clear H'
 try clear c1
 try clear c2
 try clear p2
 try clear c4
 try clear c4b0
 try clear c11
 try clear hcz13_0
 try clear hcz13_1
 try clear hcz8_0
 try clear hcz8_1
 try clear hfz13_0
 try clear hfz13_1
 try clear hfz8_0
 try clear hfz8_1
 obtain ⟨x5_1,x7_1,rfl,HA,HK1,HO_5,BK680,HB⟩:=hrel
 cases gk with
 | zero=>exact absurd HA.out (by simp [spec_BasesOf.l0])
 | succ k1 =>
 have H:=HA.out
 clear HA
 simp only [spec_BasesOf.l0] at H
 rcases gsn_ H with ⟨c15b0,H⟩|⟨c15b0,H⟩
 ·replace H:=bnd_ H;obtain ⟨t691,A23,H⟩:=H
  obtain rfl:=Option.some.inj H
  obtain ⟨hcz24_0,hcz24_1,hfz24_0,hfz24_1⟩:=bz2_ BK680.out
  obtain ⟨Ao25,co25,eo25⟩:=Kd.R_slice HO_5.out
  subst eo25
  go_wp2_with (first|((with_reducible refine gate_callee (f:=47) rfl ?_);refine goesL_ (some 43) rfl rfl Try.func47 krT_ rfl #[.slice Ao25 x5_1.length co25] rfl agT_ ?_;(with_reducible refine (spec_SortSets.calls k1 _ _ x5_1 t691 _ ?side1 ?side2 A23.out).mono ?_);(case side1=>repeat (first|exact (Kd.R_reads' HO_5.out).2.2|(with_reducible refine Kd.C_alloc ?_ _)|(with_reducible refine Kd.C_drewN ?_ _)|(with_reducible refine Kd.C_drew ?_)));(case side2=>exact (Kd.R_reads' HO_5.out).2.1);rintro e w26 ⟨v692,rfl,ho0,hb⟩;refine ⟨_,rfl,?_⟩;have HO693:=Aside0.mk (Kd.R_lower (Kd.R_new' ho0 (Kd.R_lt (kRC_ HO_5.out))) (below_size (h_HB HB.out)));replace HO_5:=Aside0.mk (Kd.R_elder' (kRC_ HO_5.out) (Kd.R_base ho0) hb);replace BK680:=Aside0.mk (blkB_ BK680.out hb);replace HB:=Aside0.mk (below_step (h_HB HB.out) hb);(try clear hb);(try clear hb2);(try clear hk);(try clear hi);(try clear ho0)))
  go_ret
  exact ⟨_,eT_,by (with_reducible repeat (first|apply Kd.R_alloc|apply Kd.R_drewN|apply Kd.R_drew));exact Kd.R_mono HO693.out (fun _ hk=>trivial),h_HB HB.out⟩
 replace H:=gsm_ H;obtain ⟨c16b0,H⟩:=H
 replace H:=bnd_ H;obtain ⟨t686,A17,H⟩:=H
 by_cases c18:t686=t684
 ·rw [if_pos c18] at H
  have c18b0:(t686==t684)=true:=beq_iff_eq.mpr c18
  have c18b1:(t686 != t684)=false:=bne_eq_false_iff_eq.mpr c18
  clear c18
  by_cases c19:x5_1.length<17592186044416
  rotate_left
  ·rw [if_neg c19] at H
   exact absurd H (by simp)
  rw [if_pos c19] at H
  have LMc19:=Aside0.mk c19
  clear c19
  obtain ⟨y688,hy688⟩:∃ y_:List Int,y_=(x5_1++[Go.bits .and .i64 (rd l0_1 x7_1) a1]):=⟨_,rfl⟩
  replace H:(spec_BasesOf.l0 k1 a1 y688 t684 (wrap64 (x7_1+1)) a0_0 l0_1)=some r:=by first|(rw [hy688];with_reducible exact H)|(have H2_:=(Option.bind_some _ _).symm.trans H;rw [hy688];with_reducible exact H2_)|(have H2_:=(Option.bind_some _ _).symm.trans H;with_reducible exact H2_)|with_reducible exact H|(rw [hy688];exact H)|exact H
  have Ny688:=Aside0.mk hy688
  clear hy688
  have H':=Aside0.mk H
  clear H
  obtain ⟨hcz20_0,hcz20_1,hfz20_0,hfz20_1⟩:=bz2_ BK680.out
  obtain ⟨ad685,e685,hx685_0,p685,q685⟩:=aiI_ HR0_1.out x7_1
  cases e685
  replace hx685_0:=(HB.out.cell (World.block_lt_of_cell? w _ hx685_0)).trans hx685_0
  go_wp2_with (first|((with_reducible refine gate_callee (f:=26) rfl ?_);refine goesL_ (some 29) rfl rfl Try.func26 krT_ rfl #[.int .i64 (Go.bits .and .i64 (rd l0_1 x7_1) a1)] rfl agT_ ?_;(with_reducible refine (spec_CountOf.calls k1 (Go.bits .and .i64 (rd l0_1 x7_1) a1) t686 _ A17.out).mono ?_);rintro e w' ⟨rfl,⟨nd,rfl⟩⟩;refine ⟨_,rfl,?_⟩;obtain ⟨ad687,e687,hx687_0,p687,q687⟩:=aiI_ HR0_1.out x7_1;obtain rfl:ad685=ad687:=(by injection e687);replace hx687_0:=(HB.out.cell (World.block_lt_of_cell? w _ hx687_0)).trans hx687_0)|((with_reducible refine gate_builtin (b:=.append) (xs:=#[.tmp 32,.tmp 40]) rfl ?_);at_builtin;refine Kd.R_append (Kd.int .i64) (w0:=w) w.heap.size rfl (.tmp 32) (.tmp 40) 24 3 (.int .i64 0) 8 rfl Try.underlying24 info3 rfl (by decide) (by omega) u5 x5_1 (Go.bits .and .i64 (rd l0_1 x7_1) a1) [.int .i64 (Go.bits .and .i64 (rd l0_1 x7_1) a1)] (fun _=>True) (fun _=>False) rfl rfl ?aP (fun _ hk=>hk.elim) ?aF ?aO ?aB ?aS ?aL ?_;(case aP=>exact rfl);(case aB=>exact (h_HB HB.out));(case aF=>exact (fun _ _=>trivial));(case aO=>exact (kRC_ HO_5.out));(case aS=>exact (below_size (h_HB HB.out)));(case aL=>have:=LMc19.out;omega);intro v689 w21 ho hb hg hat;rw [← Ny688.out] at ho;replace BK680:=Aside0.mk (blk_grown (bkC_ BK680.out) hg (Kd.R_ne HO_5.out BK680.out (by decide)));replace HB:=Aside0.mk (hb);have HO690:=Aside0.mk (ho);clear HO_5;clear ho hb hg hat))
  go_roundg k1
  case measure=>have:=HK1.out;omega
  case rel=>exact ⟨(y688),(wrap64 (x7_1+1)),sT_,H',⟨by have:=HK1.out;omega⟩,⟨kRC_ HO690.out⟩,⟨bkC_ BK680.out⟩,⟨h_HB HB.out⟩⟩
 ·rw [if_neg c18] at H
  have c18b0:(t686==t684)=false:=beq_eq_false_iff_ne.mpr c18
  have c18b1:(t686 != t684)=true:=bne_iff_ne.mpr c18
  have H':=Aside0.mk H
  clear H
  obtain ⟨hcz22_0,hcz22_1,hfz22_0,hfz22_1⟩:=bz2_ BK680.out
  obtain ⟨ad685,e685,hx685_0,p685,q685⟩:=aiI_ HR0_1.out x7_1
  cases e685
  replace hx685_0:=(HB.out.cell (World.block_lt_of_cell? w _ hx685_0)).trans hx685_0
  go_wp2_with (first|((with_reducible refine gate_callee (f:=26) rfl ?_);refine goesL_ (some 29) rfl rfl Try.func26 krT_ rfl #[.int .i64 (Go.bits .and .i64 (rd l0_1 x7_1) a1)] rfl agT_ ?_;(with_reducible refine (spec_CountOf.calls k1 (Go.bits .and .i64 (rd l0_1 x7_1) a1) t686 _ A17.out).mono ?_);rintro e w' ⟨rfl,⟨nd,rfl⟩⟩;refine ⟨_,rfl,?_⟩))
  go_roundg k1
  case measure=>have:=HK1.out;omega
  case rel=>exact ⟨(x5_1),(wrap64 (x7_1+1)),sT_,H',⟨by have:=HK1.out;omega⟩,⟨kRC_ HO_5.out⟩,⟨bkC_ BK680.out⟩,⟨h_HB HB.out⟩⟩
/-! ### impl_LoopsOf: function 21 -/
def impl_LoopsOf.l0:Nat→Int→List Int→Int→Int→Option (Int)
 | 0,_,_,_,_=>none
 | k+1,x3,x13,x14,x15=>if x15<x14 then (if 0≤x15 then (if x15<(x13.length:Int) then (impl_LoopsOf.l0 k (Go.bits .andNot .i64 x3 (rd x13 x15)) x13 x14 (wrap64 (x15+1))) else (none)) else (none)) else (some x3)
def impl_LoopsOf.f (k:Nat) (a0_0:Int) (l0_1:List Int):Option (Int):=(impl_IsMatroid.f k a0_0 l0_1).bind fun t695=>(if t695=true then ((impl_FullSet.f a0_0).bind fun t696=>(impl_LoopsOf.l0 k t696 l0_1 (l0_1.length:Int) 0)) else (some 0))
set_option maxHeartbeats 8000000 in
set_option maxRecDepth 100000 in
theorem impl_LoopsOf.calls (k:Nat) (a0_0:Int) (A0_1:Option Addr) (c0_1:Nat) (l0_1:List Int) (r:Int) (w:World) (hr0_1:Kd.C (Kd.int .i64) w A0_1 l0_1.length l0_1) (hc0_1:l0_1.length≤c0_1) (h:impl_LoopsOf.f k a0_0 l0_1=some r) :
    Calls Try.prog 21 #[.agg #[.int .i64 a0_0,.slice A0_1 l0_1.length c0_1]] w fun e w'=>e=.returned (.int .i64 r)∧Below w.heap.size w w':=by
 have hu26:=Try.underlying26
 have HR0_1:=Aside0.mk hr0_1
 have HC0_1:=Aside0.mk hc0_1
 clear hr0_1 hc0_1
 have HB:=Aside0.mk (Below.refl w.heap.size w)
 unfold impl_LoopsOf.f at h
 have H:=h
 clear h
 replace H:=bnd_ H;obtain ⟨t695,A2,H⟩:=H
 by_cases c3:t695=true
 ·subst c3
  replace H:=bT_ H
  replace H:=bnd_ H;obtain ⟨t696,A4,H⟩:=H
  have H':=Aside0.mk H
  clear H
  go_enter Try.func21,Try.ntmps21
  go_wp2_with (first|((with_reducible refine gate_dst (N:=1) rfl ?_);refine bx_ (N:=1) (cs:=#[.int .i64 a0_0,.slice A0_1 l0_1.length c0_1]) (t:=26) ?_;intro gb694 hg w5 hbox hb;have BK694:=Aside0.mk (hbox);have GW694:=Aside0.mk (gw_ hg (h_HB HB.out));have GE694:=Aside0.mk (gw_ hg (h_HB HB.out));replace HB:=Aside0.mk (below_step (h_HB HB.out) hb);clear hb hbox hg;obtain ⟨hcz6_0,hcz6_1,hfz6_0,hfz6_1⟩:=bz2_ BK694.out)|((with_reducible refine gate_callee (f:=44) rfl ?_);refine goesL_ (some 7) rfl rfl Try.func44 krT_ rfl #[.agg #[.int .i64 a0_0,.slice A0_1 l0_1.length c0_1]] rfl agT_ ?_;(with_reducible refine (impl_IsMatroid.calls k a0_0 _ _ l0_1 true _ ?side1 ?side2 A2.out).mono ?_);(case side1=>exact cC_ HR0_1.out);(case side2=>exact HC0_1.out);rintro e w7 ⟨rfl,hb⟩;refine ⟨_,rfl,?_⟩;replace BK694:=Aside0.mk (blkB_ BK694.out hb);replace HB:=Aside0.mk (below_step (h_HB HB.out) hb);(try clear hb);obtain ⟨hcz8_0,hcz8_1,hfz8_0,hfz8_1⟩:=bz2_ BK694.out)|((with_reducible refine gate_callee (f:=48) rfl ?_);refine goesL_ (some 11) rfl rfl Try.func48 krT_ rfl #[.int .i64 a0_0] rfl agT_ ?_;(with_reducible refine (impl_FullSet.calls a0_0 t696 _ A4.out).mono ?_);rintro e w' ⟨rfl,⟨nd,rfl⟩⟩;refine ⟨_,rfl,?_⟩))
  go_loopg [3,15] k (fun kq v3 v15 w'=>∃ (x3_1:Int) (x15_1:Int),v3=.int .i64 x3_1∧v15=.int .i64 x15_1∧Aside0 (impl_LoopsOf.l0 kq x3_1 l0_1 (l0_1.length:Int) x15_1=some r)∧Aside0 (kq≤k)∧Aside0 (w'.heap[gb694]?=some (.cells #[.int .i64 a0_0,(.slice A0_1 l0_1.length c0_1)] 26 (0,0)))∧Aside0 (Below w.heap.size w w'))
  case atStart=>exact ⟨(t696),(0),sT_,sT_,H',⟨Nat.le_refl _⟩,⟨bkC_ BK694.out⟩,⟨h_HB HB.out⟩⟩
  case round =>
   clear H'
   try clear c2
   try clear p2
   try clear c3
   try clear c4
   try clear hcz6_0
   try clear hcz6_1
   try clear hcz8_0
   try clear hcz8_1
   try clear hfz6_0
   try clear hfz6_1
   try clear hfz8_0
   try clear hfz8_1
   obtain ⟨x3_1,x15_1,rfl,rfl,HA,HK1,BK694,HB⟩:=hrel
   cases gk with
   | zero=>exact absurd HA.out (by simp [impl_LoopsOf.l0])
   | succ k1 =>
    have H:=HA.out
    clear HA
    simp only [impl_LoopsOf.l0] at H
    rcases gsb_ H with ⟨c9b0,H⟩|⟨c9b0,H⟩
    ·replace H:=gsm_ H;obtain ⟨c10b0,H⟩:=H
     replace H:=gsm_ H;obtain ⟨c11b0,H⟩:=H
     have H':=Aside0.mk H
     clear H
     obtain ⟨ad697,e697,hx697_0,p697,q697⟩:=aiI_ HR0_1.out x15_1
     cases e697
     replace hx697_0:=(HB.out.cell (World.block_lt_of_cell? w _ hx697_0)).trans hx697_0
     go_wp2
     go_roundg k1
     case measure=>have:=HK1.out;omega
     case rel=>exact ⟨(Go.bits .andNot .i64 x3_1 (rd l0_1 x15_1)),(wrap64 (x15_1+1)),sT_,sT_,H',⟨by have:=HK1.out;omega⟩,⟨bkC_ BK694.out⟩,⟨h_HB HB.out⟩⟩
    ·obtain rfl:=Option.some.inj H
     go_wp2
     go_ret
     exact ⟨eT_,h_HB HB.out⟩
 ·replace c3:=Bool.eq_false_iff.mpr c3
  subst c3
  replace H:=bF_ H
  obtain rfl:=Option.some.inj H
  go_enter Try.func21,Try.ntmps21
  go_wp2_with (first|((with_reducible refine gate_dst (N:=1) rfl ?_);refine bx_ (N:=1) (cs:=#[.int .i64 a0_0,.slice A0_1 l0_1.length c0_1]) (t:=26) ?_;intro gb694 hg w12 hbox hb;have BK694:=Aside0.mk (hbox);have GW694:=Aside0.mk (gw_ hg (h_HB HB.out));have GE694:=Aside0.mk (gw_ hg (h_HB HB.out));replace HB:=Aside0.mk (below_step (h_HB HB.out) hb);clear hb hbox hg;obtain ⟨hcz13_0,hcz13_1,hfz13_0,hfz13_1⟩:=bz2_ BK694.out)|((with_reducible refine gate_callee (f:=44) rfl ?_);refine goesL_ (some 7) rfl rfl Try.func44 krT_ rfl #[.agg #[.int .i64 a0_0,.slice A0_1 l0_1.length c0_1]] rfl agT_ ?_;(with_reducible refine (impl_IsMatroid.calls k a0_0 _ _ l0_1 false _ ?side1 ?side2 A2.out).mono ?_);(case side1=>exact cC_ HR0_1.out);(case side2=>exact HC0_1.out);rintro e w14 ⟨rfl,hb⟩;refine ⟨_,rfl,?_⟩;replace BK694:=Aside0.mk (blkB_ BK694.out hb);replace HB:=Aside0.mk (below_step (h_HB HB.out) hb);(try clear hb)))
  go_ret
  exact ⟨eT_,h_HB HB.out⟩
end Go.Proofs.Ytekegbacnagbcaa.P
