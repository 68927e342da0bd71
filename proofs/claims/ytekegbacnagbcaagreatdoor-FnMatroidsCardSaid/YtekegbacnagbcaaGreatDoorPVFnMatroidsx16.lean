-- written by gprint (a program of this session's, round the kit's print), out of the translation and hand-written texts
import Derived.Test.YtekegbacnagbcaaGreatDoorPVFnMatroidsx0
import Derived.Test.YtekegbacnagbcaaGreatDoorPVFnMatroidsx6
import Derived.Test.YtekegbacnagbcaaGreatDoorPVFnMatroidsx10
import Derived.Test.YtekegbacnagbcaaGreatDoorPVFnMatroidsx12
import Derived.Test.YtekegbacnagbcaaGreatDoorPVFnMatroidsx14
import Derived.Test.YtekegbacnagbcaaGreatDoorPVFnMatroidsx15
namespace Go.Proofs.YtekegbacnagbcaaGreatDoor.P
open Go.RowKit Go.Proofs.YtekegbacnagbcaaGreatDoorW.PrintWords Go.Proofs.YtekegbacnagbcaaGreatDoorW.PrintLast Go.Proofs.YtekegbacnagbcaaGreatDoorW.PrintMore
attribute [local go_sem] max2_int min2_int max_two min_two max_three min_three max_four min_four   -- for this text's walks alone
set_option linter.unusedVariables false
set_option linter.unusedSimpArgs false
/-! ### spec_l4Copy: function 102 -/
def spec_l4Copy.f (a0_0:Int) (l0_1:List Int):Option (Int × List Int):=(some (([]:List Int):List Int)).bind fun y617=>(if y617.length+l0_1.length<17592186044416 then (some (a0_0,(y617++l0_1))) else (none))
def spec_l4Copy.T1:Bool × List (List Nat × List Nat):=(true,[([],[]),([0],[0]),([],[]),([],[]),([3],[3]),([2,4],[2,4]),([1,5],[1,5]),([6,5,0,1,2,3,4,5,6],[6])])
def spec_l4Copy.B1:List Nat:=[0,1,0,0,8,28,63,127]
theorem spec_l4Copy.tab1:rtab .any (opsOf Tryz.f102 1)=spec_l4Copy.T1:=by kernel_rfl
theorem spec_l4Copy.bits1:waitsOk spec_l4Copy.T1.2 spec_l4Copy.B1=true:=by kernel_rfl
set_option maxHeartbeats 8000000 in
set_option maxRecDepth 100000 in
theorem spec_l4Copy.calls (a0_0:Int) (A0_1:Option Addr) (c0_1:Nat) (l0_1:List Int) (r1:Int) (r2:List Int) (w:World) (hr0_1:Kd.C (Kd.int .i64) w A0_1 l0_1.length l0_1) (hc0_1:l0_1.length≤c0_1) (h:spec_l4Copy.f a0_0 l0_1=some (r1,r2)) :
    Calls Tryz.prog 102 #[.agg #[.int .i64 a0_0,.slice A0_1 l0_1.length c0_1]] w fun e w'=>∃ v1_:Value,e=.returned (.agg #[.int .i64 r1,v1_])∧Kd.R (Kd.int .i64) 3 w' w.heap.size (fun _=>True) v1_ r2∧Below w.heap.size w w':=by
 have hu24:=Tryz.underlying24
 have HR0_1:=Aside0.mk hr0_1
 have HC0_1:=Aside0.mk hc0_1
 clear hr0_1 hc0_1
 have HB:=Aside0.mk (Below.refl w.heap.size w)
 unfold spec_l4Copy.f at h
 have H:=h
 clear h
 replace H:=sy_ H;obtain ⟨y617,Ny617,H⟩:=H
 by_cases c2:y617.length+l0_1.length<17592186044416
 rotate_left
 ·rw [if_neg c2] at H
  exact absurd H (by simp)
 rw [if_pos c2] at H
 have LMc2:=Aside0.mk c2
 clear c2
 obtain ⟨y620,hy620⟩:∃ y_:List Int,y_=(y617++l0_1):=⟨_,rfl⟩
 rw [← hy620] at H
 have Ny620:=Aside0.mk hy620
 clear hy620
 simp only [Option.some.injEq,Prod.mk.injEq] at H
 obtain ⟨rfl,rfl⟩:=H
 go_enter Tryz.func102,Tryz.ntmps102
 try go_wp2_with (first|((with_reducible refine gate_dst (N:=1) rfl ?_);refine bx_ (N:=1) (cs:=#[.int .i64 a0_0,.slice A0_1 l0_1.length c0_1]) (t:=24) ?_;intro gb615 hg w3 hbox hb;have BK615:=Aside0.mk (hbox);have GW615:=Aside0.mk (gw_ hg (h_HB HB.out));have GE615:=Aside0.mk (gw_ hg (h_HB HB.out));replace HB:=Aside0.mk (below_step (h_HB HB.out) hb);clear hb hbox hg)|((with_reducible refine gate_dst (N:=2) rfl ?_);refine bx_ (N:=2) (cs:=#[.int .i64 0,.slice none 0 0]) (t:=24) ?_;intro gb616 hg w4 hbox hb;have BK616:=Aside0.mk (hbox);have GW616:=Aside0.mk (gw_ hg (h_HB HB.out));have GE616:=Aside0.mk (gw_ hg (h_HB HB.out));replace HB:=Aside0.mk (below_step (h_HB HB.out) hb);have NB615_616:=Aside0.mk (nbl_ hg (bkC_ BK615.out));have NB616_615:=Aside0.mk (nbg_ hg (bkC_ BK615.out));replace BK615:=Aside0.mk (blkB_ BK615.out hb);clear hb hbox hg))
 replace BK615:=Aside0.mk (blk_drew BK615.out);replace BK616:=Aside0.mk (blk_drew BK616.out);replace HB:=Aside0.mk (below_drew1 HB.out)
 refine start_ (n:=8) (S:=fun w'=>w'.cell? ⟨gb615,0,none⟩=some (.int .i64 a0_0)∧w'.cell? ⟨gb615,1,none⟩=some (.slice A0_1 l0_1.length c0_1)) (ds:=[]) #[F_,F_,F_,F_,F_,F_,F_,F_] krT_ rfl rfl ⟨(blk_cell BK615.out 0).trans rfl,(blk_cell BK615.out 1).trans rfl⟩ (fun hHeld=>?_);refine with_tabW spec_l4Copy.tab1 spec_l4Copy.bits1 (fun HT_ HW_=>?_)
 generalize w4.drew=w5 at BK615 BK616 HB hHeld ⊢
 refine pu_ 0 (some 3) (bm_ 8 1) rfl rfl HT_.out ?_
 refine pu_ 3 (some 6) (bm_ 8 9) rfl rfl HT_.out ?_
 refine take_ (i:=1) (N:=some 4) (v:=?_) (a':=?_) (bm_ 8 11) rfl rfl (take_ofW HT_.out HW_.out krT_) (fun _ _ _ h=>h) (Or.inl ⟨by rfl,?_⟩) hHeld ?_ ?_
 rotate_left
 ·rintro w' ⟨s0,s1⟩
  go_simp
  with_reducible rfl
 rotate_left;exact apT_
 refine take_ (i:=4) (N:=some 7) (v:=?_) (a':=?_) (bm_ 8 27) rfl rfl (take_ofW HT_.out HW_.out krT_) (fun _ _ _ h=>h) (Or.inl ⟨by rfl,?_⟩) hHeld ?_ ?_
 rotate_left
 ·rintro w' ⟨s0,s1⟩
  go_simp
  with_reducible rfl
 rotate_left;exact apT_
 refine one_ (i:=2) (N:=some 5) (bm_ 8 31) rfl rfl (one_of HT_.out krT_) (by decide) (fun K hK=>?_)
 refine Kd.R_lit_step (Kd.int .i64) _ 3 ?hg (N:=5) ?hd (xs:=([]:List Int)) (inner:=[]) (ok:=fun _=>True) (okp:=fun _=>True) ?hr ?hp (fun _ hk=>hk) trivial (Below.refl _ _) (Nat.le_refl _) (by simp) ?_;(case hd=>rfl);(case hg=>rfl);(case hr=>exact hrT_);(case hp=>exact (Reps.none _ _))
 intro v618 w6 ho7 hb hg_ hnew_
 clear hg_ hnew_
 (first|rw [← Ny617.out] at ho7|(simp only [Int.reduceToNat] at ho7;rw [← Ny617.out] at ho7))
 have HO619:=Aside0.mk (Kd.R_lower ho7 (below_size (h_HB HB.out)));replace BK615:=Aside0.mk (blkB_ BK615.out hb);replace BK616:=Aside0.mk (blkB_ BK616.out hb);replace HB:=Aside0.mk (below_step (h_HB HB.out) hb)
 clear hb ho7
 refine hK.out _ _ ⟨(blk_cell BK615.out 0).trans rfl,(blk_cell BK615.out 1).trans rfl⟩ (fun hHeld=>?_)
 clear hK K
 refine norm_ (a':=?_) ?_ ?_
 rotate_left
 ·show Act.put _ (some 5) _=_
  simp only [Act.put,List.setIfInBounds_toArray,List.set_cons_zero,List.set_cons_succ,i64_w,i32_w]
  rfl
 refine one_ (i:=5) (N:=some 8) (bm_ 8 63) rfl rfl (one_of HT_.out krT_) (by decide) (fun K hK=>?_)
 refine Kd.R_append_rows_step (Kd.int .i64) (w0:=w) w.heap.size (by rfl) (.tmp 5) (.tmp 7) 22 3 (.int .i64 0) 8 rfl Tryz.underlying22 info3 rfl (by decide) (by omega) v618 y617 l0_1 _ _ _ (fun _=>True) (fun _=>False) rfl rfl ?aO ?aR (fun _ _ h=>h) (fun _ h=>h.elim) ?aF ?aB ?aS ?aL ?_
 (case aR=>exact cC_ HR0_1.out)
 (case aB=>exact (h_HB HB.out))
 (case aF=>exact (fun _ _=>trivial))
 (case aO=>exact (kRC_ HO619.out))
 (case aS=>exact (below_size (h_HB HB.out)))
 (case aL=>have:=LMc2.out;omega)
 intro v621 w8 ho hb hg hat
 rw [← Ny620.out] at ho
 replace BK615:=Aside0.mk (blk_grown (bkC_ BK615.out) hg (Kd.R_ne HO619.out BK615.out (by decide)));replace BK616:=Aside0.mk (blk_grown (bkC_ BK616.out) hg (Kd.R_ne HO619.out BK616.out (by decide)));replace HB:=Aside0.mk (hb);have HO622:=Aside0.mk (ho);clear HO619
 clear ho hb hg hat
 obtain ⟨Ao9,co9,eo9⟩:=Kd.R_slice HO622.out
 (first|subst eo9|(injection eo9 with f1_ f2_ f3_;have f4_:=f1_.symm;have f5_:=f3_.symm;clear f1_ f2_ f3_;subst f4_;subst f5_))
 refine hK.out _ _ ⟨(blk_cell BK615.out 0).trans rfl,(blk_cell BK615.out 1).trans rfl⟩ (fun hHeld=>?_)
 clear hK K
 refine norm_ (a':=?_) ?_ ?_
 rotate_left
 ·show Act.put _ (some 8) _=_
  simp only [Act.put,List.setIfInBounds_toArray,List.set_cons_zero,List.set_cons_succ,i64_w,i32_w]
  rfl
 refine pu_ 6 (some 9) (bm_ 8 127) rfl rfl HT_.out ?_
 refine one_ (i:=7) (N:=none) (bm_ 8 255) rfl rfl (one_of HT_.out krT_) (by decide) (fun K hK=>?_)
 have hs10:w8.cell? ⟨gb616,0,none⟩=some (.int .i64 0):=(blk_cell BK616.out 0).trans rfl
 have hfs10:=blk_frozen BK616.out 0
 have hns10_0:=NB615_616.out
 have hms10_0:=NB616_615.out
 have hs11:w8.cell? ⟨gb616,1,none⟩=some (.slice none 0 0):=(blk_cell BK616.out 1).trans rfl
 have hfs11:=blk_frozen BK616.out 1
 have hns11_0:=NB615_616.out
 have hms11_0:=NB616_615.out
 refine skip_ (w1:=?_) (by rfl) rfl ?_ ?_
 rotate_left
 ·go_simp
  rfl
 refine hK.out _ _ ⟨((cell_far (p:=⟨gb616,_,none⟩) NB615_616.out _).trans (((cell_far (p:=⟨gb616,_,none⟩) NB615_616.out _).trans (hHeld.1)))),((cell_far (p:=⟨gb616,_,none⟩) NB615_616.out _).trans (((cell_far (p:=⟨gb616,_,none⟩) NB615_616.out _).trans (hHeld.2))))⟩ (fun hHeld=>?_)
 clear hK K
 refine done_ (done_of HT_.out krT_) ?_
 try go_wp2
 refine bodyPost_ret (results_cell_row rfl _ _ gb616 24 #[.int .i64 a0_0,.slice Ao9 y620.length co9] (0,0) _ rfl (by (with_reducible repeat (first|refine blk_drewN ?_ _|refine blk_drew ?_|refine blk_alloc ?_ _));refine blk_put (cs:=#[.int .i64 a0_0,.slice none 0 0]) ?_ 1 _ rfl;(with_reducible repeat (first|refine blk_drewN ?_ _|refine blk_drew ?_|refine blk_alloc ?_ _));refine blk_put (cs:=#[.int .i64 0,.slice none 0 0]) ?_ 0 _ rfl;exact bkC_ BK616.out) Tryz.underlying24 rfl krT_) rfl ?_
 exact ⟨_,eT_,by (with_reducible repeat (first|apply Kd.R_alloc|apply Kd.R_drewN|apply Kd.R_drew));exact Kd.R_mono (Kd.R_far (p:=⟨gb616,1,none⟩) (Kd.R_far (p:=⟨gb616,0,none⟩) (Kd.R_types HO622.out BK616.out (by decide)) (fun _ hk=>hk.2) (.int .i64 a0_0)) (fun _ hk=>hk.2) (.slice Ao9 y620.length co9)) (fun _ hk=>trivial),h_HB HB.out⟩
/-! ### spec_DrawEqualMatroid: function 41 -/
def spec_DrawEqualMatroid.f (k:Nat) (l0:List Int):Option (Int × List Int × Int × List Int):=(spec_l1New.f k l0).bind fun bt625=>((spec_l4Bent.f k bt625.1 bt625.2.1 bt625.2.2 5).bind fun bt629=>((spec_l1Once.f bt625.1 bt629.2.2.1 bt629.2.2.2 2).bind fun bt636=>(if bt636.1=true then ((spec_l4Copy.f bt629.1 bt629.2.1).bind fun bt639=>(some (bt629.1,bt629.2.1,bt639.1,bt639.2))) else ((spec_l4Bent.f k bt625.1 bt636.2.1 bt636.2.2 5).bind fun bt643=>(some (bt629.1,bt629.2.1,bt643.1,bt643.2.1))))))
set_option maxHeartbeats 8000000 in
set_option maxRecDepth 100000 in
theorem spec_DrawEqualMatroid.calls (k:Nat) (A0:Option Addr) (c0:Nat) (l0:List Int) (r1:Int) (r2:List Int) (r3:Int) (r4:List Int) (w:World) (hr0:Kd.C (Kd.int .u8) w A0 l0.length l0) (hc0:l0.length≤c0) (h:spec_DrawEqualMatroid.f k l0=some (r1,r2,r3,r4)) :
    Calls Tryz.prog 41 #[.slice A0 l0.length c0] w fun e w'=>∃ v1_ v3_:Value,e=.returned (.tuple #[.agg #[.int .i64 r1,v1_],.agg #[.int .i64 r3,v3_]])∧Kd.R (Kd.int .i64) 3 w' w.heap.size (fun k_=>some k_≠(v3_:Value).ownBlock) v1_ r2∧Kd.R (Kd.int .i64) 3 w' w.heap.size (fun k_=>some k_≠(v1_:Value).ownBlock) v3_ r4∧Below w.heap.size w w':=by
 have hu24:=Tryz.underlying24
 have HR0:=Aside0.mk hr0
 have HC0:=Aside0.mk hc0
 clear hr0 hc0
 have HB:=Aside0.mk (Below.refl w.heap.size w)
 unfold spec_DrawEqualMatroid.f at h
 have H:=h
 clear h
 replace H:=bnd_ H;obtain ⟨⟨t625,t626,t627⟩,A2,H⟩:=H;dsimp only at H
 replace H:=bnd_ H;obtain ⟨⟨t629,t630,t633,t634⟩,A3,H⟩:=H;dsimp only at H
 replace H:=bnd_ H;obtain ⟨⟨t636,t637,t638⟩,A4,H⟩:=H;dsimp only at H
 by_cases c5:t636=true
 ·subst c5
  replace H:=bT_ H
  replace H:=bnd_ H;obtain ⟨⟨t639,t640⟩,A6,H⟩:=H;dsimp only at H
  simp only [Option.some.injEq,Prod.mk.injEq] at H
  obtain ⟨rfl,rfl,rfl,rfl⟩:=H
  go_enter Tryz.func41,Tryz.ntmps41
  try go_wp2_with (first|((with_reducible refine gate_dst (N:=2) rfl ?_);refine bx_ (N:=2) (cs:=#[.int .i64 0,.slice none 0 0]) (t:=24) ?_;intro gb623 hg w7 hbox hb;have BK623:=Aside0.mk (hbox);have GW623:=Aside0.mk (gw_ hg (h_HB HB.out));have GE623:=Aside0.mk (gw_ hg (h_HB HB.out));replace HB:=Aside0.mk (below_step (h_HB HB.out) hb);clear hb hbox hg)|((with_reducible refine gate_dst (N:=3) rfl ?_);refine bx_ (N:=3) (cs:=#[.int .i64 0,.slice none 0 0]) (t:=24) ?_;intro gb624 hg w8 hbox hb;have BK624:=Aside0.mk (hbox);have GW624:=Aside0.mk (gw_ hg (h_HB HB.out));have GE624:=Aside0.mk (gw_ hg (h_HB HB.out));replace HB:=Aside0.mk (below_step (h_HB HB.out) hb);have NB623_624:=Aside0.mk (nbl_ hg (bkC_ BK623.out));have NB624_623:=Aside0.mk (nbg_ hg (bkC_ BK623.out));replace BK623:=Aside0.mk (blkB_ BK623.out hb);clear hb hbox hg)|((with_reducible refine gate_callee (f:=69) rfl ?_);refine goesL_ (some 7) rfl rfl Tryz.func69 krT_ rfl #[.slice A0 l0.length c0] rfl agT_ ?_;(with_reducible refine (spec_l1New.calls k _ _ l0 t625 t626 t627 w _ ?side1 ?side2 ?side3 A2.out).mono ?_);(case side1=>exact h_HB HB.out);(case side2=>exact HR0.out);(case side3=>exact HC0.out);rintro e w9 ⟨g628,rfl,hi,hb,hb2⟩;refine ⟨_,rfl,?_⟩;replace HB:=Aside0.mk (hb);have HI628:=Aside0.mk (hi);have NB628_623:=Aside0.mk (IsS94.ne_blk hi (blk_below (bkC_ BK623.out) hb2) (by decide));have NB623_628:=Aside0.mk (Ne.symm (IsS94.ne_blk hi (blk_below (bkC_ BK623.out) hb2) (by decide)));replace BK623:=Aside0.mk (blk_below (bkC_ BK623.out) hb2);have NB628_624:=Aside0.mk (IsS94.ne_blk hi (blk_below (bkC_ BK624.out) hb2) (by decide));have NB624_628:=Aside0.mk (Ne.symm (IsS94.ne_blk hi (blk_below (bkC_ BK624.out) hb2) (by decide)));replace BK624:=Aside0.mk (blk_below (bkC_ BK624.out) hb2);(try clear hb);(try clear hb2);(try clear hk);(try clear hi))|((with_reducible refine gate_callee (f:=97) rfl ?_);refine goesL_ (some 9) rfl rfl Tryz.func97 krT_ rfl #[.pointer (some ⟨g628,0,none⟩),.int .i64 5] rfl agT_ ?_;(with_reducible refine (spec_l4Bent.calls k g628 t625 t626 t627 5 t629 t630 t633 t634 w _ ?side1 ?side2 A3.out).mono ?_);(case side1=>exact h_HI628 HI628.out);(case side2=>exact h_HB HB.out);rintro e w10 ⟨v631,rfl,ho0,hi,hb,hk⟩;refine ⟨_,rfl,?_⟩;replace BK623:=Aside0.mk (KeepBut.blk hk (bkC_ BK623.out) NB623_628.out (by simp));replace BK624:=Aside0.mk (KeepBut.blk hk (bkC_ BK624.out) NB624_628.out (by simp));have HO632:=Aside0.mk (Kd.R_lower ho0 (below_size (h_HB HB.out)));replace HB:=Aside0.mk (hb);replace HI628:=Aside0.mk (hi);(try clear hb);(try clear hb2);(try clear hk);(try clear hi);(try clear ho0))|((with_reducible refine gate_dst (N:=5) rfl ?_);refine bx_ (N:=5) (cs:=#[.int .i64 0,.slice none 0 0]) (t:=24) ?_;intro gb635 hg w11 hbox hb;have n0_:=Aside0.mk (Kd.R_below (kRC_ HO632.out) hb);have n1_:=Aside0.mk (blkB_ BK623.out hb);have n2_:=Aside0.mk (blkB_ BK624.out hb);have n3_:=Aside0.mk (IsS94.below (h_HI628 HI628.out) hb);have n4_:=Aside0.mk (below_step (h_HB HB.out) hb);have n5_:=Aside0.mk (hbox);have n6_:=Aside0.mk (gw_ hg (h_HB HB.out));have n7_:=Aside0.mk (gw_ hg (h_HB HB.out));have n8_:=Aside0.mk (nbl_ hg (bkC_ BK623.out));have n9_:=Aside0.mk (nbg_ hg (bkC_ BK623.out));have n10_:=Aside0.mk (nbl_ hg (bkC_ BK624.out));have n11_:=Aside0.mk (nbg_ hg (bkC_ BK624.out));have n12_:=Aside0.mk ((by rw [hg];exact Nat.ne_of_lt (IsS94.lt (show IsS94 w _ g628 t625 t633 t634 from h_HI628 HI628.out)):g628≠gb635));have n13_:=Aside0.mk ((by rw [hg];exact Nat.ne_of_gt (IsS94.lt (show IsS94 w _ g628 t625 t633 t634 from h_HI628 HI628.out)):gb635≠g628));clear HO632;clear BK623;clear BK624;clear HI628;clear HB;have HO632:=n0_;have BK623:=n1_;have BK624:=n2_;have HI628:=n3_;have HB:=n4_;have BK635:=n5_;have GW635:=n6_;have GE635:=n7_;have NB623_635:=n8_;have NB635_623:=n9_;have NB624_635:=n10_;have NB635_624:=n11_;have NB628_635:=n12_;have NB635_628:=n13_;clear n0_ n1_ n2_ n3_ n4_ n5_ n6_ n7_ n8_ n9_ n10_ n11_ n12_ n13_;clear hb hbox hg;have hnb12:=NB635_623.out;have hnc12:=NB623_635.out;have hnb13:=NB635_624.out;have hnc13:=NB624_635.out;have hnb14:=NB635_628.out;have hnc14:=NB628_635.out;obtain ⟨hcz15_0,hcz15_1,hfz15_0,hfz15_1⟩:=bz2_ BK635.out;obtain ⟨Ao16,co16,eo16⟩:=Kd.R_slice HO632.out;subst eo16)|((with_reducible refine gate_callee (f:=73) rfl ?_);refine goesL_ (some 11) rfl rfl Tryz.func73 krT_ rfl #[.pointer (some ⟨g628,0,none⟩),.int .i64 2] rfl agT_ ?_;(with_reducible refine (spec_l1Once.calls g628 t625 t633 t634 2 true t637 t638 w _ ?side1 ?side2 A4.out).mono ?_);(case side1=>exact h_HI628 HI628.out);(case side2=>exact h_HB HB.out);rintro e w17 ⟨rfl,hi,hb,hk⟩;refine ⟨_,rfl,?_⟩;replace BK623:=Aside0.mk (KeepBut.blk hk (bkC_ BK623.out) NB623_628.out (by simp));replace BK624:=Aside0.mk (KeepBut.blk hk (bkC_ BK624.out) NB624_628.out (by simp));replace HO632:=Aside0.mk (Kd.R_mono (Kd.R_keep (IsS94.apart (show IsS94 w _ g628 t625 t633 t634 from h_HI628 HI628.out) (by (with_reducible repeat (first|apply Kd.R_alloc|apply Kd.R_drewN|apply Kd.R_drew));exact (Kd.R_mono (Kd.R_far (p:=⟨gb635,1,none⟩) (Kd.R_far (p:=⟨gb635,0,none⟩) (Kd.R_types HO632.out BK635.out (by decide)) (fun _ hk=>hk.2) (.int .i64 t629)) (fun _ hk=>hk.2) (.slice Ao16 t630.length co16)) (fun _ h_=>h_.1))) (by decide)) hk (fun _ h=>h.2)) (fun _ h=>h.1));replace BK635:=Aside0.mk (KeepBut.blk hk (g':=gb635) (o:=.cells #[.int .i64 t629,.slice Ao16 t630.length co16] 24 (0,0)) (by (with_reducible repeat (first|refine blk_drewN ?_ _|refine blk_drew ?_|refine blk_alloc ?_ _));refine blk_put (cs:=#[.int .i64 t629,.slice none 0 0]) ?_ 1 _ rfl;(with_reducible repeat (first|refine blk_drewN ?_ _|refine blk_drew ?_|refine blk_alloc ?_ _));refine blk_put (cs:=#[.int .i64 0,.slice none 0 0]) ?_ 0 _ rfl;exact bkC_ BK635.out) NB635_628.out (by simp));replace HB:=Aside0.mk (hb);replace HI628:=Aside0.mk (hi);(try clear hb);(try clear hb2);(try clear hk);(try clear hi)))
  replace HO632:=Aside0.mk (Kd.R_drew HO632.out);replace BK623:=Aside0.mk (blk_drew BK623.out);replace BK624:=Aside0.mk (blk_drew BK624.out);replace BK635:=Aside0.mk (blk_drew BK635.out);replace HI628:=Aside0.mk (IsS94.drew HI628.out);replace HB:=Aside0.mk (below_drew1 HB.out)
  refine start_ (n:=5) (S:=fun w'=>w'.cell? ⟨gb635,0,none⟩=some (.int .i64 t629)∧w'.cell? ⟨gb635,1,none⟩=some (.slice Ao16 t630.length co16)) (ds:=[]) #[F_,F_,F_,F_,F_] krT_ rfl rfl ⟨(blk_cell BK635.out 0).trans rfl,(blk_cell BK635.out 1).trans rfl⟩ (fun hHeld=>?_)
  generalize w17.drew=w18 at HO632 BK623 BK624 BK635 HI628 HB hHeld ⊢
  refine take_ (i:=0) (N:=some 12) (v:=?_) (a':=?_) (bm_ 5 1) rfl rfl krT_ (fun _ _ _ h=>h) (Or.inl ⟨by rfl,?_⟩) hHeld ?_ ?_
  rotate_left
  ·rintro w' ⟨s0,s1⟩
   go_simp
   with_reducible rfl
  rotate_left;exact apT_
  refine take_ (i:=1) (N:=some 13) (v:=?_) (a':=?_) (bm_ 5 3) rfl rfl krT_ (fun _ _ _ h=>h) (Or.inl ⟨by rfl,?_⟩) hHeld ?_ ?_
  rotate_left
  ·rintro w' ⟨s0,s1⟩
   go_simp
   with_reducible rfl
  rotate_left;exact apT_
  refine one_ (i:=2) (N:=some 14) (bm_ 5 7) rfl rfl krT_ (by decide) (fun K hK=>?_)
  refine goes_ Tryz.func102 krT_ rfl #[.agg #[.int .i64 t629,.slice Ao16 t630.length co16]] (by rfl) rfl rfl agT_ ?_
  with_reducible refine (spec_l4Copy.calls t629 _ _ t630 t639 t640 _ ?side1 ?side2 A6.out).mono ?_
  (case side1=>repeat (first|exact (Kd.R_reads' HO632.out).2.2|(with_reducible refine Kd.C_alloc ?_ _)|(with_reducible refine Kd.C_drewN ?_ _)|(with_reducible refine Kd.C_drew ?_)))
  (case side2=>exact (Kd.R_reads' HO632.out).2.1)
  rintro e w19 ⟨v641,rfl,ho0,hb⟩
  refine ⟨_,rfl,?_⟩
  have HO642:=Aside0.mk (Kd.R_lower (Kd.R_new' ho0 (Kd.R_lt (kRC_ HO632.out))) (below_size (h_HB HB.out)));replace HO632:=Aside0.mk (Kd.R_elder' (kRC_ HO632.out) (Kd.R_base ho0) hb);replace BK623:=Aside0.mk (blkB_ BK623.out hb);replace BK624:=Aside0.mk (blkB_ BK624.out hb);replace HI628:=Aside0.mk (IsS94.below (h_HI628 HI628.out) hb);replace BK635:=Aside0.mk (blkB_ BK635.out hb);replace HB:=Aside0.mk (below_step (h_HB HB.out) hb)
  (try clear hb)
  (try clear hb2)
  (try clear hk)
  (try clear hi)
  (try clear ho0)
  obtain ⟨Ao23,co23,eo23⟩:=Kd.R_slice HO642.out
  (first|subst eo23|(injection eo23 with f1_ f2_ f3_;have f4_:=f1_.symm;have f5_:=f3_.symm;clear f1_ f2_ f3_;subst f4_;subst f5_))
  refine hK.out _ _ ⟨(blk_cell BK635.out 0).trans rfl,(blk_cell BK635.out 1).trans rfl⟩ (fun hHeld=>?_)
  clear hK K
  refine norm_ (a':=?_) ?_ ?_
  rotate_left
  ·show Act.put _ (some 14) _=_
   simp only [Act.put,List.setIfInBounds_toArray,List.set_cons_zero,List.set_cons_succ,i64_w,i32_w]
   rfl
  refine one_ (i:=3) (N:=none) (bm_ 5 15) rfl rfl krT_ (by decide) (fun K hK=>?_)
  have hs20:w19.cell? ⟨gb623,0,none⟩=some (.int .i64 0):=(blk_cell BK623.out 0).trans rfl
  have hfs20:=blk_frozen BK623.out 0
  have hns20_1:=NB624_623.out
  have hns20_2:=NB635_623.out
  have hms20_1:=NB623_624.out
  have hms20_2:=NB623_635.out
  have hs21:w19.cell? ⟨gb623,1,none⟩=some (.slice none 0 0):=(blk_cell BK623.out 1).trans rfl
  have hfs21:=blk_frozen BK623.out 1
  have hns21_1:=NB624_623.out
  have hns21_2:=NB635_623.out
  have hms21_1:=NB623_624.out
  have hms21_2:=NB623_635.out
  refine skip_ (w1:=?_) (by rfl) rfl ?_ ?_
  rotate_left
  ·go_simp
   rfl
  refine hK.out _ _ ⟨((cell_far (p:=⟨gb623,_,none⟩) NB635_623.out _).trans (((cell_far (p:=⟨gb623,_,none⟩) NB635_623.out _).trans (hHeld.1)))),((cell_far (p:=⟨gb623,_,none⟩) NB635_623.out _).trans (((cell_far (p:=⟨gb623,_,none⟩) NB635_623.out _).trans (hHeld.2))))⟩ (fun hHeld=>?_)
  clear hK K
  refine one_ (i:=4) (N:=none) (bm_ 5 31) rfl rfl krT_ (by decide) (fun K hK=>?_)
  have hs22:w19.cell? ⟨gb624,0,none⟩=some (.int .i64 0):=(blk_cell BK624.out 0).trans rfl
  have hfs22:=blk_frozen BK624.out 0
  have hns22_0:=NB623_624.out
  have hns22_2:=NB635_624.out
  have hms22_0:=NB624_623.out
  have hms22_2:=NB624_635.out
  have hs24:w19.cell? ⟨gb624,1,none⟩=some (.slice none 0 0):=(blk_cell BK624.out 1).trans rfl
  have hfs24:=blk_frozen BK624.out 1
  have hns24_0:=NB623_624.out
  have hns24_2:=NB635_624.out
  have hms24_0:=NB624_623.out
  have hms24_2:=NB624_635.out
  refine skip_ (w1:=?_) (by rfl) rfl ?_ ?_
  rotate_left
  ·go_simp
   rfl
  refine hK.out _ _ ⟨((cell_far (p:=⟨gb624,_,none⟩) NB635_624.out _).trans (((cell_far (p:=⟨gb624,_,none⟩) NB635_624.out _).trans (hHeld.1)))),((cell_far (p:=⟨gb624,_,none⟩) NB635_624.out _).trans (((cell_far (p:=⟨gb624,_,none⟩) NB635_624.out _).trans (hHeld.2))))⟩ (fun hHeld=>?_)
  clear hK K
  refine done_ krT_ ?_
  try go_wp2
  refine bodyPost_ret (results_cc rfl _ _ gb623 gb624 24 24 #[.int .i64 t629,.slice Ao16 t630.length co16] #[.int .i64 t639,.slice Ao23 t640.length co23] (0,0) (0,0) _ _ rfl (by (with_reducible repeat (first|refine blk_drewN ?_ _|refine blk_drew ?_|refine blk_alloc ?_ _));refine blk_far ?_ NB623_624.out _;(with_reducible repeat (first|refine blk_drewN ?_ _|refine blk_drew ?_|refine blk_alloc ?_ _));refine blk_far ?_ NB623_624.out _;(with_reducible repeat (first|refine blk_drewN ?_ _|refine blk_drew ?_|refine blk_alloc ?_ _));refine blk_put (cs:=#[.int .i64 t629,.slice none 0 0]) ?_ 1 _ rfl;(with_reducible repeat (first|refine blk_drewN ?_ _|refine blk_drew ?_|refine blk_alloc ?_ _));refine blk_put (cs:=#[.int .i64 0,.slice none 0 0]) ?_ 0 _ rfl;exact bkC_ BK623.out) Tryz.underlying24 rfl krT_ rfl (by (with_reducible repeat (first|refine blk_drewN ?_ _|refine blk_drew ?_|refine blk_alloc ?_ _));refine blk_put (cs:=#[.int .i64 t639,.slice none 0 0]) ?_ 1 _ rfl;(with_reducible repeat (first|refine blk_drewN ?_ _|refine blk_drew ?_|refine blk_alloc ?_ _));refine blk_put (cs:=#[.int .i64 0,.slice none 0 0]) ?_ 0 _ rfl;exact bkC_ BK624.out) Tryz.underlying24 rfl krT_) rfl ?_
  exact ⟨_,_,eT_,by (with_reducible repeat (first|apply Kd.R_alloc|apply Kd.R_drewN|apply Kd.R_drew));exact Kd.R_mono (Kd.R_far (p:=⟨gb624,1,none⟩) (Kd.R_far (p:=⟨gb624,0,none⟩) (Kd.R_far (p:=⟨gb623,1,none⟩) (Kd.R_far (p:=⟨gb623,0,none⟩) (Kd.R_types (Kd.R_types HO632.out BK623.out (by decide)) BK624.out (by decide)) (fun _ hk=>hk.1.2) (.int .i64 t629)) (fun _ hk=>hk.1.2) (.slice Ao16 t630.length co16)) (fun _ hk=>hk.2) (.int .i64 t639)) (fun _ hk=>hk.2) (.slice Ao23 t640.length co23)) (fun _ hk=>hk.1.1.2),by (with_reducible repeat (first|apply Kd.R_alloc|apply Kd.R_drewN|apply Kd.R_drew));exact Kd.R_mono (Kd.R_far (p:=⟨gb624,1,none⟩) (Kd.R_far (p:=⟨gb624,0,none⟩) (Kd.R_far (p:=⟨gb623,1,none⟩) (Kd.R_far (p:=⟨gb623,0,none⟩) (Kd.R_types (Kd.R_types HO642.out BK623.out (by decide)) BK624.out (by decide)) (fun _ hk=>hk.1.2) (.int .i64 t629)) (fun _ hk=>hk.1.2) (.slice Ao16 t630.length co16)) (fun _ hk=>hk.2) (.int .i64 t639)) (fun _ hk=>hk.2) (.slice Ao23 t640.length co23)) (fun _ hk=>hk.1.1.2),h_HB HB.out⟩
 ·replace c5:=Bool.eq_false_iff.mpr c5
  subst c5
  replace H:=bF_ H
  replace H:=bnd_ H;obtain ⟨⟨t643,t644,t647,t648⟩,A25,H⟩:=H;dsimp only at H
  simp only [Option.some.injEq,Prod.mk.injEq] at H
  obtain ⟨rfl,rfl,rfl,rfl⟩:=H
  go_enter Tryz.func41,Tryz.ntmps41
  try go_wp2_with (first|((with_reducible refine gate_dst (N:=2) rfl ?_);refine bx_ (N:=2) (cs:=#[.int .i64 0,.slice none 0 0]) (t:=24) ?_;intro gb623 hg w26 hbox hb;have BK623:=Aside0.mk (hbox);have GW623:=Aside0.mk (gw_ hg (h_HB HB.out));have GE623:=Aside0.mk (gw_ hg (h_HB HB.out));replace HB:=Aside0.mk (below_step (h_HB HB.out) hb);clear hb hbox hg)|((with_reducible refine gate_dst (N:=3) rfl ?_);refine bx_ (N:=3) (cs:=#[.int .i64 0,.slice none 0 0]) (t:=24) ?_;intro gb624 hg w27 hbox hb;have BK624:=Aside0.mk (hbox);have GW624:=Aside0.mk (gw_ hg (h_HB HB.out));have GE624:=Aside0.mk (gw_ hg (h_HB HB.out));replace HB:=Aside0.mk (below_step (h_HB HB.out) hb);have NB623_624:=Aside0.mk (nbl_ hg (bkC_ BK623.out));have NB624_623:=Aside0.mk (nbg_ hg (bkC_ BK623.out));replace BK623:=Aside0.mk (blkB_ BK623.out hb);clear hb hbox hg)|((with_reducible refine gate_callee (f:=69) rfl ?_);refine goesL_ (some 7) rfl rfl Tryz.func69 krT_ rfl #[.slice A0 l0.length c0] rfl agT_ ?_;(with_reducible refine (spec_l1New.calls k _ _ l0 t625 t626 t627 w _ ?side1 ?side2 ?side3 A2.out).mono ?_);(case side1=>exact h_HB HB.out);(case side2=>exact HR0.out);(case side3=>exact HC0.out);rintro e w28 ⟨g628,rfl,hi,hb,hb2⟩;refine ⟨_,rfl,?_⟩;replace HB:=Aside0.mk (hb);have HI628:=Aside0.mk (hi);have NB628_623:=Aside0.mk (IsS94.ne_blk hi (blk_below (bkC_ BK623.out) hb2) (by decide));have NB623_628:=Aside0.mk (Ne.symm (IsS94.ne_blk hi (blk_below (bkC_ BK623.out) hb2) (by decide)));replace BK623:=Aside0.mk (blk_below (bkC_ BK623.out) hb2);have NB628_624:=Aside0.mk (IsS94.ne_blk hi (blk_below (bkC_ BK624.out) hb2) (by decide));have NB624_628:=Aside0.mk (Ne.symm (IsS94.ne_blk hi (blk_below (bkC_ BK624.out) hb2) (by decide)));replace BK624:=Aside0.mk (blk_below (bkC_ BK624.out) hb2);(try clear hb);(try clear hb2);(try clear hk);(try clear hi))|((with_reducible refine gate_callee (f:=97) rfl ?_);refine goesL_ (some 9) rfl rfl Tryz.func97 krT_ rfl #[.pointer (some ⟨g628,0,none⟩),.int .i64 5] rfl agT_ ?_;(with_reducible refine (spec_l4Bent.calls k g628 t625 t626 t627 5 t629 t630 t633 t634 w _ ?side1 ?side2 A3.out).mono ?_);(case side1=>exact h_HI628 HI628.out);(case side2=>exact h_HB HB.out);rintro e w29 ⟨v631,rfl,ho0,hi,hb,hk⟩;refine ⟨_,rfl,?_⟩;replace BK623:=Aside0.mk (KeepBut.blk hk (bkC_ BK623.out) NB623_628.out (by simp));replace BK624:=Aside0.mk (KeepBut.blk hk (bkC_ BK624.out) NB624_628.out (by simp));have HO632:=Aside0.mk (Kd.R_lower ho0 (below_size (h_HB HB.out)));replace HB:=Aside0.mk (hb);replace HI628:=Aside0.mk (hi);(try clear hb);(try clear hb2);(try clear hk);(try clear hi);(try clear ho0))|((with_reducible refine gate_dst (N:=5) rfl ?_);refine bx_ (N:=5) (cs:=#[.int .i64 0,.slice none 0 0]) (t:=24) ?_;intro gb635 hg w30 hbox hb;have n0_:=Aside0.mk (Kd.R_below (kRC_ HO632.out) hb);have n1_:=Aside0.mk (blkB_ BK623.out hb);have n2_:=Aside0.mk (blkB_ BK624.out hb);have n3_:=Aside0.mk (IsS94.below (h_HI628 HI628.out) hb);have n4_:=Aside0.mk (below_step (h_HB HB.out) hb);have n5_:=Aside0.mk (hbox);have n6_:=Aside0.mk (gw_ hg (h_HB HB.out));have n7_:=Aside0.mk (gw_ hg (h_HB HB.out));have n8_:=Aside0.mk (nbl_ hg (bkC_ BK623.out));have n9_:=Aside0.mk (nbg_ hg (bkC_ BK623.out));have n10_:=Aside0.mk (nbl_ hg (bkC_ BK624.out));have n11_:=Aside0.mk (nbg_ hg (bkC_ BK624.out));have n12_:=Aside0.mk ((by rw [hg];exact Nat.ne_of_lt (IsS94.lt (show IsS94 w _ g628 t625 t633 t634 from h_HI628 HI628.out)):g628≠gb635));have n13_:=Aside0.mk ((by rw [hg];exact Nat.ne_of_gt (IsS94.lt (show IsS94 w _ g628 t625 t633 t634 from h_HI628 HI628.out)):gb635≠g628));clear HO632;clear BK623;clear BK624;clear HI628;clear HB;have HO632:=n0_;have BK623:=n1_;have BK624:=n2_;have HI628:=n3_;have HB:=n4_;have BK635:=n5_;have GW635:=n6_;have GE635:=n7_;have NB623_635:=n8_;have NB635_623:=n9_;have NB624_635:=n10_;have NB635_624:=n11_;have NB628_635:=n12_;have NB635_628:=n13_;clear n0_ n1_ n2_ n3_ n4_ n5_ n6_ n7_ n8_ n9_ n10_ n11_ n12_ n13_;clear hb hbox hg;have hnb31:=NB635_623.out;have hnc31:=NB623_635.out;have hnb32:=NB635_624.out;have hnc32:=NB624_635.out;have hnb33:=NB635_628.out;have hnc33:=NB628_635.out;obtain ⟨hcz34_0,hcz34_1,hfz34_0,hfz34_1⟩:=bz2_ BK635.out;obtain ⟨Ao35,co35,eo35⟩:=Kd.R_slice HO632.out;subst eo35)|((with_reducible refine gate_callee (f:=73) rfl ?_);refine goesL_ (some 11) rfl rfl Tryz.func73 krT_ rfl #[.pointer (some ⟨g628,0,none⟩),.int .i64 2] rfl agT_ ?_;(with_reducible refine (spec_l1Once.calls g628 t625 t633 t634 2 false t637 t638 w _ ?side1 ?side2 A4.out).mono ?_);(case side1=>exact h_HI628 HI628.out);(case side2=>exact h_HB HB.out);rintro e w36 ⟨rfl,hi,hb,hk⟩;refine ⟨_,rfl,?_⟩;replace BK623:=Aside0.mk (KeepBut.blk hk (bkC_ BK623.out) NB623_628.out (by simp));replace BK624:=Aside0.mk (KeepBut.blk hk (bkC_ BK624.out) NB624_628.out (by simp));replace HO632:=Aside0.mk (Kd.R_mono (Kd.R_keep (IsS94.apart (show IsS94 w _ g628 t625 t633 t634 from h_HI628 HI628.out) (by (with_reducible repeat (first|apply Kd.R_alloc|apply Kd.R_drewN|apply Kd.R_drew));exact (Kd.R_mono (Kd.R_far (p:=⟨gb635,1,none⟩) (Kd.R_far (p:=⟨gb635,0,none⟩) (Kd.R_types HO632.out BK635.out (by decide)) (fun _ hk=>hk.2) (.int .i64 t629)) (fun _ hk=>hk.2) (.slice Ao35 t630.length co35)) (fun _ h_=>h_.1))) (by decide)) hk (fun _ h=>h.2)) (fun _ h=>h.1));replace BK635:=Aside0.mk (KeepBut.blk hk (g':=gb635) (o:=.cells #[.int .i64 t629,.slice Ao35 t630.length co35] 24 (0,0)) (by (with_reducible repeat (first|refine blk_drewN ?_ _|refine blk_drew ?_|refine blk_alloc ?_ _));refine blk_put (cs:=#[.int .i64 t629,.slice none 0 0]) ?_ 1 _ rfl;(with_reducible repeat (first|refine blk_drewN ?_ _|refine blk_drew ?_|refine blk_alloc ?_ _));refine blk_put (cs:=#[.int .i64 0,.slice none 0 0]) ?_ 0 _ rfl;exact bkC_ BK635.out) NB635_628.out (by simp));replace HB:=Aside0.mk (hb);replace HI628:=Aside0.mk (hi);(try clear hb);(try clear hb2);(try clear hk);(try clear hi)))
  replace HO632:=Aside0.mk (Kd.R_drew HO632.out);replace BK623:=Aside0.mk (blk_drew BK623.out);replace BK624:=Aside0.mk (blk_drew BK624.out);replace BK635:=Aside0.mk (blk_drew BK635.out);replace HI628:=Aside0.mk (IsS94.drew HI628.out);replace HB:=Aside0.mk (below_drew1 HB.out)
  refine start_ (n:=5) (S:=fun w'=>w'.cell? ⟨gb635,0,none⟩=some (.int .i64 t629)∧w'.cell? ⟨gb635,1,none⟩=some (.slice Ao35 t630.length co35)) (ds:=[]) #[F_,F_,F_,F_,F_] krT_ rfl rfl ⟨(blk_cell BK635.out 0).trans rfl,(blk_cell BK635.out 1).trans rfl⟩ (fun hHeld=>?_)
  generalize w36.drew=w37 at HO632 BK623 BK624 BK635 HI628 HB hHeld ⊢
  refine pure_ (i:=1) (N:=some 16) (v:=?_) (a':=?_) (bm_ 5 2) rfl rfl krT_ (fun _ _ _ h=>h) (Or.inl ⟨by rfl,?_⟩) ?_ ?_
  rotate_left;exact ivT_
  rotate_left;exact apT_
  refine take_ (i:=0) (N:=some 15) (v:=?_) (a':=?_) (bm_ 5 3) rfl rfl krT_ (fun _ _ _ h=>h) (Or.inl ⟨by rfl,?_⟩) hHeld ?_ ?_
  rotate_left
  ·rintro w' ⟨s0,s1⟩
   go_simp
   with_reducible rfl
  rotate_left;exact apT_
  refine one_ (i:=2) (N:=some 17) (bm_ 5 7) rfl rfl krT_ (by decide) (fun K hK=>?_)
  refine goes_ Tryz.func97 krT_ rfl #[.pointer (some ⟨g628,0,none⟩),.int .i64 5] (by rfl) rfl rfl agT_ ?_
  with_reducible refine (spec_l4Bent.calls k g628 t625 t637 t638 5 t643 t644 t647 t648 w _ ?side1 ?side2 A25.out).mono ?_
  (case side1=>exact h_HI628 HI628.out)
  (case side2=>exact h_HB HB.out)
  rintro e w38 ⟨v645,rfl,ho0,hi,hb,hk⟩
  refine ⟨_,rfl,?_⟩
  replace BK623:=Aside0.mk (KeepBut.blk hk (bkC_ BK623.out) NB623_628.out (by simp));replace BK624:=Aside0.mk (KeepBut.blk hk (bkC_ BK624.out) NB624_628.out (by simp));replace BK635:=Aside0.mk (KeepBut.blk hk (bkC_ BK635.out) NB635_628.out (by simp));have HO646:=Aside0.mk (Kd.R_lower (Kd.R_new' ho0 (Kd.R_lt (kRC_ HO632.out))) (below_size (h_HB HB.out)));replace HO632:=Aside0.mk (Kd.R_mono (Kd.R_told (Kd.R_oldK (IsS94.apart (show IsS94 w _ g628 t625 t637 t638 from h_HI628 HI628.out) (kRC_ HO632.out) (by decide)) hk) (Kd.R_base ho0)) (fun _ h_=>h_.1));replace HB:=Aside0.mk (hb);replace HI628:=Aside0.mk (hi)
  (try clear hb)
  (try clear hb2)
  (try clear hk)
  (try clear hi)
  (try clear ho0)
  obtain ⟨Ao42,co42,eo42⟩:=Kd.R_slice HO646.out
  (first|subst eo42|(injection eo42 with f1_ f2_ f3_;have f4_:=f1_.symm;have f5_:=f3_.symm;clear f1_ f2_ f3_;subst f4_;subst f5_))
  refine hK.out _ _ ⟨(blk_cell BK635.out 0).trans rfl,(blk_cell BK635.out 1).trans rfl⟩ (fun hHeld=>?_)
  clear hK K
  refine norm_ (a':=?_) ?_ ?_
  rotate_left
  ·show Act.put _ (some 17) _=_
   simp only [Act.put,List.setIfInBounds_toArray,List.set_cons_zero,List.set_cons_succ,i64_w,i32_w]
   rfl
  refine one_ (i:=3) (N:=none) (bm_ 5 15) rfl rfl krT_ (by decide) (fun K hK=>?_)
  have hs39:w38.cell? ⟨gb623,0,none⟩=some (.int .i64 0):=(blk_cell BK623.out 0).trans rfl
  have hfs39:=blk_frozen BK623.out 0
  have hns39_1:=NB624_623.out
  have hns39_2:=NB635_623.out
  have hms39_1:=NB623_624.out
  have hms39_2:=NB623_635.out
  have hs40:w38.cell? ⟨gb623,1,none⟩=some (.slice none 0 0):=(blk_cell BK623.out 1).trans rfl
  have hfs40:=blk_frozen BK623.out 1
  have hns40_1:=NB624_623.out
  have hns40_2:=NB635_623.out
  have hms40_1:=NB623_624.out
  have hms40_2:=NB623_635.out
  refine skip_ (w1:=?_) (by rfl) rfl ?_ ?_
  rotate_left
  ·go_simp
   rfl
  refine hK.out _ _ ⟨((cell_far (p:=⟨gb623,_,none⟩) NB635_623.out _).trans (((cell_far (p:=⟨gb623,_,none⟩) NB635_623.out _).trans (hHeld.1)))),((cell_far (p:=⟨gb623,_,none⟩) NB635_623.out _).trans (((cell_far (p:=⟨gb623,_,none⟩) NB635_623.out _).trans (hHeld.2))))⟩ (fun hHeld=>?_)
  clear hK K
  refine one_ (i:=4) (N:=none) (bm_ 5 31) rfl rfl krT_ (by decide) (fun K hK=>?_)
  have hs41:w38.cell? ⟨gb624,0,none⟩=some (.int .i64 0):=(blk_cell BK624.out 0).trans rfl
  have hfs41:=blk_frozen BK624.out 0
  have hns41_0:=NB623_624.out
  have hns41_2:=NB635_624.out
  have hms41_0:=NB624_623.out
  have hms41_2:=NB624_635.out
  have hs43:w38.cell? ⟨gb624,1,none⟩=some (.slice none 0 0):=(blk_cell BK624.out 1).trans rfl
  have hfs43:=blk_frozen BK624.out 1
  have hns43_0:=NB623_624.out
  have hns43_2:=NB635_624.out
  have hms43_0:=NB624_623.out
  have hms43_2:=NB624_635.out
  refine skip_ (w1:=?_) (by rfl) rfl ?_ ?_
  rotate_left
  ·go_simp
   rfl
  refine hK.out _ _ ⟨((cell_far (p:=⟨gb624,_,none⟩) NB635_624.out _).trans (((cell_far (p:=⟨gb624,_,none⟩) NB635_624.out _).trans (hHeld.1)))),((cell_far (p:=⟨gb624,_,none⟩) NB635_624.out _).trans (((cell_far (p:=⟨gb624,_,none⟩) NB635_624.out _).trans (hHeld.2))))⟩ (fun hHeld=>?_)
  clear hK K
  refine done_ krT_ ?_
  try go_wp2
  refine bodyPost_ret (results_cc rfl _ _ gb623 gb624 24 24 #[.int .i64 t629,.slice Ao35 t630.length co35] #[.int .i64 t643,.slice Ao42 t644.length co42] (0,0) (0,0) _ _ rfl (by (with_reducible repeat (first|refine blk_drewN ?_ _|refine blk_drew ?_|refine blk_alloc ?_ _));refine blk_far ?_ NB623_624.out _;(with_reducible repeat (first|refine blk_drewN ?_ _|refine blk_drew ?_|refine blk_alloc ?_ _));refine blk_far ?_ NB623_624.out _;(with_reducible repeat (first|refine blk_drewN ?_ _|refine blk_drew ?_|refine blk_alloc ?_ _));refine blk_put (cs:=#[.int .i64 t629,.slice none 0 0]) ?_ 1 _ rfl;(with_reducible repeat (first|refine blk_drewN ?_ _|refine blk_drew ?_|refine blk_alloc ?_ _));refine blk_put (cs:=#[.int .i64 0,.slice none 0 0]) ?_ 0 _ rfl;exact bkC_ BK623.out) Tryz.underlying24 rfl krT_ rfl (by (with_reducible repeat (first|refine blk_drewN ?_ _|refine blk_drew ?_|refine blk_alloc ?_ _));refine blk_put (cs:=#[.int .i64 t643,.slice none 0 0]) ?_ 1 _ rfl;(with_reducible repeat (first|refine blk_drewN ?_ _|refine blk_drew ?_|refine blk_alloc ?_ _));refine blk_put (cs:=#[.int .i64 0,.slice none 0 0]) ?_ 0 _ rfl;exact bkC_ BK624.out) Tryz.underlying24 rfl krT_) rfl ?_
  exact ⟨_,_,eT_,by (with_reducible repeat (first|apply Kd.R_alloc|apply Kd.R_drewN|apply Kd.R_drew));exact Kd.R_mono (Kd.R_far (p:=⟨gb624,1,none⟩) (Kd.R_far (p:=⟨gb624,0,none⟩) (Kd.R_far (p:=⟨gb623,1,none⟩) (Kd.R_far (p:=⟨gb623,0,none⟩) (Kd.R_types (Kd.R_types HO632.out BK623.out (by decide)) BK624.out (by decide)) (fun _ hk=>hk.1.2) (.int .i64 t629)) (fun _ hk=>hk.1.2) (.slice Ao35 t630.length co35)) (fun _ hk=>hk.2) (.int .i64 t643)) (fun _ hk=>hk.2) (.slice Ao42 t644.length co42)) (fun _ hk=>hk.1.1.2),by (with_reducible repeat (first|apply Kd.R_alloc|apply Kd.R_drewN|apply Kd.R_drew));exact Kd.R_mono (Kd.R_far (p:=⟨gb624,1,none⟩) (Kd.R_far (p:=⟨gb624,0,none⟩) (Kd.R_far (p:=⟨gb623,1,none⟩) (Kd.R_far (p:=⟨gb623,0,none⟩) (Kd.R_types (Kd.R_types HO646.out BK623.out (by decide)) BK624.out (by decide)) (fun _ hk=>hk.1.2) (.int .i64 t629)) (fun _ hk=>hk.1.2) (.slice Ao35 t630.length co35)) (fun _ hk=>hk.2) (.int .i64 t643)) (fun _ hk=>hk.2) (.slice Ao42 t644.length co42)) (fun _ hk=>hk.1.1.2),h_HB HB.out⟩
/-! ### spec_DrawUniform: function 42 -/
def spec_DrawUniform.f (k:Nat) (l0:List Int):Option (Int × Int):=(spec_l1New.f k l0).bind fun bt649=>((spec_l1Below.f bt649.1 bt649.2.1 bt649.2.2 10).bind fun bt653=>((spec_l1Below.f bt649.1 bt653.2.1 bt653.2.2 11).bind fun bt656=>(some (wrap64 (bt653.1-1),wrap64 (bt656.1-1)))))
set_option maxHeartbeats 8000000 in
set_option maxRecDepth 100000 in
theorem spec_DrawUniform.calls (k:Nat) (A0:Option Addr) (c0:Nat) (l0:List Int) (r1:Int) (r2:Int) (w:World) (hr0:Kd.C (Kd.int .u8) w A0 l0.length l0) (hc0:l0.length≤c0) (h:spec_DrawUniform.f k l0=some (r1,r2)) :
    Calls Tryz.prog 42 #[.slice A0 l0.length c0] w fun e w'=>e=.returned (.tuple #[.int .i64 r1,.int .i64 r2])∧Below w.heap.size w w':=by
 have HR0:=Aside0.mk hr0
 have HC0:=Aside0.mk hc0
 clear hr0 hc0
 have HB:=Aside0.mk (Below.refl w.heap.size w)
 unfold spec_DrawUniform.f at h
 have H:=h
 clear h
 replace H:=bnd_ H;obtain ⟨⟨t649,t650,t651⟩,A2,H⟩:=H;dsimp only at H
 replace H:=bnd_ H;obtain ⟨⟨t653,t654,t655⟩,A3,H⟩:=H;dsimp only at H
 replace H:=bnd_ H;obtain ⟨⟨t656,t657,t658⟩,A4,H⟩:=H;dsimp only at H
 simp only [Option.some.injEq,Prod.mk.injEq] at H
 obtain ⟨rfl,rfl⟩:=H
 go_enter Tryz.func42,Tryz.ntmps42
 go_wp2_with (first|((with_reducible refine gate_callee (f:=69) rfl ?_);refine goesL_ (some 7) rfl rfl Tryz.func69 krT_ rfl #[.slice A0 l0.length c0] rfl agT_ ?_;(with_reducible refine (spec_l1New.calls k _ _ l0 t649 t650 t651 w _ ?side1 ?side2 ?side3 A2.out).mono ?_);(case side1=>exact h_HB HB.out);(case side2=>exact HR0.out);(case side3=>exact HC0.out);rintro e w5 ⟨g652,rfl,hi,hb,hb2⟩;refine ⟨_,rfl,?_⟩;replace HB:=Aside0.mk (hb);have HI652:=Aside0.mk (hi);(try clear hb);(try clear hb2);(try clear hk);(try clear hi))|((with_reducible refine gate_callee (f:=70) rfl ?_);refine goesL_ (some 9) rfl rfl Tryz.func70 krT_ rfl #[.pointer (some ⟨g652,0,none⟩),.int .i64 10] rfl agT_ ?_;(with_reducible refine (spec_l1Below.calls g652 t649 t650 t651 10 t653 t654 t655 w _ ?side1 ?side2 A3.out).mono ?_);(case side1=>repeat (first|(with_reducible first|exact HI652.out|apply IsS94.alloc|apply IsS94.drewN|apply IsS94.drew|apply IsS94.set_1|apply IsS94.set_2)|exact HI652.out));(case side2=>exact h_HB HB.out);rintro e w6 ⟨rfl,hi,hb,hk⟩;refine ⟨_,rfl,?_⟩;replace HB:=Aside0.mk (hb);replace HI652:=Aside0.mk (hi);(try clear hb);(try clear hb2);(try clear hk);(try clear hi))|((with_reducible refine gate_callee (f:=70) rfl ?_);refine goesL_ (some 13) rfl rfl Tryz.func70 krT_ rfl #[.pointer (some ⟨g652,0,none⟩),.int .i64 11] rfl agT_ ?_;(with_reducible refine (spec_l1Below.calls g652 t649 t654 t655 11 t656 t657 t658 w _ ?side1 ?side2 A4.out).mono ?_);(case side1=>repeat (first|(with_reducible first|exact HI652.out|apply IsS94.alloc|apply IsS94.drewN|apply IsS94.drew|apply IsS94.set_1|apply IsS94.set_2)|exact HI652.out));(case side2=>exact h_HB HB.out);rintro e w7 ⟨rfl,hi,hb,hk⟩;refine ⟨_,rfl,?_⟩;replace HB:=Aside0.mk (hb);replace HI652:=Aside0.mk (hi);(try clear hb);(try clear hb2);(try clear hk);(try clear hi)))
 go_ret2
 exact ⟨eT_,h_HB HB.out⟩
/-! ### spec_l1Turned: function 92 -/
def spec_l1Turned.f (s0_0:List Int) (s0_1:Int) (s0_2:Int) (a1:ByteArray) (l2:List ByteArray):Option (ByteArray × Int × Int):=(spec_l1Below.f s0_0 s0_1 s0_2 (wrap64 ((a1.size:Int)+1))).bind fun bt659=>((spec_l1Below.f s0_0 bt659.2.1 bt659.2.2 6).bind fun bt662=>(if bt662.1=0 then (if 0≤bt659.1 then (if bt659.1≤(a1.size:Int) then ((spec_l1Pick.f s0_0 bt662.2.1 bt662.2.2 l2).bind fun bt665=>(if (a1.extract 0 (bt659.1:Int).toNat).size+bt665.1.size≤9223372036854775807 then (if ((a1.extract 0 (bt659.1:Int).toNat)++bt665.1).size+(a1.extract (bt659.1:Int).toNat a1.size).size≤9223372036854775807 then (some (((a1.extract 0 (bt659.1:Int).toNat)++bt665.1)++(a1.extract (bt659.1:Int).toNat a1.size),bt665.2.1,bt665.2.2)) else (none)) else (none))) else (none)) else (none)) else (if bt662.1=1 then (if 0≤bt659.1 then (if bt659.1≤(a1.size:Int) then (some (a1.extract 0 (bt659.1:Int).toNat,bt662.2.1,bt662.2.2)) else (none)) else (none)) else (some (a1,bt662.2.1,bt662.2.2)))))
def spec_l1Turned.T4:Bool × List (List Nat × List Nat):=(true,[([],[]),([],[]),([0,1],[0,1]),([],[]),([],[]),([3,4],[3,4]),([2,5],[2,5]),([],[]),([],[]),([7,8],[7,8]),([6,9],[6,9]),([10,5,0,1,2,3,4,5,6,7,8,9,10],[10])])
def spec_l1Turned.B4:List Nat:=[0,0,3,0,0,24,63,0,0,384,1023,2047]
theorem spec_l1Turned.tab4:rtab .any (opsOf Tryz.f92 4)=spec_l1Turned.T4:=by kernel_rfl
theorem spec_l1Turned.bits4:waitsOk spec_l1Turned.T4.2 spec_l1Turned.B4=true:=by kernel_rfl
set_option maxHeartbeats 8000000 in
set_option maxRecDepth 100000 in
theorem spec_l1Turned.calls (g:Nat) (s0_0:List Int) (s0_1:Int) (s0_2:Int) (a1:ByteArray) (A2:Option Addr) (c2:Nat) (l2:List ByteArray) (r1:ByteArray) (r2:Int) (r3:Int) (w0 w:World) (hI:IsS94 w0 w g s0_0 s0_1 s0_2) (hB:Below w0.heap.size w0 w) (hr2:Kd.C Kd.string w A2 l2.length l2) (hc2:l2.length≤c2) (hf2:∀ ad,A2=some ad→0<l2.length→ad.block≠g) (h:spec_l1Turned.f s0_0 s0_1 s0_2 a1 l2=some (r1,r2,r3)) :
    Calls Tryz.prog 92 #[.pointer (some ⟨g,0,none⟩),.string a1,.slice A2 l2.length c2] w fun e w'=>e=.returned (.string r1)∧IsS94 w0 w' g s0_0 r2 r3∧Below w0.heap.size w0 w'∧KeepBut w w' g none:=by
 have HR2:=Aside0.mk hr2
 have HC2:=Aside0.mk hc2
 clear hr2 hc2
 have HI0:=Aside0.mk hI
 have HK:=Aside0.mk (KeepBut.refl w g none)
 have HL:=Aside0.mk hB.size
 clear hI
 have HW0:=Aside0.mk hB.size
 have HB:=Aside0.mk hB
 clear hB
 unfold spec_l1Turned.f at h
 have H:=h
 clear h
 replace H:=bnd_ H;obtain ⟨⟨t659,t660,t661⟩,A4,H⟩:=H;dsimp only at H
 replace H:=bnd_ H;obtain ⟨⟨t662,t663,t664⟩,A5,H⟩:=H;dsimp only at H
 by_cases c6:t662=0
 rotate_left
 ·rw [if_neg c6] at H
  have c6b0:(t662==0)=false:=beq_eq_false_iff_ne.mpr c6
  have c6b1:(t662 != 0)=true:=bne_iff_ne.mpr c6
  by_cases c18:t662=1
  rotate_left
  ·rw [if_neg c18] at H
   have c18b0:(t662==1)=false:=beq_eq_false_iff_ne.mpr c18
   have c18b1:(t662 != 1)=true:=bne_iff_ne.mpr c18
   simp only [Option.some.injEq,Prod.mk.injEq] at H
   obtain ⟨rfl,rfl,rfl⟩:=H
   go_enter Tryz.func92,Tryz.ntmps92
   go_wp2_with (first|((with_reducible refine gate_callee (f:=70) rfl ?_);refine goesL_ (some 12) rfl rfl Tryz.func70 krT_ rfl #[.pointer (some ⟨g,0,none⟩),.int .i64 (wrap64 ((a1.size:Int)+1))] rfl agT_ ?_;(with_reducible refine (spec_l1Below.calls g s0_0 s0_1 s0_2 (wrap64 ((a1.size:Int)+1)) t659 t660 t661 w0 _ ?side1 ?side2 A4.out).mono ?_);(case side1=>exact h_HI0 HI0.out);(case side2=>exact h_HB HB.out);rintro e w23 ⟨rfl,hi,hb,hk⟩;refine ⟨_,rfl,?_⟩;replace HK:=Aside0.mk (KeepBut.trans (h_HK HK.out) hk (.inl rfl));replace HB:=Aside0.mk (hb);replace HI0:=Aside0.mk (hi);(try clear hb);(try clear hb2);(try clear hk);(try clear hi))|((with_reducible refine gate_callee (f:=70) rfl ?_);refine goesL_ (some 14) rfl rfl Tryz.func70 krT_ rfl #[.pointer (some ⟨g,0,none⟩),.int .i64 6] rfl agT_ ?_;(with_reducible refine (spec_l1Below.calls g s0_0 t660 t661 6 t662 t663 t664 w0 _ ?side1 ?side2 A5.out).mono ?_);(case side1=>exact h_HI0 HI0.out);(case side2=>exact h_HB HB.out);rintro e w24 ⟨rfl,hi,hb,hk⟩;refine ⟨_,rfl,?_⟩;replace HK:=Aside0.mk (KeepBut.trans (h_HK HK.out) hk (.inl rfl));replace HB:=Aside0.mk (hb);replace HI0:=Aside0.mk (hi);(try clear hb);(try clear hb2);(try clear hk);(try clear hi)))
   go_ret
   exact ⟨eT_,h_HI0 HI0.out,h_HB HB.out,h_HK HK.out⟩
  rw [if_pos c18] at H
  have c18b0:(t662==1)=true:=beq_iff_eq.mpr c18
  have c18b1:(t662 != 1)=false:=bne_eq_false_iff_eq.mpr c18
  clear c18
  by_cases c19:0≤t659
  rotate_left
  ·rw [if_neg c19] at H
   exact absurd H (by simp)
  rw [if_pos c19] at H
  have c19b0:=eq_true c19
  have c19b1:decide (0≤t659)=true:=decide_eq_true c19
  clear c19
  by_cases c20:t659≤(a1.size:Int)
  ·rw [if_pos c20] at H
   have c20b0:=eq_true c20
   have c20b1:decide (t659≤(a1.size:Int))=true:=decide_eq_true c20
   clear c20
   simp only [Option.some.injEq,Prod.mk.injEq] at H
   obtain ⟨rfl,rfl,rfl⟩:=H
   go_enter Tryz.func92,Tryz.ntmps92
   go_wp2_with (first|((with_reducible refine gate_callee (f:=70) rfl ?_);refine goesL_ (some 12) rfl rfl Tryz.func70 krT_ rfl #[.pointer (some ⟨g,0,none⟩),.int .i64 (wrap64 ((a1.size:Int)+1))] rfl agT_ ?_;(with_reducible refine (spec_l1Below.calls g s0_0 s0_1 s0_2 (wrap64 ((a1.size:Int)+1)) t659 t660 t661 w0 _ ?side1 ?side2 A4.out).mono ?_);(case side1=>exact h_HI0 HI0.out);(case side2=>exact h_HB HB.out);rintro e w21 ⟨rfl,hi,hb,hk⟩;refine ⟨_,rfl,?_⟩;replace HK:=Aside0.mk (KeepBut.trans (h_HK HK.out) hk (.inl rfl));replace HB:=Aside0.mk (hb);replace HI0:=Aside0.mk (hi);(try clear hb);(try clear hb2);(try clear hk);(try clear hi))|((with_reducible refine gate_callee (f:=70) rfl ?_);refine goesL_ (some 14) rfl rfl Tryz.func70 krT_ rfl #[.pointer (some ⟨g,0,none⟩),.int .i64 6] rfl agT_ ?_;(with_reducible refine (spec_l1Below.calls g s0_0 t660 t661 6 t662 t663 t664 w0 _ ?side1 ?side2 A5.out).mono ?_);(case side1=>exact h_HI0 HI0.out);(case side2=>exact h_HB HB.out);rintro e w22 ⟨rfl,hi,hb,hk⟩;refine ⟨_,rfl,?_⟩;replace HK:=Aside0.mk (KeepBut.trans (h_HK HK.out) hk (.inl rfl));replace HB:=Aside0.mk (hb);replace HI0:=Aside0.mk (hi);(try clear hb);(try clear hb2);(try clear hk);(try clear hi)))
   go_ret
   exact ⟨eT_,h_HI0 HI0.out,h_HB HB.out,h_HK HK.out⟩
  ·rw [if_neg c20] at H
   exact absurd H (by simp)
 rw [if_pos c6] at H
 have c6b0:(t662==0)=true:=beq_iff_eq.mpr c6
 have c6b1:(t662 != 0)=false:=bne_eq_false_iff_eq.mpr c6
 clear c6
 by_cases c7:0≤t659
 rotate_left
 ·rw [if_neg c7] at H
  exact absurd H (by simp)
 rw [if_pos c7] at H
 have c7b0:=eq_true c7
 have c7b1:decide (0≤t659)=true:=decide_eq_true c7
 clear c7
 by_cases c8:t659≤(a1.size:Int)
 rotate_left
 ·rw [if_neg c8] at H
  exact absurd H (by simp)
 rw [if_pos c8] at H
 have c8b0:=eq_true c8
 have c8b1:decide (t659≤(a1.size:Int))=true:=decide_eq_true c8
 clear c8
 replace H:=bnd_ H;obtain ⟨⟨t665,t666,t667⟩,A9,H⟩:=H;dsimp only at H
 by_cases c10:(a1.extract 0 (t659:Int).toNat).size+t665.size≤9223372036854775807
 rotate_left
 ·rw [if_neg c10] at H
  exact absurd H (by simp)
 rw [if_pos c10] at H
 have c10b0:=eq_true c10
 have c10b1:decide ((a1.extract 0 (t659:Int).toNat).size+t665.size≤9223372036854775807)=true:=decide_eq_true c10
 try have c10b2:(9223372036854775807<(a1.extract 0 (t659:Int).toNat).size+t665.size)=False:=eq_false (Nat.not_lt.2 c10)
 try have c10b3:(9223372036854775807<(t659:Int).toNat+t665.size)=False:=eq_false (by have h_:=c10;have u_:=of_decide_eq_true c7b1;have v_:=of_decide_eq_true c8b1;simp only [ByteArray.size_append,ByteArray.size_extract] at h_;omega)
 have c11b0:=eq_true (odT_:0≤t659)
 have c12b0:=eq_true (odT_:t659≤(a1.size:Int))
 by_cases c13:((a1.extract 0 (t659:Int).toNat)++t665).size+(a1.extract (t659:Int).toNat a1.size).size≤9223372036854775807
 rotate_left
 ·rw [if_neg c13] at H
  exact absurd H (by simp)
 rw [if_pos c13] at H
 have c13b0:=eq_true c13
 have c13b1:decide (((a1.extract 0 (t659:Int).toNat)++t665).size+(a1.extract (t659:Int).toNat a1.size).size≤9223372036854775807)=true:=decide_eq_true c13
 try have c13b2:(9223372036854775807<((a1.extract 0 (t659:Int).toNat)++t665).size+(a1.extract (t659:Int).toNat a1.size).size)=False:=eq_false (Nat.not_lt.2 c13)
 try have c13b3:(9223372036854775807<(t659:Int).toNat+t665.size+(a1.size-(t659:Int).toNat))=False:=eq_false (by have h_:=c13;have u_:=of_decide_eq_true c7b1;have v_:=of_decide_eq_true c8b1;simp only [ByteArray.size_append,ByteArray.size_extract] at h_;omega)
 simp only [Option.some.injEq,Prod.mk.injEq] at H
 obtain ⟨rfl,rfl,rfl⟩:=H
 go_enter Tryz.func92,Tryz.ntmps92
 try go_wp2_with (first|((with_reducible refine gate_callee (f:=70) rfl ?_);refine goesL_ (some 12) rfl rfl Tryz.func70 krT_ rfl #[.pointer (some ⟨g,0,none⟩),.int .i64 (wrap64 ((a1.size:Int)+1))] rfl agT_ ?_;(with_reducible refine (spec_l1Below.calls g s0_0 s0_1 s0_2 (wrap64 ((a1.size:Int)+1)) t659 t660 t661 w0 _ ?side1 ?side2 A4.out).mono ?_);(case side1=>exact h_HI0 HI0.out);(case side2=>exact h_HB HB.out);rintro e w14 ⟨rfl,hi,hb,hk⟩;refine ⟨_,rfl,?_⟩;replace HK:=Aside0.mk (KeepBut.trans (h_HK HK.out) hk (.inl rfl));replace HB:=Aside0.mk (hb);replace HI0:=Aside0.mk (hi);(try clear hb);(try clear hb2);(try clear hk);(try clear hi))|((with_reducible refine gate_callee (f:=70) rfl ?_);refine goesL_ (some 14) rfl rfl Tryz.func70 krT_ rfl #[.pointer (some ⟨g,0,none⟩),.int .i64 6] rfl agT_ ?_;(with_reducible refine (spec_l1Below.calls g s0_0 t660 t661 6 t662 t663 t664 w0 _ ?side1 ?side2 A5.out).mono ?_);(case side1=>exact h_HI0 HI0.out);(case side2=>exact h_HB HB.out);rintro e w15 ⟨rfl,hi,hb,hk⟩;refine ⟨_,rfl,?_⟩;replace HK:=Aside0.mk (KeepBut.trans (h_HK HK.out) hk (.inl rfl));replace HB:=Aside0.mk (hb);replace HI0:=Aside0.mk (hi);(try clear hb);(try clear hb2);(try clear hk);(try clear hi)))
 replace HI0:=Aside0.mk (IsS94.drew HI0.out);replace HK:=Aside0.mk (keep_drew HK.out);replace HB:=Aside0.mk (below_drew1 HB.out)
 refine start_ (n:=12) (S:=fun w'=>True) (ds:=[]) #[F_,F_,F_,F_,F_,F_,F_,F_,F_,F_,F_,F_] krT_ rfl rfl trivial (fun hHeld=>?_);refine with_tabW spec_l1Turned.tab4 spec_l1Turned.bits4 (fun HT_ HW_=>?_)
 generalize w15.drew=w16 at HI0 HK HB hHeld ⊢
 refine pu_ 0 (some 17) (bm_ 12 1) rfl rfl HT_.out ?_
 refine pu_ 1 (some 18) (bm_ 12 3) rfl rfl HT_.out ?_
 refine pu_ 2 (some 19) (bm_ 12 7) rfl rfl HT_.out ?_
 refine pu_ 3 (some 20) (bm_ 12 15) rfl rfl HT_.out ?_
 refine pu_ 4 (some 21) (bm_ 12 31) rfl rfl HT_.out ?_
 refine pu_ 7 (some 24) (bm_ 12 159) rfl rfl HT_.out ?_
 refine pu_ 8 (some 25) (bm_ 12 415) rfl rfl HT_.out ?_
 refine pu_ 9 (some 26) (bm_ 12 927) rfl rfl HT_.out ?_
 refine one_ (i:=5) (N:=some 22) (bm_ 12 959) rfl rfl (one_of HT_.out krT_) (by decide) (fun K hK=>?_)
 refine goes_ Tryz.func121 krT_ rfl #[.pointer (some ⟨g,0,none⟩),.slice A2 l2.length c2] (by rfl) rfl rfl agT_ ?_
 with_reducible refine (spec_l1Pick.calls g s0_0 t663 t664 _ _ l2 t665 t666 t667 w0 _ ?side1 ?side2 ?side3 ?side4 ?side5 A9.out).mono ?_
 (case side1=>exact h_HI0 HI0.out)
 (case side2=>exact h_HB HB.out)
 (case side3=>exact Kd.C_keep (⟨#[]⟩:ByteArray) HR2.out (h_HK HK.out) hf2)
 (case side4=>exact HC2.out)
 (case side5=>exact hf2)
 rintro e w17 ⟨rfl,hi,hb,hk⟩
 refine ⟨_,rfl,?_⟩
 replace HK:=Aside0.mk (KeepBut.trans (h_HK HK.out) hk (.inl rfl));replace HB:=Aside0.mk (hb);replace HI0:=Aside0.mk (hi)
 (try clear hb)
 (try clear hb2)
 (try clear hk)
 (try clear hi)
 refine hK.out _ _ trivial (fun hHeld=>?_)
 clear hK K
 refine norm_ (a':=?_) ?_ ?_
 rotate_left
 ·show Act.put _ (some 22) _=_
  simp only [Act.put,List.setIfInBounds_toArray,List.set_cons_zero,List.set_cons_succ,i64_w,i32_w]
  rfl
 refine pu_ 6 (some 23) (bm_ 12 1023) rfl rfl HT_.out ?_
 refine pu_ 10 (some 27) (bm_ 12 2047) rfl rfl HT_.out ?_
 refine pu_ 11 (some 6) (bm_ 12 4095) rfl rfl HT_.out ?_
 refine done_ (done_of HT_.out krT_) ?_
 try go_wp2
 go_ret
 exact ⟨eT_,h_HI0 HI0.out,h_HB HB.out,h_HK HK.out⟩
/-! ### spec_DrawParseMatroid: function 43 -/
def spec_DrawParseMatroid.f (k:Nat) (l0:List Int):Option (ByteArray):=(spec_l1New.f k l0).bind fun bt668=>((spec_l4Draw.f k bt668.1 bt668.2.1 bt668.2.2 5).bind fun bt672=>((spec_MatroidText.f k bt672.1 bt672.2.1).bind fun t678=>((spec_l1Turned.f bt668.1 bt672.2.2.1 bt672.2.2.2 t678 (([(⟨#[97]⟩:ByteArray),(⟨#[44]⟩:ByteArray),(⟨#[32]⟩:ByteArray),(⟨#[45]⟩:ByteArray),(⟨#[51,32]⟩:ByteArray),(⟨#[110,111,110,101]⟩:ByteArray)]:List ByteArray))).bind fun bt682=>(some bt682.1))))
set_option maxHeartbeats 8000000 in
set_option maxRecDepth 100000 in
theorem spec_DrawParseMatroid.calls (k:Nat) (A0:Option Addr) (c0:Nat) (l0:List Int) (r:ByteArray) (w:World) (hr0:Kd.C (Kd.int .u8) w A0 l0.length l0) (hc0:l0.length≤c0) (h:spec_DrawParseMatroid.f k l0=some r) :
    Calls Tryz.prog 43 #[.slice A0 l0.length c0] w fun e w'=>e=.returned (.string r)∧Below w.heap.size w w':=by
 have HR0:=Aside0.mk hr0
 have HC0:=Aside0.mk hc0
 clear hr0 hc0
 have HB:=Aside0.mk (Below.refl w.heap.size w)
 unfold spec_DrawParseMatroid.f at h
 have H:=h
 clear h
 replace H:=bnd_ H;obtain ⟨⟨t668,t669,t670⟩,A2,H⟩:=H;dsimp only at H
 replace H:=bnd_ H;obtain ⟨⟨t672,t673,t676,t677⟩,A3,H⟩:=H;dsimp only at H
 replace H:=bnd_ H;obtain ⟨t678,A4,H⟩:=H
 obtain ⟨y679,hy679⟩:∃ y_:List ByteArray,y_=(([(⟨#[97]⟩:ByteArray),(⟨#[44]⟩:ByteArray),(⟨#[32]⟩:ByteArray),(⟨#[45]⟩:ByteArray),(⟨#[51,32]⟩:ByteArray),(⟨#[110,111,110,101]⟩:ByteArray)]:List ByteArray)):=⟨_,rfl⟩
 rw [← hy679] at H
 have Ny679:=Aside0.mk hy679
 clear hy679
 replace H:=bnd_ H;obtain ⟨⟨t682,t683,t684⟩,A5,H⟩:=H;dsimp only at H
 obtain rfl:=Option.some.inj H
 go_enter Tryz.func43,Tryz.ntmps43
 go_wp2_with (first|((with_reducible refine gate_callee (f:=69) rfl ?_);refine goesL_ (some 5) rfl rfl Tryz.func69 krT_ rfl #[.slice A0 l0.length c0] rfl agT_ ?_;(with_reducible refine (spec_l1New.calls k _ _ l0 t668 t669 t670 w _ ?side1 ?side2 ?side3 A2.out).mono ?_);(case side1=>exact h_HB HB.out);(case side2=>exact HR0.out);(case side3=>exact HC0.out);rintro e w6 ⟨g671,rfl,hi,hb,hb2⟩;refine ⟨_,rfl,?_⟩;replace HB:=Aside0.mk (hb);have HI671:=Aside0.mk (hi);(try clear hb);(try clear hb2);(try clear hk);(try clear hi))|((with_reducible refine gate_callee (f:=103) rfl ?_);refine goesL_ (some 8) rfl rfl Tryz.func103 krT_ rfl #[.pointer (some ⟨g671,0,none⟩),.int .i64 5] rfl agT_ ?_;(with_reducible refine (spec_l4Draw.calls k g671 t668 t669 t670 5 t672 t673 t676 t677 w _ ?side1 ?side2 A3.out).mono ?_);(case side1=>exact h_HI671 HI671.out);(case side2=>exact h_HB HB.out);rintro e w7 ⟨v674,rfl,ho0,hi,hb,hk⟩;refine ⟨_,rfl,?_⟩;have HO675:=Aside0.mk (Kd.R_lower ho0 (below_size (h_HB HB.out)));replace HB:=Aside0.mk (hb);replace HI671:=Aside0.mk (hi);(try clear hb);(try clear hb2);(try clear hk);(try clear hi);(try clear ho0);obtain ⟨Ao8,co8,eo8⟩:=Kd.R_slice HO675.out;subst eo8)|((with_reducible refine gate_callee (f:=53) rfl ?_);refine goesL_ (some 9) rfl rfl Tryz.func53 krT_ rfl #[.agg #[.int .i64 t672,.slice Ao8 t673.length co8]] rfl agT_ ?_;(with_reducible refine (spec_MatroidText.calls k t672 _ _ t673 t678 _ ?side1 ?side2 A4.out).mono ?_);(case side1=>repeat (first|exact (Kd.R_reads' HO675.out).2.2|(with_reducible refine Kd.C_alloc ?_ _)|(with_reducible refine Kd.C_drewN ?_ _)|(with_reducible refine Kd.C_drew ?_)));(case side2=>exact (Kd.R_reads' HO675.out).2.1);rintro e w9 ⟨rfl,hb⟩;refine ⟨_,rfl,?_⟩;replace HO675:=Aside0.mk (Kd.R_below (kRC_ HO675.out) hb);replace HI671:=Aside0.mk (IsS94.below (h_HI671 HI671.out) hb);replace HB:=Aside0.mk (below_step (h_HB HB.out) hb);(try clear hb))|((with_reducible refine gate_dst (N:=10) rfl ?_);refine Kd.R_lit Kd.string _ 9 ?hg (N:=10) ?hd (xs:=([(⟨#[97]⟩:ByteArray),(⟨#[44]⟩:ByteArray),(⟨#[32]⟩:ByteArray),(⟨#[45]⟩:ByteArray),(⟨#[51,32]⟩:ByteArray),(⟨#[110,111,110,101]⟩:ByteArray)]:List ByteArray)) (inner:=[.string (⟨#[97]⟩:ByteArray),.string (⟨#[44]⟩:ByteArray),.string (⟨#[32]⟩:ByteArray),.string (⟨#[45]⟩:ByteArray),.string (⟨#[51,32]⟩:ByteArray),.string (⟨#[110,111,110,101]⟩:ByteArray)]) (ok:=fun _=>True) (okp:=fun _=>True) ?hr ?hp (fun _ hk=>hk) trivial (Below.refl _ _) (Nat.le_refl _) (by simp) ?_;(case hd=>rfl);(case hg=>rfl);(case hr=>exact hrT_);(case hp=>exact (Reps.one (show Kd.M Kd.string _ _ _ (⟨#[97]⟩:ByteArray) [.string (⟨#[97]⟩:ByteArray)] from rfl) (Reps.one (show Kd.M Kd.string _ _ _ (⟨#[44]⟩:ByteArray) [.string (⟨#[44]⟩:ByteArray)] from rfl) (Reps.one (show Kd.M Kd.string _ _ _ (⟨#[32]⟩:ByteArray) [.string (⟨#[32]⟩:ByteArray)] from rfl) (Reps.one (show Kd.M Kd.string _ _ _ (⟨#[45]⟩:ByteArray) [.string (⟨#[45]⟩:ByteArray)] from rfl) (Reps.one (show Kd.M Kd.string _ _ _ (⟨#[51,32]⟩:ByteArray) [.string (⟨#[51,32]⟩:ByteArray)] from rfl) (Reps.one (show Kd.M Kd.string _ _ _ (⟨#[110,111,110,101]⟩:ByteArray) [.string (⟨#[110,111,110,101]⟩:ByteArray)] from rfl) (Reps.none _ _))))))));intro v680 w10 ho11 hb hg_ hnew_;clear hg_ hnew_;(first|rw [← Ny679.out] at ho11|(simp only [Int.reduceToNat] at ho11;rw [← Ny679.out] at ho11));replace HO675:=Aside0.mk (Kd.R_below (kRC_ HO675.out) hb);have HO681:=Aside0.mk (Kd.R_lower ho11 (below_size (h_HB HB.out)));replace HI671:=Aside0.mk (IsS94.below (h_HI671 HI671.out) hb);replace HB:=Aside0.mk (below_step (h_HB HB.out) hb);clear hb ho11;obtain ⟨Ao12,co12,eo12⟩:=Kd.R_slice HO681.out;subst eo12)|((with_reducible refine gate_callee (f:=92) rfl ?_);refine goesL_ (some 11) rfl rfl Tryz.func92 krT_ rfl #[.pointer (some ⟨g671,0,none⟩),.string t678,.slice Ao12 y679.length co12] rfl agT_ ?_;(with_reducible refine (spec_l1Turned.calls g671 t668 t676 t677 t678 _ _ y679 t682 t683 t684 w _ ?side1 ?side2 ?side3 ?side4 ?side5 A5.out).mono ?_);(case side1=>exact h_HI671 HI671.out);(case side2=>exact h_HB HB.out);(case side3=>repeat (first|exact (Kd.R_reads' HO681.out).2.2|(with_reducible refine Kd.C_alloc ?_ _)|(with_reducible refine Kd.C_drewN ?_ _)|(with_reducible refine Kd.C_drew ?_)));(case side4=>exact (Kd.R_reads' HO681.out).2.1);(case side5=>exact far_slice (IsS94.own_ne HI671.out HO681.out (by decide)));rintro e w13 ⟨rfl,hi,hb,hk⟩;refine ⟨_,rfl,?_⟩;replace HO675:=Aside0.mk (Kd.R_mono (Kd.R_keep (IsS94.apart (show IsS94 w _ g671 t668 t676 t677 from h_HI671 HI671.out) (kRC_ HO675.out) (by decide)) hk (fun _ h=>h.2)) (fun _ h=>h.1));replace HO681:=Aside0.mk (Kd.R_mono (Kd.R_keep (IsS94.apart (show IsS94 w _ g671 t668 t676 t677 from h_HI671 HI671.out) (kRC_ HO681.out) (by decide)) hk (fun _ h=>h.2)) (fun _ h=>h.1));replace HB:=Aside0.mk (hb);replace HI671:=Aside0.mk (hi);(try clear hb);(try clear hb2);(try clear hk);(try clear hi)))
 go_ret
 exact ⟨eT_,h_HB HB.out⟩
end Go.Proofs.YtekegbacnagbcaaGreatDoor.P
