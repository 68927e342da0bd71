-- written by gprint (a program of this session's, round the kit's print), out of the translation and hand-written texts
import Derived.Test.YtekegbacnagbcaaGreatDoorPVFnMatroidsx0
import Derived.Test.YtekegbacnagbcaaGreatDoorPVFnMatroidsx10
import Derived.Test.YtekegbacnagbcaaGreatDoorPVFnMatroidsx11
import Derived.Test.YtekegbacnagbcaaGreatDoorPVFnMatroidsx12
import Derived.Test.YtekegbacnagbcaaGreatDoorPVFnMatroidsx14
namespace Go.Proofs.YtekegbacnagbcaaGreatDoor.P
open Go.RowKit Go.Proofs.YtekegbacnagbcaaGreatDoorW.PrintWords Go.Proofs.YtekegbacnagbcaaGreatDoorW.PrintLast Go.Proofs.YtekegbacnagbcaaGreatDoorW.PrintMore
attribute [local go_sem] max2_int min2_int max_two min_two max_three min_three max_four min_four   -- for this text's walks alone
set_option linter.unusedVariables false
set_option linter.unusedSimpArgs false
/-! ### spec_l4Bent: function 97 -/
def spec_l4Bent.f (k:Nat) (s0_0:List Int) (s0_1:Int) (s0_2:Int) (a1:Int):Option (Int × List Int × Int × Int):=(spec_l4Draw.f k s0_0 s0_1 s0_2 a1).bind fun bt552=>((spec_l1Below.f s0_0 bt552.2.2.1 bt552.2.2.2 10).bind fun bt559=>(if bt559.1=0 then ((spec_l1PickInt.f s0_0 bt559.2.1 bt559.2.2 (([(-1),0,2,9]:List Int))).bind fun bt565=>(some (bt565.1,bt552.2.1,bt565.2.1,bt565.2.2))) else (if bt559.1=1 then ((spec_l2Bent.f s0_0 bt559.2.1 bt559.2.2).bind fun bt568=>(if bt552.2.1.length<17592186044416 then (some (bt552.1,(bt552.2.1++[bt568.1]),bt568.2.1,bt568.2.2)) else (none))) else (if bt559.1=2 then (if (bt552.2.1.length:Int)>1 then ((spec_l1Below.f s0_0 bt559.2.1 bt559.2.2 (bt552.2.1.length:Int)).bind fun bt574=>((some (([]:List Int):List Int)).bind fun y577=>(if 0≤bt574.1 then (if bt574.1≤(bt552.2.1.length:Int) then ((some (bt552.2.1.take (bt574.1:Int).toNat:List Int)).bind fun y580=>(if y577.length+y580.length<17592186044416 then ((some (y577++y580:List Int)).bind fun y584=>(if 0≤(wrap64 (bt574.1+1)) then (if (wrap64 (bt574.1+1))≤(bt552.2.1.length:Int) then ((some (bt552.2.1.drop ((wrap64 (bt574.1+1)):Int).toNat:List Int)).bind fun y587=>(if y584.length+y587.length<17592186044416 then (some (bt552.1,(y584++y587),bt574.2.1,bt574.2.2)) else (none))) else (none)) else (none))) else (none))) else (none)) else (none)))) else (some (bt552.1,bt552.2.1,bt559.2.1,bt559.2.2))) else (if bt559.1=3 then ((spec_l1Min.f bt552.1 8).bind fun t594=>((spec_l1Max.f 0 t594).bind fun t595=>((spec_l3Draw.f k s0_0 bt559.2.1 bt559.2.2 t595).bind fun bt596=>((spec_SortSets.f k bt596.1).bind fun t601=>(some (bt552.1,t601,bt596.2.1,bt596.2.2)))))) else (some (bt552.1,bt552.2.1,bt559.2.1,bt559.2.2)))))))
def spec_l4Bent.T6:Bool × List (List Nat × List Nat):=(true,[([],[]),([0],[0]),([],[]),([2],[2]),([3],[3]),([1,4,3],[1,4]),([0,1,2,3,4,5],[]),([6,5,5,0,1,2,3,4,5],[5,6])])
def spec_l4Bent.B6:List Nat:=[0,1,0,4,12,31,63,127]
theorem spec_l4Bent.tab6:rtab .any (opsOf Tryz.f97 6)=spec_l4Bent.T6:=by kernel_rfl
theorem spec_l4Bent.bits6:waitsOk spec_l4Bent.T6.2 spec_l4Bent.B6=true:=by kernel_rfl
def spec_l4Bent.T10:Bool × List (List Nat × List Nat):=(true,[([],[]),([],[]),([1],[1]),([],[]),([2,3],[2,3]),([0,4],[0,4]),([],[]),([6],[6]),([],[]),([8],[8]),([7,9],[7,9]),([5,10,5],[5,10]),([0,1,2,3,4,5,6,7,8,9,10,11],[]),([12,11,11,0,1,2,3,4,5,6,7,8,9,10,11],[11,12])])
def spec_l4Bent.B10:List Nat:=[0,0,2,0,14,31,0,64,0,256,960,2047,4095,8191]
theorem spec_l4Bent.tab10:rtab .any (opsOf Tryz.f97 10)=spec_l4Bent.T10:=by kernel_rfl
theorem spec_l4Bent.bits10:waitsOk spec_l4Bent.T10.2 spec_l4Bent.B10=true:=by kernel_rfl
set_option maxHeartbeats 8000000 in
set_option maxRecDepth 100000 in
theorem spec_l4Bent.calls (k:Nat) (g:Nat) (s0_0:List Int) (s0_1:Int) (s0_2:Int) (a1:Int) (r1:Int) (r2:List Int) (r3:Int) (r4:Int) (w0 w:World) (hI:IsS94 w0 w g s0_0 s0_1 s0_2) (hB:Below w0.heap.size w0 w) (h:spec_l4Bent.f k s0_0 s0_1 s0_2 a1=some (r1,r2,r3,r4)) :
    Calls Tryz.prog 97 #[.pointer (some ⟨g,0,none⟩),.int .i64 a1] w fun e w'=>∃ v1_:Value,e=.returned (.agg #[.int .i64 r1,v1_])∧Kd.R (Kd.int .i64) 3 w' w.heap.size (fun _=>True) v1_ r2∧IsS94 w0 w' g s0_0 r3 r4∧Below w0.heap.size w0 w'∧KeepBut w w' g none:=by
 have hu24:=Tryz.underlying24
 have HI0:=Aside0.mk hI
 have HK:=Aside0.mk (KeepBut.refl w g none)
 have HL:=Aside0.mk hB.size
 clear hI
 have HW0:=Aside0.mk hB.size
 have HB:=Aside0.mk hB
 clear hB
 unfold spec_l4Bent.f at h
 have H:=h
 clear h
 replace H:=bnd_ H;obtain ⟨⟨t552,t553,t556,t557⟩,A3,H⟩:=H;dsimp only at H
 replace H:=bnd_ H;obtain ⟨⟨t559,t560,t561⟩,A4,H⟩:=H;dsimp only at H
 by_cases c5:t559=0
 ·rw [if_pos c5] at H
  have c5b0:(t559==0)=true:=beq_iff_eq.mpr c5
  have c5b1:(t559 != 0)=false:=bne_eq_false_iff_eq.mpr c5
  clear c5
  obtain ⟨y562,hy562⟩:∃ y_:List Int,y_=(([(-1),0,2,9]:List Int)):=⟨_,rfl⟩
  rw [← hy562] at H
  have Ny562:=Aside0.mk hy562
  clear hy562
  replace H:=bnd_ H;obtain ⟨⟨t565,t566,t567⟩,A6,H⟩:=H;dsimp only at H
  simp only [Option.some.injEq,Prod.mk.injEq] at H
  obtain ⟨rfl,rfl,rfl,rfl⟩:=H
  go_enter Tryz.func97,Tryz.ntmps97
  go_wp2_with (first|((with_reducible refine gate_dst (N:=4) rfl ?_);refine bx_ (N:=4) (cs:=#[.int .i64 0,.slice none 0 0]) (t:=24) ?_;intro gb551 hg w7 hbox hb;replace HB:=Aside0.mk (below_step (h_HB HB.out) hb);have BK551:=Aside0.mk (hbox);have GW551:=Aside0.mk ((by rw [hg];exact (keep_size (w:=w) (g:=g) (row:=none) (h_HK HK.out)):w.heap.size≤gb551));have GE551:=Aside0.mk ((Nat.le_trans HW0.out (by rw [hg];exact (keep_size (w:=w) (g:=g) (row:=none) (h_HK HK.out)):w.heap.size≤gb551):w0.heap.size≤gb551));replace HK:=Aside0.mk (KeepBut.trans (h_HK HK.out) (KeepBut.of_below hb g none) (.inl rfl));have NB0_551:=Aside0.mk ((by rw [hg];exact Nat.ne_of_lt (IsS94.lt (show IsS94 w0 _ g s0_0 s0_1 s0_2 from h_HI0 HI0.out)):g≠gb551));have NB551_0:=Aside0.mk ((by rw [hg];exact Nat.ne_of_gt (IsS94.lt (show IsS94 w0 _ g s0_0 s0_1 s0_2 from h_HI0 HI0.out)):gb551≠g));replace HI0:=Aside0.mk (IsS94.below (h_HI0 HI0.out) hb);clear hb hbox hg)|((with_reducible refine gate_callee (f:=103) rfl ?_);refine goesL_ (some 9) rfl rfl Tryz.func103 krT_ rfl #[.pointer (some ⟨g,0,none⟩),.int .i64 a1] rfl agT_ ?_;(with_reducible refine (spec_l4Draw.calls k g s0_0 s0_1 s0_2 a1 t552 t553 t556 t557 w0 _ ?side1 ?side2 A3.out).mono ?_);(case side1=>exact h_HI0 HI0.out);(case side2=>exact h_HB HB.out);rintro e w8 ⟨v554,rfl,ho0,hi,hb,hk⟩;refine ⟨_,rfl,?_⟩;replace BK551:=Aside0.mk (KeepBut.blk hk (bkC_ BK551.out) NB551_0.out (by simp));have HO555:=Aside0.mk (Kd.R_lower ho0 (keep_size (w:=w) (g:=g) (row:=none) (h_HK HK.out)));replace HK:=Aside0.mk (KeepBut.trans (h_HK HK.out) hk (.inl rfl));replace HB:=Aside0.mk (hb);replace HI0:=Aside0.mk (hi);(try clear hb);(try clear hb2);(try clear hk);(try clear hi);(try clear ho0))|((with_reducible refine gate_dst (N:=5) rfl ?_);refine bx_ (N:=5) (cs:=#[.int .i64 0,.slice none 0 0]) (t:=24) ?_;intro gb558 hg w9 hbox hb;have n0_:=Aside0.mk (Kd.R_below (kRC_ HO555.out) hb);have n1_:=Aside0.mk (IsS94.below (h_HI0 HI0.out) hb);have n2_:=Aside0.mk (blkB_ BK551.out hb);have n3_:=Aside0.mk (KeepBut.trans (h_HK HK.out) (KeepBut.of_below hb g none) (.inl rfl));have n4_:=Aside0.mk (below_step (h_HB HB.out) hb);have n5_:=Aside0.mk (hbox);have n6_:=Aside0.mk ((by rw [hg];exact (keep_size (w:=w) (g:=g) (row:=none) (h_HK HK.out)):w.heap.size≤gb558));have n7_:=Aside0.mk ((Nat.le_trans HW0.out (by rw [hg];exact (keep_size (w:=w) (g:=g) (row:=none) (h_HK HK.out)):w.heap.size≤gb558):w0.heap.size≤gb558));have n8_:=Aside0.mk (nbl_ hg (bkC_ BK551.out));have n9_:=Aside0.mk (nbg_ hg (bkC_ BK551.out));have n10_:=Aside0.mk ((by rw [hg];exact Nat.ne_of_lt (IsS94.lt (show IsS94 w0 _ g s0_0 t556 t557 from h_HI0 HI0.out)):g≠gb558));have n11_:=Aside0.mk ((by rw [hg];exact Nat.ne_of_gt (IsS94.lt (show IsS94 w0 _ g s0_0 t556 t557 from h_HI0 HI0.out)):gb558≠g));clear HO555;clear HI0;clear BK551;clear HK;clear HB;have HO555:=n0_;have HI0:=n1_;have BK551:=n2_;have HK:=n3_;have HB:=n4_;have BK558:=n5_;have GW558:=n6_;have GE558:=n7_;have NB551_558:=n8_;have NB558_551:=n9_;have NB0_558:=n10_;have NB558_0:=n11_;clear n0_ n1_ n2_ n3_ n4_ n5_ n6_ n7_ n8_ n9_ n10_ n11_;clear hb hbox hg;have hnb10:=NB558_551.out;have hnc10:=NB551_558.out;have hnb11:=NB558_0.out;have hnc11:=NB0_558.out;obtain ⟨hcz12_0,hcz12_1,hfz12_0,hfz12_1⟩:=bz2_ BK558.out;obtain ⟨Ao13,co13,eo13⟩:=Kd.R_slice HO555.out;subst eo13)|((with_reducible refine gate_callee (f:=70) rfl ?_);refine goesL_ (some 11) rfl rfl Tryz.func70 krT_ rfl #[.pointer (some ⟨g,0,none⟩),.int .i64 10] rfl agT_ ?_;(with_reducible refine (spec_l1Below.calls g s0_0 t556 t557 10 t559 t560 t561 w0 _ ?side1 ?side2 A4.out).mono ?_);(case side1=>exact h_HI0 HI0.out);(case side2=>exact h_HB HB.out);rintro e w14 ⟨rfl,hi,hb,hk⟩;refine ⟨_,rfl,?_⟩;replace BK551:=Aside0.mk (KeepBut.blk hk (bkC_ BK551.out) NB551_0.out (by simp));replace HO555:=Aside0.mk (Kd.R_mono (Kd.R_keep (IsS94.apart (show IsS94 w0 _ g s0_0 t556 t557 from h_HI0 HI0.out) (by (with_reducible repeat (first|apply Kd.R_alloc|apply Kd.R_drewN|apply Kd.R_drew));exact (Kd.R_mono (Kd.R_far (p:=⟨gb558,1,none⟩) (Kd.R_far (p:=⟨gb558,0,none⟩) (Kd.R_types HO555.out BK558.out (by decide)) (fun _ hk=>hk.2) (.int .i64 t552)) (fun _ hk=>hk.2) (.slice Ao13 t553.length co13)) (fun _ h_=>h_.1))) (by decide)) hk (fun _ h=>h.2)) (fun _ h=>h.1));replace BK558:=Aside0.mk (KeepBut.blk hk (g':=gb558) (o:=.cells #[.int .i64 t552,.slice Ao13 t553.length co13] 24 (0,0)) (by (with_reducible repeat (first|refine blk_drewN ?_ _|refine blk_drew ?_|refine blk_alloc ?_ _));refine blk_put (cs:=#[.int .i64 t552,.slice none 0 0]) ?_ 1 _ rfl;(with_reducible repeat (first|refine blk_drewN ?_ _|refine blk_drew ?_|refine blk_alloc ?_ _));refine blk_put (cs:=#[.int .i64 0,.slice none 0 0]) ?_ 0 _ rfl;exact bkC_ BK558.out) NB558_0.out (by simp));replace HK:=Aside0.mk (KeepBut.trans (h_HK HK.out) hk (.inl rfl));replace HB:=Aside0.mk (hb);replace HI0:=Aside0.mk (hi);(try clear hb);(try clear hb2);(try clear hk);(try clear hi))|((with_reducible refine gate_dst (N:=15) rfl ?_);refine Kd.R_lit (Kd.int .i64) _ 3 ?hg (N:=15) ?hd (xs:=([(-1),0,2,9]:List Int)) (inner:=[.int .i64 (-1),.int .i64 0,.int .i64 2,.int .i64 9]) (ok:=fun _=>True) (okp:=fun _=>True) ?hr ?hp (fun _ hk=>hk) trivial (Below.refl _ _) (Nat.le_refl _) (by simp) ?_;(case hd=>rfl);(case hg=>rfl);(case hr=>exact hrT_);(case hp=>exact (Reps.one (show Kd.M (Kd.int .i64) _ _ _ (-1) [.int .i64 (-1)] from rfl) (Reps.one (show Kd.M (Kd.int .i64) _ _ _ 0 [.int .i64 0] from rfl) (Reps.one (show Kd.M (Kd.int .i64) _ _ _ 2 [.int .i64 2] from rfl) (Reps.one (show Kd.M (Kd.int .i64) _ _ _ 9 [.int .i64 9] from rfl) (Reps.none _ _))))));intro v563 w15 ho16 hb hg_ hnew_;clear hg_ hnew_;(first|rw [← Ny562.out] at ho16|(simp only [Int.reduceToNat] at ho16;rw [← Ny562.out] at ho16));have HO564:=Aside0.mk (Kd.R_lower (Kd.R_new' ho16 (Kd.R_lt (kRC_ HO555.out))) (keep_size (w:=w) (g:=g) (row:=none) (h_HK HK.out)));replace HO555:=Aside0.mk (Kd.R_elder' (kRC_ HO555.out) (Kd.R_base ho16) hb);replace HI0:=Aside0.mk (IsS94.below (h_HI0 HI0.out) hb);replace BK551:=Aside0.mk (blkB_ BK551.out hb);replace BK558:=Aside0.mk (blkB_ BK558.out hb);replace HK:=Aside0.mk (KeepBut.trans (h_HK HK.out) (KeepBut.of_below hb g none) (.inl rfl));replace HB:=Aside0.mk (below_step (h_HB HB.out) hb);clear hb ho16;obtain ⟨Ao17,co17,eo17⟩:=Kd.R_slice HO564.out;subst eo17)|((with_reducible refine gate_callee (f:=74) rfl ?_);refine goesL_ (some 16) rfl rfl Tryz.func74 krT_ rfl #[.pointer (some ⟨g,0,none⟩),.slice Ao17 y562.length co17] rfl agT_ ?_;(with_reducible refine (spec_l1PickInt.calls g s0_0 t560 t561 _ _ y562 t565 t566 t567 w0 _ ?side1 ?side2 ?side3 ?side4 ?side5 A6.out).mono ?_);(case side1=>exact h_HI0 HI0.out);(case side2=>exact h_HB HB.out);(case side3=>repeat (first|exact (Kd.R_reads' HO564.out).2.2|(with_reducible refine Kd.C_alloc ?_ _)|(with_reducible refine Kd.C_drewN ?_ _)|(with_reducible refine Kd.C_drew ?_)));(case side4=>exact (Kd.R_reads' HO564.out).2.1);(case side5=>exact far_slice (IsS94.own_ne HI0.out HO564.out (by decide)));rintro e w18 ⟨rfl,hi,hb,hk⟩;refine ⟨_,rfl,?_⟩;replace BK551:=Aside0.mk (KeepBut.blk hk (bkC_ BK551.out) NB551_0.out (by simp));replace HO555:=Aside0.mk (Kd.R_mono (Kd.R_keep (IsS94.apart (show IsS94 w0 _ g s0_0 t560 t561 from h_HI0 HI0.out) (kRC_ HO555.out) (by decide)) hk (fun _ h=>h.2)) (fun _ h=>h.1));replace BK558:=Aside0.mk (KeepBut.blk hk (bkC_ BK558.out) NB558_0.out (by simp));replace HO564:=Aside0.mk (Kd.R_mono (Kd.R_keep (IsS94.apart (show IsS94 w0 _ g s0_0 t560 t561 from h_HI0 HI0.out) (kRC_ HO564.out) (by decide)) hk (fun _ h=>h.2)) (fun _ h=>h.1));replace HK:=Aside0.mk (KeepBut.trans (h_HK HK.out) hk (.inl rfl));replace HB:=Aside0.mk (hb);replace HI0:=Aside0.mk (hi);(try clear hb);(try clear hb2);(try clear hk);(try clear hi);obtain ⟨hcz19_0,hcz19_1,hfz19_0,hfz19_1⟩:=bz2_ BK558.out;have hnb20:=NB551_0.out;have hnc20:=NB0_551.out;obtain ⟨hcz21_0,hcz21_1,hfz21_0,hfz21_1⟩:=bz2_ BK551.out))
  refine bodyPost_ret (results_cell_row rfl _ _ gb551 24 #[.int .i64 t565,.slice Ao13 t553.length co13] (0,0) _ rfl (by (with_reducible repeat (first|refine blk_drewN ?_ _|refine blk_drew ?_|refine blk_alloc ?_ _));refine blk_put (cs:=#[.int .i64 t565,.slice none 0 0]) ?_ 1 _ rfl;(with_reducible repeat (first|refine blk_drewN ?_ _|refine blk_drew ?_|refine blk_alloc ?_ _));refine blk_put (cs:=#[.int .i64 0,.slice none 0 0]) ?_ 0 _ rfl;exact bkC_ BK551.out) Tryz.underlying24 rfl krT_) rfl ?_
  exact ⟨_,eT_,by (with_reducible repeat (first|apply Kd.R_alloc|apply Kd.R_drewN|apply Kd.R_drew));exact Kd.R_mono (Kd.R_far (p:=⟨gb551,1,none⟩) (Kd.R_far (p:=⟨gb551,0,none⟩) (Kd.R_far (p:=⟨gb558,0,none⟩) (Kd.R_types (Kd.R_types HO555.out BK558.out (by decide)) BK551.out (by decide)) (fun _ hk=>hk.1.2) (.int .i64 t565)) (fun _ hk=>hk.2) (.int .i64 t565)) (fun _ hk=>hk.2) (.slice Ao13 t553.length co13)) (fun _ hk=>trivial),h_HI0 HI0.out,h_HB HB.out,h_HK HK.out⟩
 rw [if_neg c5] at H
 have c5b0:(t559==0)=false:=beq_eq_false_iff_ne.mpr c5
 have c5b1:(t559 != 0)=true:=bne_iff_ne.mpr c5
 by_cases c22:t559=1
 ·rw [if_pos c22] at H
  have c22b0:(t559==1)=true:=beq_iff_eq.mpr c22
  have c22b1:(t559 != 1)=false:=bne_eq_false_iff_eq.mpr c22
  clear c22
  replace H:=bnd_ H;obtain ⟨⟨t568,t569,t570⟩,A23,H⟩:=H;dsimp only at H
  by_cases c24:t553.length<17592186044416
  rotate_left
  ·rw [if_neg c24] at H
   exact absurd H (by simp)
  rw [if_pos c24] at H
  have LMc24:=Aside0.mk c24
  clear c24
  obtain ⟨y571,hy571⟩:∃ y_:List Int,y_=(t553++[t568]):=⟨_,rfl⟩
  rw [← hy571] at H
  have Ny571:=Aside0.mk hy571
  clear hy571
  simp only [Option.some.injEq,Prod.mk.injEq] at H
  obtain ⟨rfl,rfl,rfl,rfl⟩:=H
  go_enter Tryz.func97,Tryz.ntmps97
  try go_wp2_with (first|((with_reducible refine gate_dst (N:=4) rfl ?_);refine bx_ (N:=4) (cs:=#[.int .i64 0,.slice none 0 0]) (t:=24) ?_;intro gb551 hg w25 hbox hb;replace HB:=Aside0.mk (below_step (h_HB HB.out) hb);have BK551:=Aside0.mk (hbox);have GW551:=Aside0.mk ((by rw [hg];exact (keep_size (w:=w) (g:=g) (row:=none) (h_HK HK.out)):w.heap.size≤gb551));have GE551:=Aside0.mk ((Nat.le_trans HW0.out (by rw [hg];exact (keep_size (w:=w) (g:=g) (row:=none) (h_HK HK.out)):w.heap.size≤gb551):w0.heap.size≤gb551));replace HK:=Aside0.mk (KeepBut.trans (h_HK HK.out) (KeepBut.of_below hb g none) (.inl rfl));have NB0_551:=Aside0.mk ((by rw [hg];exact Nat.ne_of_lt (IsS94.lt (show IsS94 w0 _ g s0_0 s0_1 s0_2 from h_HI0 HI0.out)):g≠gb551));have NB551_0:=Aside0.mk ((by rw [hg];exact Nat.ne_of_gt (IsS94.lt (show IsS94 w0 _ g s0_0 s0_1 s0_2 from h_HI0 HI0.out)):gb551≠g));replace HI0:=Aside0.mk (IsS94.below (h_HI0 HI0.out) hb);clear hb hbox hg)|((with_reducible refine gate_callee (f:=103) rfl ?_);refine goesL_ (some 9) rfl rfl Tryz.func103 krT_ rfl #[.pointer (some ⟨g,0,none⟩),.int .i64 a1] rfl agT_ ?_;(with_reducible refine (spec_l4Draw.calls k g s0_0 s0_1 s0_2 a1 t552 t553 t556 t557 w0 _ ?side1 ?side2 A3.out).mono ?_);(case side1=>exact h_HI0 HI0.out);(case side2=>exact h_HB HB.out);rintro e w26 ⟨v554,rfl,ho0,hi,hb,hk⟩;refine ⟨_,rfl,?_⟩;replace BK551:=Aside0.mk (KeepBut.blk hk (bkC_ BK551.out) NB551_0.out (by simp));have HO555:=Aside0.mk (Kd.R_lower ho0 (keep_size (w:=w) (g:=g) (row:=none) (h_HK HK.out)));replace HK:=Aside0.mk (KeepBut.trans (h_HK HK.out) hk (.inl rfl));replace HB:=Aside0.mk (hb);replace HI0:=Aside0.mk (hi);(try clear hb);(try clear hb2);(try clear hk);(try clear hi);(try clear ho0))|((with_reducible refine gate_dst (N:=5) rfl ?_);refine bx_ (N:=5) (cs:=#[.int .i64 0,.slice none 0 0]) (t:=24) ?_;intro gb558 hg w27 hbox hb;have n0_:=Aside0.mk (Kd.R_below (kRC_ HO555.out) hb);have n1_:=Aside0.mk (IsS94.below (h_HI0 HI0.out) hb);have n2_:=Aside0.mk (blkB_ BK551.out hb);have n3_:=Aside0.mk (KeepBut.trans (h_HK HK.out) (KeepBut.of_below hb g none) (.inl rfl));have n4_:=Aside0.mk (below_step (h_HB HB.out) hb);have n5_:=Aside0.mk (hbox);have n6_:=Aside0.mk ((by rw [hg];exact (keep_size (w:=w) (g:=g) (row:=none) (h_HK HK.out)):w.heap.size≤gb558));have n7_:=Aside0.mk ((Nat.le_trans HW0.out (by rw [hg];exact (keep_size (w:=w) (g:=g) (row:=none) (h_HK HK.out)):w.heap.size≤gb558):w0.heap.size≤gb558));have n8_:=Aside0.mk (nbl_ hg (bkC_ BK551.out));have n9_:=Aside0.mk (nbg_ hg (bkC_ BK551.out));have n10_:=Aside0.mk ((by rw [hg];exact Nat.ne_of_lt (IsS94.lt (show IsS94 w0 _ g s0_0 t556 t557 from h_HI0 HI0.out)):g≠gb558));have n11_:=Aside0.mk ((by rw [hg];exact Nat.ne_of_gt (IsS94.lt (show IsS94 w0 _ g s0_0 t556 t557 from h_HI0 HI0.out)):gb558≠g));clear HO555;clear HI0;clear BK551;clear HK;clear HB;have HO555:=n0_;have HI0:=n1_;have BK551:=n2_;have HK:=n3_;have HB:=n4_;have BK558:=n5_;have GW558:=n6_;have GE558:=n7_;have NB551_558:=n8_;have NB558_551:=n9_;have NB0_558:=n10_;have NB558_0:=n11_;clear n0_ n1_ n2_ n3_ n4_ n5_ n6_ n7_ n8_ n9_ n10_ n11_;clear hb hbox hg;have hnb28:=NB558_551.out;have hnc28:=NB551_558.out;have hnb29:=NB558_0.out;have hnc29:=NB0_558.out;obtain ⟨hcz30_0,hcz30_1,hfz30_0,hfz30_1⟩:=bz2_ BK558.out;obtain ⟨Ao31,co31,eo31⟩:=Kd.R_slice HO555.out;subst eo31)|((with_reducible refine gate_callee (f:=70) rfl ?_);refine goesL_ (some 11) rfl rfl Tryz.func70 krT_ rfl #[.pointer (some ⟨g,0,none⟩),.int .i64 10] rfl agT_ ?_;(with_reducible refine (spec_l1Below.calls g s0_0 t556 t557 10 t559 t560 t561 w0 _ ?side1 ?side2 A4.out).mono ?_);(case side1=>exact h_HI0 HI0.out);(case side2=>exact h_HB HB.out);rintro e w32 ⟨rfl,hi,hb,hk⟩;refine ⟨_,rfl,?_⟩;replace BK551:=Aside0.mk (KeepBut.blk hk (bkC_ BK551.out) NB551_0.out (by simp));replace HO555:=Aside0.mk (Kd.R_mono (Kd.R_keep (IsS94.apart (show IsS94 w0 _ g s0_0 t556 t557 from h_HI0 HI0.out) (by (with_reducible repeat (first|apply Kd.R_alloc|apply Kd.R_drewN|apply Kd.R_drew));exact (Kd.R_mono (Kd.R_far (p:=⟨gb558,1,none⟩) (Kd.R_far (p:=⟨gb558,0,none⟩) (Kd.R_types HO555.out BK558.out (by decide)) (fun _ hk=>hk.2) (.int .i64 t552)) (fun _ hk=>hk.2) (.slice Ao31 t553.length co31)) (fun _ h_=>h_.1))) (by decide)) hk (fun _ h=>h.2)) (fun _ h=>h.1));replace BK558:=Aside0.mk (KeepBut.blk hk (g':=gb558) (o:=.cells #[.int .i64 t552,.slice Ao31 t553.length co31] 24 (0,0)) (by (with_reducible repeat (first|refine blk_drewN ?_ _|refine blk_drew ?_|refine blk_alloc ?_ _));refine blk_put (cs:=#[.int .i64 t552,.slice none 0 0]) ?_ 1 _ rfl;(with_reducible repeat (first|refine blk_drewN ?_ _|refine blk_drew ?_|refine blk_alloc ?_ _));refine blk_put (cs:=#[.int .i64 0,.slice none 0 0]) ?_ 0 _ rfl;exact bkC_ BK558.out) NB558_0.out (by simp));replace HK:=Aside0.mk (KeepBut.trans (h_HK HK.out) hk (.inl rfl));replace HB:=Aside0.mk (hb);replace HI0:=Aside0.mk (hi);(try clear hb);(try clear hb2);(try clear hk);(try clear hi)))
  replace HO555:=Aside0.mk (Kd.R_drew HO555.out);replace BK551:=Aside0.mk (blk_drew BK551.out);replace BK558:=Aside0.mk (blk_drew BK558.out);replace HI0:=Aside0.mk (IsS94.drew HI0.out);replace HK:=Aside0.mk (keep_drew HK.out);replace HB:=Aside0.mk (below_drew1 HB.out)
  refine start_ (n:=8) (S:=fun w'=>w'.cell? ⟨gb558,0,none⟩=some (.int .i64 t552)∧w'.cell? ⟨gb558,1,none⟩=some (.slice Ao31 t553.length co31)) (ds:=[7]) #[F_,F_,F_,F_,F_,F_,F_,F_] krT_ rfl rfl ⟨(blk_cell BK558.out 0).trans rfl,(blk_cell BK558.out 1).trans rfl⟩ (fun hHeld=>?_);refine with_tabW spec_l4Bent.tab6 spec_l4Bent.bits6 (fun HT_ HW_=>?_)
  generalize w32.drew=w33 at HO555 BK551 BK558 HI0 HK HB hHeld ⊢
  refine pu_ 0 (some 20) (bm_ 8 1) rfl rfl HT_.out ?_
  refine pu_ 2 (some 22) (bm_ 8 5) rfl rfl HT_.out ?_
  refine take_ (i:=1) (N:=some 21) (v:=?_) (a':=?_) (bm_ 8 7) rfl rfl (take_ofW HT_.out HW_.out krT_) (fun _ _ _ h=>h) (Or.inl ⟨by rfl,?_⟩) hHeld ?_ ?_
  rotate_left
  ·rintro w' ⟨s0,s1⟩
   go_simp
   with_reducible rfl
  rotate_left;exact apT_
  refine one_ (i:=3) (N:=some 23) (bm_ 8 15) rfl rfl (one_of HT_.out krT_) (by decide) (fun K hK=>?_)
  refine goes_ Tryz.func115 krT_ rfl #[.pointer (some ⟨g,0,none⟩)] (by rfl) rfl rfl agT_ ?_
  with_reducible refine (spec_l2Bent.calls g s0_0 t560 t561 t568 t569 t570 w0 _ ?side1 ?side2 A23.out).mono ?_
  (case side1=>exact h_HI0 HI0.out)
  (case side2=>exact h_HB HB.out)
  rintro e w34 ⟨rfl,hi,hb,hk⟩
  refine ⟨_,rfl,?_⟩
  replace BK551:=Aside0.mk (KeepBut.blk hk (bkC_ BK551.out) NB551_0.out (by simp));replace HO555:=Aside0.mk (Kd.R_mono (Kd.R_keep (IsS94.apart (show IsS94 w0 _ g s0_0 t560 t561 from h_HI0 HI0.out) (kRC_ HO555.out) (by decide)) hk (fun _ h=>h.2)) (fun _ h=>h.1));replace BK558:=Aside0.mk (KeepBut.blk hk (bkC_ BK558.out) NB558_0.out (by simp));replace HK:=Aside0.mk (KeepBut.trans (h_HK HK.out) hk (.inl rfl));replace HB:=Aside0.mk (hb);replace HI0:=Aside0.mk (hi)
  (try clear hb)
  (try clear hb2)
  (try clear hk)
  (try clear hi)
  refine hK.out _ _ ⟨(blk_cell BK558.out 0).trans rfl,(blk_cell BK558.out 1).trans rfl⟩ (fun hHeld=>?_)
  clear hK K
  refine norm_ (a':=?_) ?_ ?_
  rotate_left
  ·show Act.put _ (some 23) _=_
   simp only [Act.put,List.setIfInBounds_toArray,List.set_cons_zero,List.set_cons_succ,i64_w,i32_w]
   rfl
  refine one_ (i:=4) (N:=some 24) (bm_ 8 31) rfl rfl (one_of HT_.out krT_) (by decide) (fun K hK=>?_)
  refine value_ (w1:=?_) (v:=?_) (by rfl) rfl ?_ ?_
  rotate_left 2
  ·go_simp
   constructor
   ·rfl
   rfl
  refine hK.out _ _ ⟨(blk_cell (blk_alloc BK558.out _) 0).trans rfl,(blk_cell (blk_alloc BK558.out _) 1).trans rfl⟩ (fun hHeld=>?_)
  clear hK K
  refine norm_ (a':=?_) ?_ ?_
  rotate_left
  ·show Act.put _ (some 24) _=_
   simp only [Act.put,List.setIfInBounds_toArray,List.set_cons_zero,List.set_cons_succ,i64_w,i32_w]
   rfl
  refine one_ (i:=5) (N:=some 25) (bm_ 8 63) rfl rfl (one_of HT_.out krT_) (by decide) (fun K hK=>?_)
  refine Kd.R_append_step (Kd.int .i64) w.heap.size (by rfl) (.tmp 21) (.tmp 24) 22 3 (.int .i64 0) 8 rfl Tryz.underlying22 info3 rfl (by decide) (by omega) (.slice Ao31 t553.length co31) t553 t568 [.int .i64 t568] (fun _=>True) (fun _=>False) rfl rfl ?aP (fun _ hk=>hk.elim) ?aF ?aO (Below.refl _ _) ?aS ?aL ?_
  (case aP=>exact rfl)
  (case aF=>exact (fun _ _=>trivial))
  (case aO=>exact (kRC_ HO555.out))
  (case aS=>exact (keep_size (w:=w) (g:=g) (row:=none) (h_HK HK.out)))
  (case aL=>have:=LMc24.out;omega)
  intro v572 w35 ho hb hg hat
  rw [← Ny571.out] at ho
  replace HI0:=Aside0.mk (IsS94.grown (h_HI0 HI0.out) hg (IsS94.own_ne HI0.out HO555.out (by decide)));replace BK551:=Aside0.mk (blk_grown (bkC_ BK551.out) hg (Kd.R_ne HO555.out BK551.out (by decide)));replace BK558:=Aside0.mk (blk_grown (bkC_ BK558.out) hg (Kd.R_ne HO555.out BK558.out (by decide)));replace HB:=Aside0.mk (below_weaken (h_HB HB.out) HL.out hb);replace HK:=Aside0.mk (KeepBut.trans (h_HK HK.out) (KeepBut.of_grown hg g) (Kd.R_base2 HO555.out));have HO573:=Aside0.mk (ho);clear HO555
  clear ho hb hg hat
  obtain ⟨Ao36,co36,eo36⟩:=Kd.R_slice HO573.out
  (first|subst eo36|(injection eo36 with f1_ f2_ f3_;have f4_:=f1_.symm;have f5_:=f3_.symm;clear f1_ f2_ f3_;subst f4_;subst f5_))
  refine hK.out _ _ ⟨(blk_cell BK558.out 0).trans rfl,(blk_cell BK558.out 1).trans rfl⟩ (fun hHeld=>?_)
  clear hK K
  refine norm_ (a':=?_) ?_ ?_
  rotate_left
  ·show Act.put _ (some 25) _=_
   simp only [Act.put,List.setIfInBounds_toArray,List.set_cons_zero,List.set_cons_succ,i64_w,i32_w]
   rfl
  refine pu_ 6 (some 26) (bm_ 8 127) rfl rfl HT_.out ?_
  refine last_ (i:=7) (N:=none) (bm_ 8 255) rfl rfl (one_of HT_.out krT_) (by decide) (fun K hK=>?_)
  have hs37:w35.cell? ⟨gb558,1,none⟩=some (.slice Ao31 t553.length co31):=(blk_cell BK558.out 1).trans rfl
  have hfs37:=blk_frozen BK558.out 1
  have hns37_0:=NB551_558.out
  have hms37_0:=NB558_551.out
  refine skip_ (w1:=?_) (by rfl) rfl ?_ ?_
  rotate_left
  ·go_simp
   rfl
  refine hK.out _ _ ?_
  clear hK K
  refine done_ (done_of HT_.out krT_) ?_
  obtain ⟨hcz38_0,hcz38_1,hfz38_0,hfz38_1⟩:=bz2_ BK558.out
  have hnb39:=NB551_0.out
  have hnc39:=NB0_551.out
  obtain ⟨hcz40_0,hcz40_1,hfz40_0,hfz40_1⟩:=bz2_ BK551.out
  try go_wp2
  refine bodyPost_ret (results_cell_row rfl _ _ gb551 24 #[.int .i64 t552,.slice Ao36 y571.length co36] (0,0) _ rfl (by (with_reducible repeat (first|refine blk_drewN ?_ _|refine blk_drew ?_|refine blk_alloc ?_ _));refine blk_put (cs:=#[.int .i64 t552,.slice none 0 0]) ?_ 1 _ rfl;(with_reducible repeat (first|refine blk_drewN ?_ _|refine blk_drew ?_|refine blk_alloc ?_ _));refine blk_put (cs:=#[.int .i64 0,.slice none 0 0]) ?_ 0 _ rfl;exact bkC_ BK551.out) Tryz.underlying24 rfl krT_) rfl ?_
  exact ⟨_,eT_,by (with_reducible repeat (first|apply Kd.R_alloc|apply Kd.R_drewN|apply Kd.R_drew));exact Kd.R_mono (Kd.R_far (p:=⟨gb551,1,none⟩) (Kd.R_far (p:=⟨gb551,0,none⟩) (Kd.R_far (p:=⟨gb558,1,none⟩) (Kd.R_types (Kd.R_types HO573.out BK558.out (by decide)) BK551.out (by decide)) (fun _ hk=>hk.1.2) (.slice Ao36 y571.length co36)) (fun _ hk=>hk.2) (.int .i64 t552)) (fun _ hk=>hk.2) (.slice Ao36 y571.length co36)) (fun _ hk=>trivial),h_HI0 HI0.out,h_HB HB.out,h_HK HK.out⟩
 rw [if_neg c22] at H
 have c22b0:(t559==1)=false:=beq_eq_false_iff_ne.mpr c22
 have c22b1:(t559 != 1)=true:=bne_iff_ne.mpr c22
 by_cases c41:t559=2
 rotate_left
 ·rw [if_neg c41] at H
  have c41b0:(t559==2)=false:=beq_eq_false_iff_ne.mpr c41
  have c41b1:(t559 != 2)=true:=bne_iff_ne.mpr c41
  by_cases c84:t559=3
  ·rw [if_pos c84] at H
   have c84b0:(t559==3)=true:=beq_iff_eq.mpr c84
   have c84b1:(t559 != 3)=false:=bne_eq_false_iff_eq.mpr c84
   clear c84
   replace H:=bnd_ H;obtain ⟨t594,A85,H⟩:=H
   replace H:=bnd_ H;obtain ⟨t595,A86,H⟩:=H
   replace H:=bnd_ H;obtain ⟨⟨t596,t599,t600⟩,A87,H⟩:=H;dsimp only at H
   replace H:=bnd_ H;obtain ⟨t601,A88,H⟩:=H
   simp only [Option.some.injEq,Prod.mk.injEq] at H
   obtain ⟨rfl,rfl,rfl,rfl⟩:=H
   go_enter Tryz.func97,Tryz.ntmps97
   go_wp2_with (first|((with_reducible refine gate_dst (N:=4) rfl ?_);refine bx_ (N:=4) (cs:=#[.int .i64 0,.slice none 0 0]) (t:=24) ?_;intro gb551 hg w89 hbox hb;replace HB:=Aside0.mk (below_step (h_HB HB.out) hb);have BK551:=Aside0.mk (hbox);have GW551:=Aside0.mk ((by rw [hg];exact (keep_size (w:=w) (g:=g) (row:=none) (h_HK HK.out)):w.heap.size≤gb551));have GE551:=Aside0.mk ((Nat.le_trans HW0.out (by rw [hg];exact (keep_size (w:=w) (g:=g) (row:=none) (h_HK HK.out)):w.heap.size≤gb551):w0.heap.size≤gb551));replace HK:=Aside0.mk (KeepBut.trans (h_HK HK.out) (KeepBut.of_below hb g none) (.inl rfl));have NB0_551:=Aside0.mk ((by rw [hg];exact Nat.ne_of_lt (IsS94.lt (show IsS94 w0 _ g s0_0 s0_1 s0_2 from h_HI0 HI0.out)):g≠gb551));have NB551_0:=Aside0.mk ((by rw [hg];exact Nat.ne_of_gt (IsS94.lt (show IsS94 w0 _ g s0_0 s0_1 s0_2 from h_HI0 HI0.out)):gb551≠g));replace HI0:=Aside0.mk (IsS94.below (h_HI0 HI0.out) hb);clear hb hbox hg)|((with_reducible refine gate_callee (f:=103) rfl ?_);refine goesL_ (some 9) rfl rfl Tryz.func103 krT_ rfl #[.pointer (some ⟨g,0,none⟩),.int .i64 a1] rfl agT_ ?_;(with_reducible refine (spec_l4Draw.calls k g s0_0 s0_1 s0_2 a1 t552 t553 t556 t557 w0 _ ?side1 ?side2 A3.out).mono ?_);(case side1=>exact h_HI0 HI0.out);(case side2=>exact h_HB HB.out);rintro e w90 ⟨v554,rfl,ho0,hi,hb,hk⟩;refine ⟨_,rfl,?_⟩;replace BK551:=Aside0.mk (KeepBut.blk hk (bkC_ BK551.out) NB551_0.out (by simp));have HO555:=Aside0.mk (Kd.R_lower ho0 (keep_size (w:=w) (g:=g) (row:=none) (h_HK HK.out)));replace HK:=Aside0.mk (KeepBut.trans (h_HK HK.out) hk (.inl rfl));replace HB:=Aside0.mk (hb);replace HI0:=Aside0.mk (hi);(try clear hb);(try clear hb2);(try clear hk);(try clear hi);(try clear ho0))|((with_reducible refine gate_dst (N:=5) rfl ?_);refine bx_ (N:=5) (cs:=#[.int .i64 0,.slice none 0 0]) (t:=24) ?_;intro gb558 hg w91 hbox hb;have n0_:=Aside0.mk (Kd.R_below (kRC_ HO555.out) hb);have n1_:=Aside0.mk (IsS94.below (h_HI0 HI0.out) hb);have n2_:=Aside0.mk (blkB_ BK551.out hb);have n3_:=Aside0.mk (KeepBut.trans (h_HK HK.out) (KeepBut.of_below hb g none) (.inl rfl));have n4_:=Aside0.mk (below_step (h_HB HB.out) hb);have n5_:=Aside0.mk (hbox);have n6_:=Aside0.mk ((by rw [hg];exact (keep_size (w:=w) (g:=g) (row:=none) (h_HK HK.out)):w.heap.size≤gb558));have n7_:=Aside0.mk ((Nat.le_trans HW0.out (by rw [hg];exact (keep_size (w:=w) (g:=g) (row:=none) (h_HK HK.out)):w.heap.size≤gb558):w0.heap.size≤gb558));have n8_:=Aside0.mk (nbl_ hg (bkC_ BK551.out));have n9_:=Aside0.mk (nbg_ hg (bkC_ BK551.out));have n10_:=Aside0.mk ((by rw [hg];exact Nat.ne_of_lt (IsS94.lt (show IsS94 w0 _ g s0_0 t556 t557 from h_HI0 HI0.out)):g≠gb558));have n11_:=Aside0.mk ((by rw [hg];exact Nat.ne_of_gt (IsS94.lt (show IsS94 w0 _ g s0_0 t556 t557 from h_HI0 HI0.out)):gb558≠g));clear HO555;clear HI0;clear BK551;clear HK;clear HB;have HO555:=n0_;have HI0:=n1_;have BK551:=n2_;have HK:=n3_;have HB:=n4_;have BK558:=n5_;have GW558:=n6_;have GE558:=n7_;have NB551_558:=n8_;have NB558_551:=n9_;have NB0_558:=n10_;have NB558_0:=n11_;clear n0_ n1_ n2_ n3_ n4_ n5_ n6_ n7_ n8_ n9_ n10_ n11_;clear hb hbox hg;have hnb92:=NB558_551.out;have hnc92:=NB551_558.out;have hnb93:=NB558_0.out;have hnc93:=NB0_558.out;obtain ⟨hcz94_0,hcz94_1,hfz94_0,hfz94_1⟩:=bz2_ BK558.out;obtain ⟨Ao95,co95,eo95⟩:=Kd.R_slice HO555.out;subst eo95)|((with_reducible refine gate_callee (f:=70) rfl ?_);refine goesL_ (some 11) rfl rfl Tryz.func70 krT_ rfl #[.pointer (some ⟨g,0,none⟩),.int .i64 10] rfl agT_ ?_;(with_reducible refine (spec_l1Below.calls g s0_0 t556 t557 10 t559 t560 t561 w0 _ ?side1 ?side2 A4.out).mono ?_);(case side1=>exact h_HI0 HI0.out);(case side2=>exact h_HB HB.out);rintro e w96 ⟨rfl,hi,hb,hk⟩;refine ⟨_,rfl,?_⟩;replace BK551:=Aside0.mk (KeepBut.blk hk (bkC_ BK551.out) NB551_0.out (by simp));replace HO555:=Aside0.mk (Kd.R_mono (Kd.R_keep (IsS94.apart (show IsS94 w0 _ g s0_0 t556 t557 from h_HI0 HI0.out) (by (with_reducible repeat (first|apply Kd.R_alloc|apply Kd.R_drewN|apply Kd.R_drew));exact (Kd.R_mono (Kd.R_far (p:=⟨gb558,1,none⟩) (Kd.R_far (p:=⟨gb558,0,none⟩) (Kd.R_types HO555.out BK558.out (by decide)) (fun _ hk=>hk.2) (.int .i64 t552)) (fun _ hk=>hk.2) (.slice Ao95 t553.length co95)) (fun _ h_=>h_.1))) (by decide)) hk (fun _ h=>h.2)) (fun _ h=>h.1));replace BK558:=Aside0.mk (KeepBut.blk hk (g':=gb558) (o:=.cells #[.int .i64 t552,.slice Ao95 t553.length co95] 24 (0,0)) (by (with_reducible repeat (first|refine blk_drewN ?_ _|refine blk_drew ?_|refine blk_alloc ?_ _));refine blk_put (cs:=#[.int .i64 t552,.slice none 0 0]) ?_ 1 _ rfl;(with_reducible repeat (first|refine blk_drewN ?_ _|refine blk_drew ?_|refine blk_alloc ?_ _));refine blk_put (cs:=#[.int .i64 0,.slice none 0 0]) ?_ 0 _ rfl;exact bkC_ BK558.out) NB558_0.out (by simp));replace HK:=Aside0.mk (KeepBut.trans (h_HK HK.out) hk (.inl rfl));replace HB:=Aside0.mk (hb);replace HI0:=Aside0.mk (hi);(try clear hb);(try clear hb2);(try clear hk);(try clear hi);obtain ⟨hcz97_0,hcz97_1,hfz97_0,hfz97_1⟩:=bz2_ BK558.out)|((with_reducible refine gate_callee (f:=72) rfl ?_);refine goesL_ (some 56) rfl rfl Tryz.func72 krT_ rfl #[.int .i64 t552,.int .i64 8] rfl agT_ ?_;(with_reducible refine (spec_l1Min.calls t552 8 t594 _ A85.out).mono ?_);rintro e w' ⟨rfl,⟨nd,rfl⟩⟩;refine ⟨_,rfl,?_⟩;(try (rw [drewN_self w96];generalize hq_:World.drewN w96 _=w96;replace HO555:Aside0 (Kd.R (Kd.int .i64) 3 w96 w.heap.size (fun _=>True) (.slice Ao95 t553.length co95) t553):=⟨by rw [← hq_];exact (kRC_ HO555.out)⟩;replace BK551:Aside0 (w96.heap[gb551]?=some (.cells #[.int .i64 0,.slice none 0 0] 24 (0,0))):=⟨by rw [← hq_];exact (bkC_ BK551.out)⟩;replace BK558:Aside0 (w96.heap[gb558]?=some (.cells #[.int .i64 t552,.slice Ao95 t553.length co95] 24 (0,0))):=⟨by rw [← hq_];exact (bkC_ BK558.out)⟩;replace HI0:Aside0 (IsS94 w0 w96 g s0_0 t560 t561):=⟨by rw [← hq_];exact (h_HI0 HI0.out)⟩;replace HK:Aside0 (KeepBut w w96 g none):=⟨by rw [← hq_];exact (h_HK HK.out)⟩;replace HB:Aside0 (Below w0.heap.size w0 w96):=⟨by rw [← hq_];exact (h_HB HB.out)⟩;clear hq_;have hcuz98_gb551_0:w96.cell? ⟨gb551,0,none⟩=some (.int .i64 0):=(blk_cell BK551.out 0).trans rfl;have hfuz98_gb551_0:=blk_frozen BK551.out 0;have hcuz98_gb551_1:w96.cell? ⟨gb551,1,none⟩=some (.slice none 0 0):=(blk_cell BK551.out 1).trans rfl;have hfuz98_gb551_1:=blk_frozen BK551.out 1;have hcuz98_gb558_0:w96.cell? ⟨gb558,0,none⟩=some (.int .i64 t552):=(blk_cell BK558.out 0).trans rfl;have hfuz98_gb558_0:=blk_frozen BK558.out 0;have hcuz98_gb558_1:w96.cell? ⟨gb558,1,none⟩=some (.slice Ao95 t553.length co95):=(blk_cell BK558.out 1).trans rfl;have hfuz98_gb558_1:=blk_frozen BK558.out 1)))|((with_reducible refine gate_callee (f:=123) rfl ?_);refine goesL_ (some 57) rfl rfl Tryz.func123 krT_ rfl #[.int .i64 0,.int .i64 t594] rfl agT_ ?_;(with_reducible refine (spec_l1Max.calls 0 t594 t595 _ A86.out).mono ?_);rintro e w' ⟨rfl,⟨nd,rfl⟩⟩;refine ⟨_,rfl,?_⟩;(try (rw [drewN_self w96];generalize hq_:World.drewN w96 _=w96;replace HO555:Aside0 (Kd.R (Kd.int .i64) 3 w96 w.heap.size (fun _=>True) (.slice Ao95 t553.length co95) t553):=⟨by rw [← hq_];exact (kRC_ HO555.out)⟩;replace BK551:Aside0 (w96.heap[gb551]?=some (.cells #[.int .i64 0,.slice none 0 0] 24 (0,0))):=⟨by rw [← hq_];exact (bkC_ BK551.out)⟩;replace BK558:Aside0 (w96.heap[gb558]?=some (.cells #[.int .i64 t552,.slice Ao95 t553.length co95] 24 (0,0))):=⟨by rw [← hq_];exact (bkC_ BK558.out)⟩;replace HI0:Aside0 (IsS94 w0 w96 g s0_0 t560 t561):=⟨by rw [← hq_];exact (h_HI0 HI0.out)⟩;replace HK:Aside0 (KeepBut w w96 g none):=⟨by rw [← hq_];exact (h_HK HK.out)⟩;replace HB:Aside0 (Below w0.heap.size w0 w96):=⟨by rw [← hq_];exact (h_HB HB.out)⟩;clear hq_;have hcuz99_gb551_0:w96.cell? ⟨gb551,0,none⟩=some (.int .i64 0):=(blk_cell BK551.out 0).trans rfl;have hfuz99_gb551_0:=blk_frozen BK551.out 0;have hcuz99_gb551_1:w96.cell? ⟨gb551,1,none⟩=some (.slice none 0 0):=(blk_cell BK551.out 1).trans rfl;have hfuz99_gb551_1:=blk_frozen BK551.out 1;have hcuz99_gb558_0:w96.cell? ⟨gb558,0,none⟩=some (.int .i64 t552):=(blk_cell BK558.out 0).trans rfl;have hfuz99_gb558_0:=blk_frozen BK558.out 0;have hcuz99_gb558_1:w96.cell? ⟨gb558,1,none⟩=some (.slice Ao95 t553.length co95):=(blk_cell BK558.out 1).trans rfl;have hfuz99_gb558_1:=blk_frozen BK558.out 1)))|((with_reducible refine gate_callee (f:=91) rfl ?_);refine goesL_ (some 58) rfl rfl Tryz.func91 krT_ rfl #[.pointer (some ⟨g,0,none⟩),.int .i64 t595] rfl agT_ ?_;(with_reducible refine (spec_l3Draw.calls k g s0_0 t560 t561 t595 t596 t599 t600 w0 _ ?side1 ?side2 A87.out).mono ?_);(case side1=>exact h_HI0 HI0.out);(case side2=>exact h_HB HB.out);rintro e w100 ⟨v597,rfl,ho0,hi,hb,hk⟩;refine ⟨_,rfl,?_⟩;replace BK551:=Aside0.mk (KeepBut.blk hk (bkC_ BK551.out) NB551_0.out (by simp));replace BK558:=Aside0.mk (KeepBut.blk hk (bkC_ BK558.out) NB558_0.out (by simp));have HO598:=Aside0.mk (Kd.R_lower (Kd.R_new' ho0 (Kd.R_lt (kRC_ HO555.out))) (keep_size (w:=w) (g:=g) (row:=none) (h_HK HK.out)));replace HO555:=Aside0.mk (Kd.R_mono (Kd.R_told (Kd.R_oldK (IsS94.apart (show IsS94 w0 _ g s0_0 t560 t561 from h_HI0 HI0.out) (kRC_ HO555.out) (by decide)) hk) (Kd.R_base ho0)) (fun _ h_=>h_.1));replace HK:=Aside0.mk (KeepBut.trans (h_HK HK.out) hk (.inl rfl));replace HB:=Aside0.mk (hb);replace HI0:=Aside0.mk (hi);(try clear hb);(try clear hb2);(try clear hk);(try clear hi);(try clear ho0);obtain ⟨Ao101,co101,eo101⟩:=Kd.R_slice HO598.out;subst eo101)|((with_reducible refine gate_callee (f:=24) rfl ?_);refine goesL_ (some 59) rfl rfl Tryz.func24 krT_ rfl #[.slice Ao101 t596.length co101] rfl agT_ ?_;(with_reducible refine (spec_SortSets.calls k _ _ t596 t601 _ ?side1 ?side2 A88.out).mono ?_);(case side1=>repeat (first|exact (Kd.R_reads' HO598.out).2.2|(with_reducible refine Kd.C_alloc ?_ _)|(with_reducible refine Kd.C_drewN ?_ _)|(with_reducible refine Kd.C_drew ?_)));(case side2=>exact (Kd.R_reads' HO598.out).2.1);rintro e w102 ⟨v602,rfl,ho0,hb⟩;refine ⟨_,rfl,?_⟩;have HO603:=Aside0.mk (Kd.R_lower (Kd.R_new' (Kd.R_new' ho0 (Kd.R_lt (kRC_ HO555.out))) (Kd.R_lt (kRC_ HO598.out))) (keep_size (w:=w) (g:=g) (row:=none) (h_HK HK.out)));replace HO555:=Aside0.mk (Kd.R_elder' (kRC_ HO555.out) (Kd.R_base ho0) hb);replace HO598:=Aside0.mk (Kd.R_elder' (kRC_ HO598.out) (Kd.R_base ho0) hb);replace HI0:=Aside0.mk (IsS94.below (h_HI0 HI0.out) hb);replace BK551:=Aside0.mk (blkB_ BK551.out hb);replace BK558:=Aside0.mk (blkB_ BK558.out hb);replace HK:=Aside0.mk (KeepBut.trans (h_HK HK.out) (KeepBut.of_below hb g none) (.inl rfl));replace HB:=Aside0.mk (below_step (h_HB HB.out) hb);(try clear hb);(try clear hb2);(try clear hk);(try clear hi);(try clear ho0);obtain ⟨Ao103,co103,eo103⟩:=Kd.R_slice HO603.out;subst eo103;obtain ⟨hcz104_0,hcz104_1,hfz104_0,hfz104_1⟩:=bz2_ BK558.out;have hnb105:=NB551_0.out;have hnc105:=NB0_551.out;obtain ⟨hcz106_0,hcz106_1,hfz106_0,hfz106_1⟩:=bz2_ BK551.out))
   refine bodyPost_ret (results_cell_row rfl _ _ gb551 24 #[.int .i64 t552,.slice Ao103 t601.length co103] (0,0) _ rfl (by (with_reducible repeat (first|refine blk_drewN ?_ _|refine blk_drew ?_|refine blk_alloc ?_ _));refine blk_put (cs:=#[.int .i64 t552,.slice none 0 0]) ?_ 1 _ rfl;(with_reducible repeat (first|refine blk_drewN ?_ _|refine blk_drew ?_|refine blk_alloc ?_ _));refine blk_put (cs:=#[.int .i64 0,.slice none 0 0]) ?_ 0 _ rfl;exact bkC_ BK551.out) Tryz.underlying24 rfl krT_) rfl ?_
   exact ⟨_,eT_,by (with_reducible repeat (first|apply Kd.R_alloc|apply Kd.R_drewN|apply Kd.R_drew));exact Kd.R_mono (Kd.R_far (p:=⟨gb551,1,none⟩) (Kd.R_far (p:=⟨gb551,0,none⟩) (Kd.R_far (p:=⟨gb558,1,none⟩) (Kd.R_types (Kd.R_types HO603.out BK558.out (by decide)) BK551.out (by decide)) (fun _ hk=>hk.1.2) (.slice Ao103 t601.length co103)) (fun _ hk=>hk.2) (.int .i64 t552)) (fun _ hk=>hk.2) (.slice Ao103 t601.length co103)) (fun _ hk=>trivial),h_HI0 HI0.out,h_HB HB.out,h_HK HK.out⟩
  ·rw [if_neg c84] at H
   have c84b0:(t559==3)=false:=beq_eq_false_iff_ne.mpr c84
   have c84b1:(t559 != 3)=true:=bne_iff_ne.mpr c84
   simp only [Option.some.injEq,Prod.mk.injEq] at H
   obtain ⟨rfl,rfl,rfl,rfl⟩:=H
   go_enter Tryz.func97,Tryz.ntmps97
   go_wp2_with (first|((with_reducible refine gate_dst (N:=4) rfl ?_);refine bx_ (N:=4) (cs:=#[.int .i64 0,.slice none 0 0]) (t:=24) ?_;intro gb551 hg w107 hbox hb;replace HB:=Aside0.mk (below_step (h_HB HB.out) hb);have BK551:=Aside0.mk (hbox);have GW551:=Aside0.mk ((by rw [hg];exact (keep_size (w:=w) (g:=g) (row:=none) (h_HK HK.out)):w.heap.size≤gb551));have GE551:=Aside0.mk ((Nat.le_trans HW0.out (by rw [hg];exact (keep_size (w:=w) (g:=g) (row:=none) (h_HK HK.out)):w.heap.size≤gb551):w0.heap.size≤gb551));replace HK:=Aside0.mk (KeepBut.trans (h_HK HK.out) (KeepBut.of_below hb g none) (.inl rfl));have NB0_551:=Aside0.mk ((by rw [hg];exact Nat.ne_of_lt (IsS94.lt (show IsS94 w0 _ g s0_0 s0_1 s0_2 from h_HI0 HI0.out)):g≠gb551));have NB551_0:=Aside0.mk ((by rw [hg];exact Nat.ne_of_gt (IsS94.lt (show IsS94 w0 _ g s0_0 s0_1 s0_2 from h_HI0 HI0.out)):gb551≠g));replace HI0:=Aside0.mk (IsS94.below (h_HI0 HI0.out) hb);clear hb hbox hg)|((with_reducible refine gate_callee (f:=103) rfl ?_);refine goesL_ (some 9) rfl rfl Tryz.func103 krT_ rfl #[.pointer (some ⟨g,0,none⟩),.int .i64 a1] rfl agT_ ?_;(with_reducible refine (spec_l4Draw.calls k g s0_0 s0_1 s0_2 a1 t552 t553 t556 t557 w0 _ ?side1 ?side2 A3.out).mono ?_);(case side1=>exact h_HI0 HI0.out);(case side2=>exact h_HB HB.out);rintro e w108 ⟨v554,rfl,ho0,hi,hb,hk⟩;refine ⟨_,rfl,?_⟩;replace BK551:=Aside0.mk (KeepBut.blk hk (bkC_ BK551.out) NB551_0.out (by simp));have HO555:=Aside0.mk (Kd.R_lower ho0 (keep_size (w:=w) (g:=g) (row:=none) (h_HK HK.out)));replace HK:=Aside0.mk (KeepBut.trans (h_HK HK.out) hk (.inl rfl));replace HB:=Aside0.mk (hb);replace HI0:=Aside0.mk (hi);(try clear hb);(try clear hb2);(try clear hk);(try clear hi);(try clear ho0))|((with_reducible refine gate_dst (N:=5) rfl ?_);refine bx_ (N:=5) (cs:=#[.int .i64 0,.slice none 0 0]) (t:=24) ?_;intro gb558 hg w109 hbox hb;have n0_:=Aside0.mk (Kd.R_below (kRC_ HO555.out) hb);have n1_:=Aside0.mk (IsS94.below (h_HI0 HI0.out) hb);have n2_:=Aside0.mk (blkB_ BK551.out hb);have n3_:=Aside0.mk (KeepBut.trans (h_HK HK.out) (KeepBut.of_below hb g none) (.inl rfl));have n4_:=Aside0.mk (below_step (h_HB HB.out) hb);have n5_:=Aside0.mk (hbox);have n6_:=Aside0.mk ((by rw [hg];exact (keep_size (w:=w) (g:=g) (row:=none) (h_HK HK.out)):w.heap.size≤gb558));have n7_:=Aside0.mk ((Nat.le_trans HW0.out (by rw [hg];exact (keep_size (w:=w) (g:=g) (row:=none) (h_HK HK.out)):w.heap.size≤gb558):w0.heap.size≤gb558));have n8_:=Aside0.mk (nbl_ hg (bkC_ BK551.out));have n9_:=Aside0.mk (nbg_ hg (bkC_ BK551.out));have n10_:=Aside0.mk ((by rw [hg];exact Nat.ne_of_lt (IsS94.lt (show IsS94 w0 _ g s0_0 t556 t557 from h_HI0 HI0.out)):g≠gb558));have n11_:=Aside0.mk ((by rw [hg];exact Nat.ne_of_gt (IsS94.lt (show IsS94 w0 _ g s0_0 t556 t557 from h_HI0 HI0.out)):gb558≠g));clear HO555;clear HI0;clear BK551;clear HK;clear HB;have HO555:=n0_;have HI0:=n1_;have BK551:=n2_;have HK:=n3_;have HB:=n4_;have BK558:=n5_;have GW558:=n6_;have GE558:=n7_;have NB551_558:=n8_;have NB558_551:=n9_;have NB0_558:=n10_;have NB558_0:=n11_;clear n0_ n1_ n2_ n3_ n4_ n5_ n6_ n7_ n8_ n9_ n10_ n11_;clear hb hbox hg;have hnb110:=NB558_551.out;have hnc110:=NB551_558.out;have hnb111:=NB558_0.out;have hnc111:=NB0_558.out;obtain ⟨hcz112_0,hcz112_1,hfz112_0,hfz112_1⟩:=bz2_ BK558.out;obtain ⟨Ao113,co113,eo113⟩:=Kd.R_slice HO555.out;subst eo113)|((with_reducible refine gate_callee (f:=70) rfl ?_);refine goesL_ (some 11) rfl rfl Tryz.func70 krT_ rfl #[.pointer (some ⟨g,0,none⟩),.int .i64 10] rfl agT_ ?_;(with_reducible refine (spec_l1Below.calls g s0_0 t556 t557 10 t559 t560 t561 w0 _ ?side1 ?side2 A4.out).mono ?_);(case side1=>exact h_HI0 HI0.out);(case side2=>exact h_HB HB.out);rintro e w114 ⟨rfl,hi,hb,hk⟩;refine ⟨_,rfl,?_⟩;replace BK551:=Aside0.mk (KeepBut.blk hk (bkC_ BK551.out) NB551_0.out (by simp));replace HO555:=Aside0.mk (Kd.R_mono (Kd.R_keep (IsS94.apart (show IsS94 w0 _ g s0_0 t556 t557 from h_HI0 HI0.out) (by (with_reducible repeat (first|apply Kd.R_alloc|apply Kd.R_drewN|apply Kd.R_drew));exact (Kd.R_mono (Kd.R_far (p:=⟨gb558,1,none⟩) (Kd.R_far (p:=⟨gb558,0,none⟩) (Kd.R_types HO555.out BK558.out (by decide)) (fun _ hk=>hk.2) (.int .i64 t552)) (fun _ hk=>hk.2) (.slice Ao113 t553.length co113)) (fun _ h_=>h_.1))) (by decide)) hk (fun _ h=>h.2)) (fun _ h=>h.1));replace BK558:=Aside0.mk (KeepBut.blk hk (g':=gb558) (o:=.cells #[.int .i64 t552,.slice Ao113 t553.length co113] 24 (0,0)) (by (with_reducible repeat (first|refine blk_drewN ?_ _|refine blk_drew ?_|refine blk_alloc ?_ _));refine blk_put (cs:=#[.int .i64 t552,.slice none 0 0]) ?_ 1 _ rfl;(with_reducible repeat (first|refine blk_drewN ?_ _|refine blk_drew ?_|refine blk_alloc ?_ _));refine blk_put (cs:=#[.int .i64 0,.slice none 0 0]) ?_ 0 _ rfl;exact bkC_ BK558.out) NB558_0.out (by simp));replace HK:=Aside0.mk (KeepBut.trans (h_HK HK.out) hk (.inl rfl));replace HB:=Aside0.mk (hb);replace HI0:=Aside0.mk (hi);(try clear hb);(try clear hb2);(try clear hk);(try clear hi);obtain ⟨hcz115_0,hcz115_1,hfz115_0,hfz115_1⟩:=bz2_ BK558.out;have hnb116:=NB551_0.out;have hnc116:=NB0_551.out;obtain ⟨hcz117_0,hcz117_1,hfz117_0,hfz117_1⟩:=bz2_ BK551.out))
   refine bodyPost_ret (results_cell_row rfl _ _ gb551 24 #[.int .i64 t552,.slice Ao113 t553.length co113] (0,0) _ rfl (by (with_reducible repeat (first|refine blk_drewN ?_ _|refine blk_drew ?_|refine blk_alloc ?_ _));refine blk_put (cs:=#[.int .i64 t552,.slice none 0 0]) ?_ 1 _ rfl;(with_reducible repeat (first|refine blk_drewN ?_ _|refine blk_drew ?_|refine blk_alloc ?_ _));refine blk_put (cs:=#[.int .i64 0,.slice none 0 0]) ?_ 0 _ rfl;exact bkC_ BK551.out) Tryz.underlying24 rfl krT_) rfl ?_
   exact ⟨_,eT_,by (with_reducible repeat (first|apply Kd.R_alloc|apply Kd.R_drewN|apply Kd.R_drew));exact Kd.R_mono (Kd.R_far (p:=⟨gb551,1,none⟩) (Kd.R_far (p:=⟨gb551,0,none⟩) (Kd.R_types HO555.out BK551.out (by decide)) (fun _ hk=>hk.2) (.int .i64 t552)) (fun _ hk=>hk.2) (.slice Ao113 t553.length co113)) (fun _ hk=>trivial),h_HI0 HI0.out,h_HB HB.out,h_HK HK.out⟩
 rw [if_pos c41] at H
 have c41b0:(t559==2)=true:=beq_iff_eq.mpr c41
 have c41b1:(t559 != 2)=false:=bne_eq_false_iff_eq.mpr c41
 clear c41
 by_cases c42:(t553.length:Int)>1
 rotate_left
 ·rw [if_neg c42] at H
  have c42b0:decide (1<(t553.length:Int))=false:=decide_eq_false c42
  have c42b1:decide (1<t553.length)=false:=decide_eq_false (by omega)
  clear c42
  simp only [Option.some.injEq,Prod.mk.injEq] at H
  obtain ⟨rfl,rfl,rfl,rfl⟩:=H
  go_enter Tryz.func97,Tryz.ntmps97
  go_wp2_with (first|((with_reducible refine gate_dst (N:=4) rfl ?_);refine bx_ (N:=4) (cs:=#[.int .i64 0,.slice none 0 0]) (t:=24) ?_;intro gb551 hg w73 hbox hb;replace HB:=Aside0.mk (below_step (h_HB HB.out) hb);have BK551:=Aside0.mk (hbox);have GW551:=Aside0.mk ((by rw [hg];exact (keep_size (w:=w) (g:=g) (row:=none) (h_HK HK.out)):w.heap.size≤gb551));have GE551:=Aside0.mk ((Nat.le_trans HW0.out (by rw [hg];exact (keep_size (w:=w) (g:=g) (row:=none) (h_HK HK.out)):w.heap.size≤gb551):w0.heap.size≤gb551));replace HK:=Aside0.mk (KeepBut.trans (h_HK HK.out) (KeepBut.of_below hb g none) (.inl rfl));have NB0_551:=Aside0.mk ((by rw [hg];exact Nat.ne_of_lt (IsS94.lt (show IsS94 w0 _ g s0_0 s0_1 s0_2 from h_HI0 HI0.out)):g≠gb551));have NB551_0:=Aside0.mk ((by rw [hg];exact Nat.ne_of_gt (IsS94.lt (show IsS94 w0 _ g s0_0 s0_1 s0_2 from h_HI0 HI0.out)):gb551≠g));replace HI0:=Aside0.mk (IsS94.below (h_HI0 HI0.out) hb);clear hb hbox hg)|((with_reducible refine gate_callee (f:=103) rfl ?_);refine goesL_ (some 9) rfl rfl Tryz.func103 krT_ rfl #[.pointer (some ⟨g,0,none⟩),.int .i64 a1] rfl agT_ ?_;(with_reducible refine (spec_l4Draw.calls k g s0_0 s0_1 s0_2 a1 t552 t553 t556 t557 w0 _ ?side1 ?side2 A3.out).mono ?_);(case side1=>exact h_HI0 HI0.out);(case side2=>exact h_HB HB.out);rintro e w74 ⟨v554,rfl,ho0,hi,hb,hk⟩;refine ⟨_,rfl,?_⟩;replace BK551:=Aside0.mk (KeepBut.blk hk (bkC_ BK551.out) NB551_0.out (by simp));have HO555:=Aside0.mk (Kd.R_lower ho0 (keep_size (w:=w) (g:=g) (row:=none) (h_HK HK.out)));replace HK:=Aside0.mk (KeepBut.trans (h_HK HK.out) hk (.inl rfl));replace HB:=Aside0.mk (hb);replace HI0:=Aside0.mk (hi);(try clear hb);(try clear hb2);(try clear hk);(try clear hi);(try clear ho0))|((with_reducible refine gate_dst (N:=5) rfl ?_);refine bx_ (N:=5) (cs:=#[.int .i64 0,.slice none 0 0]) (t:=24) ?_;intro gb558 hg w75 hbox hb;have n0_:=Aside0.mk (Kd.R_below (kRC_ HO555.out) hb);have n1_:=Aside0.mk (IsS94.below (h_HI0 HI0.out) hb);have n2_:=Aside0.mk (blkB_ BK551.out hb);have n3_:=Aside0.mk (KeepBut.trans (h_HK HK.out) (KeepBut.of_below hb g none) (.inl rfl));have n4_:=Aside0.mk (below_step (h_HB HB.out) hb);have n5_:=Aside0.mk (hbox);have n6_:=Aside0.mk ((by rw [hg];exact (keep_size (w:=w) (g:=g) (row:=none) (h_HK HK.out)):w.heap.size≤gb558));have n7_:=Aside0.mk ((Nat.le_trans HW0.out (by rw [hg];exact (keep_size (w:=w) (g:=g) (row:=none) (h_HK HK.out)):w.heap.size≤gb558):w0.heap.size≤gb558));have n8_:=Aside0.mk (nbl_ hg (bkC_ BK551.out));have n9_:=Aside0.mk (nbg_ hg (bkC_ BK551.out));have n10_:=Aside0.mk ((by rw [hg];exact Nat.ne_of_lt (IsS94.lt (show IsS94 w0 _ g s0_0 t556 t557 from h_HI0 HI0.out)):g≠gb558));have n11_:=Aside0.mk ((by rw [hg];exact Nat.ne_of_gt (IsS94.lt (show IsS94 w0 _ g s0_0 t556 t557 from h_HI0 HI0.out)):gb558≠g));clear HO555;clear HI0;clear BK551;clear HK;clear HB;have HO555:=n0_;have HI0:=n1_;have BK551:=n2_;have HK:=n3_;have HB:=n4_;have BK558:=n5_;have GW558:=n6_;have GE558:=n7_;have NB551_558:=n8_;have NB558_551:=n9_;have NB0_558:=n10_;have NB558_0:=n11_;clear n0_ n1_ n2_ n3_ n4_ n5_ n6_ n7_ n8_ n9_ n10_ n11_;clear hb hbox hg;have hnb76:=NB558_551.out;have hnc76:=NB551_558.out;have hnb77:=NB558_0.out;have hnc77:=NB0_558.out;obtain ⟨hcz78_0,hcz78_1,hfz78_0,hfz78_1⟩:=bz2_ BK558.out;obtain ⟨Ao79,co79,eo79⟩:=Kd.R_slice HO555.out;subst eo79)|((with_reducible refine gate_callee (f:=70) rfl ?_);refine goesL_ (some 11) rfl rfl Tryz.func70 krT_ rfl #[.pointer (some ⟨g,0,none⟩),.int .i64 10] rfl agT_ ?_;(with_reducible refine (spec_l1Below.calls g s0_0 t556 t557 10 t559 t560 t561 w0 _ ?side1 ?side2 A4.out).mono ?_);(case side1=>exact h_HI0 HI0.out);(case side2=>exact h_HB HB.out);rintro e w80 ⟨rfl,hi,hb,hk⟩;refine ⟨_,rfl,?_⟩;replace BK551:=Aside0.mk (KeepBut.blk hk (bkC_ BK551.out) NB551_0.out (by simp));replace HO555:=Aside0.mk (Kd.R_mono (Kd.R_keep (IsS94.apart (show IsS94 w0 _ g s0_0 t556 t557 from h_HI0 HI0.out) (by (with_reducible repeat (first|apply Kd.R_alloc|apply Kd.R_drewN|apply Kd.R_drew));exact (Kd.R_mono (Kd.R_far (p:=⟨gb558,1,none⟩) (Kd.R_far (p:=⟨gb558,0,none⟩) (Kd.R_types HO555.out BK558.out (by decide)) (fun _ hk=>hk.2) (.int .i64 t552)) (fun _ hk=>hk.2) (.slice Ao79 t553.length co79)) (fun _ h_=>h_.1))) (by decide)) hk (fun _ h=>h.2)) (fun _ h=>h.1));replace BK558:=Aside0.mk (KeepBut.blk hk (g':=gb558) (o:=.cells #[.int .i64 t552,.slice Ao79 t553.length co79] 24 (0,0)) (by (with_reducible repeat (first|refine blk_drewN ?_ _|refine blk_drew ?_|refine blk_alloc ?_ _));refine blk_put (cs:=#[.int .i64 t552,.slice none 0 0]) ?_ 1 _ rfl;(with_reducible repeat (first|refine blk_drewN ?_ _|refine blk_drew ?_|refine blk_alloc ?_ _));refine blk_put (cs:=#[.int .i64 0,.slice none 0 0]) ?_ 0 _ rfl;exact bkC_ BK558.out) NB558_0.out (by simp));replace HK:=Aside0.mk (KeepBut.trans (h_HK HK.out) hk (.inl rfl));replace HB:=Aside0.mk (hb);replace HI0:=Aside0.mk (hi);(try clear hb);(try clear hb2);(try clear hk);(try clear hi);obtain ⟨hcz81_0,hcz81_1,hfz81_0,hfz81_1⟩:=bz2_ BK558.out;have hnb82:=NB551_0.out;have hnc82:=NB0_551.out;obtain ⟨hcz83_0,hcz83_1,hfz83_0,hfz83_1⟩:=bz2_ BK551.out))
  refine bodyPost_ret (results_cell_row rfl _ _ gb551 24 #[.int .i64 t552,.slice Ao79 t553.length co79] (0,0) _ rfl (by (with_reducible repeat (first|refine blk_drewN ?_ _|refine blk_drew ?_|refine blk_alloc ?_ _));refine blk_put (cs:=#[.int .i64 t552,.slice none 0 0]) ?_ 1 _ rfl;(with_reducible repeat (first|refine blk_drewN ?_ _|refine blk_drew ?_|refine blk_alloc ?_ _));refine blk_put (cs:=#[.int .i64 0,.slice none 0 0]) ?_ 0 _ rfl;exact bkC_ BK551.out) Tryz.underlying24 rfl krT_) rfl ?_
  exact ⟨_,eT_,by (with_reducible repeat (first|apply Kd.R_alloc|apply Kd.R_drewN|apply Kd.R_drew));exact Kd.R_mono (Kd.R_far (p:=⟨gb551,1,none⟩) (Kd.R_far (p:=⟨gb551,0,none⟩) (Kd.R_types HO555.out BK551.out (by decide)) (fun _ hk=>hk.2) (.int .i64 t552)) (fun _ hk=>hk.2) (.slice Ao79 t553.length co79)) (fun _ hk=>trivial),h_HI0 HI0.out,h_HB HB.out,h_HK HK.out⟩
 rw [if_pos c42] at H
 have c42b0:decide (1<(t553.length:Int))=true:=decide_eq_true c42
 have c42b1:decide (1<t553.length)=true:=decide_eq_true (by omega)
 clear c42
 replace H:=bnd_ H;obtain ⟨⟨t574,t575,t576⟩,A43,H⟩:=H;dsimp only at H
 replace H:=sy_ H;obtain ⟨y577,Ny577,H⟩:=H
 by_cases c44:0≤t574
 rotate_left
 ·rw [if_neg c44] at H
  exact absurd H (by simp)
 rw [if_pos c44] at H
 have c44b0:=eq_true c44
 have c44b1:decide (0≤t574)=true:=decide_eq_true c44
 clear c44
 by_cases c45:t574≤(t553.length:Int)
 rotate_left
 ·rw [if_neg c45] at H
  exact absurd H (by simp)
 rw [if_pos c45] at H
 have c45b0:=eq_true c45
 have c45b1:decide (t574≤(t553.length:Int))=true:=decide_eq_true c45
 clear c45
 replace H:=sy_ H;obtain ⟨y580,Ny580,H⟩:=H
 by_cases c46:y577.length+y580.length<17592186044416
 rotate_left
 ·rw [if_neg c46] at H
  exact absurd H (by simp)
 rw [if_pos c46] at H
 have LMc46:=Aside0.mk c46
 clear c46
 replace H:=sy_ H;obtain ⟨y584,Ny584,H⟩:=H
 obtain ⟨ji47,hji47⟩:∃ j_:Int,(wrap64 (t574+1))=j_:=⟨_,rfl⟩
 first |rw [hji47] at H|simp only [hji47] at H
 (try rw [hji47] at A3)
 (try rw [hji47] at A4)
 (try rw [hji47] at A43)
 have hji47w:(IntKind.i64.wrap (t574+1))=ji47:=(i64_w _).trans hji47
 by_cases c48:0≤(ji47)
 rotate_left
 ·rw [if_neg c48] at H
  exact absurd H (by simp)
 rw [if_pos c48] at H
 have c48b0:=eq_true c48
 have c48b1:decide (0≤(ji47))=true:=decide_eq_true c48
 clear c48
 by_cases c49:(ji47)≤(t553.length:Int)
 rotate_left
 ·rw [if_neg c49] at H
  exact absurd H (by simp)
 rw [if_pos c49] at H
 have c49b0:=eq_true c49
 have c49b1:decide ((ji47)≤(t553.length:Int))=true:=decide_eq_true c49
 clear c49
 replace H:=sy_ H;obtain ⟨y587,Ny587,H⟩:=H
 by_cases c50:y584.length+y587.length<17592186044416
 rotate_left
 ·rw [if_neg c50] at H
  exact absurd H (by simp)
 rw [if_pos c50] at H
 have LMc50:=Aside0.mk c50
 clear c50
 obtain ⟨y591,hy591⟩:∃ y_:List Int,y_=(y584++y587):=⟨_,rfl⟩
 rw [← hy591] at H
 have Ny591:=Aside0.mk hy591
 clear hy591
 simp only [Option.some.injEq,Prod.mk.injEq] at H
 obtain ⟨rfl,rfl,rfl,rfl⟩:=H
 go_enter Tryz.func97,Tryz.ntmps97
 try go_wp2_with (first|((with_reducible refine gate_dst (N:=4) rfl ?_);refine bx_ (N:=4) (cs:=#[.int .i64 0,.slice none 0 0]) (t:=24) ?_;intro gb551 hg w51 hbox hb;replace HB:=Aside0.mk (below_step (h_HB HB.out) hb);have BK551:=Aside0.mk (hbox);have GW551:=Aside0.mk ((by rw [hg];exact (keep_size (w:=w) (g:=g) (row:=none) (h_HK HK.out)):w.heap.size≤gb551));have GE551:=Aside0.mk ((Nat.le_trans HW0.out (by rw [hg];exact (keep_size (w:=w) (g:=g) (row:=none) (h_HK HK.out)):w.heap.size≤gb551):w0.heap.size≤gb551));replace HK:=Aside0.mk (KeepBut.trans (h_HK HK.out) (KeepBut.of_below hb g none) (.inl rfl));have NB0_551:=Aside0.mk ((by rw [hg];exact Nat.ne_of_lt (IsS94.lt (show IsS94 w0 _ g s0_0 s0_1 s0_2 from h_HI0 HI0.out)):g≠gb551));have NB551_0:=Aside0.mk ((by rw [hg];exact Nat.ne_of_gt (IsS94.lt (show IsS94 w0 _ g s0_0 s0_1 s0_2 from h_HI0 HI0.out)):gb551≠g));replace HI0:=Aside0.mk (IsS94.below (h_HI0 HI0.out) hb);clear hb hbox hg)|((with_reducible refine gate_callee (f:=103) rfl ?_);refine goesL_ (some 9) rfl rfl Tryz.func103 krT_ rfl #[.pointer (some ⟨g,0,none⟩),.int .i64 a1] rfl agT_ ?_;(with_reducible refine (spec_l4Draw.calls k g s0_0 s0_1 s0_2 a1 t552 t553 t556 t557 w0 _ ?side1 ?side2 A3.out).mono ?_);(case side1=>exact h_HI0 HI0.out);(case side2=>exact h_HB HB.out);rintro e w52 ⟨v554,rfl,ho0,hi,hb,hk⟩;refine ⟨_,rfl,?_⟩;replace BK551:=Aside0.mk (KeepBut.blk hk (bkC_ BK551.out) NB551_0.out (by simp));have HO555:=Aside0.mk (Kd.R_lower ho0 (keep_size (w:=w) (g:=g) (row:=none) (h_HK HK.out)));replace HK:=Aside0.mk (KeepBut.trans (h_HK HK.out) hk (.inl rfl));replace HB:=Aside0.mk (hb);replace HI0:=Aside0.mk (hi);(try clear hb);(try clear hb2);(try clear hk);(try clear hi);(try clear ho0))|((with_reducible refine gate_dst (N:=5) rfl ?_);refine bx_ (N:=5) (cs:=#[.int .i64 0,.slice none 0 0]) (t:=24) ?_;intro gb558 hg w53 hbox hb;have n0_:=Aside0.mk (Kd.R_below (kRC_ HO555.out) hb);have n1_:=Aside0.mk (IsS94.below (h_HI0 HI0.out) hb);have n2_:=Aside0.mk (blkB_ BK551.out hb);have n3_:=Aside0.mk (KeepBut.trans (h_HK HK.out) (KeepBut.of_below hb g none) (.inl rfl));have n4_:=Aside0.mk (below_step (h_HB HB.out) hb);have n5_:=Aside0.mk (hbox);have n6_:=Aside0.mk ((by rw [hg];exact (keep_size (w:=w) (g:=g) (row:=none) (h_HK HK.out)):w.heap.size≤gb558));have n7_:=Aside0.mk ((Nat.le_trans HW0.out (by rw [hg];exact (keep_size (w:=w) (g:=g) (row:=none) (h_HK HK.out)):w.heap.size≤gb558):w0.heap.size≤gb558));have n8_:=Aside0.mk (nbl_ hg (bkC_ BK551.out));have n9_:=Aside0.mk (nbg_ hg (bkC_ BK551.out));have n10_:=Aside0.mk ((by rw [hg];exact Nat.ne_of_lt (IsS94.lt (show IsS94 w0 _ g s0_0 t556 t557 from h_HI0 HI0.out)):g≠gb558));have n11_:=Aside0.mk ((by rw [hg];exact Nat.ne_of_gt (IsS94.lt (show IsS94 w0 _ g s0_0 t556 t557 from h_HI0 HI0.out)):gb558≠g));clear HO555;clear HI0;clear BK551;clear HK;clear HB;have HO555:=n0_;have HI0:=n1_;have BK551:=n2_;have HK:=n3_;have HB:=n4_;have BK558:=n5_;have GW558:=n6_;have GE558:=n7_;have NB551_558:=n8_;have NB558_551:=n9_;have NB0_558:=n10_;have NB558_0:=n11_;clear n0_ n1_ n2_ n3_ n4_ n5_ n6_ n7_ n8_ n9_ n10_ n11_;clear hb hbox hg;have hnb54:=NB558_551.out;have hnc54:=NB551_558.out;have hnb55:=NB558_0.out;have hnc55:=NB0_558.out;obtain ⟨hcz56_0,hcz56_1,hfz56_0,hfz56_1⟩:=bz2_ BK558.out;obtain ⟨Ao57,co57,eo57⟩:=Kd.R_slice HO555.out;subst eo57)|((with_reducible refine gate_callee (f:=70) rfl ?_);refine goesL_ (some 11) rfl rfl Tryz.func70 krT_ rfl #[.pointer (some ⟨g,0,none⟩),.int .i64 10] rfl agT_ ?_;(with_reducible refine (spec_l1Below.calls g s0_0 t556 t557 10 t559 t560 t561 w0 _ ?side1 ?side2 A4.out).mono ?_);(case side1=>exact h_HI0 HI0.out);(case side2=>exact h_HB HB.out);rintro e w58 ⟨rfl,hi,hb,hk⟩;refine ⟨_,rfl,?_⟩;replace BK551:=Aside0.mk (KeepBut.blk hk (bkC_ BK551.out) NB551_0.out (by simp));replace HO555:=Aside0.mk (Kd.R_mono (Kd.R_keep (IsS94.apart (show IsS94 w0 _ g s0_0 t556 t557 from h_HI0 HI0.out) (by (with_reducible repeat (first|apply Kd.R_alloc|apply Kd.R_drewN|apply Kd.R_drew));exact (Kd.R_mono (Kd.R_far (p:=⟨gb558,1,none⟩) (Kd.R_far (p:=⟨gb558,0,none⟩) (Kd.R_types HO555.out BK558.out (by decide)) (fun _ hk=>hk.2) (.int .i64 t552)) (fun _ hk=>hk.2) (.slice Ao57 t553.length co57)) (fun _ h_=>h_.1))) (by decide)) hk (fun _ h=>h.2)) (fun _ h=>h.1));replace BK558:=Aside0.mk (KeepBut.blk hk (g':=gb558) (o:=.cells #[.int .i64 t552,.slice Ao57 t553.length co57] 24 (0,0)) (by (with_reducible repeat (first|refine blk_drewN ?_ _|refine blk_drew ?_|refine blk_alloc ?_ _));refine blk_put (cs:=#[.int .i64 t552,.slice none 0 0]) ?_ 1 _ rfl;(with_reducible repeat (first|refine blk_drewN ?_ _|refine blk_drew ?_|refine blk_alloc ?_ _));refine blk_put (cs:=#[.int .i64 0,.slice none 0 0]) ?_ 0 _ rfl;exact bkC_ BK558.out) NB558_0.out (by simp));replace HK:=Aside0.mk (KeepBut.trans (h_HK HK.out) hk (.inl rfl));replace HB:=Aside0.mk (hb);replace HI0:=Aside0.mk (hi);(try clear hb);(try clear hb2);(try clear hk);(try clear hi);obtain ⟨hcz59_0,hcz59_1,hfz59_0,hfz59_1⟩:=bz2_ BK558.out)|((with_reducible refine gate_callee (f:=70) rfl ?_);refine goesL_ (some 37) rfl rfl Tryz.func70 krT_ rfl #[.pointer (some ⟨g,0,none⟩),.int .i64 (t553.length:Int)] rfl agT_ ?_;(with_reducible refine (spec_l1Below.calls g s0_0 t560 t561 (t553.length:Int) t574 t575 t576 w0 _ ?side1 ?side2 A43.out).mono ?_);(case side1=>exact h_HI0 HI0.out);(case side2=>exact h_HB HB.out);rintro e w60 ⟨rfl,hi,hb,hk⟩;refine ⟨_,rfl,?_⟩;replace BK551:=Aside0.mk (KeepBut.blk hk (bkC_ BK551.out) NB551_0.out (by simp));replace HO555:=Aside0.mk (Kd.R_mono (Kd.R_keep (IsS94.apart (show IsS94 w0 _ g s0_0 t560 t561 from h_HI0 HI0.out) (kRC_ HO555.out) (by decide)) hk (fun _ h=>h.2)) (fun _ h=>h.1));replace BK558:=Aside0.mk (KeepBut.blk hk (bkC_ BK558.out) NB558_0.out (by simp));replace HK:=Aside0.mk (KeepBut.trans (h_HK HK.out) hk (.inl rfl));replace HB:=Aside0.mk (hb);replace HI0:=Aside0.mk (hi);(try clear hb);(try clear hb2);(try clear hk);(try clear hi)))
 replace HO555:=Aside0.mk (Kd.R_drew HO555.out);replace BK551:=Aside0.mk (blk_drew BK551.out);replace BK558:=Aside0.mk (blk_drew BK558.out);replace HI0:=Aside0.mk (IsS94.drew HI0.out);replace HK:=Aside0.mk (keep_drew HK.out);replace HB:=Aside0.mk (below_drew1 HB.out)
 have q62:(t574:Int)≤((t553.length:Int):Int):=odT_
 obtain ⟨i062,hi062,_,hsz62,_⟩:=info_parts info3
 have hroom62:t553.length≤co57:=(Kd.R_reads' HO555.out).2.1
 have hC62:Kd.C (Kd.int .i64) _ Ao57 t553.length t553:=(Kd.R_reads' HO555.out).2.2
 have hcut62:=cut_to (P:=Tryz.prog) 22 3 .i64 Tryz.underlying22 hi062 Ao57 t553.length co57 t574 (odT_) q62 hroom62
 have hr62:=Kd.C_take (m:=(t574:Int).toNat) hC62 (by omega)
 have hy62:y580.length=(t574:Int).toNat:=(by rw [Ny580.out,List.length_take];omega)
 rw [← Ny580.out] at hr62
 rw [← hy62] at hcut62
 have HR583:=Aside0.mk hr62
 have HC583:=Aside0.mk (show y580.length≤co57 from by omega)
 clear hr62 hC62 hroom62 hi062 hsz62
 have KY62:=Aside0.mk hy62
 clear hy62
 have KL62:=Aside0.mk (show (t574:Int).toNat≤t553.length from by omega)
 replace q62:=eq_true q62
 have q63:((ji47):Int)≤((t553.length:Int):Int):=odT_
 obtain ⟨i063,hi063,_,hsz63,_⟩:=info_parts info3
 have hroom63:t553.length≤co57:=(Kd.R_reads' HO555.out).2.1
 have hC63:Kd.C (Kd.int .i64) _ Ao57 t553.length t553:=(Kd.R_reads' HO555.out).2.2
 have q063:(0:Int)≤((ji47):Int):=odT_
 have hcut63:=cut_from (P:=Tryz.prog) 22 3 .i64 Tryz.underlying22 hi063 1 hsz63 Ao57 t553.length co57 (ji47) q063 q63
 have hr63:=Kd.C_drop (m:=((ji47):Int).toNat) (c:=co57) hC63 (by omega) hroom63
 obtain ⟨A63,hA63⟩:∃ A1,A1=(if co57=((ji47):Int).toNat then Ao57 else (Ao57:Option Addr).map (·.add (((ji47):Int).toNat*1))):=⟨_,rfl⟩
 obtain ⟨c63,hc63⟩:∃ c1,c1=co57-((ji47):Int).toNat:=⟨_,rfl⟩
 have hy63:y587.length=t553.length-((ji47):Int).toNat:=(by rw [Ny587.out,List.length_drop]<;>omega)
 rw [show (t553).drop ((ji47):Int).toNat=y587 from Ny587.out.symm] at hr63
 replace hr63:Kd.C (Kd.int .i64) _ A63 y587.length y587:=(by rw [hA63];exact hr63)
 rw [← hy63,← hA63,← hc63] at hcut63
 have HR590:=Aside0.mk hr63
 have HC590:=Aside0.mk (show y587.length≤c63 from by rw [hy63,hc63];exact Nat.sub_le_sub_right hroom63 _)
 clear hr63 hC63 hroom63 hi063 hsz63 hc63
 have KY63:=Aside0.mk hy63
 have KA63:=Aside0.mk hA63
 clear hy63 hA63
 have KL63:=Aside0.mk (show ((ji47):Int).toNat≤t553.length from by omega)
 replace q63:=eq_true q63
 refine start_ (n:=14) (S:=fun w'=>w'.cell? ⟨gb558,0,none⟩=some (.int .i64 t552)∧w'.cell? ⟨gb558,1,none⟩=some (.slice Ao57 t553.length co57)) (ds:=[13]) #[F_,F_,F_,F_,F_,F_,F_,F_,F_,F_,F_,F_,F_,F_] krT_ rfl rfl ⟨(blk_cell BK558.out 0).trans rfl,(blk_cell BK558.out 1).trans rfl⟩ (fun hHeld=>?_);refine with_tabW spec_l4Bent.tab10 spec_l4Bent.bits10 (fun HT_ HW_=>?_)
 generalize w60.drew=w61 at HO555 BK551 BK558 HI0 HK HB HR583 HR590 hHeld ⊢
 refine pu_ 1 (some 39) (bm_ 14 2) rfl rfl HT_.out ?_
 refine pu_ 3 (some 41) (bm_ 14 10) rfl rfl HT_.out ?_
 refine pu_ 6 (some 44) (bm_ 14 74) rfl rfl HT_.out ?_
 refine pu_ 8 (some 46) (bm_ 14 330) rfl rfl HT_.out ?_
 refine pu_ 9 (some 47) (bm_ 14 842) rfl rfl HT_.out ?_
 refine take_ (i:=2) (N:=some 40) (v:=?_) (a':=?_) (bm_ 14 846) rfl rfl (take_ofW HT_.out HW_.out krT_) (fun _ _ _ h=>h) (Or.inl ⟨by rfl,?_⟩) hHeld ?_ ?_
 rotate_left
 ·rintro w' ⟨s0,s1⟩
  go_simp
  with_reducible rfl
 rotate_left;exact apT_
 refine pu_ 4 (some 42) (bm_ 14 862) rfl rfl HT_.out ?_
 refine take_ (i:=7) (N:=some 45) (v:=?_) (a':=?_) (bm_ 14 990) rfl rfl (take_ofW HT_.out HW_.out krT_) (fun _ _ _ h=>h) (Or.inl ⟨by rfl,?_⟩) hHeld ?_ ?_
 rotate_left
 ·rintro w' ⟨s0,s1⟩
  go_simp
  with_reducible rfl
 rotate_left;exact apT_
 refine pu_ 10 (some 48) (bm_ 14 2014) rfl rfl HT_.out ?_
 refine one_ (i:=0) (N:=some 38) (bm_ 14 2015) rfl rfl (one_of HT_.out krT_) (by decide) (fun K hK=>?_)
 refine Kd.R_lit_step (Kd.int .i64) _ 3 ?hg (N:=38) ?hd (xs:=([]:List Int)) (inner:=[]) (ok:=fun _=>True) (okp:=fun _=>True) ?hr ?hp (fun _ hk=>hk) trivial (Below.refl _ _) (Nat.le_refl _) (by simp) ?_;(case hd=>rfl);(case hg=>rfl);(case hr=>exact hrT_);(case hp=>exact (Reps.none _ _))
 intro v578 w64 ho65 hb hg_ hnew_
 clear hg_ hnew_
 (first|rw [← Ny577.out] at ho65|(simp only [Int.reduceToNat] at ho65;rw [← Ny577.out] at ho65))
 have HO579:=Aside0.mk (Kd.R_lower (Kd.R_new' ho65 (Kd.R_lt (kRC_ HO555.out))) (keep_size (w:=w) (g:=g) (row:=none) (h_HK HK.out)));replace HO555:=Aside0.mk (Kd.R_elder' (kRC_ HO555.out) (Kd.R_base ho65) hb);replace HI0:=Aside0.mk (IsS94.below (h_HI0 HI0.out) hb);replace BK551:=Aside0.mk (blkB_ BK551.out hb);replace BK558:=Aside0.mk (blkB_ BK558.out hb);replace HR583:=Aside0.mk (Kd.C_below (by repeat (first|(with_reducible exact HR583.out)|(with_reducible refine Kd.C_alloc ?_ _)|(with_reducible refine Kd.C_drewN ?_ _)|(with_reducible refine Kd.C_drew ?_)|exact HR583.out)) hb);replace HR590:=Aside0.mk (Kd.C_below (by repeat (first|(with_reducible exact HR590.out)|(with_reducible refine Kd.C_alloc ?_ _)|(with_reducible refine Kd.C_drewN ?_ _)|(with_reducible refine Kd.C_drew ?_)|exact HR590.out)) hb);replace HK:=Aside0.mk (KeepBut.trans (h_HK HK.out) (KeepBut.of_below hb g none) (.inl rfl));replace HB:=Aside0.mk (below_step (h_HB HB.out) hb)
 clear hb ho65
 refine hK.out _ _ ⟨(blk_cell BK558.out 0).trans rfl,(blk_cell BK558.out 1).trans rfl⟩ (fun hHeld=>?_)
 clear hK K
 refine norm_ (a':=?_) ?_ ?_
 rotate_left
 ·show Act.put _ (some 38) _=_
  simp only [Act.put,List.setIfInBounds_toArray,List.set_cons_zero,List.set_cons_succ,i64_w,i32_w]
  rfl
 refine one_ (i:=5) (N:=some 43) (bm_ 14 2047) rfl rfl (one_of HT_.out krT_) (by decide) (fun K hK=>?_)
 refine Kd.R_append_rows_step (Kd.int .i64) w.heap.size (by rfl) (.tmp 38) (.tmp 42) 22 3 (.int .i64 0) 8 rfl Tryz.underlying22 info3 rfl (by decide) (by omega) v578 y577 y580 _ _ _ (fun k_=>some k_≠(.slice Ao57 t553.length co57:Value).ownBlock) (fun _=>False) rfl rfl ?aO ?aR (fun _ _ h=>h) (fun _ h=>h.elim) ?aF (Below.refl _ _) ?aS ?aL ?_
 (case aR=>repeat (first|exact (by repeat (first|(with_reducible exact HR583.out)|(with_reducible refine Kd.C_alloc ?_ _)|(with_reducible refine Kd.C_drewN ?_ _)|(with_reducible refine Kd.C_drew ?_)|exact HR583.out))|(with_reducible refine Kd.C_alloc ?_ _)|(with_reducible refine Kd.C_drewN ?_ _)|(with_reducible refine Kd.C_drew ?_)))
 (case aF=>exact (fun k_ hk=>Kd.fresh' (Kd.R_lt (kRC_ HO555.out)) k_ hk))
 (case aO=>exact (by (with_reducible repeat (first|apply Kd.R_alloc|apply Kd.R_drewN|apply Kd.R_drew));exact Kd.R_mono HO579.out (fun _ hk=>hk.2)))
 (case aS=>exact (keep_size (w:=w) (g:=g) (row:=none) (h_HK HK.out)))
 (case aL=>have:=LMc46.out;omega)
 intro v585 w66 ho hb hg hat
 rw [← Ny584.out] at ho
 replace HI0:=Aside0.mk (IsS94.grown (h_HI0 HI0.out) hg (IsS94.own_ne HI0.out HO579.out (by decide)));replace BK551:=Aside0.mk (blk_grown (bkC_ BK551.out) hg (Kd.R_ne HO579.out BK551.out (by decide)));replace BK558:=Aside0.mk (blk_grown (bkC_ BK558.out) hg (Kd.R_ne HO579.out BK558.out (by decide)));replace HB:=Aside0.mk (below_weaken (h_HB HB.out) HL.out hb);replace HK:=Aside0.mk (KeepBut.trans (h_HK HK.out) (KeepBut.of_grown hg g) (Kd.R_base2 HO579.out));replace HR583:=Aside0.mk ((show Kd.C (Kd.int .i64) w66 Ao57 y580.length y580 from by rw [Ny580.out];exact Kd.C_take (m:=(t574:Int).toNat) ((Kd.R_reads' (Kd.R_after (ok:=(fun _=>True)) (kRC_ HO555.out) hg hat)).2.2) KL62.out));replace HR590:=Aside0.mk ((show Kd.C (Kd.int .i64) w66 A63 y587.length y587 from by rw [Ny587.out,KA63.out];exact Kd.C_drop (m:=((ji47):Int).toNat) (c:=co57) ((Kd.R_reads' (Kd.R_after (ok:=(fun _=>True)) (kRC_ HO555.out) hg hat)).2.2) KL63.out ((Kd.R_reads' (Kd.R_after (ok:=(fun _=>True)) (kRC_ HO555.out) hg hat)).2.1)));replace HO555:=Aside0.mk (Kd.R_after (ok:=(fun _=>True)) (kRC_ HO555.out) hg hat);have HO586:=Aside0.mk (ho);clear HO579
 clear ho hb hg hat
 refine hK.out _ _ ⟨(blk_cell BK558.out 0).trans rfl,(blk_cell BK558.out 1).trans rfl⟩ (fun hHeld=>?_)
 clear hK K
 refine norm_ (a':=?_) ?_ ?_
 rotate_left
 ·show Act.put _ (some 43) _=_
  simp only [Act.put,List.setIfInBounds_toArray,List.set_cons_zero,List.set_cons_succ,i64_w,i32_w]
  rfl
 refine one_ (i:=11) (N:=some 49) (bm_ 14 4095) rfl rfl (one_of HT_.out krT_) (by decide) (fun K hK=>?_)
 refine Kd.R_append_rows_step (Kd.int .i64) w.heap.size (by rfl) (.tmp 43) (.tmp 48) 22 3 (.int .i64 0) 8 rfl Tryz.underlying22 info3 rfl (by decide) (by omega) v585 y584 y587 _ _ _ (fun k_=>some k_≠(.slice Ao57 t553.length co57:Value).ownBlock) (fun _=>False) rfl rfl ?aO ?aR (fun _ _ h=>h) (fun _ h=>h.elim) ?aF (Below.refl _ _) ?aS ?aL ?_
 (case aR=>repeat (first|exact (by repeat (first|(with_reducible exact HR590.out)|(with_reducible refine Kd.C_alloc ?_ _)|(with_reducible refine Kd.C_drewN ?_ _)|(with_reducible refine Kd.C_drew ?_)|exact HR590.out))|(with_reducible refine Kd.C_alloc ?_ _)|(with_reducible refine Kd.C_drewN ?_ _)|(with_reducible refine Kd.C_drew ?_)))
 (case aF=>exact (fun k_ hk=>Kd.fresh' (Kd.R_lt (kRC_ HO555.out)) k_ hk))
 (case aO=>exact (kRC_ HO586.out))
 (case aS=>exact (keep_size (w:=w) (g:=g) (row:=none) (h_HK HK.out)))
 (case aL=>have:=LMc50.out;omega)
 intro v592 w67 ho hb hg hat
 rw [← Ny591.out] at ho
 replace HI0:=Aside0.mk (IsS94.grown (h_HI0 HI0.out) hg (IsS94.own_ne HI0.out HO586.out (by decide)));replace BK551:=Aside0.mk (blk_grown (bkC_ BK551.out) hg (Kd.R_ne HO586.out BK551.out (by decide)));replace BK558:=Aside0.mk (blk_grown (bkC_ BK558.out) hg (Kd.R_ne HO586.out BK558.out (by decide)));replace HB:=Aside0.mk (below_weaken (h_HB HB.out) HL.out hb);replace HK:=Aside0.mk (KeepBut.trans (h_HK HK.out) (KeepBut.of_grown hg g) (Kd.R_base2 HO586.out));replace HR583:=Aside0.mk ((show Kd.C (Kd.int .i64) w67 Ao57 y580.length y580 from by rw [Ny580.out];exact Kd.C_take (m:=(t574:Int).toNat) ((Kd.R_reads' (Kd.R_after (ok:=(fun _=>True)) (kRC_ HO555.out) hg hat)).2.2) KL62.out));replace HR590:=Aside0.mk ((show Kd.C (Kd.int .i64) w67 A63 y587.length y587 from by rw [Ny587.out,KA63.out];exact Kd.C_drop (m:=((ji47):Int).toNat) (c:=co57) ((Kd.R_reads' (Kd.R_after (ok:=(fun _=>True)) (kRC_ HO555.out) hg hat)).2.2) KL63.out ((Kd.R_reads' (Kd.R_after (ok:=(fun _=>True)) (kRC_ HO555.out) hg hat)).2.1)));replace HO555:=Aside0.mk (Kd.R_after (ok:=(fun _=>True)) (kRC_ HO555.out) hg hat);have HO593:=Aside0.mk (ho);clear HO586
 clear ho hb hg hat
 obtain ⟨Ao68,co68,eo68⟩:=Kd.R_slice HO593.out
 (first|subst eo68|(injection eo68 with f1_ f2_ f3_;have f4_:=f1_.symm;have f5_:=f3_.symm;clear f1_ f2_ f3_;subst f4_;subst f5_))
 refine hK.out _ _ ⟨(blk_cell BK558.out 0).trans rfl,(blk_cell BK558.out 1).trans rfl⟩ (fun hHeld=>?_)
 clear hK K
 refine norm_ (a':=?_) ?_ ?_
 rotate_left
 ·show Act.put _ (some 49) _=_
  simp only [Act.put,List.setIfInBounds_toArray,List.set_cons_zero,List.set_cons_succ,i64_w,i32_w]
  rfl
 refine pu_ 12 (some 50) (bm_ 14 8191) rfl rfl HT_.out ?_
 refine last_ (i:=13) (N:=none) (bm_ 14 16383) rfl rfl (one_of HT_.out krT_) (by decide) (fun K hK=>?_)
 have hs69:w67.cell? ⟨gb558,1,none⟩=some (.slice Ao57 t553.length co57):=(blk_cell BK558.out 1).trans rfl
 have hfs69:=blk_frozen BK558.out 1
 have hns69_0:=NB551_558.out
 have hms69_0:=NB558_551.out
 refine skip_ (w1:=?_) (by rfl) rfl ?_ ?_
 rotate_left
 ·go_simp
  rfl
 refine hK.out _ _ ?_
 clear hK K
 refine done_ (done_of HT_.out krT_) ?_
 obtain ⟨hcz70_0,hcz70_1,hfz70_0,hfz70_1⟩:=bz2_ BK558.out
 have hnb71:=NB551_0.out
 have hnc71:=NB0_551.out
 obtain ⟨hcz72_0,hcz72_1,hfz72_0,hfz72_1⟩:=bz2_ BK551.out
 try go_wp2
 refine bodyPost_ret (results_cell_row rfl _ _ gb551 24 #[.int .i64 t552,.slice Ao68 y591.length co68] (0,0) _ rfl (by (with_reducible repeat (first|refine blk_drewN ?_ _|refine blk_drew ?_|refine blk_alloc ?_ _));refine blk_put (cs:=#[.int .i64 t552,.slice none 0 0]) ?_ 1 _ rfl;(with_reducible repeat (first|refine blk_drewN ?_ _|refine blk_drew ?_|refine blk_alloc ?_ _));refine blk_put (cs:=#[.int .i64 0,.slice none 0 0]) ?_ 0 _ rfl;exact bkC_ BK551.out) Tryz.underlying24 rfl krT_) rfl ?_
 exact ⟨_,by first|rfl|(simp [errW_none,errW_some]<;>rfl)|(simp only [← hji47];first|rfl|(simp [errW_none,errW_some]<;>rfl))|(simp [*,errW_none,errW_some]<;>rfl),by (with_reducible repeat (first|apply Kd.R_alloc|apply Kd.R_drewN|apply Kd.R_drew));exact Kd.R_mono (Kd.R_far (p:=⟨gb551,1,none⟩) (Kd.R_far (p:=⟨gb551,0,none⟩) (Kd.R_far (p:=⟨gb558,1,none⟩) (Kd.R_types (Kd.R_types HO593.out BK558.out (by decide)) BK551.out (by decide)) (fun _ hk=>hk.1.2) (.slice Ao68 y591.length co68)) (fun _ hk=>hk.2) (.int .i64 t552)) (fun _ hk=>hk.2) (.slice Ao68 y591.length co68)) (fun _ hk=>trivial),h_HI0 HI0.out,h_HB HB.out,h_HK HK.out⟩
/-! ### spec_DrawFirstFailure: function 38 -/
def spec_DrawFirstFailure.f (k:Nat) (l0:List Int):Option (Int × List Int):=(spec_l1New.f k l0).bind fun bt605=>((spec_l4Bent.f k bt605.1 bt605.2.1 bt605.2.2 6).bind fun bt609=>(some (bt609.1,bt609.2.1)))
set_option maxHeartbeats 8000000 in
set_option maxRecDepth 100000 in
theorem spec_DrawFirstFailure.calls (k:Nat) (A0:Option Addr) (c0:Nat) (l0:List Int) (r1:Int) (r2:List Int) (w:World) (hr0:Kd.C (Kd.int .u8) w A0 l0.length l0) (hc0:l0.length≤c0) (h:spec_DrawFirstFailure.f k l0=some (r1,r2)) :
    Calls Tryz.prog 38 #[.slice A0 l0.length c0] w fun e w'=>∃ v1_:Value,e=.returned (.agg #[.int .i64 r1,v1_])∧Kd.R (Kd.int .i64) 3 w' w.heap.size (fun _=>True) v1_ r2∧Below w.heap.size w w':=by
 have hu24:=Tryz.underlying24
 have HR0:=Aside0.mk hr0
 have HC0:=Aside0.mk hc0
 clear hr0 hc0
 have HB:=Aside0.mk (Below.refl w.heap.size w)
 unfold spec_DrawFirstFailure.f at h
 have H:=h
 clear h
 replace H:=bnd_ H;obtain ⟨⟨t605,t606,t607⟩,A2,H⟩:=H;dsimp only at H
 replace H:=bnd_ H;obtain ⟨⟨t609,t610,t613,t614⟩,A3,H⟩:=H;dsimp only at H
 simp only [Option.some.injEq,Prod.mk.injEq] at H
 obtain ⟨rfl,rfl⟩:=H
 go_enter Tryz.func38,Tryz.ntmps38
 go_wp2_with (first|((with_reducible refine gate_dst (N:=2) rfl ?_);refine bx_ (N:=2) (cs:=#[.int .i64 0,.slice none 0 0]) (t:=24) ?_;intro gb604 hg w4 hbox hb;have BK604:=Aside0.mk (hbox);have GW604:=Aside0.mk (gw_ hg (h_HB HB.out));have GE604:=Aside0.mk (gw_ hg (h_HB HB.out));replace HB:=Aside0.mk (below_step (h_HB HB.out) hb);clear hb hbox hg)|((with_reducible refine gate_callee (f:=69) rfl ?_);refine goesL_ (some 4) rfl rfl Tryz.func69 krT_ rfl #[.slice A0 l0.length c0] rfl agT_ ?_;(with_reducible refine (spec_l1New.calls k _ _ l0 t605 t606 t607 w _ ?side1 ?side2 ?side3 A2.out).mono ?_);(case side1=>exact h_HB HB.out);(case side2=>exact HR0.out);(case side3=>exact HC0.out);rintro e w5 ⟨g608,rfl,hi,hb,hb2⟩;refine ⟨_,rfl,?_⟩;replace HB:=Aside0.mk (hb);have HI608:=Aside0.mk (hi);have NB608_604:=Aside0.mk (IsS94.ne_blk hi (blk_below (bkC_ BK604.out) hb2) (by decide));have NB604_608:=Aside0.mk (Ne.symm (IsS94.ne_blk hi (blk_below (bkC_ BK604.out) hb2) (by decide)));replace BK604:=Aside0.mk (blk_below (bkC_ BK604.out) hb2);(try clear hb);(try clear hb2);(try clear hk);(try clear hi))|((with_reducible refine gate_callee (f:=97) rfl ?_);refine goesL_ (some 5) rfl rfl Tryz.func97 krT_ rfl #[.pointer (some ⟨g608,0,none⟩),.int .i64 6] rfl agT_ ?_;(with_reducible refine (spec_l4Bent.calls k g608 t605 t606 t607 6 t609 t610 t613 t614 w _ ?side1 ?side2 A3.out).mono ?_);(case side1=>repeat (first|(with_reducible first|exact HI608.out|apply IsS94.alloc|apply IsS94.drewN|apply IsS94.drew|apply IsS94.set_1|apply IsS94.set_2|refine IsS94.far ?_ NB608_604.out _)|exact HI608.out));(case side2=>exact h_HB HB.out);rintro e w6 ⟨v611,rfl,ho0,hi,hb,hk⟩;refine ⟨_,rfl,?_⟩;replace BK604:=Aside0.mk (KeepBut.blk hk (bkC_ BK604.out) NB604_608.out (by simp));have HO612:=Aside0.mk (Kd.R_lower ho0 (below_size (h_HB HB.out)));replace HB:=Aside0.mk (hb);replace HI608:=Aside0.mk (hi);(try clear hb);(try clear hb2);(try clear hk);(try clear hi);(try clear ho0);have hnb7:=NB604_608.out;have hnc7:=NB608_604.out;obtain ⟨hcz8_0,hcz8_1,hfz8_0,hfz8_1⟩:=bz2_ BK604.out;obtain ⟨Ao9,co9,eo9⟩:=Kd.R_slice HO612.out;subst eo9))
 refine bodyPost_ret (results_cell_row rfl _ _ gb604 24 #[.int .i64 t609,.slice Ao9 t610.length co9] (0,0) _ rfl (by (with_reducible repeat (first|refine blk_drewN ?_ _|refine blk_drew ?_|refine blk_alloc ?_ _));refine blk_put (cs:=#[.int .i64 t609,.slice none 0 0]) ?_ 1 _ rfl;(with_reducible repeat (first|refine blk_drewN ?_ _|refine blk_drew ?_|refine blk_alloc ?_ _));refine blk_put (cs:=#[.int .i64 0,.slice none 0 0]) ?_ 0 _ rfl;exact bkC_ BK604.out) Tryz.underlying24 rfl krT_) rfl ?_
 exact ⟨_,eT_,by (with_reducible repeat (first|apply Kd.R_alloc|apply Kd.R_drewN|apply Kd.R_drew));exact Kd.R_mono (Kd.R_far (p:=⟨gb604,1,none⟩) (Kd.R_far (p:=⟨gb604,0,none⟩) (Kd.R_types HO612.out BK604.out (by decide)) (fun _ hk=>hk.2) (.int .i64 t609)) (fun _ hk=>hk.2) (.slice Ao9 t610.length co9)) (fun _ hk=>trivial),h_HB HB.out⟩
end Go.Proofs.YtekegbacnagbcaaGreatDoor.P
