-- written by gprint (a program of this session's, round the kit's print), out of the translation and hand-written texts
import Derived.Test.YtekegbacnagbcaaGreatPVFnCircuitsx0
import Derived.Test.YtekegbacnagbcaaGreatPVFnCircuitsx2
import Derived.Test.YtekegbacnagbcaaGreatPVFnCircuitsx9
import Derived.Test.YtekegbacnagbcaaGreatPVFnCircuitsx12
import Derived.Test.YtekegbacnagbcaaGreatPVFnCircuitsx13
import Derived.Test.YtekegbacnagbcaaGreatPVFnCircuitsx15
namespace Go.Proofs.YtekegbacnagbcaaGreat.P
open Go.RowKit Go.Proofs.YtekegbacnagbcaaGreatW.PrintWords Go.Proofs.YtekegbacnagbcaaGreatW.PrintLast Go.Proofs.YtekegbacnagbcaaGreatW.PrintMore
attribute [local go_sem] max2_int min2_int max_two min_two max_three min_three max_four min_four
set_option linter.unusedVariables false
set_option maxHeartbeats 8000000
set_option maxRecDepth 100000
set_option linter.unusedSimpArgs false
def spec_l6Case.f (k:Nat) (l0:List Int):Option (Int × List Int):=(spec_l1New.f k l0).bind fun bt650=>((spec_l4Draw.f k bt650.1 bt650.2.1 bt650.2.2 5).bind fun bt654=>((spec_Circuits.f k bt654.1 bt654.2.1).bind fun t661=>((spec_l1Below.f bt650.1 bt654.2.2.1 bt654.2.2.2 6).bind fun bt664=>(if bt664.1=0 then ((spec_l3Bent.f k bt650.1 bt664.2.1 bt664.2.2 bt654.1).bind fun bt667=>(some (bt654.1,bt667.1))) else (if bt664.1=1 then (if (t661.length:Int)>1 then (if 1≤(t661.length:Int) then (some (bt654.1,(t661.drop (1:Int).toNat))) else (none)) else (some (bt654.1,t661))) else (if bt664.1=2 then ((spec_l1Below.f bt650.1 bt664.2.1 bt664.2.2 7).bind fun bt675=>(some (bt675.1,t661))) else (some (bt654.1,t661))))))))
def spec_l6Case.T6:Bool × List (List Nat × List Nat):=(true,[([],[]),([0],[0]),([],[]),([],[]),([3],[3]),([2,4],[2,4]),([1,5,0,1],[1]),([5,6,0,1,2,3,4,5,6],[5])])
def spec_l6Case.B6:List Nat:=[0,1,0,0,8,28,63,127]
theorem spec_l6Case.tab6:rtab .any (opsOf Tryz.f30 6)=spec_l6Case.T6:=by kernel_rfl
theorem spec_l6Case.bits6:waitsOk spec_l6Case.T6.2 spec_l6Case.B6=true:=by kernel_rfl
theorem spec_l6Case.calls (k:Nat) (A0:Option Addr) (c0:Nat) (l0:List Int) (r1:Int) (r2:List Int) (w:World) (hr0:Kd.C (Kd.int .u8) w A0 l0.length l0) (hc0:l0.length≤c0) (h:spec_l6Case.f k l0=some (r1,r2)) :
    Calls Tryz.prog 30 #[.slice A0 l0.length c0] w fun e w'=>∃ v1_:Value,e=.returned (.tuple #[.int .i64 r1,v1_])∧Kd.Q (Kd.int .i64) 3 w' w.heap.size (fun _=>True) v1_ r2∧Below w.heap.size w w':=by
 have hu26:=Tryz.underlying26
 have HR0:=Aside0.mk hr0
 have HC0:=Aside0.mk hc0
 clear hr0 hc0
 have HB:=Aside0.mk (Below.refl w.heap.size w)
 unfold spec_l6Case.f at h
 have H:=h
 clear h
 replace H:=bnd_ H;obtain ⟨⟨t650,t651,t652⟩,A2,H⟩:=H;dsimp only at H
 replace H:=bnd_ H;obtain ⟨⟨t654,t655,t658,t659⟩,A3,H⟩:=H;dsimp only at H
 replace H:=bnd_ H;obtain ⟨t661,A4,H⟩:=H
 replace H:=bnd_ H;obtain ⟨⟨t664,t665,t666⟩,A5,H⟩:=H;dsimp only at H
 replace H:=gse_ H;rcases H with ⟨c6b0,c6b1,H⟩|⟨c6b0,c6b1,c6,H⟩
 ·replace H:=bnd_ H;obtain ⟨⟨t667,t670,t671⟩,A7,H⟩:=H;dsimp only at H
  simp only [Option.some.injEq,Prod.mk.injEq] at H
  obtain ⟨rfl,rfl⟩:=H
  go_enter Tryz.func30,Tryz.ntmps30
  try go_wp2_with (first|((with_reducible refine gate_callee (f:=24) rfl ?_);refine goesL_ (some 8) rfl rfl Tryz.func24 krT_ rfl #[.slice A0 l0.length c0] rfl agT_ ?_;(with_reducible refine (spec_l1New.calls k _ _ l0 t650 t651 t652 w _ ?side1 ?side2 ?side3 A2.out).mono ?_);(case side1=>exact h_HB HB.out);(case side2=>exact HR0.out);(case side3=>exact HC0.out);rintro e w8 ⟨g653,rfl,hi,hb,hb2⟩;refine ⟨_,rfl,?_⟩;replace HB:=Aside0.mk (hb);have HI653:=Aside0.mk (hi);(try clear hb);(try clear hb2);(try clear hi))|((with_reducible refine gate_callee (f:=45) rfl ?_);refine goesL_ (some 10) rfl rfl Tryz.func45 krT_ rfl #[.pointer (some ⟨g653,0,none⟩),.int .i64 5] rfl agT_ ?_;(with_reducible refine (spec_l4Draw.calls k g653 t650 t651 t652 5 t654 t655 t658 t659 w _ ?side1 ?side2 A3.out).mono ?_);(case side1=>exact h_HI653 HI653.out);(case side2=>exact h_HB HB.out);rintro e w9 ⟨v656,rfl,ho0,hi,hb,hk⟩;refine ⟨_,rfl,?_⟩;have HO657:=Aside0.mk (Kd.R_lower ho0 (below_size (h_HB HB.out)));replace HB:=Aside0.mk (hb);replace HI653:=Aside0.mk (hi);(try clear hb);(try clear hk);(try clear hi);(try clear ho0))|((with_reducible refine gate_dst (N:=5) rfl ?_);refine bx_ (N:=5) (cs:=#[.int .i64 0,.slice none 0 0]) (t:=26) ?_;intro gb660 hg w10 hbox hb;replace HO657:=Aside0.mk (Kd.R_below (kRC_ HO657.out) hb);have BK660:=Aside0.mk (hbox);have GW660:=Aside0.mk (gw_ hg (h_HB HB.out));have GE660:=GW660;replace HB:=s_HB HB.out hb;have NB653_660:=Aside0.mk ((by rw [hg];exact Nat.ne_of_lt (IsS68.lt (show IsS68 w _ g653 t650 t658 t659 from h_HI653 HI653.out)):g653≠gb660));have NB660_653:=Aside0.mk ((by rw [hg];exact Nat.ne_of_gt (IsS68.lt (show IsS68 w _ g653 t650 t658 t659 from h_HI653 HI653.out)):gb660≠g653));replace HI653:=Aside0.mk (IsS68.below (h_HI653 HI653.out) hb);clear hb hbox hg;have hnb11:=NB660_653.out;have hnc11:=NB653_660.out;obtain ⟨hcz12_0,hcz12_1,hfz12_0,hfz12_1⟩:=bz2_ BK660.out;obtain ⟨Ao13,co13,eo13⟩:=Kd.R_slice HO657.out;subst eo13)|((with_reducible refine gate_callee (f:=15) rfl ?_);refine goesL_ (some 12) rfl rfl Tryz.func15 krT_ rfl #[.agg #[.int .i64 t654,.slice Ao13 t655.length co13]] rfl agT_ ?_;(with_reducible refine (spec_Circuits.calls k t654 _ _ t655 t661 _ ?side1 ?side2 A4.out).mono ?_);(case side1=>refine (Kd.R_reads' (e:=3) (base:=w.heap.size) (ok:=fun k_=>True) (n:=t655.length) (c:=co13) ?_).2.2;exact (kRF_ HO657.out));(case side2=>exact (Kd.R_reads' HO657.out).2.1);rintro e w14 ⟨v662,rfl,ho0,hb⟩;refine ⟨_,rfl,?_⟩;have HO663:=Aside0.mk (Kd.R_lower (Kd.R_new' ho0 (Kd.R_lt (kRF_ HO657.out))) (below_size (h_HB HB.out)));replace HO657:=Aside0.mk (Kd.R_elder' (kRF_ HO657.out) (Kd.R_base ho0) hb);replace HI653:=Aside0.mk (IsS68.below (show IsS68 w ((w10.setCell ⟨gb660,0,none⟩ (.int .i64 t654)).setCell ⟨gb660,1,none⟩ (.slice Ao13 t655.length co13)) g653 t650 t658 t659 from h_HI653 HI653.out) hb);replace BK660:=Aside0.mk (blk_below (g:=gb660) (o:=.cells #[.int .i64 t654,.slice Ao13 t655.length co13] 26 (0,0)) (by (with_reducible repeat (first|refine blk_drewN ?_ _|refine blk_drew ?_|refine blk_alloc ?_ _));exact bp2_ (bkC_ BK660.out)) hb);replace HB:=s_HB HB.out hb;(try clear hb);(try clear ho0))|((with_reducible refine gate_callee (f:=46) rfl ?_);refine goesL_ (some 14) rfl rfl Tryz.func46 krT_ rfl #[.pointer (some ⟨g653,0,none⟩),.int .i64 6] rfl agT_ ?_;(with_reducible refine (spec_l1Below.calls g653 t650 t658 t659 6 t664 t665 t666 w _ ?side1 ?side2 A5.out).mono ?_);(case side1=>exact h_HI653 HI653.out);(case side2=>exact h_HB HB.out);rintro e w15 ⟨rfl,hi,hb,hk⟩;refine ⟨_,rfl,?_⟩;replace HO657:=Aside0.mk (Kd.R_mono (Kd.R_keep (IsS68.apart (show IsS68 w _ g653 t650 t658 t659 from h_HI653 HI653.out) (kRC_ HO657.out) (by decide)) hk (fun _ h=>h.2)) (fun _ h=>h.1));replace BK660:=Aside0.mk (KeepBut.blk hk (bkC_ BK660.out) NB660_653.out (by simp));replace HO663:=Aside0.mk (Kd.R_mono (Kd.R_keep (IsS68.apart (show IsS68 w _ g653 t650 t658 t659 from h_HI653 HI653.out) (kRC_ HO663.out) (by decide)) hk (fun _ h=>h.2)) (fun _ h=>h.1));replace HB:=Aside0.mk (hb);replace HI653:=Aside0.mk (hi);(try clear hb);(try clear hk);(try clear hi)))
  replace HO657:=Aside0.mk (Kd.R_drew HO657.out);replace HO663:=Aside0.mk (Kd.R_drew HO663.out);replace BK660:=Aside0.mk (blk_drew BK660.out);replace HI653:=Aside0.mk (IsS68.drew HI653.out);replace HB:=Aside0.mk (below_drew1 HB.out)
  refine start_ (n:=8) (S:=fun w'=>w'.cell? ⟨gb660,0,none⟩=some (.int .i64 t654)∧w'.cell? ⟨gb660,1,none⟩=some (.slice Ao13 t655.length co13)) (ds:=[]) #[F_,F_,F_,F_,F_,F_,F_,F_] krT_ rfl rfl ⟨(blk_cell BK660.out 0).trans rfl,(blk_cell BK660.out 1).trans rfl⟩ (fun hHeld=>?_);refine with_tabW spec_l6Case.tab6 spec_l6Case.bits6 (fun HT_ HW_=>?_)
  generalize w15.drew=w16 at HO657 HO663 BK660 HI653 HB hHeld ⊢
  refine pu_ 0 (some 17) (bm_ 8 1) rfl rfl HT_.out ?_
  refine pu_ 2 (some 19) (bm_ 8 5) rfl rfl HT_.out ?_
  refine pu_ 3 (some 20) (bm_ 8 13) rfl rfl HT_.out ?_
  refine take_ (i:=1) (N:=some 18) (v:=?_) (a':=?_) (bm_ 8 15) rfl rfl (take_ofW HT_.out HW_.out krT_) (fun _ _ _ h=>h) (Or.inl ⟨by rfl,?_⟩) hHeld ?_ ?_
  rotate_left
  ·rintro w' ⟨s0,s1⟩
   go_simp
   with_reducible rfl
  rotate_left;exact apT_
  refine take_ (i:=4) (N:=some 21) (v:=?_) (a':=?_) (bm_ 8 31) rfl rfl (take_ofW HT_.out HW_.out krT_) (fun _ _ _ h=>h) (Or.inl ⟨by rfl,?_⟩) hHeld ?_ ?_
  rotate_left
  ·rintro w' ⟨s0,s1⟩
   go_simp
   with_reducible rfl
  rotate_left;exact apT_
  refine one_ (i:=5) (N:=some 22) (bm_ 8 63) rfl rfl (one_of HT_.out krT_) (by decide) (fun K hK=>?_)
  refine goes_ Tryz.func69 krT_ rfl #[.pointer (some ⟨g653,0,none⟩),.int .i64 t654] (by rfl) rfl rfl agT_ ?_
  with_reducible refine (spec_l3Bent.calls k g653 t650 t665 t666 t654 t667 t670 t671 w _ ?side1 ?side2 A7.out).mono ?_
  (case side1=>exact h_HI653 HI653.out)
  (case side2=>exact h_HB HB.out)
  rintro e w17 ⟨v668,rfl,ho0,hi,hb,hk⟩
  refine ⟨_,rfl,?_⟩
  replace BK660:=Aside0.mk (KeepBut.blk hk (bkC_ BK660.out) NB660_653.out (by simp));have HO669:=Aside0.mk (Kd.R_lower (Kd.R_new' (Kd.R_new' ho0 (Kd.R_lt (kRC_ HO657.out))) (Kd.R_lt (kRC_ HO663.out))) (below_size (h_HB HB.out)));replace HO657:=Aside0.mk (Kd.R_mono (Kd.R_told (Kd.R_oldK (IsS68.apart (show IsS68 w _ g653 t650 t665 t666 from h_HI653 HI653.out) (kRC_ HO657.out) (by decide)) hk) (Kd.R_base ho0)) (fun _ h_=>h_.1));replace HO663:=Aside0.mk (Kd.R_mono (Kd.R_told (Kd.R_oldK (IsS68.apart (show IsS68 w _ g653 t650 t665 t666 from h_HI653 HI653.out) (kRC_ HO663.out) (by decide)) hk) (Kd.R_base ho0)) (fun _ h_=>h_.1));replace HB:=Aside0.mk (hb);replace HI653:=Aside0.mk (hi)
  (try clear hb)
  (try clear hb2)
  (try clear hk)
  (try clear hi)
  (try clear ho0)
  refine hK.out _ _ ⟨(blk_cell BK660.out 0).trans rfl,(blk_cell BK660.out 1).trans rfl⟩ (fun hHeld=>?_)
  clear hK K
  refine norm_ (a':=?_) ?_ ?_
  rotate_left
  ·show Act.put _ (some 22) _=_
   simp only [Act.put,List.setIfInBounds_toArray,List.set_cons_zero,List.set_cons_succ,i64_w,i32_w]
   rfl
  refine pu_ 6 (some 2) (bm_ 8 127) rfl rfl HT_.out ?_
  refine pu_ 7 (some 3) (bm_ 8 255) rfl rfl HT_.out ?_
  refine done_ (done_of HT_.out krT_) ?_
  try go_wp2
  go_ret2
  exact ⟨_,eT_,Kd.Q_of_R (by (with_reducible repeat (first|apply Kd.R_alloc|apply Kd.R_drewN|apply Kd.R_drew));exact Kd.R_mono HO669.out (fun _ hk=>trivial)),h_HB HB.out⟩
 replace H:=(gse_ H).symm;rcases H with ⟨c18b0,c18b1,c18,H⟩|⟨c18b0,c18b1,H⟩
 ·replace H:=(gse_ H).symm;rcases H with ⟨c42b0,c42b1,c42,H⟩|⟨c42b0,c42b1,H⟩
  ·simp only [Option.some.injEq,Prod.mk.injEq] at H
   obtain ⟨rfl,rfl⟩:=H
   go_enter Tryz.func30,Tryz.ntmps30
   go_wp2_with (first|((with_reducible refine gate_callee (f:=24) rfl ?_);refine goesL_ (some 8) rfl rfl Tryz.func24 krT_ rfl #[.slice A0 l0.length c0] rfl agT_ ?_;(with_reducible refine (spec_l1New.calls k _ _ l0 t650 t651 t652 w _ ?side1 ?side2 ?side3 A2.out).mono ?_);(case side1=>exact h_HB HB.out);(case side2=>exact HR0.out);(case side3=>exact HC0.out);rintro e w53 ⟨g653,rfl,hi,hb,hb2⟩;refine ⟨_,rfl,?_⟩;replace HB:=Aside0.mk (hb);have HI653:=Aside0.mk (hi);(try clear hb);(try clear hb2);(try clear hi))|((with_reducible refine gate_callee (f:=45) rfl ?_);refine goesL_ (some 10) rfl rfl Tryz.func45 krT_ rfl #[.pointer (some ⟨g653,0,none⟩),.int .i64 5] rfl agT_ ?_;(with_reducible refine (spec_l4Draw.calls k g653 t650 t651 t652 5 t654 t655 t658 t659 w _ ?side1 ?side2 A3.out).mono ?_);(case side1=>exact h_HI653 HI653.out);(case side2=>exact h_HB HB.out);rintro e w54 ⟨v656,rfl,ho0,hi,hb,hk⟩;refine ⟨_,rfl,?_⟩;have HO657:=Aside0.mk (Kd.R_lower ho0 (below_size (h_HB HB.out)));replace HB:=Aside0.mk (hb);replace HI653:=Aside0.mk (hi);(try clear hb);(try clear hk);(try clear hi);(try clear ho0))|((with_reducible refine gate_dst (N:=5) rfl ?_);refine bx_ (N:=5) (cs:=#[.int .i64 0,.slice none 0 0]) (t:=26) ?_;intro gb660 hg w55 hbox hb;replace HO657:=Aside0.mk (Kd.R_below (kRC_ HO657.out) hb);have BK660:=Aside0.mk (hbox);have GW660:=Aside0.mk (gw_ hg (h_HB HB.out));have GE660:=GW660;replace HB:=s_HB HB.out hb;have NB653_660:=Aside0.mk ((by rw [hg];exact Nat.ne_of_lt (IsS68.lt (show IsS68 w _ g653 t650 t658 t659 from h_HI653 HI653.out)):g653≠gb660));have NB660_653:=Aside0.mk ((by rw [hg];exact Nat.ne_of_gt (IsS68.lt (show IsS68 w _ g653 t650 t658 t659 from h_HI653 HI653.out)):gb660≠g653));replace HI653:=Aside0.mk (IsS68.below (h_HI653 HI653.out) hb);clear hb hbox hg;have hnb56:=NB660_653.out;have hnc56:=NB653_660.out;obtain ⟨hcz57_0,hcz57_1,hfz57_0,hfz57_1⟩:=bz2_ BK660.out;obtain ⟨Ao58,co58,eo58⟩:=Kd.R_slice HO657.out;subst eo58)|((with_reducible refine gate_callee (f:=15) rfl ?_);refine goesL_ (some 12) rfl rfl Tryz.func15 krT_ rfl #[.agg #[.int .i64 t654,.slice Ao58 t655.length co58]] rfl agT_ ?_;(with_reducible refine (spec_Circuits.calls k t654 _ _ t655 t661 _ ?side1 ?side2 A4.out).mono ?_);(case side1=>refine (Kd.R_reads' (e:=3) (base:=w.heap.size) (ok:=fun k_=>True) (n:=t655.length) (c:=co58) ?_).2.2;exact (kRF_ HO657.out));(case side2=>exact (Kd.R_reads' HO657.out).2.1);rintro e w59 ⟨v662,rfl,ho0,hb⟩;refine ⟨_,rfl,?_⟩;have HO663:=Aside0.mk (Kd.R_lower (Kd.R_new' ho0 (Kd.R_lt (kRF_ HO657.out))) (below_size (h_HB HB.out)));replace HO657:=Aside0.mk (Kd.R_elder' (kRF_ HO657.out) (Kd.R_base ho0) hb);replace HI653:=Aside0.mk (IsS68.below (show IsS68 w ((w55.setCell ⟨gb660,0,none⟩ (.int .i64 t654)).setCell ⟨gb660,1,none⟩ (.slice Ao58 t655.length co58)) g653 t650 t658 t659 from h_HI653 HI653.out) hb);replace BK660:=Aside0.mk (blk_below (g:=gb660) (o:=.cells #[.int .i64 t654,.slice Ao58 t655.length co58] 26 (0,0)) (by (with_reducible repeat (first|refine blk_drewN ?_ _|refine blk_drew ?_|refine blk_alloc ?_ _));exact bp2_ (bkC_ BK660.out)) hb);replace HB:=s_HB HB.out hb;(try clear hb);(try clear ho0))|((with_reducible refine gate_callee (f:=46) rfl ?_);refine goesL_ (some 14) rfl rfl Tryz.func46 krT_ rfl #[.pointer (some ⟨g653,0,none⟩),.int .i64 6] rfl agT_ ?_;(with_reducible refine (spec_l1Below.calls g653 t650 t658 t659 6 t664 t665 t666 w _ ?side1 ?side2 A5.out).mono ?_);(case side1=>exact h_HI653 HI653.out);(case side2=>exact h_HB HB.out);rintro e w60 ⟨rfl,hi,hb,hk⟩;refine ⟨_,rfl,?_⟩;replace HO657:=Aside0.mk (Kd.R_mono (Kd.R_keep (IsS68.apart (show IsS68 w _ g653 t650 t658 t659 from h_HI653 HI653.out) (kRC_ HO657.out) (by decide)) hk (fun _ h=>h.2)) (fun _ h=>h.1));replace BK660:=Aside0.mk (KeepBut.blk hk (bkC_ BK660.out) NB660_653.out (by simp));replace HO663:=Aside0.mk (Kd.R_mono (Kd.R_keep (IsS68.apart (show IsS68 w _ g653 t650 t658 t659 from h_HI653 HI653.out) (kRC_ HO663.out) (by decide)) hk (fun _ h=>h.2)) (fun _ h=>h.1));replace HB:=Aside0.mk (hb);replace HI653:=Aside0.mk (hi);(try clear hb);(try clear hk);(try clear hi);obtain ⟨hcz61_0,hcz61_1,hfz61_0,hfz61_1⟩:=bz2_ BK660.out))
   go_ret2
   exact ⟨_,eT_,Kd.Q_of_R (by (with_reducible repeat (first|apply Kd.R_alloc|apply Kd.R_drewN|apply Kd.R_drew));exact Kd.R_mono HO663.out (fun _ hk=>trivial)),h_HB HB.out⟩
  replace H:=bnd_ H;obtain ⟨⟨t675,t676,t677⟩,A43,H⟩:=H;dsimp only at H
  simp only [Option.some.injEq,Prod.mk.injEq] at H
  obtain ⟨rfl,rfl⟩:=H
  go_enter Tryz.func30,Tryz.ntmps30
  go_wp2_with (first|((with_reducible refine gate_callee (f:=24) rfl ?_);refine goesL_ (some 8) rfl rfl Tryz.func24 krT_ rfl #[.slice A0 l0.length c0] rfl agT_ ?_;(with_reducible refine (spec_l1New.calls k _ _ l0 t650 t651 t652 w _ ?side1 ?side2 ?side3 A2.out).mono ?_);(case side1=>exact h_HB HB.out);(case side2=>exact HR0.out);(case side3=>exact HC0.out);rintro e w44 ⟨g653,rfl,hi,hb,hb2⟩;refine ⟨_,rfl,?_⟩;replace HB:=Aside0.mk (hb);have HI653:=Aside0.mk (hi);(try clear hb);(try clear hb2);(try clear hi))|((with_reducible refine gate_callee (f:=45) rfl ?_);refine goesL_ (some 10) rfl rfl Tryz.func45 krT_ rfl #[.pointer (some ⟨g653,0,none⟩),.int .i64 5] rfl agT_ ?_;(with_reducible refine (spec_l4Draw.calls k g653 t650 t651 t652 5 t654 t655 t658 t659 w _ ?side1 ?side2 A3.out).mono ?_);(case side1=>exact h_HI653 HI653.out);(case side2=>exact h_HB HB.out);rintro e w45 ⟨v656,rfl,ho0,hi,hb,hk⟩;refine ⟨_,rfl,?_⟩;have HO657:=Aside0.mk (Kd.R_lower ho0 (below_size (h_HB HB.out)));replace HB:=Aside0.mk (hb);replace HI653:=Aside0.mk (hi);(try clear hb);(try clear hk);(try clear hi);(try clear ho0))|((with_reducible refine gate_dst (N:=5) rfl ?_);refine bx_ (N:=5) (cs:=#[.int .i64 0,.slice none 0 0]) (t:=26) ?_;intro gb660 hg w46 hbox hb;replace HO657:=Aside0.mk (Kd.R_below (kRC_ HO657.out) hb);have BK660:=Aside0.mk (hbox);have GW660:=Aside0.mk (gw_ hg (h_HB HB.out));have GE660:=GW660;replace HB:=s_HB HB.out hb;have NB653_660:=Aside0.mk ((by rw [hg];exact Nat.ne_of_lt (IsS68.lt (show IsS68 w _ g653 t650 t658 t659 from h_HI653 HI653.out)):g653≠gb660));have NB660_653:=Aside0.mk ((by rw [hg];exact Nat.ne_of_gt (IsS68.lt (show IsS68 w _ g653 t650 t658 t659 from h_HI653 HI653.out)):gb660≠g653));replace HI653:=Aside0.mk (IsS68.below (h_HI653 HI653.out) hb);clear hb hbox hg;have hnb47:=NB660_653.out;have hnc47:=NB653_660.out;obtain ⟨hcz48_0,hcz48_1,hfz48_0,hfz48_1⟩:=bz2_ BK660.out;obtain ⟨Ao49,co49,eo49⟩:=Kd.R_slice HO657.out;subst eo49)|((with_reducible refine gate_callee (f:=15) rfl ?_);refine goesL_ (some 12) rfl rfl Tryz.func15 krT_ rfl #[.agg #[.int .i64 t654,.slice Ao49 t655.length co49]] rfl agT_ ?_;(with_reducible refine (spec_Circuits.calls k t654 _ _ t655 t661 _ ?side1 ?side2 A4.out).mono ?_);(case side1=>refine (Kd.R_reads' (e:=3) (base:=w.heap.size) (ok:=fun k_=>True) (n:=t655.length) (c:=co49) ?_).2.2;exact (kRF_ HO657.out));(case side2=>exact (Kd.R_reads' HO657.out).2.1);rintro e w50 ⟨v662,rfl,ho0,hb⟩;refine ⟨_,rfl,?_⟩;have HO663:=Aside0.mk (Kd.R_lower (Kd.R_new' ho0 (Kd.R_lt (kRF_ HO657.out))) (below_size (h_HB HB.out)));replace HO657:=Aside0.mk (Kd.R_elder' (kRF_ HO657.out) (Kd.R_base ho0) hb);replace HI653:=Aside0.mk (IsS68.below (show IsS68 w ((w46.setCell ⟨gb660,0,none⟩ (.int .i64 t654)).setCell ⟨gb660,1,none⟩ (.slice Ao49 t655.length co49)) g653 t650 t658 t659 from h_HI653 HI653.out) hb);replace BK660:=Aside0.mk (blk_below (g:=gb660) (o:=.cells #[.int .i64 t654,.slice Ao49 t655.length co49] 26 (0,0)) (by (with_reducible repeat (first|refine blk_drewN ?_ _|refine blk_drew ?_|refine blk_alloc ?_ _));exact bp2_ (bkC_ BK660.out)) hb);replace HB:=s_HB HB.out hb;(try clear hb);(try clear ho0))|((with_reducible refine gate_callee (f:=46) rfl ?_);refine goesL_ (some 14) rfl rfl Tryz.func46 krT_ rfl #[.pointer (some ⟨g653,0,none⟩),.int .i64 6] rfl agT_ ?_;(with_reducible refine (spec_l1Below.calls g653 t650 t658 t659 6 t664 t665 t666 w _ ?side1 ?side2 A5.out).mono ?_);(case side1=>exact h_HI653 HI653.out);(case side2=>exact h_HB HB.out);rintro e w51 ⟨rfl,hi,hb,hk⟩;refine ⟨_,rfl,?_⟩;replace HO657:=Aside0.mk (Kd.R_mono (Kd.R_keep (IsS68.apart (show IsS68 w _ g653 t650 t658 t659 from h_HI653 HI653.out) (kRC_ HO657.out) (by decide)) hk (fun _ h=>h.2)) (fun _ h=>h.1));replace BK660:=Aside0.mk (KeepBut.blk hk (bkC_ BK660.out) NB660_653.out (by simp));replace HO663:=Aside0.mk (Kd.R_mono (Kd.R_keep (IsS68.apart (show IsS68 w _ g653 t650 t658 t659 from h_HI653 HI653.out) (kRC_ HO663.out) (by decide)) hk (fun _ h=>h.2)) (fun _ h=>h.1));replace HB:=Aside0.mk (hb);replace HI653:=Aside0.mk (hi);(try clear hb);(try clear hk);(try clear hi))|((with_reducible refine gate_callee (f:=46) rfl ?_);refine goesL_ (some 35) rfl rfl Tryz.func46 krT_ rfl #[.pointer (some ⟨g653,0,none⟩),.int .i64 7] rfl agT_ ?_;(with_reducible refine (spec_l1Below.calls g653 t650 t665 t666 7 t675 t676 t677 w _ ?side1 ?side2 A43.out).mono ?_);(case side1=>exact h_HI653 HI653.out);(case side2=>exact h_HB HB.out);rintro e w52 ⟨rfl,hi,hb,hk⟩;refine ⟨_,rfl,?_⟩;replace HO657:=Aside0.mk (Kd.R_mono (Kd.R_keep (IsS68.apart (show IsS68 w _ g653 t650 t665 t666 from h_HI653 HI653.out) (kRC_ HO657.out) (by decide)) hk (fun _ h=>h.2)) (fun _ h=>h.1));replace BK660:=Aside0.mk (KeepBut.blk hk (bkC_ BK660.out) NB660_653.out (by simp));replace HO663:=Aside0.mk (Kd.R_mono (Kd.R_keep (IsS68.apart (show IsS68 w _ g653 t650 t665 t666 from h_HI653 HI653.out) (kRC_ HO663.out) (by decide)) hk (fun _ h=>h.2)) (fun _ h=>h.1));replace HB:=Aside0.mk (hb);replace HI653:=Aside0.mk (hi);(try clear hb);(try clear hk);(try clear hi)))
  go_ret2
  exact ⟨_,eT_,Kd.Q_of_R (by (with_reducible repeat (first|apply Kd.R_alloc|apply Kd.R_drewN|apply Kd.R_drew));exact Kd.R_mono HO663.out (fun _ hk=>trivial)),h_HB HB.out⟩
 replace H:=(gsq_ H).symm;rcases H with ⟨c19,H⟩|⟨c19,H⟩
 ·have c19b0:decide (1<(t661.length:Int))=false:=decide_eq_false c19
  have c19b1:decide (1<t661.length)=false:=decide_eq_false (by omega)
  clear c19
  simp only [Option.some.injEq,Prod.mk.injEq] at H
  obtain ⟨rfl,rfl⟩:=H
  go_enter Tryz.func30,Tryz.ntmps30
  go_wp2_with (first|((with_reducible refine gate_callee (f:=24) rfl ?_);refine goesL_ (some 8) rfl rfl Tryz.func24 krT_ rfl #[.slice A0 l0.length c0] rfl agT_ ?_;(with_reducible refine (spec_l1New.calls k _ _ l0 t650 t651 t652 w _ ?side1 ?side2 ?side3 A2.out).mono ?_);(case side1=>exact h_HB HB.out);(case side2=>exact HR0.out);(case side3=>exact HC0.out);rintro e w32 ⟨g653,rfl,hi,hb,hb2⟩;refine ⟨_,rfl,?_⟩;replace HB:=Aside0.mk (hb);have HI653:=Aside0.mk (hi);(try clear hb);(try clear hb2);(try clear hi))|((with_reducible refine gate_callee (f:=45) rfl ?_);refine goesL_ (some 10) rfl rfl Tryz.func45 krT_ rfl #[.pointer (some ⟨g653,0,none⟩),.int .i64 5] rfl agT_ ?_;(with_reducible refine (spec_l4Draw.calls k g653 t650 t651 t652 5 t654 t655 t658 t659 w _ ?side1 ?side2 A3.out).mono ?_);(case side1=>exact h_HI653 HI653.out);(case side2=>exact h_HB HB.out);rintro e w33 ⟨v656,rfl,ho0,hi,hb,hk⟩;refine ⟨_,rfl,?_⟩;have HO657:=Aside0.mk (Kd.R_lower ho0 (below_size (h_HB HB.out)));replace HB:=Aside0.mk (hb);replace HI653:=Aside0.mk (hi);(try clear hb);(try clear hk);(try clear hi);(try clear ho0))|((with_reducible refine gate_dst (N:=5) rfl ?_);refine bx_ (N:=5) (cs:=#[.int .i64 0,.slice none 0 0]) (t:=26) ?_;intro gb660 hg w34 hbox hb;replace HO657:=Aside0.mk (Kd.R_below (kRC_ HO657.out) hb);have BK660:=Aside0.mk (hbox);have GW660:=Aside0.mk (gw_ hg (h_HB HB.out));have GE660:=GW660;replace HB:=s_HB HB.out hb;have NB653_660:=Aside0.mk ((by rw [hg];exact Nat.ne_of_lt (IsS68.lt (show IsS68 w _ g653 t650 t658 t659 from h_HI653 HI653.out)):g653≠gb660));have NB660_653:=Aside0.mk ((by rw [hg];exact Nat.ne_of_gt (IsS68.lt (show IsS68 w _ g653 t650 t658 t659 from h_HI653 HI653.out)):gb660≠g653));replace HI653:=Aside0.mk (IsS68.below (h_HI653 HI653.out) hb);clear hb hbox hg;have hnb35:=NB660_653.out;have hnc35:=NB653_660.out;obtain ⟨hcz36_0,hcz36_1,hfz36_0,hfz36_1⟩:=bz2_ BK660.out;obtain ⟨Ao37,co37,eo37⟩:=Kd.R_slice HO657.out;subst eo37)|((with_reducible refine gate_callee (f:=15) rfl ?_);refine goesL_ (some 12) rfl rfl Tryz.func15 krT_ rfl #[.agg #[.int .i64 t654,.slice Ao37 t655.length co37]] rfl agT_ ?_;(with_reducible refine (spec_Circuits.calls k t654 _ _ t655 t661 _ ?side1 ?side2 A4.out).mono ?_);(case side1=>refine (Kd.R_reads' (e:=3) (base:=w.heap.size) (ok:=fun k_=>True) (n:=t655.length) (c:=co37) ?_).2.2;exact (kRF_ HO657.out));(case side2=>exact (Kd.R_reads' HO657.out).2.1);rintro e w38 ⟨v662,rfl,ho0,hb⟩;refine ⟨_,rfl,?_⟩;have HO663:=Aside0.mk (Kd.R_lower (Kd.R_new' ho0 (Kd.R_lt (kRF_ HO657.out))) (below_size (h_HB HB.out)));replace HO657:=Aside0.mk (Kd.R_elder' (kRF_ HO657.out) (Kd.R_base ho0) hb);replace HI653:=Aside0.mk (IsS68.below (show IsS68 w ((w34.setCell ⟨gb660,0,none⟩ (.int .i64 t654)).setCell ⟨gb660,1,none⟩ (.slice Ao37 t655.length co37)) g653 t650 t658 t659 from h_HI653 HI653.out) hb);replace BK660:=Aside0.mk (blk_below (g:=gb660) (o:=.cells #[.int .i64 t654,.slice Ao37 t655.length co37] 26 (0,0)) (by (with_reducible repeat (first|refine blk_drewN ?_ _|refine blk_drew ?_|refine blk_alloc ?_ _));exact bp2_ (bkC_ BK660.out)) hb);replace HB:=s_HB HB.out hb;(try clear hb);(try clear ho0))|((with_reducible refine gate_callee (f:=46) rfl ?_);refine goesL_ (some 14) rfl rfl Tryz.func46 krT_ rfl #[.pointer (some ⟨g653,0,none⟩),.int .i64 6] rfl agT_ ?_;(with_reducible refine (spec_l1Below.calls g653 t650 t658 t659 6 t664 t665 t666 w _ ?side1 ?side2 A5.out).mono ?_);(case side1=>exact h_HI653 HI653.out);(case side2=>exact h_HB HB.out);rintro e w39 ⟨rfl,hi,hb,hk⟩;refine ⟨_,rfl,?_⟩;replace HO657:=Aside0.mk (Kd.R_mono (Kd.R_keep (IsS68.apart (show IsS68 w _ g653 t650 t658 t659 from h_HI653 HI653.out) (kRC_ HO657.out) (by decide)) hk (fun _ h=>h.2)) (fun _ h=>h.1));replace BK660:=Aside0.mk (KeepBut.blk hk (bkC_ BK660.out) NB660_653.out (by simp));replace HO663:=Aside0.mk (Kd.R_mono (Kd.R_keep (IsS68.apart (show IsS68 w _ g653 t650 t658 t659 from h_HI653 HI653.out) (kRC_ HO663.out) (by decide)) hk (fun _ h=>h.2)) (fun _ h=>h.1));replace HB:=Aside0.mk (hb);replace HI653:=Aside0.mk (hi);(try clear hb);(try clear hk);(try clear hi);obtain ⟨Ao40,co40,eo40⟩:=Kd.R_slice HO663.out;subst eo40;obtain ⟨hcz41_0,hcz41_1,hfz41_0,hfz41_1⟩:=bz2_ BK660.out))
  go_ret2
  exact ⟨_,eT_,Kd.Q_of_R (by (with_reducible repeat (first|apply Kd.R_alloc|apply Kd.R_drewN|apply Kd.R_drew));exact Kd.R_mono HO663.out (fun _ hk=>trivial)),h_HB HB.out⟩
 have c19b0:decide (1<(t661.length:Int))=true:=decide_eq_true c19
 have c19b1:decide (1<t661.length)=true:=decide_eq_true (by omega)
 clear c19
 replace H:=gsp_ H;obtain ⟨c20,H⟩:=H
 have c20b0:=eq_true c20
 have c20b1:decide (1≤(t661.length:Int))=true:=decide_eq_true c20
 clear c20
 obtain ⟨y672,hy672⟩:∃ y_:List Int,y_=(t661.drop (1:Int).toNat):=⟨_,rfl⟩
 rw [← hy672] at H
 have Ny672:=Aside0.mk hy672
 clear hy672
 simp only [Option.some.injEq,Prod.mk.injEq] at H
 obtain ⟨rfl,rfl⟩:=H
 go_enter Tryz.func30,Tryz.ntmps30
 try go_wp2_with (first|((with_reducible refine gate_callee (f:=24) rfl ?_);refine goesL_ (some 8) rfl rfl Tryz.func24 krT_ rfl #[.slice A0 l0.length c0] rfl agT_ ?_;(with_reducible refine (spec_l1New.calls k _ _ l0 t650 t651 t652 w _ ?side1 ?side2 ?side3 A2.out).mono ?_);(case side1=>exact h_HB HB.out);(case side2=>exact HR0.out);(case side3=>exact HC0.out);rintro e w21 ⟨g653,rfl,hi,hb,hb2⟩;refine ⟨_,rfl,?_⟩;replace HB:=Aside0.mk (hb);have HI653:=Aside0.mk (hi);(try clear hb);(try clear hb2);(try clear hi))|((with_reducible refine gate_callee (f:=45) rfl ?_);refine goesL_ (some 10) rfl rfl Tryz.func45 krT_ rfl #[.pointer (some ⟨g653,0,none⟩),.int .i64 5] rfl agT_ ?_;(with_reducible refine (spec_l4Draw.calls k g653 t650 t651 t652 5 t654 t655 t658 t659 w _ ?side1 ?side2 A3.out).mono ?_);(case side1=>exact h_HI653 HI653.out);(case side2=>exact h_HB HB.out);rintro e w22 ⟨v656,rfl,ho0,hi,hb,hk⟩;refine ⟨_,rfl,?_⟩;have HO657:=Aside0.mk (Kd.R_lower ho0 (below_size (h_HB HB.out)));replace HB:=Aside0.mk (hb);replace HI653:=Aside0.mk (hi);(try clear hb);(try clear hk);(try clear hi);(try clear ho0))|((with_reducible refine gate_dst (N:=5) rfl ?_);refine bx_ (N:=5) (cs:=#[.int .i64 0,.slice none 0 0]) (t:=26) ?_;intro gb660 hg w23 hbox hb;replace HO657:=Aside0.mk (Kd.R_below (kRC_ HO657.out) hb);have BK660:=Aside0.mk (hbox);have GW660:=Aside0.mk (gw_ hg (h_HB HB.out));have GE660:=GW660;replace HB:=s_HB HB.out hb;have NB653_660:=Aside0.mk ((by rw [hg];exact Nat.ne_of_lt (IsS68.lt (show IsS68 w _ g653 t650 t658 t659 from h_HI653 HI653.out)):g653≠gb660));have NB660_653:=Aside0.mk ((by rw [hg];exact Nat.ne_of_gt (IsS68.lt (show IsS68 w _ g653 t650 t658 t659 from h_HI653 HI653.out)):gb660≠g653));replace HI653:=Aside0.mk (IsS68.below (h_HI653 HI653.out) hb);clear hb hbox hg;have hnb24:=NB660_653.out;have hnc24:=NB653_660.out;obtain ⟨hcz25_0,hcz25_1,hfz25_0,hfz25_1⟩:=bz2_ BK660.out;obtain ⟨Ao26,co26,eo26⟩:=Kd.R_slice HO657.out;subst eo26)|((with_reducible refine gate_callee (f:=15) rfl ?_);refine goesL_ (some 12) rfl rfl Tryz.func15 krT_ rfl #[.agg #[.int .i64 t654,.slice Ao26 t655.length co26]] rfl agT_ ?_;(with_reducible refine (spec_Circuits.calls k t654 _ _ t655 t661 _ ?side1 ?side2 A4.out).mono ?_);(case side1=>refine (Kd.R_reads' (e:=3) (base:=w.heap.size) (ok:=fun k_=>True) (n:=t655.length) (c:=co26) ?_).2.2;exact (kRF_ HO657.out));(case side2=>exact (Kd.R_reads' HO657.out).2.1);rintro e w27 ⟨v662,rfl,ho0,hb⟩;refine ⟨_,rfl,?_⟩;have HO663:=Aside0.mk (Kd.R_lower (Kd.R_new' ho0 (Kd.R_lt (kRF_ HO657.out))) (below_size (h_HB HB.out)));replace HO657:=Aside0.mk (Kd.R_elder' (kRF_ HO657.out) (Kd.R_base ho0) hb);replace HI653:=Aside0.mk (IsS68.below (show IsS68 w ((w23.setCell ⟨gb660,0,none⟩ (.int .i64 t654)).setCell ⟨gb660,1,none⟩ (.slice Ao26 t655.length co26)) g653 t650 t658 t659 from h_HI653 HI653.out) hb);replace BK660:=Aside0.mk (blk_below (g:=gb660) (o:=.cells #[.int .i64 t654,.slice Ao26 t655.length co26] 26 (0,0)) (by (with_reducible repeat (first|refine blk_drewN ?_ _|refine blk_drew ?_|refine blk_alloc ?_ _));exact bp2_ (bkC_ BK660.out)) hb);replace HB:=s_HB HB.out hb;(try clear hb);(try clear ho0))|((with_reducible refine gate_callee (f:=46) rfl ?_);refine goesL_ (some 14) rfl rfl Tryz.func46 krT_ rfl #[.pointer (some ⟨g653,0,none⟩),.int .i64 6] rfl agT_ ?_;(with_reducible refine (spec_l1Below.calls g653 t650 t658 t659 6 t664 t665 t666 w _ ?side1 ?side2 A5.out).mono ?_);(case side1=>exact h_HI653 HI653.out);(case side2=>exact h_HB HB.out);rintro e w28 ⟨rfl,hi,hb,hk⟩;refine ⟨_,rfl,?_⟩;replace HO657:=Aside0.mk (Kd.R_mono (Kd.R_keep (IsS68.apart (show IsS68 w _ g653 t650 t658 t659 from h_HI653 HI653.out) (kRC_ HO657.out) (by decide)) hk (fun _ h=>h.2)) (fun _ h=>h.1));replace BK660:=Aside0.mk (KeepBut.blk hk (bkC_ BK660.out) NB660_653.out (by simp));replace HO663:=Aside0.mk (Kd.R_mono (Kd.R_keep (IsS68.apart (show IsS68 w _ g653 t650 t658 t659 from h_HI653 HI653.out) (kRC_ HO663.out) (by decide)) hk (fun _ h=>h.2)) (fun _ h=>h.1));replace HB:=Aside0.mk (hb);replace HI653:=Aside0.mk (hi);(try clear hb);(try clear hk);(try clear hi);obtain ⟨Ao29,co29,eo29⟩:=Kd.R_slice HO663.out;subst eo29))
 replace HO657:=Aside0.mk (Kd.R_drew HO657.out);replace HO663:=Aside0.mk (Kd.R_drew HO663.out);replace BK660:=Aside0.mk (blk_drew BK660.out);replace HI653:=Aside0.mk (IsS68.drew HI653.out);replace HB:=Aside0.mk (below_drew1 HB.out)
 have n_:=Aside0.mk (Kd.R_mono (ok':=(fun k_=>some k_≠(.slice Ao26 t655.length co26:Value).ownBlock)) HO663.out (fun k_ hk=>hk.2))
 clear HO663
 have HO663:=n_
 clear n_
 have q31:(1:Int)≤((t661.length:Int):Int):=odT_
 obtain ⟨i031,hi031,_,hsz31,_⟩:=info_parts info3
 have hcut31:=cut_from (P:=Tryz.prog) 24 3 .i64 Tryz.underlying24 hi031 1 hsz31 Ao29 t661.length co29 1 (by omega) q31
 have hr31:=Kd.Q_drop (k:=(1:Int).toNat) (Kd.Q_of_R HO663.out) (by omega)
 obtain ⟨A31,hA31⟩:∃ A1,A1=(if co29=(1:Int).toNat then Ao29 else (Ao29:Option Addr).map (·.add ((1:Int).toNat*1))):=⟨_,rfl⟩
 obtain ⟨c31,hc31⟩:∃ c1,c1=co29-(1:Int).toNat:=⟨_,rfl⟩
 have hy31:y672.length=t661.length-(1:Int).toNat:=(by rw [Ny672.out,List.length_drop])
 rw [← Ny672.out] at hr31
 rw [← hy31,← hA31,← hc31] at hcut31
 replace hr31:Kd.Q (Kd.int .i64) 3 _ w.heap.size (fun k_=>some k_≠(.slice Ao26 t655.length co26:Value).ownBlock) (.slice A31 y672.length c31) y672:=(by rw [hA31,hc31,hy31];exact hr31)
 have HE31:Aside0 ((Value.slice A31 y672.length c31).ownBlock=(.slice Ao29 t661.length co29:Value).ownBlock):=⟨by rw [hA31];split<;>(cases (Ao29:Option Addr)<;>rfl)⟩
 clear hy31 hi031 hsz31 HO663 hA31 hc31
 have HO674:=Aside0.mk hr31
 clear hr31
 replace q31:=eq_true q31
 have n_:=Aside0.mk (Kd.R_mono (ok':=fun k_=>(True∧some k_≠(.slice A31 y672.length c31:Value).ownBlock)) HO657.out (fun k_ hk=>⟨trivial,(by rw [HE31.out];exact hk.2)⟩))
 clear HO657
 have HO657:=n_
 clear n_
 refine start_ (n:=6) (S:=fun w'=>w'.cell? ⟨gb660,0,none⟩=some (.int .i64 t654)∧w'.cell? ⟨gb660,1,none⟩=some (.slice Ao26 t655.length co26)) (ds:=[]) #[F_,F_,F_,F_,F_,F_] krT_ rfl rfl ⟨(blk_cell BK660.out 0).trans rfl,(blk_cell BK660.out 1).trans rfl⟩ (fun hHeld=>?_)
 generalize w28.drew=w30 at HO657 BK660 HI653 HB HO674 hHeld ⊢
 refine pure_ (i:=0) (N:=some 28) (v:=?_) (a':=?_) (bm_ 6 1) rfl rfl krT_ (fun _ _ _ h=>h) (Or.inl ⟨by rfl,?_⟩) ?_ ?_
 rotate_left;exact ivT_
 rotate_left;exact apT_
 refine pure_ (i:=2) (N:=some 30) (v:=?_) (a':=?_) (bm_ 6 5) rfl rfl krT_ (fun _ _ _ h=>h) (Or.inl ⟨by rfl,?_⟩) ?_ ?_
 rotate_left;exact ivT_
 rotate_left;exact apT_
 refine pure_ (i:=3) (N:=some 31) (v:=?_) (a':=?_) (bm_ 6 13) rfl rfl krT_ (fun _ _ _ h=>h) (Or.inl ⟨by rfl,?_⟩) ?_ ?_
 rotate_left;exact ivT_
 rotate_left;exact apT_
 refine take_ (i:=1) (N:=some 29) (v:=?_) (a':=?_) (bm_ 6 15) rfl rfl krT_ (fun _ _ _ h=>h) (Or.inl ⟨by rfl,?_⟩) hHeld ?_ ?_
 rotate_left
 ·rintro w' ⟨s0,s1⟩
  go_simp
  with_reducible rfl
 rotate_left;exact apT_
 refine pure_ (i:=4) (N:=some 2) (v:=?_) (a':=?_) (bm_ 6 31) rfl rfl krT_ (fun _ _ _ h=>h) (Or.inl ⟨by rfl,?_⟩) ?_ ?_
 rotate_left;exact ivT_
 rotate_left;exact apT_
 refine pure_ (i:=5) (N:=some 3) (v:=?_) (a':=?_) (bm_ 6 63) rfl rfl krT_ (fun _ _ _ h=>h) (Or.inl ⟨by rfl,?_⟩) ?_ ?_
 rotate_left;exact ivT_
 rotate_left;exact apT_
 refine done_ krT_ ?_
 try go_wp2
 go_ret2
 exact ⟨_,eT_,by (with_reducible repeat (first|apply Kd.Q_alloc|apply Kd.Q_drewN|apply Kd.Q_drew));exact Kd.Q_mono HO674.out (fun _ hk=>trivial),h_HB HB.out⟩
def spec_DrawCircuitFailure.f (k:Nat) (l0:List Int):Option (Int × List Int):=(spec_l6Case.f k l0).bind fun bt678=>(some (bt678.1,bt678.2))
theorem spec_DrawCircuitFailure.calls (k:Nat) (A0:Option Addr) (c0:Nat) (l0:List Int) (r1:Int) (r2:List Int) (w:World) (hr0:Kd.C (Kd.int .u8) w A0 l0.length l0) (hc0:l0.length≤c0) (h:spec_DrawCircuitFailure.f k l0=some (r1,r2)) :
    Calls Tryz.prog 7 #[.slice A0 l0.length c0] w fun e w'=>∃ v1_:Value,e=.returned (.tuple #[.int .i64 r1,v1_])∧Kd.Q (Kd.int .i64) 3 w' w.heap.size (fun _=>True) v1_ r2∧Below w.heap.size w w':=by
 have HR0:=Aside0.mk hr0
 have HC0:=Aside0.mk hc0
 clear hr0 hc0
 have HB:=Aside0.mk (Below.refl w.heap.size w)
 have H:((spec_l6Case.f k l0).bind fun bt678=>(some (bt678.1,bt678.2)))=some (r1,r2):=h
 clear h
 replace H:=bnd_ H;obtain ⟨⟨t678,t679⟩,A2,H⟩:=H;dsimp only at H
 simp only [Option.some.injEq,Prod.mk.injEq] at H
 obtain ⟨rfl,rfl⟩:=H
 go_enter Tryz.func7,Tryz.ntmps7
 go_wp2_with (first|((with_reducible refine gate_callee (f:=30) rfl ?_);refine goesL_ (some 8) rfl rfl Tryz.func30 krT_ rfl #[.slice A0 l0.length c0] rfl agT_ ?_;(with_reducible refine (spec_l6Case.calls k _ _ l0 t678 t679 _ ?side1 ?side2 A2.out).mono ?_);(case side1=>repeat (first|exact HR0.out|(with_reducible refine Kd.C_alloc ?_ _)|(with_reducible refine Kd.C_drewN ?_ _)|(with_reducible refine Kd.C_drew ?_)));(case side2=>exact HC0.out);rintro e w3 ⟨v680,rfl,ho0,hb⟩;refine ⟨_,rfl,?_⟩;have HO681:=Aside0.mk (Kd.Q_lower ho0 (below_size (h_HB HB.out)));replace HB:=s_HB HB.out hb;(try clear hb);(try clear ho0)))
 go_ret2
 exact ⟨_,eT_,kQC_ HO681.out,h_HB HB.out⟩
-- needs impl.IsSubset
-- needs slices.ContainsFunc[[]int,int]
def impl_CircuitFailure_1.f (rest x:Int):Option Bool:=impl_IsSubset.f x rest
set_option maxHeartbeats 4000000 in
theorem impl_CircuitFailure_1.quiet (rest:Int) (w:World) (g1:Nat) (b1:w.heap[g1]?=some (.cells #[.int .i64 rest] 3 (0,0))) :
  Quiet1 35 #[.pointer (some ⟨g1,0,none⟩)] w (impl_CircuitFailure_1.f rest):=by
 intro x b n h
 have q1:(w.drewN n).cell? ⟨g1,0,none⟩=some (.int .i64 rest):=(blk_cell b1 0).trans rfl
 clear b1
 have HS:=Aside0.mk (fun n'=>impl_IsSubset.calls x rest b ((w.drewN n).drewN n') h)
 clear h
 show Calls Tryz.prog 35 #[.int .i64 x,.pointer (some ⟨g1,0,none⟩)] (w.drewN n) _
 generalize w.drewN n=W at q1 HS ⊢
 go_enter Tryz.func35,Tryz.ntmps35
 go_wp2_with ((go_at_call 32;refine (HS.out 0).mono ?_;rintro e w' ⟨rfl,⟨q,rfl⟩⟩))
 try (go_quiet ((go_at_call 32;exact drawn_quiet (HS.out _)));go_wp2)
 go_ret
 exact ⟨by first|rfl|(simp;done),dT_⟩
def on_impl_CircuitFailure_1.f (k:Nat) (l0:List Int) (rest:Int):Option Bool:=anyL (impl_CircuitFailure_1.f rest) l0 k 0
theorem on_impl_CircuitFailure_1.calls (k:Nat) (A0:Option Addr) (c0:Nat) (l0:List Int) (rest:Int) (r:Bool) (w:World) (hr0:Kd.C (Kd.int .i64) w A0 l0.length l0) (hc0:l0.length≤c0)
  (h:on_impl_CircuitFailure_1.f k l0 rest=some r) (g1:Nat) (b1:w.heap[g1]?=some (.cells #[.int .i64 rest] 3 (0,0))) :
    Calls Tryz.prog 34 #[.slice A0 l0.length c0,.func (.func 35) #[] #[.pointer (some ⟨g1,0,none⟩)]] w fun e w'=>e=.returned (.bool r)∧Drawn0 w w' :=
 containsFunc_calls _ _ (g_enters Tryz.func35 krT_ rfl) _ k A0 c0 l0 r w hr0 (impl_CircuitFailure_1.quiet rest w g1 b1) h
end Go.Proofs.YtekegbacnagbcaaGreat.P
