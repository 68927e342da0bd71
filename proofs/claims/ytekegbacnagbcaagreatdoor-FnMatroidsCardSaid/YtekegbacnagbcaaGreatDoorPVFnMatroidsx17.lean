-- written by gprint (a program of this session's, round the kit's print), out of the translation and hand-written texts
import Derived.Test.YtekegbacnagbcaaGreatDoorPVFnMatroidsx0
import Derived.Test.YtekegbacnagbcaaGreatDoorPVFnMatroidsx6
import Derived.Test.YtekegbacnagbcaaGreatDoorPVFnMatroidsx7
namespace Go.Proofs.YtekegbacnagbcaaGreatDoor.P
open Go.RowKit Go.Proofs.YtekegbacnagbcaaGreatDoorW.PrintWords Go.Proofs.YtekegbacnagbcaaGreatDoorW.PrintLast Go.Proofs.YtekegbacnagbcaaGreatDoorW.PrintMore
attribute [local go_sem] max2_int min2_int max_two min_two max_three min_three max_four min_four   -- for this text's walks alone
set_option linter.unusedVariables false
set_option linter.unusedSimpArgs false
/-! ### slices_Equal_int_int: function 104 -/
def slices_Equal_int_int.l0:Nat→List Int→List Int→Int→Int→Option (Bool)
 | 0,_,_,_,_=>none
 | k+1,x0,x1,x12,x13=>if x13<x12 then (if 0≤x13 then (if x13<(x0.length:Int) then (if x13<(x1.length:Int) then (if (rd x0 x13)=(rd x1 x13) then (slices_Equal_int_int.l0 k x0 x1 x12 (wrap64 (x13+1))) else (some false)) else (none)) else (none)) else (none)) else (some true)
def slices_Equal_int_int.f (k:Nat) (l0:List Int) (l1:List Int):Option (Bool):=if (l0.length:Int)=(l1.length:Int) then (slices_Equal_int_int.l0 k l0 l1 (l0.length:Int) 0) else (some false)
set_option maxHeartbeats 8000000 in
set_option maxRecDepth 100000 in
theorem slices_Equal_int_int.calls (k:Nat) (A0:Option Addr) (c0:Nat) (l0:List Int) (A1:Option Addr) (c1:Nat) (l1:List Int) (r:Bool) (w:World) (hr0:Kd.C (Kd.int .i64) w A0 l0.length l0) (hc0:l0.length≤c0) (hr1:Kd.C (Kd.int .i64) w A1 l1.length l1) (hc1:l1.length≤c1) (h:slices_Equal_int_int.f k l0 l1=some r) :
    Calls Tryz.prog 104 #[.slice A0 l0.length c0,.slice A1 l1.length c1] w fun e w'=>e=.returned (.bool r)∧Drawn0 w w':=by
 have HR0:=Aside0.mk hr0
 have HC0:=Aside0.mk hc0
 clear hr0 hc0
 have HR1:=Aside0.mk hr1
 have HC1:=Aside0.mk hc1
 clear hr1 hc1
 unfold slices_Equal_int_int.f at h
 have H:=h
 clear h
 by_cases c3:(l0.length:Int)=(l1.length:Int)
 rotate_left
 ·rw [if_neg c3] at H
  have c3b0:((l0.length:Int)==(l1.length:Int))=false:=beq_eq_false_iff_ne.mpr c3
  have c3b1:((l0.length:Int) != (l1.length:Int))=true:=bne_iff_ne.mpr c3
  have c3b2:(l0.length==l1.length)=false:=by first|simpa using c3|(simp at c3 ⊢;omega)
  obtain rfl:=Option.some.inj H
  go_enter Tryz.func104,Tryz.ntmps104
  go_wp2
  repeat (go_quiet (fail);try go_wp2)
  go_ret
  exact ⟨sT_,dT_⟩
 rw [if_pos c3] at H
 have c3b0:((l0.length:Int)==(l1.length:Int))=true:=beq_iff_eq.mpr c3
 have c3b1:((l0.length:Int) != (l1.length:Int))=false:=bne_eq_false_iff_eq.mpr c3
 have c3b2:(l0.length==l1.length)=true:=by first|simpa using c3|(simp at c3 ⊢;omega)
 clear c3
 have H':=Aside0.mk H
 clear H
 go_enter Tryz.func104,Tryz.ntmps104
 go_wp2
 repeat (go_quiet (fail);try go_wp2)
 go_loopg [13] k (fun kq v13 w'=>∃ (x13_1:Int),v13=.int .i64 x13_1∧Aside0 (slices_Equal_int_int.l0 kq l0 l1 (l0.length:Int) x13_1=some r)∧Aside0 (kq≤k)∧Drawn0 w w')
 case atStart=>exact ⟨(0),sT_,H',⟨Nat.le_refl _⟩,dT_⟩
 case round =>
 clear H'
 try clear c1
 try clear p2
 try clear c3
 try clear c3b0
 try clear c3b1
 try clear c3b2
 obtain ⟨x13_1,rfl,HA,HK1,⟨m1,rfl⟩⟩:=hrel
 cases gk with
 | zero=>exact absurd HA.out (by simp [slices_Equal_int_int.l0])
 | succ k1 =>
 have H:=HA.out
 clear HA
 simp only [slices_Equal_int_int.l0] at H
 rcases gsn_ H with ⟨c4b0,H⟩|⟨c4b0,H⟩
 ·obtain rfl:=Option.some.inj H
  go_wp2
  repeat (go_quiet (fail);try go_wp2)
  go_ret
  exact ⟨sT_,dT_⟩
 replace H:=gsm_ H;obtain ⟨c5b0,H⟩:=H
 replace H:=gsm_ H;obtain ⟨c6b0,H⟩:=H
 replace H:=gsm_ H;obtain ⟨c7b0,H⟩:=H
 by_cases c8:(rd l0 x13_1)=(rd l1 x13_1)
 ·rw [if_pos c8] at H
  have c8b0:((rd l0 x13_1)==(rd l1 x13_1))=true:=beq_iff_eq.mpr c8
  have c8b1:((rd l0 x13_1) != (rd l1 x13_1))=false:=bne_eq_false_iff_eq.mpr c8
  clear c8
  have H':=Aside0.mk H
  clear H
  obtain ⟨ad685,e685,hx685_0,p685,q685⟩:=aiI_ HR0.out x13_1
  cases e685
  obtain ⟨ad686,e686,hx686_0,p686,q686⟩:=aiI_ HR1.out x13_1
  cases e686
  go_wp2
  repeat (go_quiet (fail);try go_wp2)
  go_roundg k1
  case measure=>have:=HK1.out;omega
  case rel=>exact ⟨(wrap64 (x13_1+1)),sT_,H',⟨by have:=HK1.out;omega⟩,dT_⟩
 ·rw [if_neg c8] at H
  have c8b0:((rd l0 x13_1)==(rd l1 x13_1))=false:=beq_eq_false_iff_ne.mpr c8
  have c8b1:((rd l0 x13_1) != (rd l1 x13_1))=true:=bne_iff_ne.mpr c8
  obtain rfl:=Option.some.inj H
  obtain ⟨ad685,e685,hx685_0,p685,q685⟩:=aiI_ HR0.out x13_1
  cases e685
  obtain ⟨ad686,e686,hx686_0,p686,q686⟩:=aiI_ HR1.out x13_1
  cases e686
  go_wp2
  repeat (go_quiet (fail);try go_wp2)
  go_ret
  exact ⟨sT_,dT_⟩
/-! ### impl_EqualMatroid: function 46 -/
def impl_EqualMatroid.f (k:Nat) (a0_0:Int) (l0_1:List Int) (a1_0:Int) (l1_1:List Int):Option (Bool):=if a0_0=a1_0 then ((slices_Equal_int_int.f k l0_1 l1_1).bind fun t689=>(some t689)) else (some false)
set_option maxHeartbeats 8000000 in
set_option maxRecDepth 100000 in
theorem impl_EqualMatroid.calls (k:Nat) (a0_0:Int) (A0_1:Option Addr) (c0_1:Nat) (l0_1:List Int) (a1_0:Int) (A1_1:Option Addr) (c1_1:Nat) (l1_1:List Int) (r:Bool) (w:World) (hr0_1:Kd.C (Kd.int .i64) w A0_1 l0_1.length l0_1) (hc0_1:l0_1.length≤c0_1) (hr1_1:Kd.C (Kd.int .i64) w A1_1 l1_1.length l1_1) (hc1_1:l1_1.length≤c1_1) (h:impl_EqualMatroid.f k a0_0 l0_1 a1_0 l1_1=some r) :
    Calls Tryz.prog 46 #[.agg #[.int .i64 a0_0,.slice A0_1 l0_1.length c0_1],.agg #[.int .i64 a1_0,.slice A1_1 l1_1.length c1_1]] w fun e w'=>e=.returned (.bool r)∧Below w.heap.size w w':=by
 have hu24:=Tryz.underlying24
 have HR0_1:=Aside0.mk hr0_1
 have HC0_1:=Aside0.mk hc0_1
 clear hr0_1 hc0_1
 have HR1_1:=Aside0.mk hr1_1
 have HC1_1:=Aside0.mk hc1_1
 clear hr1_1 hc1_1
 have HB:=Aside0.mk (Below.refl w.heap.size w)
 have H:(if a0_0=a1_0 then ((slices_Equal_int_int.f k l0_1 l1_1).bind fun t689=>(some t689)) else (some false))=some r:=h
 clear h
 by_cases c3:a0_0=a1_0
 ·rw [if_pos c3] at H
  have c3b0:(a0_0==a1_0)=true:=beq_iff_eq.mpr c3
  have c3b1:(a0_0 != a1_0)=false:=bne_eq_false_iff_eq.mpr c3
  clear c3
  replace H:=bnd_ H;obtain ⟨t689,A4,H⟩:=H
  obtain rfl:=Option.some.inj H
  go_enter Tryz.func46,Tryz.ntmps46
  go_wp2_with (first|((with_reducible refine gate_dst (N:=2) rfl ?_);refine bx_ (N:=2) (cs:=#[.int .i64 a0_0,.slice A0_1 l0_1.length c0_1]) (t:=24) ?_;intro gb687 hg w5 hbox hb;have BK687:=Aside0.mk (hbox);have GW687:=Aside0.mk (gw_ hg (h_HB HB.out));have GE687:=Aside0.mk (gw_ hg (h_HB HB.out));replace HB:=Aside0.mk (below_step (h_HB HB.out) hb);clear hb hbox hg)|((with_reducible refine gate_dst (N:=3) rfl ?_);refine bx_ (N:=3) (cs:=#[.int .i64 a1_0,.slice A1_1 l1_1.length c1_1]) (t:=24) ?_;intro gb688 hg w6 hbox hb;have BK688:=Aside0.mk (hbox);have GW688:=Aside0.mk (gw_ hg (h_HB HB.out));have GE688:=Aside0.mk (gw_ hg (h_HB HB.out));replace HB:=Aside0.mk (below_step (h_HB HB.out) hb);have NB687_688:=Aside0.mk (nbl_ hg (bkC_ BK687.out));have NB688_687:=Aside0.mk (nbg_ hg (bkC_ BK687.out));replace BK687:=Aside0.mk (blkB_ BK687.out hb);clear hb hbox hg;have hnb7:=NB687_688.out;have hnc7:=NB688_687.out;obtain ⟨hcz8_0,hcz8_1,hfz8_0,hfz8_1⟩:=bz2_ BK687.out;obtain ⟨hcz9_0,hcz9_1,hfz9_0,hfz9_1⟩:=bz2_ BK688.out)|(go_at_call 104;(with_reducible refine (slices_Equal_int_int.calls k _ _ l0_1 _ _ l1_1 t689 _ ?side1 ?side2 ?side3 ?side4 A4.out).mono ?_);(case side1=>exact cC_ HR0_1.out);(case side2=>exact HC0_1.out);(case side3=>exact cC_ HR1_1.out);(case side4=>exact HC1_1.out);rintro e w' ⟨rfl,⟨nd,rfl⟩⟩))
  go_ret
  exact ⟨eT_,h_HB HB.out⟩
 ·rw [if_neg c3] at H
  have c3b0:(a0_0==a1_0)=false:=beq_eq_false_iff_ne.mpr c3
  have c3b1:(a0_0 != a1_0)=true:=bne_iff_ne.mpr c3
  obtain rfl:=Option.some.inj H
  go_enter Tryz.func46,Tryz.ntmps46
  go_wp2_with (first|((with_reducible refine gate_dst (N:=2) rfl ?_);refine bx_ (N:=2) (cs:=#[.int .i64 a0_0,.slice A0_1 l0_1.length c0_1]) (t:=24) ?_;intro gb687 hg w10 hbox hb;have BK687:=Aside0.mk (hbox);have GW687:=Aside0.mk (gw_ hg (h_HB HB.out));have GE687:=Aside0.mk (gw_ hg (h_HB HB.out));replace HB:=Aside0.mk (below_step (h_HB HB.out) hb);clear hb hbox hg)|((with_reducible refine gate_dst (N:=3) rfl ?_);refine bx_ (N:=3) (cs:=#[.int .i64 a1_0,.slice A1_1 l1_1.length c1_1]) (t:=24) ?_;intro gb688 hg w11 hbox hb;have BK688:=Aside0.mk (hbox);have GW688:=Aside0.mk (gw_ hg (h_HB HB.out));have GE688:=Aside0.mk (gw_ hg (h_HB HB.out));replace HB:=Aside0.mk (below_step (h_HB HB.out) hb);have NB687_688:=Aside0.mk (nbl_ hg (bkC_ BK687.out));have NB688_687:=Aside0.mk (nbg_ hg (bkC_ BK687.out));replace BK687:=Aside0.mk (blkB_ BK687.out hb);clear hb hbox hg;have hnb12:=NB687_688.out;have hnc12:=NB688_687.out;obtain ⟨hcz13_0,hcz13_1,hfz13_0,hfz13_1⟩:=bz2_ BK687.out;obtain ⟨hcz14_0,hcz14_1,hfz14_0,hfz14_1⟩:=bz2_ BK688.out))
  go_ret
  exact ⟨eT_,h_HB HB.out⟩
/-! ### spec_EqualMatroid: function 47 -/
mutual
def spec_EqualMatroid.j0:Nat→Bool→Int→List Int→Int→List Int→Option (Bool)
 | 0,_,_,_,_,_=>none
 | k+1,x19,x691000,x691001,x692000,x692001=>if x19=true then (some false) else (spec_EqualMatroid.l0 k 0 x691000 x691001 x692000 x692001)
def spec_EqualMatroid.l0:Nat→Int→Int→List Int→Int→List Int→Option (Bool)
 | 0,_,_,_,_,_=>none
 | k+1,x5,x691000,x691001,x692000,x692001=>if x5<(x691001.length:Int) then (if 0≤x5 then (if x5<(x692001.length:Int) then (if (rd x691001 x5)=(rd x692001 x5) then (spec_EqualMatroid.l0 k (wrap64 (x5+1)) x691000 x691001 x692000 x692001) else (some false)) else (none)) else (none)) else (some true)
end
def spec_EqualMatroid.f (k:Nat) (a0_0:Int) (l0_1:List Int) (a1_0:Int) (l1_1:List Int):Option (Bool):=if a0_0=a1_0 then (spec_EqualMatroid.j0 k ((l0_1.length:Int) != (l1_1.length:Int)) a0_0 l0_1 a1_0 l1_1) else (spec_EqualMatroid.j0 k true a0_0 l0_1 a1_0 l1_1)
set_option maxHeartbeats 8000000 in
set_option maxRecDepth 100000 in
theorem spec_EqualMatroid.calls (k:Nat) (a0_0:Int) (A0_1:Option Addr) (c0_1:Nat) (l0_1:List Int) (a1_0:Int) (A1_1:Option Addr) (c1_1:Nat) (l1_1:List Int) (r:Bool) (w:World) (hr0_1:Kd.C (Kd.int .i64) w A0_1 l0_1.length l0_1) (hc0_1:l0_1.length≤c0_1) (hr1_1:Kd.C (Kd.int .i64) w A1_1 l1_1.length l1_1) (hc1_1:l1_1.length≤c1_1) (h:spec_EqualMatroid.f k a0_0 l0_1 a1_0 l1_1=some r) :
    Calls Tryz.prog 47 #[.agg #[.int .i64 a0_0,.slice A0_1 l0_1.length c0_1],.agg #[.int .i64 a1_0,.slice A1_1 l1_1.length c1_1]] w fun e w'=>e=.returned (.bool r)∧Below w.heap.size w w':=by
 have hu24:=Tryz.underlying24
 have HR0_1:=Aside0.mk hr0_1
 have HC0_1:=Aside0.mk hc0_1
 clear hr0_1 hc0_1
 have HR1_1:=Aside0.mk hr1_1
 have HC1_1:=Aside0.mk hc1_1
 clear hr1_1 hc1_1
 have HB:=Aside0.mk (Below.refl w.heap.size w)
 unfold spec_EqualMatroid.f at h
 have H:=h
 clear h
 have HC3:=Aside0.mk H
 clear H
 go_enter Tryz.func47,Tryz.ntmps47
 go_upto_region 1 with (first|((with_reducible refine gate_dst (N:=2) rfl ?_);(try (refine gate_guard (by rfl) ?_;dsimp only));refine bx_ (N:=2) (cs:=#[.int .i64 a0_0,.slice A0_1 l0_1.length c0_1]) (t:=24) ?_;intro gb690 hg w4 hbox hb;have BK690:=Aside0.mk (hbox);have GW690:=Aside0.mk (gw_ hg (h_HB HB.out));have GE690:=Aside0.mk (gw_ hg (h_HB HB.out));replace HB:=Aside0.mk (below_step (h_HB HB.out) hb);clear hb hbox hg)|((with_reducible refine gate_dst (N:=3) rfl ?_);(try (refine gate_guard (by rfl) ?_;dsimp only));refine bx_ (N:=3) (cs:=#[.int .i64 a1_0,.slice A1_1 l1_1.length c1_1]) (t:=24) ?_;intro gb691 hg w5 hbox hb;have BK691:=Aside0.mk (hbox);have GW691:=Aside0.mk (gw_ hg (h_HB HB.out));have GE691:=Aside0.mk (gw_ hg (h_HB HB.out));replace HB:=Aside0.mk (below_step (h_HB HB.out) hb);have NB690_691:=Aside0.mk (nbl_ hg (bkC_ BK690.out));have NB691_690:=Aside0.mk (nbg_ hg (bkC_ BK690.out));replace BK690:=Aside0.mk (blkB_ BK690.out hb);clear hb hbox hg))
 repeat (go_quiet (first|((with_reducible refine gate_dst (N:=2) rfl ?_);(try (refine gate_guard (by rfl) ?_;dsimp only));refine bx_ (N:=2) (cs:=#[.int .i64 a0_0,.slice A0_1 l0_1.length c0_1]) (t:=24) ?_;intro gb690 hg w4 hbox hb;have BK690:=Aside0.mk (hbox);have GW690:=Aside0.mk (gw_ hg (h_HB HB.out));have GE690:=Aside0.mk (gw_ hg (h_HB HB.out));replace HB:=Aside0.mk (below_step (h_HB HB.out) hb);clear hb hbox hg)|((with_reducible refine gate_dst (N:=3) rfl ?_);(try (refine gate_guard (by rfl) ?_;dsimp only));refine bx_ (N:=3) (cs:=#[.int .i64 a1_0,.slice A1_1 l1_1.length c1_1]) (t:=24) ?_;intro gb691 hg w5 hbox hb;have BK691:=Aside0.mk (hbox);have GW691:=Aside0.mk (gw_ hg (h_HB HB.out));have GE691:=Aside0.mk (gw_ hg (h_HB HB.out));replace HB:=Aside0.mk (below_step (h_HB HB.out) hb);have NB690_691:=Aside0.mk (nbl_ hg (bkC_ BK690.out));have NB691_690:=Aside0.mk (nbg_ hg (bkC_ BK690.out));replace BK690:=Aside0.mk (blkB_ BK690.out hb);clear hb hbox hg));go_upto_region 1 with (first|((with_reducible refine gate_dst (N:=2) rfl ?_);(try (refine gate_guard (by rfl) ?_;dsimp only));refine bx_ (N:=2) (cs:=#[.int .i64 a0_0,.slice A0_1 l0_1.length c0_1]) (t:=24) ?_;intro gb690 hg w4 hbox hb;have BK690:=Aside0.mk (hbox);have GW690:=Aside0.mk (gw_ hg (h_HB HB.out));have GE690:=Aside0.mk (gw_ hg (h_HB HB.out));replace HB:=Aside0.mk (below_step (h_HB HB.out) hb);clear hb hbox hg)|((with_reducible refine gate_dst (N:=3) rfl ?_);(try (refine gate_guard (by rfl) ?_;dsimp only));refine bx_ (N:=3) (cs:=#[.int .i64 a1_0,.slice A1_1 l1_1.length c1_1]) (t:=24) ?_;intro gb691 hg w5 hbox hb;have BK691:=Aside0.mk (hbox);have GW691:=Aside0.mk (gw_ hg (h_HB HB.out));have GE691:=Aside0.mk (gw_ hg (h_HB HB.out));replace HB:=Aside0.mk (below_step (h_HB HB.out) hb);have NB690_691:=Aside0.mk (nbl_ hg (bkC_ BK690.out));have NB691_690:=Aside0.mk (nbg_ hg (bkC_ BK690.out));replace BK690:=Aside0.mk (blkB_ BK690.out hb);clear hb hbox hg)))
 (try simp only [Act.put,List.setIfInBounds_toArray,List.set_cons_zero,List.set_cons_succ])
 go_cut [19] (fun v19 wc=>∃ (kq:Nat) (x19_2:Bool),v19=.bool x19_2∧Aside0 (spec_EqualMatroid.j0 kq x19_2 a0_0 l0_1 a1_0 l1_1=some r)∧Aside0 (kq≤k)∧Aside0 (wc.heap[gb690]?=some (.cells #[.int .i64 a0_0,(.slice A0_1 l0_1.length c0_1)] 24 (0,0)))∧Aside0 (wc.heap[gb691]?=some (.cells #[.int .i64 a1_0,(.slice A1_1 l1_1.length c1_1)] 24 (0,0)))∧Aside0 (Below w.heap.size w wc))
 case first =>
  have H:=HC3.out
  clear HC3
  by_cases c6:a0_0=a1_0
  ·rw [if_pos c6] at H
   have c6b0:(a0_0==a1_0)=true:=beq_iff_eq.mpr c6
   have c6b1:(a0_0 != a1_0)=false:=bne_eq_false_iff_eq.mpr c6
   clear c6
   (first|rw [c6b0]|(simp only [i64_w,i32_w];rw [c6b0])|skip)
   have H':=Aside0.mk H
   clear H
   have hnb7:=NB690_691.out
   have hnc7:=NB691_690.out
   obtain ⟨hcz8_0,hcz8_1,hfz8_0,hfz8_1⟩:=bz2_ BK690.out
   obtain ⟨hcz9_0,hcz9_1,hfz9_0,hfz9_1⟩:=bz2_ BK691.out
   go_wp2
   repeat (go_quiet (fail);try go_wp2)
   go_meet
   case rel=>exact ⟨_,(((l0_1.length:Int) != (l1_1.length:Int))),sT_,H',⟨by first|omega|exact Nat.le_refl _⟩,⟨bkC_ BK690.out⟩,⟨bkC_ BK691.out⟩,⟨h_HB HB.out⟩⟩
  ·rw [if_neg c6] at H
   have c6b0:(a0_0==a1_0)=false:=beq_eq_false_iff_ne.mpr c6
   have c6b1:(a0_0 != a1_0)=true:=bne_iff_ne.mpr c6
   (first|rw [c6b0]|(simp only [i64_w,i32_w];rw [c6b0])|skip)
   have H':=Aside0.mk H
   clear H
   have hnb10:=NB690_691.out
   have hnc10:=NB691_690.out
   obtain ⟨hcz11_0,hcz11_1,hfz11_0,hfz11_1⟩:=bz2_ BK690.out
   obtain ⟨hcz12_0,hcz12_1,hfz12_0,hfz12_1⟩:=bz2_ BK691.out
   go_wp2
   repeat (go_quiet (fail);try go_wp2)
   go_meet
   case rel=>exact ⟨_,(true),sT_,H',⟨by first|omega|exact Nat.le_refl _⟩,⟨bkC_ BK690.out⟩,⟨bkC_ BK691.out⟩,⟨h_HB HB.out⟩⟩
 case rest =>
 clear HC3
 try clear c1
 try clear p2
 try clear c4
 try clear c6
 try clear c6b0
 try clear c6b1
 try clear c7
 try clear c10
 try clear hcz11_0
 try clear hcz11_1
 try clear hcz12_0
 try clear hcz12_1
 try clear hcz8_0
 try clear hcz8_1
 try clear hcz9_0
 try clear hcz9_1
 try clear hfz11_0
 try clear hfz11_1
 try clear hfz12_0
 try clear hfz12_1
 try clear hfz8_0
 try clear hfz8_1
 try clear hfz9_0
 try clear hfz9_1
 obtain ⟨kq,x19_2,rfl,HA,HJ2,BK690,BK691,HB⟩:=hcut
 cases kq with
 | zero=>exact absurd HA.out (by simp [spec_EqualMatroid.j0])
 | succ kj2 =>
 have H:=HA.out
 clear HA
 simp only [spec_EqualMatroid.j0] at H
 by_cases c13:x19_2=true
 ·subst c13
  replace H:=bT_ H
  obtain rfl:=Option.some.inj H
  go_wp2
  repeat (go_quiet (fail);try go_wp2)
  go_ret
  exact ⟨eT_,h_HB HB.out⟩
 replace c13:=Bool.eq_false_iff.mpr c13
 subst c13
 replace H:=bF_ H
 have H':=Aside0.mk H
 clear H
 go_wp2
 repeat (go_quiet (fail);try go_wp2)
 go_loopg [5] kj2 (fun kq v5 w'=>∃ (x5_2:Int),v5=.int .i64 x5_2∧Aside0 (spec_EqualMatroid.l0 kq x5_2 a0_0 l0_1 a1_0 l1_1=some r)∧Aside0 (kq≤kj2)∧Aside0 (w'.heap[gb690]?=some (.cells #[.int .i64 a0_0,(.slice A0_1 l0_1.length c0_1)] 24 (0,0)))∧Aside0 (w'.heap[gb691]?=some (.cells #[.int .i64 a1_0,(.slice A1_1 l1_1.length c1_1)] 24 (0,0)))∧Aside0 (Below w.heap.size w w'))
 case atStart=>exact ⟨(0),sT_,H',⟨Nat.le_refl _⟩,⟨bkC_ BK690.out⟩,⟨bkC_ BK691.out⟩,⟨h_HB HB.out⟩⟩
 case round =>
 clear H'
 try clear c1
 try clear p2
 try clear c4
 try clear c6
 try clear c6b0
 try clear c6b1
 try clear c7
 try clear c10
 try clear c13
 try clear hcz11_0
 try clear hcz11_1
 try clear hcz12_0
 try clear hcz12_1
 try clear hcz8_0
 try clear hcz8_1
 try clear hcz9_0
 try clear hcz9_1
 try clear hfz11_0
 try clear hfz11_1
 try clear hfz12_0
 try clear hfz12_1
 try clear hfz8_0
 try clear hfz8_1
 try clear hfz9_0
 try clear hfz9_1
 try clear p2
 obtain ⟨x5_2,rfl,HA,HK2,BK690,BK691,HB⟩:=hrel
 cases gk with
 | zero=>exact absurd HA.out (by simp [spec_EqualMatroid.l0])
 | succ k2 =>
 have H:=HA.out
 clear HA
 simp only [spec_EqualMatroid.l0] at H
 rcases gsn_ H with ⟨c14b0,H⟩|⟨c14b0,H⟩
 ·obtain rfl:=Option.some.inj H
  have hnb24:=NB690_691.out
  have hnc24:=NB691_690.out
  obtain ⟨hcz25_0,hcz25_1,hfz25_0,hfz25_1⟩:=bz2_ BK690.out
  go_wp2
  repeat (go_quiet (fail);try go_wp2)
  go_ret
  exact ⟨eT_,h_HB HB.out⟩
 replace H:=gsm_ H;obtain ⟨c15b0,H⟩:=H
 replace H:=gsm_ H;obtain ⟨c16b0,H⟩:=H
 by_cases c17:(rd l0_1 x5_2)=(rd l1_1 x5_2)
 ·rw [if_pos c17] at H
  have c17b0:((rd l0_1 x5_2)==(rd l1_1 x5_2))=true:=beq_iff_eq.mpr c17
  have c17b1:((rd l0_1 x5_2) != (rd l1_1 x5_2))=false:=bne_eq_false_iff_eq.mpr c17
  clear c17
  have H':=Aside0.mk H
  clear H
  have hnb18:=NB690_691.out
  have hnc18:=NB691_690.out
  obtain ⟨hcz19_0,hcz19_1,hfz19_0,hfz19_1⟩:=bz2_ BK690.out
  obtain ⟨ad692,e692,hx692_0,p692,q692⟩:=aiI_ HR0_1.out x5_2
  cases e692
  replace hx692_0:=(HB.out.cell (World.block_lt_of_cell? w _ hx692_0)).trans hx692_0
  obtain ⟨hcz20_0,hcz20_1,hfz20_0,hfz20_1⟩:=bz2_ BK691.out
  obtain ⟨ad693,e693,hx693_0,p693,q693⟩:=aiI_ HR1_1.out x5_2
  cases e693
  replace hx693_0:=(HB.out.cell (World.block_lt_of_cell? w _ hx693_0)).trans hx693_0
  go_wp2
  repeat (go_quiet (fail);try go_wp2)
  go_roundg k2
  case measure=>have:=HJ2.out;have:=HK2.out;omega
  case rel=>exact ⟨(wrap64 (x5_2+1)),sT_,H',⟨by have:=HJ2.out;have:=HK2.out;omega⟩,⟨bkC_ BK690.out⟩,⟨bkC_ BK691.out⟩,⟨h_HB HB.out⟩⟩
 ·rw [if_neg c17] at H
  have c17b0:((rd l0_1 x5_2)==(rd l1_1 x5_2))=false:=beq_eq_false_iff_ne.mpr c17
  have c17b1:((rd l0_1 x5_2) != (rd l1_1 x5_2))=true:=bne_iff_ne.mpr c17
  obtain rfl:=Option.some.inj H
  have hnb21:=NB690_691.out
  have hnc21:=NB691_690.out
  obtain ⟨hcz22_0,hcz22_1,hfz22_0,hfz22_1⟩:=bz2_ BK690.out
  obtain ⟨ad692,e692,hx692_0,p692,q692⟩:=aiI_ HR0_1.out x5_2
  cases e692
  replace hx692_0:=(HB.out.cell (World.block_lt_of_cell? w _ hx692_0)).trans hx692_0
  obtain ⟨hcz23_0,hcz23_1,hfz23_0,hfz23_1⟩:=bz2_ BK691.out
  obtain ⟨ad693,e693,hx693_0,p693,q693⟩:=aiI_ HR1_1.out x5_2
  cases e693
  replace hx693_0:=(HB.out.cell (World.block_lt_of_cell? w _ hx693_0)).trans hx693_0
  go_wp2
  repeat (go_quiet (fail);try go_wp2)
  go_ret
  exact ⟨eT_,h_HB HB.out⟩
/-! ### impl_FullSet: function 87 -/
def impl_FullSet.f (a0:Int):Option (Int):=(impl_isSize.f a0).bind fun t694=>(if t694=true then (if 0≤a0 then (some (wrap64 ((shl .i64 1 a0)-1))) else (none)) else (some 0))
set_option maxHeartbeats 8000000 in
set_option maxRecDepth 100000 in
theorem impl_FullSet.calls (a0:Int) (r:Int) (w:World) (h:impl_FullSet.f a0=some r) :
    Calls Tryz.prog 87 #[.int .i64 a0] w fun e w'=>e=.returned (.int .i64 r)∧Drawn0 w w':=by
 unfold impl_FullSet.f at h
 have H:=h
 clear h
 replace H:=bnd_ H;obtain ⟨t694,A2,H⟩:=H
 by_cases c3:t694=true
 rotate_left
 ·replace c3:=Bool.eq_false_iff.mpr c3
  subst c3
  replace H:=bF_ H
  obtain rfl:=Option.some.inj H
  go_enter Tryz.func87,Tryz.ntmps87
  go_wp2_with (first|((with_reducible refine gate_callee (f:=79) rfl ?_);refine goesL_ (some 4) rfl rfl Tryz.func79 krT_ rfl #[.int .i64 a0] rfl agT_ ?_;(with_reducible refine (impl_isSize.calls a0 false _ A2.out).mono ?_);rintro e w' ⟨rfl,⟨nd,rfl⟩⟩;refine ⟨_,rfl,?_⟩))
  go_ret
  exact ⟨sT_,dT_⟩
 subst c3
 replace H:=bT_ H
 by_cases c4:0≤a0
 rotate_left
 ·rw [if_neg c4] at H
  exact absurd H (by simp)
 rw [if_pos c4] at H
 have c4b0:=eq_true c4
 have c4b1:decide (0≤a0)=true:=decide_eq_true c4
 clear c4
 obtain ⟨ji5,hji5⟩:∃ j_:Int,(shl .i64 1 a0)=j_:=⟨_,rfl⟩
 first |rw [hji5] at H|simp only [hji5] at H
 (try rw [hji5] at A2)
 have hji5_:(IntKind.i64.wrap (1*2 ^ min a0.toNat 64))=ji5:=hji5
 have hji5z:a0≤64→(IntKind.i64.wrap (1*2 ^ a0.toNat))=ji5:=shl_small hji5
 have hji5u:(IntKind.i64.wrap (2 ^ min a0.toNat 64))=ji5:=by have h_:=hji5_;rw [Int.one_mul] at h_;exact h_
 have hji5v:a0≤64→(IntKind.i64.wrap (2 ^ a0.toNat))=ji5:=fun hle_=>by have h_:=hji5z hle_;rw [Int.one_mul] at h_;exact h_
 have hji5y:(wrap64 (1*2 ^ min a0.toNat 64))=ji5:=(i64_w _).symm.trans hji5_
 have hji5x:a0≤64→(wrap64 (1*2 ^ a0.toNat))=ji5:=fun h_=>(i64_w _).symm.trans (hji5z h_)
 obtain rfl:=Option.some.inj H
 go_enter Tryz.func87,Tryz.ntmps87
 go_wp2_with (first|((with_reducible refine gate_callee (f:=79) rfl ?_);refine goesL_ (some 4) rfl rfl Tryz.func79 krT_ rfl #[.int .i64 a0] rfl agT_ ?_;(with_reducible refine (impl_isSize.calls a0 true _ A2.out).mono ?_);rintro e w' ⟨rfl,⟨nd,rfl⟩⟩;refine ⟨_,rfl,?_⟩))
 go_ret
 exact ⟨by first|rfl|(simp;done)|(simp only [← hji5]<;>(first|rfl|simp))|(simp [*];done),dT_⟩
/-! ### impl_setsOf: function 65 -/
-- needs impl.FullSet
/-- All sets of n elements of which p holds, as Go's loop gathers them (k: its rounds). -/
def setsL (n:Int) (p:Int→Option Bool):Nat→List Int→Int→Option (List Int)
 | 0,_,_=>none
 | k+1,out,s=>(impl_FullSet.f n).bind fun t=>(if s≤t then ((p s).bind fun b=>(if b=true then (if out.length<17592186044416 then (setsL n p k (out++[s]) (wrap64 (s+1))) else (none)) else (setsL n p k out (wrap64 (s+1))))) else (some out))
theorem setsL_mono {p q:Int→Option Bool} (n:Int) (h:∀ x,LeO (p x) (q x)):∀ k out s,LeO (setsL n p k out s) (setsL n q (k+1) out s)
 | 0,_,_=>fun r hr=>by simp [setsL] at hr
 | k+1,out,s=>by
  unfold setsL
  refine LeO.bind (LeO.refl _) (fun t=>?_)
  refine LeO.ite ?_ (LeO.refl _)
  refine LeO.bind (h _) (fun b=>?_)
  exact LeO.ite (LeO.ite (setsL_mono n h k _ _) (LeO.refl _)) (setsL_mono n h k _ _)
/-- A function value that takes a whole number, answers as p does, and leaves what was there alone. -/
def Makes1 (g:Nat) (lb:Array Value) (w:World) (p:Int→Option Bool):Prop :=
 ∀ (x:Int) (b:Bool) (W:World),Below w.heap.size w W→p x=some b→Calls Tryz.prog g (#[.int .i64 x]++lb) W fun e w'=>e=.returned (.bool b)∧Below W.heap.size W w'
theorem s_enters {f : FuncId} {fn : Func} {c : Code} (hf : Tryz.prog.funcs[f]? = some fn) (hname : (fn.name == "runtime.NumGoroutine") = false) (hb : fn.body = some c) : ∀ args w, (callFunc f args).run Tryz.prog w = .ok (.enter f args) w := by
 intro args w
 have h1 : fn.name ≠ "runtime.NumGoroutine" := by simpa using hname
 simp [callFunc,hf,h1,hb,mark]
set_option maxHeartbeats 8000000 in
set_option maxRecDepth 100000 in
theorem setsOf_calls (g:Nat) (lb:Array Value) (eg:∀ args w,(callFunc g args).run Tryz.prog w=.ok (.enter g args) w) (n:Int) (p:Int→Option Bool) (k:Nat) (r:List Int) (w:World) (hp:Makes1 g lb w p) (h:setsL n p k [] 0=some r) :
    Calls Tryz.prog 65 #[.int .i64 n,.func (.func g) #[] lb] w fun e w'=>∃ v0_:Value,e=.returned (v0_)∧Kd.R (Kd.int .i64) 3 w' w.heap.size (fun _=>True) v0_ r∧Below w.heap.size w w':=by
 have HB:=Aside0.mk (Below.refl w.heap.size w)
 have HP:=Aside0.mk hp
 clear hp
 have H':=Aside0.mk h
 clear h
 go_enter Tryz.func65,Tryz.ntmps65
 go_wp2_with (first|((with_reducible refine gate_dst (N:=7) rfl ?_);refine Kd.R_lit (Kd.int .i64) _ 3 ?hg (N:=7) ?hd (xs:=([]:List Int)) (inner:=[]) (ok:=fun _=>True) (okp:=fun _=>True) ?hr ?hp (fun _ hk=>hk) trivial (Below.refl _ _) (Nat.le_refl _) (by simp) ?_;(case hd=>rfl);(case hg=>rfl);(case hr=>exact hrT_);(case hp=>exact (Reps.none _ _));intro v141 w2 ho3 hb hg_ hnew_;clear hg_ hnew_;have HO142:=Aside0.mk (Kd.R_lower ho3 (below_size (h_HB HB.out)));replace HB:=Aside0.mk (below_step (h_HB HB.out) hb);clear hb ho3))
 go_loopg [5,6] k (fun kq v5 v6 w'=>∃ (x5_1:List Int) (x6_1:Int),v6=.int .i64 x6_1∧Aside0 (setsL n p kq x5_1 x6_1=some r)∧Aside0 (kq≤k)∧Aside0 (Kd.R (Kd.int .i64) 3 w' w.heap.size (fun _=>True) v5 x5_1)∧Aside0 (Below w.heap.size w w'))
 case atStart=>exact ⟨[],0,rfl,H',⟨Nat.le_refl _⟩,⟨kRC_ HO142.out⟩,⟨h_HB HB.out⟩⟩
 case round =>
  clear H'
  obtain ⟨x5_1,x6_1,rfl,HA,HK1,HO_5,HB⟩:=hrel
  cases gk with
  | zero=>exact absurd HA.out (by simp [setsL])
  | succ k1 =>
   have H:=HA.out
   clear HA
   simp only [setsL] at H
   replace H:=Option.bind_eq_some_iff.mp H
   obtain ⟨t,A50,H⟩:=H
   have A5:=Aside0.mk A50
   clear A50
   rcases gsb_ H with ⟨c4b0,H⟩|⟨c4b0,H⟩
   ·replace H:=Option.bind_eq_some_iff.mp H
    obtain ⟨b,hb,H⟩:=H
    have HC:=Aside0.mk (fun W hW=>HP.out x6_1 b W hW hb)
    clear hb
    cases b with
    | true =>
     rw [if_pos rfl] at H
     by_cases c7:x5_1.length<17592186044416
     ·rw [if_pos c7] at H
      have LMc7:=Aside0.mk c7
      clear c7
      have H':=Aside0.mk H
      clear H
      go_wp2_with (first|(go_at_call 87;(with_reducible refine (impl_FullSet.calls n t _ A5.out).mono ?_);rintro e w' ⟨rfl,⟨nd,rfl⟩⟩)|((with_reducible refine (HC.out _ ?hW).mono ?_);(case hW=>exact h_HB HB.out);rintro e w9 ⟨rfl,hb⟩;have n0_:=Aside0.mk (Kd.R_below (kRC_ HO_5.out) hb);have n1_:=Aside0.mk (below_step (h_HB HB.out) hb);clear HO_5;clear HB;have HO_5:=n0_;have HB:=n1_;clear n0_ n1_ hb)|((with_reducible refine gate_builtin (b:=.append) (xs:=#[.tmp 17,.tmp 19]) rfl ?_);at_builtin;refine Kd.R_append (Kd.int .i64) (w0:=w) w.heap.size rfl (.tmp 17) (.tmp 19) 22 3 (.int .i64 0) 8 rfl Tryz.underlying22 info3 rfl (by decide) (by omega) u5 x5_1 x6_1 [.int .i64 x6_1] (fun _=>True) (fun _=>False) rfl rfl ?aP (fun _ hk=>hk.elim) ?aF ?aO ?aB ?aS ?aL ?_;(case aP=>exact rfl);(case aB=>exact (h_HB HB.out));(case aF=>exact (fun _ _=>trivial));(case aO=>exact (kRC_ HO_5.out));(case aS=>exact (below_size (h_HB HB.out)));(case aL=>have:=LMc7.out;omega);intro v145 w8 ho hb hg hat;replace HB:=Aside0.mk (hb);have HO146:=Aside0.mk (ho);clear HO_5;clear ho hb hg hat))
      go_roundg k1
      case measure=>have:=HK1.out;omega
      case rel=>exact ⟨(x5_1++[x6_1]),(wrap64 (x6_1+1)),(by first|rfl|(simp;done)),H',⟨by have:=HK1.out;omega⟩,⟨kRC_ HO146.out⟩,⟨h_HB HB.out⟩⟩
     ·rw [if_neg c7] at H
      exact absurd H (by simp)
    | false =>
     rw [if_neg (by decide)] at H
     have H':=Aside0.mk H
     clear H
     go_wp2_with (first|(go_at_call 87;(with_reducible refine (impl_FullSet.calls n t _ A5.out).mono ?_);rintro e w' ⟨rfl,⟨nd,rfl⟩⟩)|((with_reducible refine (HC.out _ ?hW).mono ?_);(case hW=>exact h_HB HB.out);rintro e w9 ⟨rfl,hb⟩;have n0_:=Aside0.mk (Kd.R_below (kRC_ HO_5.out) hb);have n1_:=Aside0.mk (below_step (h_HB HB.out) hb);clear HO_5;clear HB;have HO_5:=n0_;have HB:=n1_;clear n0_ n1_ hb))
     go_roundg k1
     case measure=>have:=HK1.out;omega
     case rel=>exact ⟨x5_1,(wrap64 (x6_1+1)),(by first|rfl|(simp;done)),H',⟨by have:=HK1.out;omega⟩,⟨kRC_ HO_5.out⟩,⟨h_HB HB.out⟩⟩
   ·obtain rfl:=Option.some.inj H
    go_wp2_with (first|(go_at_call 87;(with_reducible refine (impl_FullSet.calls n t _ A5.out).mono ?_);rintro e w' ⟨rfl,⟨nd,rfl⟩⟩))
    go_ret
    exact ⟨_,by first|rfl|(simp;done),kRC_ HO_5.out,h_HB HB.out⟩
/-! ### bits_OnesCount32: function 147 -/
-- (never reached: whole numbers have 64 bits here)
/-! ### bits_OnesCount64: function 148 -/
def bits_OnesCount64.f (a0:Int):Option (Int):=some (Go.bits .and .i64 (wrap64 (IntKind.u64.wrap ((IntKind.u64.wrap ((IntKind.u64.wrap ((Go.bits .and .u64 (IntKind.u64.wrap (((IntKind.u64.wrap ((Go.bits .and .u64 ((IntKind.u64.wrap ((Go.bits .and .u64 (a0 / 2) 6148914691236517205)+(Go.bits .and .u64 a0 6148914691236517205))) / 4) 3689348814741910323)+(Go.bits .and .u64 (IntKind.u64.wrap ((Go.bits .and .u64 (a0 / 2) 6148914691236517205)+(Go.bits .and .u64 a0 6148914691236517205))) 3689348814741910323))) / 16)+(IntKind.u64.wrap ((Go.bits .and .u64 ((IntKind.u64.wrap ((Go.bits .and .u64 (a0 / 2) 6148914691236517205)+(Go.bits .and .u64 a0 6148914691236517205))) / 4) 3689348814741910323)+(Go.bits .and .u64 (IntKind.u64.wrap ((Go.bits .and .u64 (a0 / 2) 6148914691236517205)+(Go.bits .and .u64 a0 6148914691236517205))) 3689348814741910323))))) 1085102592571150095)+((Go.bits .and .u64 (IntKind.u64.wrap (((IntKind.u64.wrap ((Go.bits .and .u64 ((IntKind.u64.wrap ((Go.bits .and .u64 (a0 / 2) 6148914691236517205)+(Go.bits .and .u64 a0 6148914691236517205))) / 4) 3689348814741910323)+(Go.bits .and .u64 (IntKind.u64.wrap ((Go.bits .and .u64 (a0 / 2) 6148914691236517205)+(Go.bits .and .u64 a0 6148914691236517205))) 3689348814741910323))) / 16)+(IntKind.u64.wrap ((Go.bits .and .u64 ((IntKind.u64.wrap ((Go.bits .and .u64 (a0 / 2) 6148914691236517205)+(Go.bits .and .u64 a0 6148914691236517205))) / 4) 3689348814741910323)+(Go.bits .and .u64 (IntKind.u64.wrap ((Go.bits .and .u64 (a0 / 2) 6148914691236517205)+(Go.bits .and .u64 a0 6148914691236517205))) 3689348814741910323))))) 1085102592571150095) / 256)))+((IntKind.u64.wrap ((Go.bits .and .u64 (IntKind.u64.wrap (((IntKind.u64.wrap ((Go.bits .and .u64 ((IntKind.u64.wrap ((Go.bits .and .u64 (a0 / 2) 6148914691236517205)+(Go.bits .and .u64 a0 6148914691236517205))) / 4) 3689348814741910323)+(Go.bits .and .u64 (IntKind.u64.wrap ((Go.bits .and .u64 (a0 / 2) 6148914691236517205)+(Go.bits .and .u64 a0 6148914691236517205))) 3689348814741910323))) / 16)+(IntKind.u64.wrap ((Go.bits .and .u64 ((IntKind.u64.wrap ((Go.bits .and .u64 (a0 / 2) 6148914691236517205)+(Go.bits .and .u64 a0 6148914691236517205))) / 4) 3689348814741910323)+(Go.bits .and .u64 (IntKind.u64.wrap ((Go.bits .and .u64 (a0 / 2) 6148914691236517205)+(Go.bits .and .u64 a0 6148914691236517205))) 3689348814741910323))))) 1085102592571150095)+((Go.bits .and .u64 (IntKind.u64.wrap (((IntKind.u64.wrap ((Go.bits .and .u64 ((IntKind.u64.wrap ((Go.bits .and .u64 (a0 / 2) 6148914691236517205)+(Go.bits .and .u64 a0 6148914691236517205))) / 4) 3689348814741910323)+(Go.bits .and .u64 (IntKind.u64.wrap ((Go.bits .and .u64 (a0 / 2) 6148914691236517205)+(Go.bits .and .u64 a0 6148914691236517205))) 3689348814741910323))) / 16)+(IntKind.u64.wrap ((Go.bits .and .u64 ((IntKind.u64.wrap ((Go.bits .and .u64 (a0 / 2) 6148914691236517205)+(Go.bits .and .u64 a0 6148914691236517205))) / 4) 3689348814741910323)+(Go.bits .and .u64 (IntKind.u64.wrap ((Go.bits .and .u64 (a0 / 2) 6148914691236517205)+(Go.bits .and .u64 a0 6148914691236517205))) 3689348814741910323))))) 1085102592571150095) / 256))) / 65536)))+((IntKind.u64.wrap ((IntKind.u64.wrap ((Go.bits .and .u64 (IntKind.u64.wrap (((IntKind.u64.wrap ((Go.bits .and .u64 ((IntKind.u64.wrap ((Go.bits .and .u64 (a0 / 2) 6148914691236517205)+(Go.bits .and .u64 a0 6148914691236517205))) / 4) 3689348814741910323)+(Go.bits .and .u64 (IntKind.u64.wrap ((Go.bits .and .u64 (a0 / 2) 6148914691236517205)+(Go.bits .and .u64 a0 6148914691236517205))) 3689348814741910323))) / 16)+(IntKind.u64.wrap ((Go.bits .and .u64 ((IntKind.u64.wrap ((Go.bits .and .u64 (a0 / 2) 6148914691236517205)+(Go.bits .and .u64 a0 6148914691236517205))) / 4) 3689348814741910323)+(Go.bits .and .u64 (IntKind.u64.wrap ((Go.bits .and .u64 (a0 / 2) 6148914691236517205)+(Go.bits .and .u64 a0 6148914691236517205))) 3689348814741910323))))) 1085102592571150095)+((Go.bits .and .u64 (IntKind.u64.wrap (((IntKind.u64.wrap ((Go.bits .and .u64 ((IntKind.u64.wrap ((Go.bits .and .u64 (a0 / 2) 6148914691236517205)+(Go.bits .and .u64 a0 6148914691236517205))) / 4) 3689348814741910323)+(Go.bits .and .u64 (IntKind.u64.wrap ((Go.bits .and .u64 (a0 / 2) 6148914691236517205)+(Go.bits .and .u64 a0 6148914691236517205))) 3689348814741910323))) / 16)+(IntKind.u64.wrap ((Go.bits .and .u64 ((IntKind.u64.wrap ((Go.bits .and .u64 (a0 / 2) 6148914691236517205)+(Go.bits .and .u64 a0 6148914691236517205))) / 4) 3689348814741910323)+(Go.bits .and .u64 (IntKind.u64.wrap ((Go.bits .and .u64 (a0 / 2) 6148914691236517205)+(Go.bits .and .u64 a0 6148914691236517205))) 3689348814741910323))))) 1085102592571150095) / 256)))+((IntKind.u64.wrap ((Go.bits .and .u64 (IntKind.u64.wrap (((IntKind.u64.wrap ((Go.bits .and .u64 ((IntKind.u64.wrap ((Go.bits .and .u64 (a0 / 2) 6148914691236517205)+(Go.bits .and .u64 a0 6148914691236517205))) / 4) 3689348814741910323)+(Go.bits .and .u64 (IntKind.u64.wrap ((Go.bits .and .u64 (a0 / 2) 6148914691236517205)+(Go.bits .and .u64 a0 6148914691236517205))) 3689348814741910323))) / 16)+(IntKind.u64.wrap ((Go.bits .and .u64 ((IntKind.u64.wrap ((Go.bits .and .u64 (a0 / 2) 6148914691236517205)+(Go.bits .and .u64 a0 6148914691236517205))) / 4) 3689348814741910323)+(Go.bits .and .u64 (IntKind.u64.wrap ((Go.bits .and .u64 (a0 / 2) 6148914691236517205)+(Go.bits .and .u64 a0 6148914691236517205))) 3689348814741910323))))) 1085102592571150095)+((Go.bits .and .u64 (IntKind.u64.wrap (((IntKind.u64.wrap ((Go.bits .and .u64 ((IntKind.u64.wrap ((Go.bits .and .u64 (a0 / 2) 6148914691236517205)+(Go.bits .and .u64 a0 6148914691236517205))) / 4) 3689348814741910323)+(Go.bits .and .u64 (IntKind.u64.wrap ((Go.bits .and .u64 (a0 / 2) 6148914691236517205)+(Go.bits .and .u64 a0 6148914691236517205))) 3689348814741910323))) / 16)+(IntKind.u64.wrap ((Go.bits .and .u64 ((IntKind.u64.wrap ((Go.bits .and .u64 (a0 / 2) 6148914691236517205)+(Go.bits .and .u64 a0 6148914691236517205))) / 4) 3689348814741910323)+(Go.bits .and .u64 (IntKind.u64.wrap ((Go.bits .and .u64 (a0 / 2) 6148914691236517205)+(Go.bits .and .u64 a0 6148914691236517205))) 3689348814741910323))))) 1085102592571150095) / 256))) / 65536))) / 4294967296)))) 127)
set_option maxHeartbeats 8000000 in
set_option maxRecDepth 100000 in
theorem bits_OnesCount64.calls (a0:Int) (r:Int) (w:World) (h:bits_OnesCount64.f a0=some r) :
    Calls Tryz.prog 148 #[.int .u64 a0] w fun e w'=>e=.returned (.int .i64 r)∧Drawn0 w w':=by
 unfold bits_OnesCount64.f at h
 have H:=h
 clear h
 obtain rfl:=Option.some.inj H
 go_enter Tryz.func148,Tryz.ntmps148
 go_wp2
 go_ret
 exact ⟨sT_,dT_⟩
/-! ### bits_OnesCount: function 127 -/
def bits_OnesCount.f (a0:Int):Option (Int):=(bits_OnesCount64.f a0).bind fun t695=>(some t695)
set_option maxHeartbeats 8000000 in
set_option maxRecDepth 100000 in
theorem bits_OnesCount.calls (a0:Int) (r:Int) (w:World) (h:bits_OnesCount.f a0=some r) :
    Calls Tryz.prog 127 #[.int .u64 a0] w fun e w'=>e=.returned (.int .i64 r)∧Drawn0 w w':=by
 have H:((bits_OnesCount64.f a0).bind fun t695=>(some t695))=some r:=h
 clear h
 replace H:=bnd_ H;obtain ⟨t695,A2,H⟩:=H
 obtain rfl:=Option.some.inj H
 go_enter Tryz.func127,Tryz.ntmps127
 go_wp2_with (first|((with_reducible refine gate_callee (f:=148) rfl ?_);refine goesL_ (some 7) rfl rfl Tryz.func148 krT_ rfl #[.int .u64 a0] rfl agT_ ?_;(with_reducible refine (bits_OnesCount64.calls a0 t695 _ A2.out).mono ?_);rintro e w' ⟨rfl,⟨nd,rfl⟩⟩;refine ⟨_,rfl,?_⟩))
 go_ret
 exact ⟨sT_,dT_⟩
/-! ### impl_CountOf: function 106 -/
def impl_CountOf.f (a0:Int):Option (Int):=(impl_isAny.f a0).bind fun t696=>(if t696=true then ((bits_OnesCount.f (IntKind.u64.wrap (a0))).bind fun t697=>(some t697)) else (some 0))
set_option maxHeartbeats 8000000 in
set_option maxRecDepth 100000 in
theorem impl_CountOf.calls (a0:Int) (r:Int) (w:World) (h:impl_CountOf.f a0=some r) :
    Calls Tryz.prog 106 #[.int .i64 a0] w fun e w'=>e=.returned (.int .i64 r)∧Drawn0 w w':=by
 unfold impl_CountOf.f at h
 have H:=h
 clear h
 replace H:=bnd_ H;obtain ⟨t696,A2,H⟩:=H
 by_cases c3:t696=true
 ·subst c3
  replace H:=bT_ H
  replace H:=bnd_ H;obtain ⟨t697,A4,H⟩:=H
  obtain rfl:=Option.some.inj H
  go_enter Tryz.func106,Tryz.ntmps106
  go_wp2_with (first|((with_reducible refine gate_callee (f:=118) rfl ?_);refine goesL_ (some 4) rfl rfl Tryz.func118 krT_ rfl #[.int .i64 a0] rfl agT_ ?_;(with_reducible refine (impl_isAny.calls a0 true _ A2.out).mono ?_);rintro e w' ⟨rfl,⟨nd,rfl⟩⟩;refine ⟨_,rfl,?_⟩)|((with_reducible refine gate_callee (f:=127) rfl ?_);refine goesL_ (some 8) rfl rfl Tryz.func127 krT_ rfl #[.int .u64 (IntKind.u64.wrap (a0))] rfl agT_ ?_;(with_reducible refine (bits_OnesCount.calls (IntKind.u64.wrap (a0)) t697 _ A4.out).mono ?_);rintro e w' ⟨rfl,⟨nd,rfl⟩⟩;refine ⟨_,rfl,?_⟩))
  go_ret
  exact ⟨sT_,dT_⟩
 replace c3:=Bool.eq_false_iff.mpr c3
 subst c3
 replace H:=bF_ H
 obtain rfl:=Option.some.inj H
 go_enter Tryz.func106,Tryz.ntmps106
 go_wp2_with (first|((with_reducible refine gate_callee (f:=118) rfl ?_);refine goesL_ (some 4) rfl rfl Tryz.func118 krT_ rfl #[.int .i64 a0] rfl agT_ ?_;(with_reducible refine (impl_isAny.calls a0 false _ A2.out).mono ?_);rintro e w' ⟨rfl,⟨nd,rfl⟩⟩;refine ⟨_,rfl,?_⟩))
 go_ret
 exact ⟨sT_,dT_⟩
/-! ### impl_Uniform_1: function 105 -/
-- needs impl.CountOf
-- needs impl.setsOf
def impl_Uniform_1.f (rank x:Int):Option Bool:=(impl_CountOf.f x).bind fun t=>some (t==rank)
set_option maxHeartbeats 4000000 in
set_option maxRecDepth 100000 in
theorem impl_Uniform_1.makes (rank:Int) (w:World) (g1:Nat) (b1:w.heap[g1]?=some (.cells #[.int .i64 rank] 3 (0,0))) :
  Makes1 105 #[.pointer (some ⟨g1,0,none⟩)] w (impl_Uniform_1.f rank):=by
 intro x b W hW h
 obtain ⟨t,ht,hb⟩:=Option.bind_eq_some_iff.mp h
 have q1:W.cell? ⟨g1,0,none⟩=some (.int .i64 rank):=(blk_cell (blk_below b1 hW) 0).trans rfl
 have HS:=Aside0.mk (fun n'=>impl_CountOf.calls x t (W.drewN n') ht)
 have HBb:=Aside0.mk (Option.some.inj hb)
 clear h ht hb b1 hW
 show Calls Tryz.prog 105 #[.int .i64 x,.pointer (some ⟨g1,0,none⟩)] W _
 go_enter Tryz.func105,Tryz.ntmps105
 go_wp2
 go_quiet ((go_at_call 106;exact Calls.quiet_of ((HS.out _).mono fun _ _ ⟨he,⟨m,hm⟩⟩=>⟨he,m,hm⟩)))
 go_wp2
 go_ret
 exact ⟨by rw [← HBb.out];first|rfl|(simp;done),by repeat (first|exact Below.refl _ _|apply pw_below_drewN)⟩
def on_impl_Uniform_1.f (k:Nat) (n rank:Int):Option (List Int):=setsL n (impl_Uniform_1.f rank) k [] 0
theorem on_impl_Uniform_1.calls (k:Nat) (n rank:Int) (r:List Int) (w:World) (h:on_impl_Uniform_1.f k n rank=some r) (g1:Nat) (b1:w.heap[g1]?=some (.cells #[.int .i64 rank] 3 (0,0))) :
    Calls Tryz.prog 65 #[.int .i64 n,.func (.func 105) #[] #[.pointer (some ⟨g1,0,none⟩)]] w fun e w'=>∃ v0_:Value,e=.returned (v0_)∧Kd.R (Kd.int .i64) 3 w' w.heap.size (fun _=>True) v0_ r∧Below w.heap.size w w' :=
 setsOf_calls _ _ (s_enters Tryz.func105 krT_ rfl) n _ k r w (impl_Uniform_1.makes rank w g1 b1) h
/-! ### impl_Uniform: function 48 -/
def impl_Uniform.f (k:Nat) (a0:Int) (a1:Int):Option (Int × List Int):=(impl_isSize.f a1).bind fun t700=>(if t700=true then (if a0<0 then (some (0,([]:List Int))) else (if a0>a1 then (some (0,([]:List Int))) else ((on_impl_Uniform_1.f k a1 a0).bind fun t701=>(some (a1,t701))))) else (some (0,([]:List Int))))
set_option maxHeartbeats 8000000 in
set_option maxRecDepth 100000 in
theorem impl_Uniform.calls (k:Nat) (a0:Int) (a1:Int) (r1:Int) (r2:List Int) (w:World) (h:impl_Uniform.f k a0 a1=some (r1,r2)) :
    Calls Tryz.prog 48 #[.int .i64 a0,.int .i64 a1] w fun e w'=>∃ v1_:Value,e=.returned (.agg #[.int .i64 r1,v1_])∧Kd.R (Kd.int .i64) 3 w' w.heap.size (fun _=>True) v1_ r2∧Below w.heap.size w w':=by
 have hu24:=Tryz.underlying24
 have HB:=Aside0.mk (Below.refl w.heap.size w)
 unfold impl_Uniform.f at h
 have H:=h
 clear h
 replace H:=bnd_ H;obtain ⟨t700,A3,H⟩:=H
 by_cases c4:t700=true
 rotate_left
 ·replace c4:=Bool.eq_false_iff.mpr c4
  subst c4
  replace H:=bF_ H
  simp only [Option.some.injEq,Prod.mk.injEq] at H
  obtain ⟨rfl,rfl⟩:=H
  go_enter Tryz.func48,Tryz.ntmps48
  go_wp2_with (first|((with_reducible refine gate_dst (N:=2) rfl ?_);refine bx_ (N:=2) (cs:=#[.int .i64 a0]) (t:=3) ?_;intro gb698 hg w28 hbox hb;have BK698:=Aside0.mk (hbox);have GW698:=Aside0.mk (gw_ hg (h_HB HB.out));have GE698:=Aside0.mk (gw_ hg (h_HB HB.out));replace HB:=Aside0.mk (below_step (h_HB HB.out) hb);clear hb hbox hg)|((with_reducible refine gate_dst (N:=4) rfl ?_);refine bx_ (N:=4) (cs:=#[.int .i64 0,.slice none 0 0]) (t:=24) ?_;intro gb699 hg w29 hbox hb;have BK699:=Aside0.mk (hbox);have GW699:=Aside0.mk (gw_ hg (h_HB HB.out));have GE699:=Aside0.mk (gw_ hg (h_HB HB.out));replace HB:=Aside0.mk (below_step (h_HB HB.out) hb);have NB698_699:=Aside0.mk (nbl_ hg (bkC_ BK698.out));have NB699_698:=Aside0.mk (nbg_ hg (bkC_ BK698.out));replace BK698:=Aside0.mk (blkB_ BK698.out hb);clear hb hbox hg)|((with_reducible refine gate_callee (f:=79) rfl ?_);refine goesL_ (some 6) rfl rfl Tryz.func79 krT_ rfl #[.int .i64 a1] rfl agT_ ?_;(with_reducible refine (impl_isSize.calls a1 false _ A3.out).mono ?_);rintro e w' ⟨rfl,⟨nd,rfl⟩⟩;refine ⟨_,rfl,?_⟩;(try (rw [drewN_self w29];generalize hq_:World.drewN w29 _=w29;replace BK698:Aside0 (w29.heap[gb698]?=some (.cells #[.int .i64 a0] 3 (0,0))):=⟨by rw [← hq_];exact (bkC_ BK698.out)⟩;replace BK699:Aside0 (w29.heap[gb699]?=some (.cells #[.int .i64 0,.slice none 0 0] 24 (0,0))):=⟨by rw [← hq_];exact (bkC_ BK699.out)⟩;replace HB:Aside0 (Below w.heap.size w w29):=⟨by rw [← hq_];exact (h_HB HB.out)⟩;clear hq_;have hcuz30_gb698_0:w29.cell? ⟨gb698,0,none⟩=some (.int .i64 a0):=(blk_cell BK698.out 0).trans rfl;have hfuz30_gb698_0:=blk_frozen BK698.out 0;have hcuz30_gb699_0:w29.cell? ⟨gb699,0,none⟩=some (.int .i64 0):=(blk_cell BK699.out 0).trans rfl;have hfuz30_gb699_0:=blk_frozen BK699.out 0;have hcuz30_gb699_1:w29.cell? ⟨gb699,1,none⟩=some (.slice none 0 0):=(blk_cell BK699.out 1).trans rfl;have hfuz30_gb699_1:=blk_frozen BK699.out 1));have hnb31:=NB699_698.out;have hnc31:=NB698_699.out;obtain ⟨hcz32_0,hcz32_1,hfz32_0,hfz32_1⟩:=bz2_ BK699.out))
  refine bodyPost_ret (results_cell_row rfl _ _ gb699 24 #[.int .i64 0,.slice none 0 0] (0,0) _ rfl (by (with_reducible repeat (first|refine blk_drewN ?_ _|refine blk_drew ?_|refine blk_alloc ?_ _));refine blk_put (cs:=#[.int .i64 0,.slice none 0 0]) ?_ 1 _ rfl;(with_reducible repeat (first|refine blk_drewN ?_ _|refine blk_drew ?_|refine blk_alloc ?_ _));refine blk_put (cs:=#[.int .i64 0,.slice none 0 0]) ?_ 0 _ rfl;exact bkC_ BK699.out) Tryz.underlying24 rfl krT_) rfl ?_
  exact ⟨_,eT_,by first|exact Kd.R_nil _ _ _ _ _|exact Kd.N_nil _ _ _ _ _|exact Kd.V_nil _ _ _ _ _|exact Kd.Q_nil _ _ _ _ _|exact Kd.S_nil _ _ _ _ _,h_HB HB.out⟩
 subst c4
 replace H:=bT_ H
 rcases gsb_ H with ⟨c5b0,H⟩|⟨c5b0,H⟩
 ·simp only [Option.some.injEq,Prod.mk.injEq] at H
  obtain ⟨rfl,rfl⟩:=H
  go_enter Tryz.func48,Tryz.ntmps48
  go_wp2_with (first|((with_reducible refine gate_dst (N:=2) rfl ?_);refine bx_ (N:=2) (cs:=#[.int .i64 a0]) (t:=3) ?_;intro gb698 hg w6 hbox hb;have BK698:=Aside0.mk (hbox);have GW698:=Aside0.mk (gw_ hg (h_HB HB.out));have GE698:=Aside0.mk (gw_ hg (h_HB HB.out));replace HB:=Aside0.mk (below_step (h_HB HB.out) hb);clear hb hbox hg)|((with_reducible refine gate_dst (N:=4) rfl ?_);refine bx_ (N:=4) (cs:=#[.int .i64 0,.slice none 0 0]) (t:=24) ?_;intro gb699 hg w7 hbox hb;have BK699:=Aside0.mk (hbox);have GW699:=Aside0.mk (gw_ hg (h_HB HB.out));have GE699:=Aside0.mk (gw_ hg (h_HB HB.out));replace HB:=Aside0.mk (below_step (h_HB HB.out) hb);have NB698_699:=Aside0.mk (nbl_ hg (bkC_ BK698.out));have NB699_698:=Aside0.mk (nbg_ hg (bkC_ BK698.out));replace BK698:=Aside0.mk (blkB_ BK698.out hb);clear hb hbox hg)|((with_reducible refine gate_callee (f:=79) rfl ?_);refine goesL_ (some 6) rfl rfl Tryz.func79 krT_ rfl #[.int .i64 a1] rfl agT_ ?_;(with_reducible refine (impl_isSize.calls a1 true _ A3.out).mono ?_);rintro e w' ⟨rfl,⟨nd,rfl⟩⟩;refine ⟨_,rfl,?_⟩;(try (rw [drewN_self w7];generalize hq_:World.drewN w7 _=w7;replace BK698:Aside0 (w7.heap[gb698]?=some (.cells #[.int .i64 a0] 3 (0,0))):=⟨by rw [← hq_];exact (bkC_ BK698.out)⟩;replace BK699:Aside0 (w7.heap[gb699]?=some (.cells #[.int .i64 0,.slice none 0 0] 24 (0,0))):=⟨by rw [← hq_];exact (bkC_ BK699.out)⟩;replace HB:Aside0 (Below w.heap.size w w7):=⟨by rw [← hq_];exact (h_HB HB.out)⟩;clear hq_;have hcuz8_gb698_0:w7.cell? ⟨gb698,0,none⟩=some (.int .i64 a0):=(blk_cell BK698.out 0).trans rfl;have hfuz8_gb698_0:=blk_frozen BK698.out 0;have hcuz8_gb699_0:w7.cell? ⟨gb699,0,none⟩=some (.int .i64 0):=(blk_cell BK699.out 0).trans rfl;have hfuz8_gb699_0:=blk_frozen BK699.out 0;have hcuz8_gb699_1:w7.cell? ⟨gb699,1,none⟩=some (.slice none 0 0):=(blk_cell BK699.out 1).trans rfl;have hfuz8_gb699_1:=blk_frozen BK699.out 1));have hnb9:=NB698_699.out;have hnc9:=NB699_698.out;obtain ⟨hcz10_0,hfz10_0⟩:=bz1_ BK698.out;obtain ⟨hcz11_0,hcz11_1,hfz11_0,hfz11_1⟩:=bz2_ BK699.out))
  refine bodyPost_ret (results_cell_row rfl _ _ gb699 24 #[.int .i64 0,.slice none 0 0] (0,0) _ rfl (by (with_reducible repeat (first|refine blk_drewN ?_ _|refine blk_drew ?_|refine blk_alloc ?_ _));refine blk_put (cs:=#[.int .i64 0,.slice none 0 0]) ?_ 1 _ rfl;(with_reducible repeat (first|refine blk_drewN ?_ _|refine blk_drew ?_|refine blk_alloc ?_ _));refine blk_put (cs:=#[.int .i64 0,.slice none 0 0]) ?_ 0 _ rfl;exact bkC_ BK699.out) Tryz.underlying24 rfl krT_) rfl ?_
  exact ⟨_,eT_,by first|exact Kd.R_nil _ _ _ _ _|exact Kd.N_nil _ _ _ _ _|exact Kd.V_nil _ _ _ _ _|exact Kd.Q_nil _ _ _ _ _|exact Kd.S_nil _ _ _ _ _,h_HB HB.out⟩
 by_cases c12:a0>a1
 ·rw [if_pos c12] at H
  have c12b0:decide (a1<a0)=true:=decide_eq_true c12
  clear c12
  simp only [Option.some.injEq,Prod.mk.injEq] at H
  obtain ⟨rfl,rfl⟩:=H
  go_enter Tryz.func48,Tryz.ntmps48
  go_wp2_with (first|((with_reducible refine gate_dst (N:=2) rfl ?_);refine bx_ (N:=2) (cs:=#[.int .i64 a0]) (t:=3) ?_;intro gb698 hg w13 hbox hb;have BK698:=Aside0.mk (hbox);have GW698:=Aside0.mk (gw_ hg (h_HB HB.out));have GE698:=Aside0.mk (gw_ hg (h_HB HB.out));replace HB:=Aside0.mk (below_step (h_HB HB.out) hb);clear hb hbox hg)|((with_reducible refine gate_dst (N:=4) rfl ?_);refine bx_ (N:=4) (cs:=#[.int .i64 0,.slice none 0 0]) (t:=24) ?_;intro gb699 hg w14 hbox hb;have BK699:=Aside0.mk (hbox);have GW699:=Aside0.mk (gw_ hg (h_HB HB.out));have GE699:=Aside0.mk (gw_ hg (h_HB HB.out));replace HB:=Aside0.mk (below_step (h_HB HB.out) hb);have NB698_699:=Aside0.mk (nbl_ hg (bkC_ BK698.out));have NB699_698:=Aside0.mk (nbg_ hg (bkC_ BK698.out));replace BK698:=Aside0.mk (blkB_ BK698.out hb);clear hb hbox hg)|((with_reducible refine gate_callee (f:=79) rfl ?_);refine goesL_ (some 6) rfl rfl Tryz.func79 krT_ rfl #[.int .i64 a1] rfl agT_ ?_;(with_reducible refine (impl_isSize.calls a1 true _ A3.out).mono ?_);rintro e w' ⟨rfl,⟨nd,rfl⟩⟩;refine ⟨_,rfl,?_⟩;(try (rw [drewN_self w14];generalize hq_:World.drewN w14 _=w14;replace BK698:Aside0 (w14.heap[gb698]?=some (.cells #[.int .i64 a0] 3 (0,0))):=⟨by rw [← hq_];exact (bkC_ BK698.out)⟩;replace BK699:Aside0 (w14.heap[gb699]?=some (.cells #[.int .i64 0,.slice none 0 0] 24 (0,0))):=⟨by rw [← hq_];exact (bkC_ BK699.out)⟩;replace HB:Aside0 (Below w.heap.size w w14):=⟨by rw [← hq_];exact (h_HB HB.out)⟩;clear hq_;have hcuz15_gb698_0:w14.cell? ⟨gb698,0,none⟩=some (.int .i64 a0):=(blk_cell BK698.out 0).trans rfl;have hfuz15_gb698_0:=blk_frozen BK698.out 0;have hcuz15_gb699_0:w14.cell? ⟨gb699,0,none⟩=some (.int .i64 0):=(blk_cell BK699.out 0).trans rfl;have hfuz15_gb699_0:=blk_frozen BK699.out 0;have hcuz15_gb699_1:w14.cell? ⟨gb699,1,none⟩=some (.slice none 0 0):=(blk_cell BK699.out 1).trans rfl;have hfuz15_gb699_1:=blk_frozen BK699.out 1));have hnb16:=NB698_699.out;have hnc16:=NB699_698.out;obtain ⟨hcz17_0,hfz17_0⟩:=bz1_ BK698.out;obtain ⟨hcz18_0,hcz18_1,hfz18_0,hfz18_1⟩:=bz2_ BK699.out))
  refine bodyPost_ret (results_cell_row rfl _ _ gb699 24 #[.int .i64 0,.slice none 0 0] (0,0) _ rfl (by (with_reducible repeat (first|refine blk_drewN ?_ _|refine blk_drew ?_|refine blk_alloc ?_ _));refine blk_put (cs:=#[.int .i64 0,.slice none 0 0]) ?_ 1 _ rfl;(with_reducible repeat (first|refine blk_drewN ?_ _|refine blk_drew ?_|refine blk_alloc ?_ _));refine blk_put (cs:=#[.int .i64 0,.slice none 0 0]) ?_ 0 _ rfl;exact bkC_ BK699.out) Tryz.underlying24 rfl krT_) rfl ?_
  exact ⟨_,eT_,by first|exact Kd.R_nil _ _ _ _ _|exact Kd.N_nil _ _ _ _ _|exact Kd.V_nil _ _ _ _ _|exact Kd.Q_nil _ _ _ _ _|exact Kd.S_nil _ _ _ _ _,h_HB HB.out⟩
 rw [if_neg c12] at H
 have c12b0:decide (a1<a0)=false:=decide_eq_false c12
 clear c12
 replace H:=bnd_ H;obtain ⟨t701,A19,H⟩:=H
 simp only [Option.some.injEq,Prod.mk.injEq] at H
 obtain ⟨rfl,rfl⟩:=H
 go_enter Tryz.func48,Tryz.ntmps48
 go_wp2_with (first|((with_reducible refine gate_dst (N:=2) rfl ?_);refine bx_ (N:=2) (cs:=#[.int .i64 a0]) (t:=3) ?_;intro gb698 hg w20 hbox hb;have BK698:=Aside0.mk (hbox);have GW698:=Aside0.mk (gw_ hg (h_HB HB.out));have GE698:=Aside0.mk (gw_ hg (h_HB HB.out));replace HB:=Aside0.mk (below_step (h_HB HB.out) hb);clear hb hbox hg)|((with_reducible refine gate_dst (N:=4) rfl ?_);refine bx_ (N:=4) (cs:=#[.int .i64 0,.slice none 0 0]) (t:=24) ?_;intro gb699 hg w21 hbox hb;have BK699:=Aside0.mk (hbox);have GW699:=Aside0.mk (gw_ hg (h_HB HB.out));have GE699:=Aside0.mk (gw_ hg (h_HB HB.out));replace HB:=Aside0.mk (below_step (h_HB HB.out) hb);have NB698_699:=Aside0.mk (nbl_ hg (bkC_ BK698.out));have NB699_698:=Aside0.mk (nbg_ hg (bkC_ BK698.out));replace BK698:=Aside0.mk (blkB_ BK698.out hb);clear hb hbox hg)|((with_reducible refine gate_callee (f:=79) rfl ?_);refine goesL_ (some 6) rfl rfl Tryz.func79 krT_ rfl #[.int .i64 a1] rfl agT_ ?_;(with_reducible refine (impl_isSize.calls a1 true _ A3.out).mono ?_);rintro e w' ⟨rfl,⟨nd,rfl⟩⟩;refine ⟨_,rfl,?_⟩;(try (rw [drewN_self w21];generalize hq_:World.drewN w21 _=w21;replace BK698:Aside0 (w21.heap[gb698]?=some (.cells #[.int .i64 a0] 3 (0,0))):=⟨by rw [← hq_];exact (bkC_ BK698.out)⟩;replace BK699:Aside0 (w21.heap[gb699]?=some (.cells #[.int .i64 0,.slice none 0 0] 24 (0,0))):=⟨by rw [← hq_];exact (bkC_ BK699.out)⟩;replace HB:Aside0 (Below w.heap.size w w21):=⟨by rw [← hq_];exact (h_HB HB.out)⟩;clear hq_;have hcuz22_gb698_0:w21.cell? ⟨gb698,0,none⟩=some (.int .i64 a0):=(blk_cell BK698.out 0).trans rfl;have hfuz22_gb698_0:=blk_frozen BK698.out 0;have hcuz22_gb699_0:w21.cell? ⟨gb699,0,none⟩=some (.int .i64 0):=(blk_cell BK699.out 0).trans rfl;have hfuz22_gb699_0:=blk_frozen BK699.out 0;have hcuz22_gb699_1:w21.cell? ⟨gb699,1,none⟩=some (.slice none 0 0):=(blk_cell BK699.out 1).trans rfl;have hfuz22_gb699_1:=blk_frozen BK699.out 1));have hnb23:=NB698_699.out;have hnc23:=NB699_698.out;obtain ⟨hcz24_0,hfz24_0⟩:=bz1_ BK698.out)|((with_reducible refine gate_callee (f:=65) rfl ?_);refine goesL_ (some 21) rfl rfl Tryz.func65 krT_ rfl #[.int .i64 a1,.func (.func 105) #[] #[.pointer (some ⟨gb698,0,none⟩)]] rfl agT_ ?_;(with_reducible refine (on_impl_Uniform_1.calls k a1 a0 t701 _ A19.out gb698 ?side1).mono ?_);(case side1=>exact (bkC_ BK698.out));rintro e w25 ⟨v702,rfl,ho0,hb⟩;refine ⟨_,rfl,?_⟩;have HO703:=Aside0.mk (Kd.R_lower (Kd.R_newB ho0 (bkC_ BK698.out)) (below_size (h_HB HB.out)));replace BK698:=Aside0.mk (blkB_ BK698.out hb);replace BK699:=Aside0.mk (blkB_ BK699.out hb);replace HB:=Aside0.mk (below_step (h_HB HB.out) hb);(try clear hb);(try clear hb2);(try clear hk);(try clear hi);(try clear ho0);obtain ⟨Ao26,co26,eo26⟩:=Kd.R_slice HO703.out;subst eo26;obtain ⟨hcz27_0,hcz27_1,hfz27_0,hfz27_1⟩:=bz2_ BK699.out))
 refine bodyPost_ret (results_cell_row rfl _ _ gb699 24 #[.int .i64 a1,.slice Ao26 t701.length co26] (0,0) _ rfl (by (with_reducible repeat (first|refine blk_drewN ?_ _|refine blk_drew ?_|refine blk_alloc ?_ _));refine blk_put (cs:=#[.int .i64 a1,.slice none 0 0]) ?_ 1 _ rfl;(with_reducible repeat (first|refine blk_drewN ?_ _|refine blk_drew ?_|refine blk_alloc ?_ _));refine blk_put (cs:=#[.int .i64 0,.slice none 0 0]) ?_ 0 _ rfl;exact bkC_ BK699.out) Tryz.underlying24 rfl krT_) rfl ?_
 exact ⟨_,eT_,by (with_reducible repeat (first|apply Kd.R_alloc|apply Kd.R_drewN|apply Kd.R_drew));exact Kd.R_mono (Kd.R_far (p:=⟨gb699,1,none⟩) (Kd.R_far (p:=⟨gb699,0,none⟩) (Kd.R_types HO703.out BK699.out (by decide)) (fun _ hk=>hk.2) (.int .i64 a1)) (fun _ hk=>hk.2) (.slice Ao26 t701.length co26)) (fun _ hk=>trivial),h_HB HB.out⟩
end Go.Proofs.YtekegbacnagbcaaGreatDoor.P
