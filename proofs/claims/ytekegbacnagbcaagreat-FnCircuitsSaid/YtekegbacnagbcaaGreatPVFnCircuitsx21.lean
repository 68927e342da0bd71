-- written by gprint (a program of this session's, round the kit's print), out of the translation and hand-written texts
import Derived.Test.YtekegbacnagbcaaGreatPVFnCircuitsx0
import Derived.Test.YtekegbacnagbcaaGreatPVFnCircuitsx2
import Derived.Test.YtekegbacnagbcaaGreatPVFnCircuitsx3
import Derived.Test.YtekegbacnagbcaaGreatPVFnCircuitsx9
import Derived.Test.YtekegbacnagbcaaGreatPVFnCircuitsx11
import Derived.Test.YtekegbacnagbcaaGreatPVFnCircuitsx12
import Derived.Test.YtekegbacnagbcaaGreatPVFnCircuitsx17
import Derived.Test.YtekegbacnagbcaaGreatPVFnCircuitsx18
import Derived.Test.YtekegbacnagbcaaGreatPVFnCircuitsx20
namespace Go.Proofs.YtekegbacnagbcaaGreat.P
open Go.RowKit Go.Proofs.YtekegbacnagbcaaGreatW.PrintWords Go.Proofs.YtekegbacnagbcaaGreatW.PrintLast Go.Proofs.YtekegbacnagbcaaGreatW.PrintMore
attribute [local go_sem] max2_int min2_int max_two min_two max_three min_three max_four min_four
set_option linter.unusedVariables false
set_option maxHeartbeats 8000000
set_option maxRecDepth 100000
set_option linter.unusedSimpArgs false
mutual
def spec_FromCircuits.j0:Nat→Int→List Int→Bool→Option (Int × List Int × Bool)
 | 0,_,_,_=>none
 | k+1,x0,x1,x22=>if x22=true then (some (0,([]:List Int),false)) else (spec_FromCircuits.l0 k x0 x1 (([]:List Int)) 0)
def spec_FromCircuits.l0:Nat→Int→List Int→List Int→Int→Option (Int × List Int × Bool)
 | 0,_,_,_,_=>none
 | k+1,x0,x1,x8,x9=>(spec_FullSet.f x0).bind fun t772=>(if x9≤t772 then ((spec_l6Within.f k x1 x9).bind fun t773=>(if t773=true then (spec_FromCircuits.l0 k x0 x1 x8 (wrap64 (x9+1))) else (if x8.length<17592186044416 then (spec_FromCircuits.l0 k x0 x1 (x8++[x9]) (wrap64 (x9+1))) else (none)))) else ((spec_MaximalSets.f k x8).bind fun t777=>(some (x0,t777,true))))
end
def spec_FromCircuits.f (k:Nat) (a0:Int) (l1:List Int):Option (Int × List Int × Bool):=(spec_CircuitFailure.f k a0 l1).bind fun bt763=>((spec_IsFamily.f k a0 l1).bind fun t768=>(if t768=true then (spec_FromCircuits.j0 k a0 l1 bt763.2.2.2) else (spec_FromCircuits.j0 k a0 l1 true)))
theorem spec_FromCircuits.calls (k:Nat) (a0:Int) (A1:Option Addr) (c1:Nat) (l1:List Int) (r1:Int) (r2:List Int) (r3:Bool) (w:World) (hr1:Kd.C (Kd.int .i64) w A1 l1.length l1) (hc1:l1.length≤c1) (h:spec_FromCircuits.f k a0 l1=some (r1,r2,r3)) :
    Calls Tryz.prog 11 #[.int .i64 a0,.slice A1 l1.length c1] w fun e w'=>∃ v1_:Value,e=.returned (.tuple #[.agg #[.int .i64 r1,v1_],.bool r3])∧Kd.R (Kd.int .i64) 3 w' w.heap.size (fun _=>True) v1_ r2∧Below w.heap.size w w':=by
 have hu26:=Tryz.underlying26
 have hu32:=Tryz.underlying32
 have HR1:=Aside0.mk hr1
 have HC1:=Aside0.mk hc1
 clear hr1 hc1
 have HB:=Aside0.mk (Below.refl w.heap.size w)
 unfold spec_FromCircuits.f at h
 have H:=h
 clear h
 replace H:=bnd_ H;obtain ⟨⟨t763,t764,t765,t766⟩,A3,H⟩:=H;dsimp only at H
 have HC4:=Aside0.mk H
 clear H
 go_enter Tryz.func11,Tryz.ntmps11
 go_upto_region 2 with (first|((with_reducible refine gate_dst (N:=4) rfl ?_);refine bx_ (N:=4) (cs:=#[.int .i64 0,.slice none 0 0]) (t:=26) ?_;intro gb762 hg w5 hbox hb;have BK762:=Aside0.mk (hbox);have GW762:=Aside0.mk (gw_ hg (h_HB HB.out));have GE762:=GW762;replace HB:=s_HB HB.out hb;clear hb hbox hg)|((with_reducible refine gate_callee (f:=9) rfl ?_);refine goesL_ (some 13) rfl rfl Tryz.func9 krT_ rfl #[.int .i64 a0,.slice A1 l1.length c1] rfl agT_ ?_;(with_reducible refine (spec_CircuitFailure.calls k a0 _ _ l1 t763 t764 t765 t766 _ ?side1 ?side2 A3.out).mono ?_);(case side1=>exact cC_ HR1.out);(case side2=>exact HC1.out);rintro e w6 ⟨rfl,hb⟩;refine ⟨_,rfl,?_⟩;replace BK762:=sBK_ BK762.out hb;replace HB:=s_HB HB.out hb;(try clear hb))|((with_reducible refine gate_dst (N:=6) rfl ?_);refine bx_ (N:=6) (cs:=#[.int .i64 0,.int .i64 0,.int .i64 0]) (t:=32) ?_;intro gb767 hg w7 hbox hb;have BK767:=Aside0.mk (hbox);have GW767:=Aside0.mk (gw_ hg (h_HB HB.out));have GE767:=GW767;replace HB:=s_HB HB.out hb;have NB762_767:=Aside0.mk (nbl_ hg (bkC_ BK762.out));have NB767_762:=Aside0.mk NB762_767.out.symm;replace BK762:=sBK_ BK762.out hb;clear hb hbox hg;have hnb8:=NB767_762.out;have hnc8:=NB762_767.out;obtain ⟨hcz9_0,hcz9_1,hcz9_2,hfz9_0,hfz9_1,hfz9_2⟩:=bz3_ BK767.out))
 (try simp only [Act.put,List.setIfInBounds_toArray,List.set_cons_zero,List.set_cons_succ])
 go_cut [22] (fun v22 wc=>∃ (kq:Nat) (x22_3:Bool),v22=.bool x22_3∧Aside0 (spec_FromCircuits.j0 kq a0 l1 x22_3=some (r1,r2,r3))∧Aside0 (kq≤k)∧Aside0 (wc.heap[gb762]?=some (.cells #[.int .i64 0,(.slice none 0 0)] 26 (0,0)))∧Aside0 (wc.heap[gb767]?=some (.cells #[.int .i64 t763,.int .i64 t764,.int .i64 t765] 32 (0,0)))∧Aside0 (Below w.heap.size w wc))
 case first =>
  have H:=HC4.out
  clear HC4
  replace H:=bnd_ H;obtain ⟨t768,A10,H⟩:=H
  replace H:=gst_ H;rcases H with ⟨rfl,H⟩|⟨rfl,H⟩
  ·have H':=Aside0.mk H
   clear H
   go_wp2_with (first|((with_reducible refine gate_callee (f:=36) rfl ?_);refine goesL_ (some 18) rfl rfl Tryz.func36 krT_ rfl #[.int .i64 a0,.slice A1 l1.length c1] rfl agT_ ?_;(with_reducible refine (spec_IsFamily.calls k a0 _ _ l1 true _ ?side1 ?side2 A10.out).mono ?_);(case side1=>exact Kd.C_below HR1.out (h_HB HB.out));(case side2=>exact HC1.out);rintro e w' ⟨rfl,⟨nd,rfl⟩⟩;refine ⟨_,rfl,?_⟩))
   go_meet
   case rel=>exact ⟨_,(t766),sT_,H',⟨by first|omega|exact Nat.le_refl _⟩,⟨bkC_ BK762.out⟩,⟨by (with_reducible repeat (first|refine blk_drewN ?_ _|refine blk_drew ?_|refine blk_alloc ?_ _));exact bp3_ (bkC_ BK767.out)⟩,⟨h_HB HB.out⟩⟩
  have H':=Aside0.mk H
  clear H
  go_wp2_with (first|((with_reducible refine gate_callee (f:=36) rfl ?_);refine goesL_ (some 18) rfl rfl Tryz.func36 krT_ rfl #[.int .i64 a0,.slice A1 l1.length c1] rfl agT_ ?_;(with_reducible refine (spec_IsFamily.calls k a0 _ _ l1 false _ ?side1 ?side2 A10.out).mono ?_);(case side1=>exact Kd.C_below HR1.out (h_HB HB.out));(case side2=>exact HC1.out);rintro e w' ⟨rfl,⟨nd,rfl⟩⟩;refine ⟨_,rfl,?_⟩))
  go_meet
  case rel=>exact ⟨_,(true),sT_,H',⟨by first|omega|exact Nat.le_refl _⟩,⟨bkC_ BK762.out⟩,⟨by (with_reducible repeat (first|refine blk_drewN ?_ _|refine blk_drew ?_|refine blk_alloc ?_ _));exact bp3_ (bkC_ BK767.out)⟩,⟨h_HB HB.out⟩⟩
 case rest =>
 clear HC4
 try clear c1
 try clear p2
 try clear c3
 try clear c8
 try clear c9
 try clear c11
 try clear hcz9_0
 try clear hcz9_1
 try clear hcz9_2
 try clear hfz9_0
 try clear hfz9_1
 try clear hfz9_2
 obtain ⟨kq,x22_3,rfl,HA,HJ3,BK762,BK767,HB⟩:=hcut
 cases kq with
 | zero=>exact absurd HA.out (by simp [spec_FromCircuits.j0])
 | succ kj3 =>
 have H:=HA.out
 clear HA
 simp only [spec_FromCircuits.j0] at H
 replace H:=gst_ H;rcases H with ⟨rfl,H⟩|⟨rfl,H⟩
 ·simp only [Option.some.injEq,Prod.mk.injEq] at H
  obtain ⟨rfl,rfl,rfl⟩:=H
  have hnb13:=NB762_767.out
  have hnc13:=NB767_762.out
  obtain ⟨hcz14_0,hcz14_1,hfz14_0,hfz14_1⟩:=bz2_ BK762.out
  go_wp2
  refine bodyPost_ret (results_ct rfl _ _ gb762 26 #[.int .i64 0,.slice none 0 0] (0,0) _ rfl (by (with_reducible repeat (first|refine blk_drewN ?_ _|refine blk_drew ?_|refine blk_alloc ?_ _));exact bp2_ (bkC_ BK762.out)) Tryz.underlying26 rfl krT_) rfl ?_
  exact ⟨_,eT_,by first|exact Kd.R_nil _ _ _ _ _|exact Kd.N_nil _ _ _ _ _|exact Kd.V_nil _ _ _ _ _|exact Kd.Q_nil _ _ _ _ _|exact Kd.S_nil _ _ _ _ _,h_HB HB.out⟩
 obtain ⟨y769,hy769⟩:∃ y_:List Int,y_=(([]:List Int)):=⟨_,rfl⟩
 rw [← hy769] at H
 have Ny769:=Aside0.mk hy769
 clear hy769
 have H':=Aside0.mk H
 clear H
 go_wp2_with (first|((with_reducible refine gate_dst (N:=24) rfl ?_);refine Kd.R_lit (Kd.int .i64) _ 3 ?hg (N:=24) ?hd (xs:=([]:List Int)) (inner:=[]) (ok:=fun _=>True) (okp:=fun _=>True) ?hr ?hp (fun _ hk=>hk) trivial (Below.refl _ _) (Nat.le_refl _) (by simp) ?_;(case hd=>rfl);(case hg=>rfl);(case hr=>exact hrT_);(case hp=>exact (Reps.none _ _));intro v770 w15 ho16 hb hg_ hnew_;clear hg_ hnew_;(first|rw [← Ny769.out] at ho16|(simp only [Int.reduceToNat] at ho16;rw [← Ny769.out] at ho16));have HO771:=Aside0.mk (Kd.R_lower ho16 (below_size (h_HB HB.out)));replace BK762:=sBK_ BK762.out hb;replace BK767:=sBK_ BK767.out hb;replace HB:=s_HB HB.out hb;clear hb ho16))
 go_loopg [8,9] kj3 (fun kq v8 v9 w'=>∃ (x8_2:List Int) (x9_2:Int),v9=.int .i64 x9_2∧Aside0 (spec_FromCircuits.l0 kq a0 l1 x8_2 x9_2=some (r1,r2,r3))∧Aside0 (kq≤kj3)∧Aside0 (Kd.R (Kd.int .i64) 3 w' w.heap.size (fun _=>True) v8 x8_2)∧Aside0 (w'.heap[gb762]?=some (.cells #[.int .i64 0,(.slice none 0 0)] 26 (0,0)))∧Aside0 (w'.heap[gb767]?=some (.cells #[.int .i64 t763,.int .i64 t764,.int .i64 t765] 32 (0,0)))∧Aside0 (Below w.heap.size w w'))
 case atStart=>exact ⟨(y769),(0),sT_,H',⟨Nat.le_refl _⟩,⟨kRC_ HO771.out⟩,⟨bkC_ BK762.out⟩,⟨bkC_ BK767.out⟩,⟨h_HB HB.out⟩⟩
 case round =>
 clear H'
 try clear c1
 try clear p2
 try clear c3
 try clear c8
 try clear c9
 try clear c11
 try clear c12
 try clear c13
 try clear hcz14_0
 try clear hcz14_1
 try clear hcz9_0
 try clear hcz9_1
 try clear hcz9_2
 try clear hfz14_0
 try clear hfz14_1
 try clear hfz9_0
 try clear hfz9_1
 try clear hfz9_2
 try clear p2
 obtain ⟨x8_2,x9_2,rfl,HA,HK2,HO_8,BK762,BK767,HB⟩:=hrel
 cases gk with
 | zero=>exact absurd HA.out (by simp [spec_FromCircuits.l0])
 | succ k2 =>
 have H:=HA.out
 clear HA
 simp only [spec_FromCircuits.l0] at H
 replace H:=bnd_ H;obtain ⟨t772,A17,H⟩:=H
 replace H:=gsn_ H;rcases H with ⟨c18b0,H⟩|⟨c18b0,H⟩
 ·replace H:=bnd_ H;obtain ⟨t777,A23,H⟩:=H
  simp only [Option.some.injEq,Prod.mk.injEq] at H
  obtain ⟨rfl,rfl,rfl⟩:=H
  go_wp2_with (first|((with_reducible refine gate_callee (f:=42) rfl ?_);refine goesL_ (some 27) rfl rfl Tryz.func42 krT_ rfl #[.int .i64 a0] rfl agT_ ?_;(with_reducible refine (spec_FullSet.calls a0 t772 _ A17.out).mono ?_);rintro e w' ⟨rfl,⟨nd,rfl⟩⟩;refine ⟨_,rfl,?_⟩;(try (rw [drewN_self wr];generalize hq_:World.drewN wr _=wr;replace HO_8:Aside0 (Kd.R (Kd.int .i64) 3 wr w.heap.size (fun _=>True) u8 x8_2):=⟨by rw [← hq_];exact (kRC_ HO_8.out)⟩;replace BK762:Aside0 (wr.heap[gb762]?=some (.cells #[.int .i64 0,.slice none 0 0] 26 (0,0))):=⟨by rw [← hq_];exact (bkC_ BK762.out)⟩;replace BK767:Aside0 (wr.heap[gb767]?=some (.cells #[.int .i64 t763,.int .i64 t764,.int .i64 t765] 32 (0,0))):=⟨by rw [← hq_];exact (bkC_ BK767.out)⟩;replace HB:Aside0 (Below w.heap.size w wr):=⟨by rw [← hq_];exact (h_HB HB.out)⟩;clear hq_;have hcuz24_gb762_0:wr.cell? ⟨gb762,0,none⟩=some (.int .i64 0):=(blk_cell BK762.out 0).trans rfl;have hfuz24_gb762_0:=blk_frozen BK762.out 0;have hcuz24_gb762_1:wr.cell? ⟨gb762,1,none⟩=some (.slice none 0 0):=(blk_cell BK762.out 1).trans rfl;have hfuz24_gb762_1:=blk_frozen BK762.out 1;have hcuz24_gb767_0:wr.cell? ⟨gb767,0,none⟩=some (.int .i64 t763):=(blk_cell BK767.out 0).trans rfl;have hfuz24_gb767_0:=blk_frozen BK767.out 0;have hcuz24_gb767_1:wr.cell? ⟨gb767,1,none⟩=some (.int .i64 t764):=(blk_cell BK767.out 1).trans rfl;have hfuz24_gb767_1:=blk_frozen BK767.out 1;have hcuz24_gb767_2:wr.cell? ⟨gb767,2,none⟩=some (.int .i64 t765):=(blk_cell BK767.out 2).trans rfl;have hfuz24_gb767_2:=blk_frozen BK767.out 2));obtain ⟨Ao25,co25,eo25⟩:=Kd.R_slice HO_8.out;subst eo25)|((with_reducible refine gate_callee (f:=44) rfl ?_);refine goesL_ (some 41) rfl rfl Tryz.func44 krT_ rfl #[.slice Ao25 x8_2.length co25] rfl agT_ ?_;(with_reducible refine (spec_MaximalSets.calls k2 _ _ x8_2 t777 _ ?side1 ?side2 A23.out).mono ?_);(case side1=>repeat (first|exact (Kd.R_reads' HO_8.out).2.2|(with_reducible refine Kd.C_alloc ?_ _)|(with_reducible refine Kd.C_drewN ?_ _)|(with_reducible refine Kd.C_drew ?_)));(case side2=>exact (Kd.R_reads' HO_8.out).2.1);rintro e w26 ⟨v778,rfl,ho0,hb⟩;refine ⟨_,rfl,?_⟩;have HO779:=Aside0.mk (Kd.R_lower (Kd.R_new' ho0 (Kd.R_lt (kRC_ HO_8.out))) (below_size (h_HB HB.out)));replace HO_8:=Aside0.mk (Kd.R_elder' (kRC_ HO_8.out) (Kd.R_base ho0) hb);replace BK762:=sBK_ BK762.out hb;replace BK767:=sBK_ BK767.out hb;replace HB:=s_HB HB.out hb;(try clear hb);(try clear ho0);obtain ⟨Ao27,co27,eo27⟩:=Kd.R_slice HO779.out;subst eo27;have hnb28:=NB762_767.out;have hnc28:=NB767_762.out;obtain ⟨hcz29_0,hcz29_1,hfz29_0,hfz29_1⟩:=bz2_ BK762.out))
  refine bodyPost_ret (results_ct rfl _ _ gb762 26 #[.int .i64 a0,.slice Ao27 t777.length co27] (0,0) _ rfl (by (with_reducible repeat (first|refine blk_drewN ?_ _|refine blk_drew ?_|refine blk_alloc ?_ _));exact bp2_ (bkC_ BK762.out)) Tryz.underlying26 rfl krT_) rfl ?_
  exact ⟨_,eT_,by (with_reducible repeat (first|apply Kd.R_alloc|apply Kd.R_drewN|apply Kd.R_drew));exact Kd.R_mono (Kd.R_far (p:=⟨gb762,1,none⟩) (Kd.R_far (p:=⟨gb762,0,none⟩) (Kd.R_types HO779.out BK762.out (by decide)) (fun _ hk=>hk.2) (.int .i64 a0)) (fun _ hk=>hk.2) (.slice Ao27 t777.length co27)) (fun _ hk=>trivial),h_HB HB.out⟩
 replace H:=bnd_ H;obtain ⟨t773,A19,H⟩:=H
 replace H:=gst_ H;rcases H with ⟨rfl,H⟩|⟨rfl,H⟩
 ·have H':=Aside0.mk H
  clear H
  go_wp2_with (first|((with_reducible refine gate_callee (f:=42) rfl ?_);refine goesL_ (some 27) rfl rfl Tryz.func42 krT_ rfl #[.int .i64 a0] rfl agT_ ?_;(with_reducible refine (spec_FullSet.calls a0 t772 _ A17.out).mono ?_);rintro e w' ⟨rfl,⟨nd,rfl⟩⟩;refine ⟨_,rfl,?_⟩)|((with_reducible refine gate_callee (f:=43) rfl ?_);refine goesL_ (some 33) rfl rfl Tryz.func43 krT_ rfl #[.slice A1 l1.length c1,.int .i64 x9_2] rfl agT_ ?_;(with_reducible refine (spec_l6Within.calls k2 _ _ l1 x9_2 true _ ?side1 ?side2 A19.out).mono ?_);(case side1=>repeat (first|exact (Kd.C_below HR1.out (h_HB HB.out))|(with_reducible refine Kd.C_alloc ?_ _)|(with_reducible refine Kd.C_drewN ?_ _)|(with_reducible refine Kd.C_drew ?_)));(case side2=>exact HC1.out);rintro e w' ⟨rfl,⟨nd,rfl⟩⟩;refine ⟨_,rfl,?_⟩))
  go_roundg k2
  case measure=>have:=HJ3.out;have:=HK2.out;omega
  case rel=>exact ⟨(x8_2),(wrap64 (x9_2+1)),sT_,H',⟨by have:=HJ3.out;have:=HK2.out;omega⟩,⟨kRC_ HO_8.out⟩,⟨bkC_ BK762.out⟩,⟨bkC_ BK767.out⟩,⟨h_HB HB.out⟩⟩
 replace H:=gsl_ H;obtain ⟨LMc21,H⟩:=H
 obtain ⟨y774,hy774⟩:∃ y_:List Int,y_=(x8_2++[x9_2]):=⟨_,rfl⟩
 rw [← hy774] at H
 have Ny774:=Aside0.mk hy774
 clear hy774
 have H':=Aside0.mk H
 clear H
 go_wp2_with (first|((with_reducible refine gate_callee (f:=42) rfl ?_);refine goesL_ (some 27) rfl rfl Tryz.func42 krT_ rfl #[.int .i64 a0] rfl agT_ ?_;(with_reducible refine (spec_FullSet.calls a0 t772 _ A17.out).mono ?_);rintro e w' ⟨rfl,⟨nd,rfl⟩⟩;refine ⟨_,rfl,?_⟩)|((with_reducible refine gate_callee (f:=43) rfl ?_);refine goesL_ (some 33) rfl rfl Tryz.func43 krT_ rfl #[.slice A1 l1.length c1,.int .i64 x9_2] rfl agT_ ?_;(with_reducible refine (spec_l6Within.calls k2 _ _ l1 x9_2 false _ ?side1 ?side2 A19.out).mono ?_);(case side1=>repeat (first|exact (Kd.C_below HR1.out (h_HB HB.out))|(with_reducible refine Kd.C_alloc ?_ _)|(with_reducible refine Kd.C_drewN ?_ _)|(with_reducible refine Kd.C_drew ?_)));(case side2=>exact HC1.out);rintro e w' ⟨rfl,⟨nd,rfl⟩⟩;refine ⟨_,rfl,?_⟩)|((with_reducible refine gate_builtin (b:=.append) (xs:=#[.tmp 35,.tmp 37]) rfl ?_);at_builtin;refine Kd.R_append (Kd.int .i64) (w0:=w) w.heap.size rfl (.tmp 35) (.tmp 37) 24 3 (.int .i64 0) 8 rfl Tryz.underlying24 info3 rfl (by decide) (by omega) u8 x8_2 x9_2 [.int .i64 x9_2] (fun _=>True) (fun _=>False) rfl rfl ?aP (fun _ hk=>hk.elim) ?aF ?aO ?aB ?aS ?aL ?_;(case aP=>exact rfl);(case aB=>exact (h_HB HB.out));(case aF=>exact (fun _ _=>trivial));(case aO=>exact (kRC_ HO_8.out));(case aS=>exact (below_size (h_HB HB.out)));(case aL=>have:=LMc21.out;omega);intro v775 w22 ho hb hg hat;rw [← Ny774.out] at ho;replace BK762:=Aside0.mk (blk_grown (bkC_ BK762.out) hg (Kd.R_ne HO_8.out BK762.out (by decide)));replace BK767:=Aside0.mk (blk_grown (bkC_ BK767.out) hg (Kd.R_ne HO_8.out BK767.out (by decide)));replace HB:=Aside0.mk (hb);have HO776:=Aside0.mk (ho);clear HO_8;clear ho hb hg hat))
 go_roundg k2
 case measure=>have:=HJ3.out;have:=HK2.out;omega
 case rel=>exact ⟨(y774),(wrap64 (x9_2+1)),sT_,H',⟨by have:=HJ3.out;have:=HK2.out;omega⟩,⟨kRC_ HO776.out⟩,⟨bkC_ BK762.out⟩,⟨bkC_ BK767.out⟩,⟨h_HB HB.out⟩⟩
def spec_DrawCircuitOf.j0:Nat→Int→List Int→Int→Int→Int→List Int→Option (Int × List Int × Int × Int)
 | 0,_,_,_,_,_,_=>none
 | k+1,x7,x785000,x785001,x785002,x792000,x792001=>(spec_l1Once.f x785000 x785001 x785002 12).bind fun bt802=>(if bt802.1=true then ((spec_l4Bent.f k x785000 bt802.2.1 bt802.2.2 5).bind fun bt805=>((spec_l1Below.f x785000 bt805.2.2.1 bt805.2.2.2 8).bind fun bt811=>(some (bt805.1,bt805.2.1,x7,wrap64 (bt811.1-1))))) else ((spec_l1Below.f x785000 bt802.2.1 bt802.2.2 8).bind fun bt814=>(some (x792000,x792001,x7,wrap64 (bt814.1-1)))))
def spec_DrawCircuitOf.f (k:Nat) (l0:List Int):Option (Int × List Int × Int × Int):=(spec_l1New.f k l0).bind fun bt781=>((spec_l4Draw.f k bt781.1 bt781.2.1 bt781.2.2 6).bind fun bt785=>((spec_l1Below.f bt781.1 bt785.2.2.1 bt785.2.2.2 (bt785.2.1.length:Int)).bind fun bt792=>(if 0≤bt792.1 then (if bt792.1<(bt785.2.1.length:Int) then ((spec_l1Once.f bt781.1 bt792.2.1 bt792.2.2 10).bind fun bt796=>(if bt796.1=true then ((spec_l2Bent.f bt781.1 bt796.2.1 bt796.2.2).bind fun bt799=>(spec_DrawCircuitOf.j0 k bt799.1 bt781.1 bt799.2.1 bt799.2.2 bt785.1 bt785.2.1)) else (spec_DrawCircuitOf.j0 k (rd bt785.2.1 bt792.1) bt781.1 bt796.2.1 bt796.2.2 bt785.1 bt785.2.1))) else (none)) else (none))))
def spec_DrawCircuitOf.T3:Bool × List (List Nat × List Nat):=(true,[([],[]),([0],[0]),([],[]),([],[]),([3],[3]),([4],[4]),([2,5],[2,5]),([1,6],[1,6]),([7],[7]),([8,6,0,1,2,3,4,5,6,7,8],[8])])
def spec_DrawCircuitOf.B3:List Nat:=[0,1,0,0,8,24,60,127,255,511]
theorem spec_DrawCircuitOf.tab3:rtab .any (opsOf Tryz.f12 3)=spec_DrawCircuitOf.T3:=by kernel_rfl
theorem spec_DrawCircuitOf.bits3:waitsOk spec_DrawCircuitOf.T3.2 spec_DrawCircuitOf.B3=true:=by kernel_rfl
def spec_DrawCircuitOf.T8:Bool × List (List Nat × List Nat):=(true,[([],[]),([],[]),([],[]),([2],[2]),([3],[3]),([0,3,0],[0]),([1,5,0,1,5],[1]),([4,6,0,1,2,3,4,5,6],[4])])
def spec_DrawCircuitOf.B8:List Nat:=[0,0,0,4,12,13,47,127]
theorem spec_DrawCircuitOf.tab8:rtab .any (opsOf Tryz.f12 8)=spec_DrawCircuitOf.T8:=by kernel_rfl
theorem spec_DrawCircuitOf.bits8:waitsOk spec_DrawCircuitOf.T8.2 spec_DrawCircuitOf.B8=true:=by kernel_rfl
theorem spec_DrawCircuitOf.calls (k:Nat) (A0:Option Addr) (c0:Nat) (l0:List Int) (r1:Int) (r2:List Int) (r3:Int) (r4:Int) (w:World) (hr0:Kd.C (Kd.int .u8) w A0 l0.length l0) (hc0:l0.length≤c0) (h:spec_DrawCircuitOf.f k l0=some (r1,r2,r3,r4)) :
    Calls Tryz.prog 12 #[.slice A0 l0.length c0] w fun e w'=>∃ v1_:Value,e=.returned (.tuple #[.agg #[.int .i64 r1,v1_],.int .i64 r3,.int .i64 r4])∧Kd.R (Kd.int .i64) 3 w' w.heap.size (fun _=>True) v1_ r2∧Below w.heap.size w w':=by
 have hu26:=Tryz.underlying26
 have HR0:=Aside0.mk hr0
 have HC0:=Aside0.mk hc0
 clear hr0 hc0
 have HB:=Aside0.mk (Below.refl w.heap.size w)
 unfold spec_DrawCircuitOf.f at h
 have H:=h
 clear h
 replace H:=bnd_ H;obtain ⟨⟨t781,t782,t783⟩,A2,H⟩:=H;dsimp only at H
 replace H:=bnd_ H;obtain ⟨⟨t785,t786,t789,t790⟩,A3,H⟩:=H;dsimp only at H
 replace H:=bnd_ H;obtain ⟨⟨t792,t793,t794⟩,A4,H⟩:=H;dsimp only at H
 replace H:=gsm_ H;obtain ⟨c5b0,H⟩:=H
 replace H:=gsm_ H;obtain ⟨c6b0,H⟩:=H
 replace H:=bnd_ H;obtain ⟨⟨t796,t797,t798⟩,A7,H⟩:=H;dsimp only at H
 have HC8:=Aside0.mk H
 clear H
 go_enter Tryz.func12,Tryz.ntmps12
 try go_wp2_with (first|((with_reducible refine gate_dst (N:=2) rfl ?_);refine bx_ (N:=2) (cs:=#[.int .i64 0,.slice none 0 0]) (t:=26) ?_;intro gb780 hg w9 hbox hb;have BK780:=Aside0.mk (hbox);have GW780:=Aside0.mk (gw_ hg (h_HB HB.out));have GE780:=GW780;replace HB:=s_HB HB.out hb;clear hb hbox hg)|((with_reducible refine gate_callee (f:=24) rfl ?_);refine goesL_ (some 9) rfl rfl Tryz.func24 krT_ rfl #[.slice A0 l0.length c0] rfl agT_ ?_;(with_reducible refine (spec_l1New.calls k _ _ l0 t781 t782 t783 w _ ?side1 ?side2 ?side3 A2.out).mono ?_);(case side1=>exact h_HB HB.out);(case side2=>exact HR0.out);(case side3=>exact HC0.out);rintro e w10 ⟨g784,rfl,hi,hb,hb2⟩;refine ⟨_,rfl,?_⟩;replace HB:=Aside0.mk (hb);have HI784:=Aside0.mk (hi);have NB784_780:=Aside0.mk (IsS68.ne_blk hi (blk_below (bkC_ BK780.out) hb2) (by decide));have NB780_784:=Aside0.mk (Ne.symm (IsS68.ne_blk hi (blk_below (bkC_ BK780.out) hb2) (by decide)));replace BK780:=Aside0.mk (blk_below (bkC_ BK780.out) hb2);(try clear hb);(try clear hb2);(try clear hi))|((with_reducible refine gate_callee (f:=45) rfl ?_);refine goesL_ (some 11) rfl rfl Tryz.func45 krT_ rfl #[.pointer (some ⟨g784,0,none⟩),.int .i64 6] rfl agT_ ?_;(with_reducible refine (spec_l4Draw.calls k g784 t781 t782 t783 6 t785 t786 t789 t790 w _ ?side1 ?side2 A3.out).mono ?_);(case side1=>exact h_HI784 HI784.out);(case side2=>exact h_HB HB.out);rintro e w11 ⟨v787,rfl,ho0,hi,hb,hk⟩;refine ⟨_,rfl,?_⟩;replace BK780:=Aside0.mk (KeepBut.blk hk (bkC_ BK780.out) NB780_784.out (by simp));have HO788:=Aside0.mk (Kd.R_lower ho0 (below_size (h_HB HB.out)));replace HB:=Aside0.mk (hb);replace HI784:=Aside0.mk (hi);(try clear hb);(try clear hk);(try clear hi);(try clear ho0))|((with_reducible refine gate_dst (N:=6) rfl ?_);refine bx_ (N:=6) (cs:=#[.int .i64 0,.slice none 0 0]) (t:=26) ?_;intro gb791 hg w12 hbox hb;replace HO788:=Aside0.mk (Kd.R_below (kRC_ HO788.out) hb);have BK791:=Aside0.mk (hbox);have GW791:=Aside0.mk (gw_ hg (h_HB HB.out));have GE791:=GW791;replace HB:=s_HB HB.out hb;have NB780_791:=Aside0.mk (nbl_ hg (bkC_ BK780.out));have NB791_780:=Aside0.mk NB780_791.out.symm;replace BK780:=sBK_ BK780.out hb;have NB784_791:=Aside0.mk ((by rw [hg];exact Nat.ne_of_lt (IsS68.lt (show IsS68 w _ g784 t781 t789 t790 from h_HI784 HI784.out)):g784≠gb791));have NB791_784:=Aside0.mk ((by rw [hg];exact Nat.ne_of_gt (IsS68.lt (show IsS68 w _ g784 t781 t789 t790 from h_HI784 HI784.out)):gb791≠g784));replace HI784:=Aside0.mk (IsS68.below (h_HI784 HI784.out) hb);clear hb hbox hg;have hnb13:=NB791_780.out;have hnc13:=NB780_791.out;have hnb14:=NB791_784.out;have hnc14:=NB784_791.out;obtain ⟨hcz15_0,hcz15_1,hfz15_0,hfz15_1⟩:=bz2_ BK791.out;obtain ⟨Ao16,co16,eo16⟩:=Kd.R_slice HO788.out;subst eo16))
 have n0_:Aside0 (Kd.R (Kd.int .i64) 3 ((w12.setCell ⟨gb791,0,none⟩ (.int .i64 t785)).setCell ⟨gb791,1,none⟩ (.slice Ao16 t786.length co16)) w.heap.size (fun _=>True) (.slice Ao16 t786.length co16) t786):=⟨by (with_reducible repeat (first|apply Kd.R_alloc|apply Kd.R_drewN|apply Kd.R_drew));exact Kd.R_mono (Kd.R_far (p:=⟨gb791,1,none⟩) (Kd.R_far (p:=⟨gb791,0,none⟩) (Kd.R_types HO788.out BK791.out (by decide)) (fun _ hk=>hk.2) (.int .i64 t785)) (fun _ hk=>hk.2) (.slice Ao16 t786.length co16)) (fun _ hk=>trivial)⟩
 have n1_:Aside0 (((w12.setCell ⟨gb791,0,none⟩ (.int .i64 t785)).setCell ⟨gb791,1,none⟩ (.slice Ao16 t786.length co16)).heap[gb780]?=some (.cells #[.int .i64 0,.slice none 0 0] 26 (0,0))):=⟨bkC_ BK780.out⟩
 have n2_:Aside0 (((w12.setCell ⟨gb791,0,none⟩ (.int .i64 t785)).setCell ⟨gb791,1,none⟩ (.slice Ao16 t786.length co16)).heap[gb791]?=some (.cells #[.int .i64 t785,.slice Ao16 t786.length co16] 26 (0,0))):=⟨by (with_reducible repeat (first|refine blk_drewN ?_ _|refine blk_drew ?_|refine blk_alloc ?_ _));exact bp2_ (bkC_ BK791.out)⟩
 have n3_:Aside0 (IsS68 w ((w12.setCell ⟨gb791,0,none⟩ (.int .i64 t785)).setCell ⟨gb791,1,none⟩ (.slice Ao16 t786.length co16)) g784 t781 t789 t790):=⟨h_HI784 HI784.out⟩
 have n4_:Aside0 (Below w.heap.size w ((w12.setCell ⟨gb791,0,none⟩ (.int .i64 t785)).setCell ⟨gb791,1,none⟩ (.slice Ao16 t786.length co16))):=⟨h_HB HB.out⟩
 (try clear HO788)
 (try clear BK780)
 (try clear BK791)
 (try clear HI784)
 (try clear HB)
 generalize ((w12.setCell ⟨gb791,0,none⟩ (.int .i64 t785)).setCell ⟨gb791,1,none⟩ (.slice Ao16 t786.length co16))=w17 at n0_ n1_ n2_ n3_ n4_ ⊢
 have HO788:=n0_
 have BK780:=n1_
 have BK791:=n2_
 have HI784:=n3_
 have HB:=n4_
 clear n0_ n1_ n2_ n3_ n4_
 replace HO788:=Aside0.mk (Kd.R_drew HO788.out);replace BK780:=Aside0.mk (blk_drew BK780.out);replace BK791:=Aside0.mk (blk_drew BK791.out);replace HI784:=Aside0.mk (IsS68.drew HI784.out);replace HB:=Aside0.mk (below_drew1 HB.out)
 obtain ⟨ad795,e795,hx795_0,p795,q795⟩:=aiI_ (Kd.R_reads' HO788.out).2.2 t792
 cases e795
 refine start_ (n:=10) (S:=fun w'=>w'.cell? ⟨gb791,0,none⟩=some (.int .i64 t785)∧w'.cell? ⟨gb791,1,none⟩=some (.slice (some ad795) t786.length co16)∧w'.cell? (ad795.add (t792).toNat)=some (.int .i64 (rd t786 t792))) (ds:=[]) #[F_,F_,F_,F_,F_,F_,F_,F_,F_,F_] krT_ rfl rfl ⟨(blk_cell BK791.out 0).trans rfl,(blk_cell BK791.out 1).trans rfl,hx795_0⟩ (fun hHeld=>?_);refine with_tabW spec_DrawCircuitOf.tab3 spec_DrawCircuitOf.bits3 (fun HT_ HW_=>?_)
 generalize w17.drew=w18 at HO788 BK780 BK791 HI784 HB hx795_0 hHeld ⊢
 refine pu_ 0 (some 12) (bm_ 10 1) rfl rfl HT_.out ?_
 refine pu_ 2 (some 14) (bm_ 10 5) rfl rfl HT_.out ?_
 refine pu_ 3 (some 15) (bm_ 10 13) rfl rfl HT_.out ?_
 refine take_ (i:=1) (N:=some 13) (v:=?_) (a':=?_) (bm_ 10 15) rfl rfl (take_ofW HT_.out HW_.out krT_) (fun _ _ _ h=>h) (Or.inl ⟨by rfl,?_⟩) hHeld ?_ ?_
 rotate_left
 ·rintro w' ⟨s0,s1,s2⟩
  go_simp
  with_reducible rfl
 rotate_left;exact apT_
 refine take_ (i:=4) (N:=some 16) (v:=?_) (a':=?_) (bm_ 10 31) rfl rfl (take_ofW HT_.out HW_.out krT_) (fun _ _ _ h=>h) (Or.inl ⟨by rfl,?_⟩) hHeld ?_ ?_
 rotate_left
 ·rintro w' ⟨s0,s1,s2⟩
  go_simp
  with_reducible rfl
 rotate_left;exact apT_
 refine pu_ 5 (some 17) (bm_ 10 63) rfl rfl HT_.out ?_
 refine one_ (i:=6) (N:=some 18) (bm_ 10 127) rfl rfl (one_of HT_.out krT_) (by decide) (fun K hK=>?_)
 refine goes_ Tryz.func46 krT_ rfl #[.pointer (some ⟨g784,0,none⟩),.int .i64 (t786.length:Int)] (by rfl) rfl rfl agT_ ?_
 with_reducible refine (spec_l1Below.calls g784 t781 t789 t790 (t786.length:Int) t792 t793 t794 w _ ?side1 ?side2 A4.out).mono ?_
 (case side1=>exact h_HI784 HI784.out)
 (case side2=>exact h_HB HB.out)
 rintro e w19 ⟨rfl,hi,hb,hk⟩
 have HS2_:=keep_cell hk (hHeld.2.2) (by first|(rw [add_block];exact Kd.own_blk (IsS68.own_ne HI784.out HO788.out (by decide)))|(show (Addr.add _ _).block≠_;rw [add_block];exact Kd.own_blk (IsS68.own_ne HI784.out HO788.out (by decide)))|exact Kd.own_blk (IsS68.own_ne HI784.out HO788.out (by decide)))
 refine ⟨_,rfl,?_⟩
 replace BK780:=Aside0.mk (KeepBut.blk hk (bkC_ BK780.out) NB780_784.out (by simp));replace HO788:=Aside0.mk (Kd.R_mono (Kd.R_keep (IsS68.apart (show IsS68 w _ g784 t781 t789 t790 from h_HI784 HI784.out) (kRC_ HO788.out) (by decide)) hk (fun _ h=>h.2)) (fun _ h=>h.1));replace BK791:=Aside0.mk (KeepBut.blk hk (bkC_ BK791.out) NB791_784.out (by simp));replace HB:=Aside0.mk (hb);replace HI784:=Aside0.mk (hi)
 (try clear hb)
 (try clear hb2)
 (try clear hk)
 (try clear hi)
 refine hK.out _ _ ⟨(blk_cell BK791.out 0).trans rfl,(blk_cell BK791.out 1).trans rfl,HS2_⟩ (fun hHeld=>?_)
 clear hK K
 refine norm_ (a':=?_) ?_ ?_
 rotate_left
 ·show Act.put _ (some 18) _=_
  simp only [Act.put,List.setIfInBounds_toArray,List.set_cons_zero,List.set_cons_succ,i64_w,i32_w]
  rfl
 refine pu_ 7 (some 19) (bm_ 10 255) rfl rfl HT_.out ?_
 refine take_ (i:=8) (N:=some 20) (v:=?_) (a':=?_) (bm_ 10 511) rfl rfl (take_ofW HT_.out HW_.out krT_) (fun _ _ _ h=>h) (Or.inl ⟨by rfl,?_⟩) hHeld ?_ ?_
 rotate_left
 ·rintro w' ⟨s0,s1,s2⟩
  go_simp
  with_reducible rfl
 rotate_left;exact apT_
 refine pu_ 9 (some 7) (bm_ 10 1023) rfl rfl HT_.out ?_
 refine done_ (done_of HT_.out krT_) ?_
 go_upto_if 22 with (first|((with_reducible refine gate_callee (f:=47) rfl ?_);refine goesL_ (some 22) rfl rfl Tryz.func47 krT_ rfl #[.pointer (some ⟨g784,0,none⟩),.int .i64 10] rfl agT_ ?_;(with_reducible refine (spec_l1Once.calls g784 t781 t793 t794 10 t796 t797 t798 w _ ?side1 ?side2 A7.out).mono ?_);(case side1=>exact h_HI784 HI784.out);(case side2=>exact h_HB HB.out);rintro e w20 ⟨rfl,hi,hb,hk⟩;refine ⟨_,rfl,?_⟩;replace BK780:=Aside0.mk (KeepBut.blk hk (bkC_ BK780.out) NB780_784.out (by simp));replace HO788:=Aside0.mk (Kd.R_mono (Kd.R_keep (IsS68.apart (show IsS68 w _ g784 t781 t793 t794 from h_HI784 HI784.out) (kRC_ HO788.out) (by decide)) hk (fun _ h=>h.2)) (fun _ h=>h.1));replace BK791:=Aside0.mk (KeepBut.blk hk (bkC_ BK791.out) NB791_784.out (by simp));replace HB:=Aside0.mk (hb);replace HI784:=Aside0.mk (hi);(try clear hb);(try clear hk);(try clear hi)))
 (try simp only [Act.put,List.setIfInBounds_toArray,List.set_cons_zero,List.set_cons_succ])
 go_cut [7] (fun v7 wc=>∃ (kq:Nat) (x7_7:Int) (x785001_7:Int) (x785002_7:Int),v7=.int .i64 x7_7∧Aside0 (spec_DrawCircuitOf.j0 kq x7_7 t781 x785001_7 x785002_7 t785 t786=some (r1,r2,r3,r4))∧Aside0 (kq≤k)∧Aside0 (Kd.R (Kd.int .i64) 3 wc w.heap.size (fun _=>True) (.slice (some ad795) t786.length co16) t786)∧Aside0 (wc.heap[gb780]?=some (.cells #[.int .i64 0,(.slice none 0 0)] 26 (0,0)))∧Aside0 (wc.heap[gb791]?=some (.cells #[.int .i64 t785,(.slice (some ad795) t786.length co16)] 26 (0,0)))∧Aside0 (IsS68 w wc g784 t781 x785001_7 x785002_7)∧Aside0 (Below w.heap.size w wc))
 case first =>
  have H:=HC8.out
  clear HC8
  replace H:=(gst_ H).symm;rcases H with ⟨rfl,H⟩|⟨rfl,H⟩
  ·have H':=Aside0.mk H
   clear H
   go_wp2
   go_meet
   case rel=>exact ⟨_,(rd t786 t792),(t797),(t798),sT_,H',⟨by first|omega|exact Nat.le_refl _⟩,⟨kRC_ HO788.out⟩,⟨bkC_ BK780.out⟩,⟨bkC_ BK791.out⟩,⟨h_HI784 HI784.out⟩,⟨h_HB HB.out⟩⟩
  replace H:=bnd_ H;obtain ⟨⟨t799,t800,t801⟩,A22,H⟩:=H;dsimp only at H
  have H':=Aside0.mk H
  clear H
  go_wp2_with (first|((with_reducible refine gate_callee (f:=48) rfl ?_);refine goesL_ (some 24) rfl rfl Tryz.func48 krT_ rfl #[.pointer (some ⟨g784,0,none⟩)] rfl agT_ ?_;(with_reducible refine (spec_l2Bent.calls g784 t781 t797 t798 t799 t800 t801 w _ ?side1 ?side2 A22.out).mono ?_);(case side1=>exact h_HI784 HI784.out);(case side2=>exact h_HB HB.out);rintro e w23 ⟨rfl,hi,hb,hk⟩;refine ⟨_,rfl,?_⟩;replace BK780:=Aside0.mk (KeepBut.blk hk (bkC_ BK780.out) NB780_784.out (by simp));replace HO788:=Aside0.mk (Kd.R_mono (Kd.R_keep (IsS68.apart (show IsS68 w _ g784 t781 t797 t798 from h_HI784 HI784.out) (kRC_ HO788.out) (by decide)) hk (fun _ h=>h.2)) (fun _ h=>h.1));replace BK791:=Aside0.mk (KeepBut.blk hk (bkC_ BK791.out) NB791_784.out (by simp));replace HB:=Aside0.mk (hb);replace HI784:=Aside0.mk (hi);(try clear hb);(try clear hk);(try clear hi)))
  go_meet
  case rel=>exact ⟨_,(t799),(t800),(t801),sT_,H',⟨by first|omega|exact Nat.le_refl _⟩,⟨kRC_ HO788.out⟩,⟨bkC_ BK780.out⟩,⟨bkC_ BK791.out⟩,⟨h_HI784 HI784.out⟩,⟨h_HB HB.out⟩⟩
 case rest =>
 clear HC8
 try clear c1
 try clear c2
 try clear p2
 try clear c4
 try clear c5
 try clear c5b0
 try clear c6
 try clear c6b0
 try clear p7
 try clear q7
 try clear hx7
 try clear c12
 try clear c13
 try clear c14
 try clear c21
 try clear hcz15_0
 try clear hcz15_1
 try clear hfz15_0
 try clear hfz15_1
 try clear hx795_0
 try clear p795
 try clear q795
 obtain ⟨kq,x7_7,x785001_7,x785002_7,rfl,HA,HJ7,HO_792001,BK780,BK791,HI784,HB⟩:=hcut
 cases kq with
 | zero=>exact absurd HA.out (by simp [spec_DrawCircuitOf.j0])
 | succ kj7 =>
 have H:=HA.out
 clear HA
 simp only [spec_DrawCircuitOf.j0] at H
 replace H:=bnd_ H;obtain ⟨⟨t802,t803,t804⟩,A24,H⟩:=H;dsimp only at H
 replace H:=(gst_ H).symm;rcases H with ⟨rfl,H⟩|⟨rfl,H⟩
 ·replace H:=bnd_ H;obtain ⟨⟨t814,t815,t816⟩,A39,H⟩:=H;dsimp only at H
  simp only [Option.some.injEq,Prod.mk.injEq] at H
  obtain ⟨rfl,rfl,rfl,rfl⟩:=H
  try go_wp2_with (first|((with_reducible refine gate_callee (f:=47) rfl ?_);refine goesL_ (some 26) rfl rfl Tryz.func47 krT_ rfl #[.pointer (some ⟨g784,0,none⟩),.int .i64 12] rfl agT_ ?_;(with_reducible refine (spec_l1Once.calls g784 t781 x785001_7 x785002_7 12 false t803 t804 w _ ?side1 ?side2 A24.out).mono ?_);(case side1=>exact h_HI784 HI784.out);(case side2=>exact h_HB HB.out);rintro e w40 ⟨rfl,hi,hb,hk⟩;refine ⟨_,rfl,?_⟩;replace HO_792001:=Aside0.mk (Kd.R_mono (Kd.R_keep (IsS68.apart (show IsS68 w _ g784 t781 x785001_7 x785002_7 from h_HI784 HI784.out) (kRC_ HO_792001.out) (by decide)) hk (fun _ h=>h.2)) (fun _ h=>h.1));replace BK780:=Aside0.mk (KeepBut.blk hk (bkC_ BK780.out) NB780_784.out (by simp));replace BK791:=Aside0.mk (KeepBut.blk hk (bkC_ BK791.out) NB791_784.out (by simp));replace HB:=Aside0.mk (hb);replace HI784:=Aside0.mk (hi);(try clear hb);(try clear hk);(try clear hi)))
  replace HO_792001:=Aside0.mk (Kd.R_drew HO_792001.out);replace BK780:=Aside0.mk (blk_drew BK780.out);replace BK791:=Aside0.mk (blk_drew BK791.out);replace HI784:=Aside0.mk (IsS68.drew HI784.out);replace HB:=Aside0.mk (below_drew1 HB.out)
  refine start_ (n:=8) (S:=fun w'=>w'.cell? ⟨gb791,0,none⟩=some (.int .i64 t785)∧w'.cell? ⟨gb791,1,none⟩=some (.slice (some ad795) t786.length co16)) (ds:=[]) #[F_,F_,F_,F_,F_,F_,F_,F_] krT_ rfl rfl ⟨(blk_cell BK791.out 0).trans rfl,(blk_cell BK791.out 1).trans rfl⟩ (fun hHeld=>?_);refine with_tabW spec_DrawCircuitOf.tab8 spec_DrawCircuitOf.bits8 (fun HT_ HW_=>?_)
  generalize w40.drew=w41 at HO_792001 BK780 BK791 HI784 HB hHeld ⊢
  refine pu_ 1 (some 30) (bm_ 8 2) rfl rfl HT_.out ?_
  refine pu_ 2 (some 31) (bm_ 8 6) rfl rfl HT_.out ?_
  refine take_ (i:=0) (N:=some 29) (v:=?_) (a':=?_) (bm_ 8 7) rfl rfl (take_ofW HT_.out HW_.out krT_) (fun _ _ _ h=>h) (Or.inl ⟨by rfl,?_⟩) hHeld ?_ ?_
  rotate_left
  ·rintro w' ⟨s0,s1⟩
   go_simp
   with_reducible rfl
  rotate_left;exact apT_
  refine one_ (i:=3) (N:=some 32) (bm_ 8 15) rfl rfl (one_of HT_.out krT_) (by decide) (fun K hK=>?_)
  refine goes_ Tryz.func46 krT_ rfl #[.pointer (some ⟨g784,0,none⟩),.int .i64 8] (by rfl) rfl rfl agT_ ?_
  with_reducible refine (spec_l1Below.calls g784 t781 t803 t804 8 t814 t815 t816 w _ ?side1 ?side2 A39.out).mono ?_
  (case side1=>exact h_HI784 HI784.out)
  (case side2=>exact h_HB HB.out)
  rintro e w42 ⟨rfl,hi,hb,hk⟩
  refine ⟨_,rfl,?_⟩
  replace HO_792001:=Aside0.mk (Kd.R_mono (Kd.R_keep (IsS68.apart (show IsS68 w _ g784 t781 t803 t804 from h_HI784 HI784.out) (kRC_ HO_792001.out) (by decide)) hk (fun _ h=>h.2)) (fun _ h=>h.1));replace BK780:=Aside0.mk (KeepBut.blk hk (bkC_ BK780.out) NB780_784.out (by simp));replace BK791:=Aside0.mk (KeepBut.blk hk (bkC_ BK791.out) NB791_784.out (by simp));replace HB:=Aside0.mk (hb);replace HI784:=Aside0.mk (hi)
  (try clear hb)
  (try clear hb2)
  (try clear hk)
  (try clear hi)
  refine hK.out _ _ ⟨(blk_cell BK791.out 0).trans rfl,(blk_cell BK791.out 1).trans rfl⟩ (fun hHeld=>?_)
  clear hK K
  refine norm_ (a':=?_) ?_ ?_
  rotate_left
  ·show Act.put _ (some 32) _=_
   simp only [Act.put,List.setIfInBounds_toArray,List.set_cons_zero,List.set_cons_succ,i64_w,i32_w]
   rfl
  refine pu_ 4 (some 33) (bm_ 8 31) rfl rfl HT_.out ?_
  refine one_ (i:=5) (N:=none) (bm_ 8 63) rfl rfl (one_of HT_.out krT_) (by decide) (fun K hK=>?_)
  have hs43:w42.cell? ⟨gb780,0,none⟩=some (.int .i64 0):=(blk_cell BK780.out 0).trans rfl
  have hfs43:=blk_frozen BK780.out 0
  have hns43_1:=NB791_780.out
  have hms43_1:=NB780_791.out
  have hs44:w42.cell? ⟨gb780,1,none⟩=some (.slice none 0 0):=(blk_cell BK780.out 1).trans rfl
  have hfs44:=blk_frozen BK780.out 1
  have hns44_1:=NB791_780.out
  have hms44_1:=NB780_791.out
  refine skip_ (w1:=?_) (by rfl) rfl ?_ ?_
  rotate_left
  ·go_simp
   rfl
  refine hK.out _ _ ⟨((cell_far (p:=⟨gb780,_,none⟩) NB791_780.out _).trans (((cell_far (p:=⟨gb780,_,none⟩) NB791_780.out _).trans (hHeld.1)))),((cell_far (p:=⟨gb780,_,none⟩) NB791_780.out _).trans (((cell_far (p:=⟨gb780,_,none⟩) NB791_780.out _).trans (hHeld.2))))⟩ (fun hHeld=>?_)
  clear hK K
  refine pu_ 6 (some 3) (bm_ 8 127) rfl rfl HT_.out ?_
  refine pu_ 7 (some 4) (bm_ 8 255) rfl rfl HT_.out ?_
  refine done_ (done_of HT_.out krT_) ?_
  try go_wp2
  refine bodyPost_ret (results_ctt rfl _ _ gb780 26 #[.int .i64 t785,.slice (some ad795) t786.length co16] (0,0) _ rfl (by (with_reducible repeat (first|refine blk_drewN ?_ _|refine blk_drew ?_|refine blk_alloc ?_ _));exact bp2_ (bkC_ BK780.out)) Tryz.underlying26 rfl krT_) rfl ?_
  exact ⟨_,eT_,by (with_reducible repeat (first|apply Kd.R_alloc|apply Kd.R_drewN|apply Kd.R_drew));exact Kd.R_mono (Kd.R_far (p:=⟨gb780,1,none⟩) (Kd.R_far (p:=⟨gb780,0,none⟩) (Kd.R_types HO_792001.out BK780.out (by decide)) (fun _ hk=>hk.2) (.int .i64 t785)) (fun _ hk=>hk.2) (.slice (some ad795) t786.length co16)) (fun _ hk=>trivial),h_HB HB.out⟩
 replace H:=bnd_ H;obtain ⟨⟨t805,t806,t809,t810⟩,A26,H⟩:=H;dsimp only at H
 replace H:=bnd_ H;obtain ⟨⟨t811,t812,t813⟩,A27,H⟩:=H;dsimp only at H
 simp only [Option.some.injEq,Prod.mk.injEq] at H
 obtain ⟨rfl,rfl,rfl,rfl⟩:=H
 try go_wp2_with (first|((with_reducible refine gate_callee (f:=47) rfl ?_);refine goesL_ (some 26) rfl rfl Tryz.func47 krT_ rfl #[.pointer (some ⟨g784,0,none⟩),.int .i64 12] rfl agT_ ?_;(with_reducible refine (spec_l1Once.calls g784 t781 x785001_7 x785002_7 12 true t803 t804 w _ ?side1 ?side2 A24.out).mono ?_);(case side1=>exact h_HI784 HI784.out);(case side2=>exact h_HB HB.out);rintro e w28 ⟨rfl,hi,hb,hk⟩;refine ⟨_,rfl,?_⟩;replace HO_792001:=Aside0.mk (Kd.R_mono (Kd.R_keep (IsS68.apart (show IsS68 w _ g784 t781 x785001_7 x785002_7 from h_HI784 HI784.out) (kRC_ HO_792001.out) (by decide)) hk (fun _ h=>h.2)) (fun _ h=>h.1));replace BK780:=Aside0.mk (KeepBut.blk hk (bkC_ BK780.out) NB780_784.out (by simp));replace BK791:=Aside0.mk (KeepBut.blk hk (bkC_ BK791.out) NB791_784.out (by simp));replace HB:=Aside0.mk (hb);replace HI784:=Aside0.mk (hi);(try clear hb);(try clear hk);(try clear hi))|((with_reducible refine gate_callee (f:=23) rfl ?_);refine goesL_ (some 28) rfl rfl Tryz.func23 krT_ rfl #[.pointer (some ⟨g784,0,none⟩),.int .i64 5] rfl agT_ ?_;(with_reducible refine (spec_l4Bent.calls kj7 g784 t781 t803 t804 5 t805 t806 t809 t810 w _ ?side1 ?side2 A26.out).mono ?_);(case side1=>exact h_HI784 HI784.out);(case side2=>exact h_HB HB.out);rintro e w29 ⟨v807,rfl,ho0,hi,hb,hk⟩;refine ⟨_,rfl,?_⟩;replace BK780:=Aside0.mk (KeepBut.blk hk (bkC_ BK780.out) NB780_784.out (by simp));replace BK791:=Aside0.mk (KeepBut.blk hk (bkC_ BK791.out) NB791_784.out (by simp));have HO808:=Aside0.mk (Kd.R_lower (Kd.R_new' ho0 (Kd.R_lt (kRC_ HO_792001.out))) (below_size (h_HB HB.out)));replace HO_792001:=Aside0.mk (Kd.R_mono (Kd.R_told (Kd.R_oldK (IsS68.apart (show IsS68 w _ g784 t781 t803 t804 from h_HI784 HI784.out) (kRC_ HO_792001.out) (by decide)) hk) (Kd.R_base ho0)) (fun _ h_=>h_.1));replace HB:=Aside0.mk (hb);replace HI784:=Aside0.mk (hi);(try clear hb);(try clear hk);(try clear hi);(try clear ho0);have hnb30:=NB791_780.out;have hnc30:=NB780_791.out;have hnb31:=NB791_784.out;have hnc31:=NB784_791.out;obtain ⟨hcz32_0,hcz32_1,hfz32_0,hfz32_1⟩:=bz2_ BK791.out;obtain ⟨Ao33,co33,eo33⟩:=Kd.R_slice HO808.out;subst eo33))
 have n0_:Aside0 (Kd.R (Kd.int .i64) 3 ((w29.setCell ⟨gb791,0,none⟩ (.int .i64 t805)).setCell ⟨gb791,1,none⟩ (.slice Ao33 t806.length co33)) w.heap.size (fun k_=>some k_≠(.slice Ao33 t806.length co33:Value).ownBlock) (.slice (some ad795) t786.length co16) t786):=⟨by (with_reducible repeat (first|apply Kd.R_alloc|apply Kd.R_drewN|apply Kd.R_drew));exact Kd.R_mono (Kd.R_far (p:=⟨gb791,1,none⟩) (Kd.R_far (p:=⟨gb791,0,none⟩) (Kd.R_types HO_792001.out BK791.out (by decide)) (fun _ hk=>hk.2) (.int .i64 t805)) (fun _ hk=>hk.2) (.slice Ao33 t806.length co33)) (fun _ hk=>hk.1.2)⟩
 have n1_:Aside0 (Kd.R (Kd.int .i64) 3 ((w29.setCell ⟨gb791,0,none⟩ (.int .i64 t805)).setCell ⟨gb791,1,none⟩ (.slice Ao33 t806.length co33)) w.heap.size (fun k_=>some k_≠(.slice (some ad795) t786.length co16:Value).ownBlock) (.slice Ao33 t806.length co33) t806):=⟨by (with_reducible repeat (first|apply Kd.R_alloc|apply Kd.R_drewN|apply Kd.R_drew));exact Kd.R_mono (Kd.R_far (p:=⟨gb791,1,none⟩) (Kd.R_far (p:=⟨gb791,0,none⟩) (Kd.R_types HO808.out BK791.out (by decide)) (fun _ hk=>hk.2) (.int .i64 t805)) (fun _ hk=>hk.2) (.slice Ao33 t806.length co33)) (fun _ hk=>hk.1.2)⟩
 have n2_:Aside0 (((w29.setCell ⟨gb791,0,none⟩ (.int .i64 t805)).setCell ⟨gb791,1,none⟩ (.slice Ao33 t806.length co33)).heap[gb780]?=some (.cells #[.int .i64 0,.slice none 0 0] 26 (0,0))):=⟨bkC_ BK780.out⟩
 have n3_:Aside0 (((w29.setCell ⟨gb791,0,none⟩ (.int .i64 t805)).setCell ⟨gb791,1,none⟩ (.slice Ao33 t806.length co33)).heap[gb791]?=some (.cells #[.int .i64 t805,.slice Ao33 t806.length co33] 26 (0,0))):=⟨by (with_reducible repeat (first|refine blk_drewN ?_ _|refine blk_drew ?_|refine blk_alloc ?_ _));exact bp2_ (bkC_ BK791.out)⟩
 have n4_:Aside0 (IsS68 w ((w29.setCell ⟨gb791,0,none⟩ (.int .i64 t805)).setCell ⟨gb791,1,none⟩ (.slice Ao33 t806.length co33)) g784 t781 t809 t810):=⟨h_HI784 HI784.out⟩
 have n5_:Aside0 (Below w.heap.size w ((w29.setCell ⟨gb791,0,none⟩ (.int .i64 t805)).setCell ⟨gb791,1,none⟩ (.slice Ao33 t806.length co33))):=⟨h_HB HB.out⟩
 (try clear HO_792001)
 (try clear HO808)
 (try clear BK780)
 (try clear BK791)
 (try clear HI784)
 (try clear HB)
 generalize ((w29.setCell ⟨gb791,0,none⟩ (.int .i64 t805)).setCell ⟨gb791,1,none⟩ (.slice Ao33 t806.length co33))=w34 at n0_ n1_ n2_ n3_ n4_ n5_ ⊢
 have HO_792001:=n0_
 have HO808:=n1_
 have BK780:=n2_
 have BK791:=n3_
 have HI784:=n4_
 have HB:=n5_
 clear n0_ n1_ n2_ n3_ n4_ n5_
 replace HO_792001:=Aside0.mk (Kd.R_drew HO_792001.out);replace HO808:=Aside0.mk (Kd.R_drew HO808.out);replace BK780:=Aside0.mk (blk_drew BK780.out);replace BK791:=Aside0.mk (blk_drew BK791.out);replace HI784:=Aside0.mk (IsS68.drew HI784.out);replace HB:=Aside0.mk (below_drew1 HB.out)
 refine start_ (n:=8) (S:=fun w'=>w'.cell? ⟨gb791,0,none⟩=some (.int .i64 t805)∧w'.cell? ⟨gb791,1,none⟩=some (.slice Ao33 t806.length co33)) (ds:=[]) #[F_,F_,F_,F_,F_,F_,F_,F_] krT_ rfl rfl ⟨(blk_cell BK791.out 0).trans rfl,(blk_cell BK791.out 1).trans rfl⟩ (fun hHeld=>?_);refine with_tabW spec_DrawCircuitOf.tab8 spec_DrawCircuitOf.bits8 (fun HT_ HW_=>?_)
 generalize w34.drew=w35 at HO_792001 HO808 BK780 BK791 HI784 HB hHeld ⊢
 refine pu_ 1 (some 30) (bm_ 8 2) rfl rfl HT_.out ?_
 refine pu_ 2 (some 31) (bm_ 8 6) rfl rfl HT_.out ?_
 refine take_ (i:=0) (N:=some 29) (v:=?_) (a':=?_) (bm_ 8 7) rfl rfl (take_ofW HT_.out HW_.out krT_) (fun _ _ _ h=>h) (Or.inl ⟨by rfl,?_⟩) hHeld ?_ ?_
 rotate_left
 ·rintro w' ⟨s0,s1⟩
  go_simp
  with_reducible rfl
 rotate_left;exact apT_
 refine one_ (i:=3) (N:=some 32) (bm_ 8 15) rfl rfl (one_of HT_.out krT_) (by decide) (fun K hK=>?_)
 refine goes_ Tryz.func46 krT_ rfl #[.pointer (some ⟨g784,0,none⟩),.int .i64 8] (by rfl) rfl rfl agT_ ?_
 with_reducible refine (spec_l1Below.calls g784 t781 t809 t810 8 t811 t812 t813 w _ ?side1 ?side2 A27.out).mono ?_
 (case side1=>exact h_HI784 HI784.out)
 (case side2=>exact h_HB HB.out)
 rintro e w36 ⟨rfl,hi,hb,hk⟩
 refine ⟨_,rfl,?_⟩
 replace HO_792001:=Aside0.mk (Kd.R_mono (Kd.R_keep (IsS68.apart (show IsS68 w _ g784 t781 t809 t810 from h_HI784 HI784.out) (kRC_ HO_792001.out) (by decide)) hk (fun _ h=>h.2)) (fun _ h=>h.1));replace BK780:=Aside0.mk (KeepBut.blk hk (bkC_ BK780.out) NB780_784.out (by simp));replace BK791:=Aside0.mk (KeepBut.blk hk (bkC_ BK791.out) NB791_784.out (by simp));replace HO808:=Aside0.mk (Kd.R_mono (Kd.R_keep (IsS68.apart (show IsS68 w _ g784 t781 t809 t810 from h_HI784 HI784.out) (kRC_ HO808.out) (by decide)) hk (fun _ h=>h.2)) (fun _ h=>h.1));replace HB:=Aside0.mk (hb);replace HI784:=Aside0.mk (hi)
 (try clear hb)
 (try clear hb2)
 (try clear hk)
 (try clear hi)
 refine hK.out _ _ ⟨(blk_cell BK791.out 0).trans rfl,(blk_cell BK791.out 1).trans rfl⟩ (fun hHeld=>?_)
 clear hK K
 refine norm_ (a':=?_) ?_ ?_
 rotate_left
 ·show Act.put _ (some 32) _=_
  simp only [Act.put,List.setIfInBounds_toArray,List.set_cons_zero,List.set_cons_succ,i64_w,i32_w]
  rfl
 refine pu_ 4 (some 33) (bm_ 8 31) rfl rfl HT_.out ?_
 refine one_ (i:=5) (N:=none) (bm_ 8 63) rfl rfl (one_of HT_.out krT_) (by decide) (fun K hK=>?_)
 have hs37:w36.cell? ⟨gb780,0,none⟩=some (.int .i64 0):=(blk_cell BK780.out 0).trans rfl
 have hfs37:=blk_frozen BK780.out 0
 have hns37_1:=NB791_780.out
 have hms37_1:=NB780_791.out
 have hs38:w36.cell? ⟨gb780,1,none⟩=some (.slice none 0 0):=(blk_cell BK780.out 1).trans rfl
 have hfs38:=blk_frozen BK780.out 1
 have hns38_1:=NB791_780.out
 have hms38_1:=NB780_791.out
 refine skip_ (w1:=?_) (by rfl) rfl ?_ ?_
 rotate_left
 ·go_simp
  rfl
 refine hK.out _ _ ⟨((cell_far (p:=⟨gb780,_,none⟩) NB791_780.out _).trans (((cell_far (p:=⟨gb780,_,none⟩) NB791_780.out _).trans (hHeld.1)))),((cell_far (p:=⟨gb780,_,none⟩) NB791_780.out _).trans (((cell_far (p:=⟨gb780,_,none⟩) NB791_780.out _).trans (hHeld.2))))⟩ (fun hHeld=>?_)
 clear hK K
 refine pu_ 6 (some 3) (bm_ 8 127) rfl rfl HT_.out ?_
 refine pu_ 7 (some 4) (bm_ 8 255) rfl rfl HT_.out ?_
 refine done_ (done_of HT_.out krT_) ?_
 try go_wp2
 refine bodyPost_ret (results_ctt rfl _ _ gb780 26 #[.int .i64 t805,.slice Ao33 t806.length co33] (0,0) _ rfl (by (with_reducible repeat (first|refine blk_drewN ?_ _|refine blk_drew ?_|refine blk_alloc ?_ _));exact bp2_ (bkC_ BK780.out)) Tryz.underlying26 rfl krT_) rfl ?_
 exact ⟨_,eT_,by (with_reducible repeat (first|apply Kd.R_alloc|apply Kd.R_drewN|apply Kd.R_drew));exact Kd.R_mono (Kd.R_far (p:=⟨gb780,1,none⟩) (Kd.R_far (p:=⟨gb780,0,none⟩) (Kd.R_types HO808.out BK780.out (by decide)) (fun _ hk=>hk.2) (.int .i64 t805)) (fun _ hk=>hk.2) (.slice Ao33 t806.length co33)) (fun _ hk=>trivial),h_HB HB.out⟩
end Go.Proofs.YtekegbacnagbcaaGreat.P
