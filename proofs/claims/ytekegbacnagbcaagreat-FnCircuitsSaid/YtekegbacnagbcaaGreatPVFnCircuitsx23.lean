-- written by gprint (a program of this session's, round the kit's print), out of the translation and hand-written texts
import Derived.Test.YtekegbacnagbcaaGreatPVFnCircuitsx0
import Derived.Test.YtekegbacnagbcaaGreatPVFnCircuitsx2
import Derived.Test.YtekegbacnagbcaaGreatPVFnCircuitsx4
import Derived.Test.YtekegbacnagbcaaGreatPVFnCircuitsx5
import Derived.Test.YtekegbacnagbcaaGreatPVFnCircuitsx6
import Derived.Test.YtekegbacnagbcaaGreatPVFnCircuitsx12
import Derived.Test.YtekegbacnagbcaaGreatPVFnCircuitsx14
import Derived.Test.YtekegbacnagbcaaGreatPVFnCircuitsx15
namespace Go.Proofs.YtekegbacnagbcaaGreat.P
open Go.RowKit Go.Proofs.YtekegbacnagbcaaGreatW.PrintWords Go.Proofs.YtekegbacnagbcaaGreatW.PrintLast Go.Proofs.YtekegbacnagbcaaGreatW.PrintMore
attribute [local go_sem] max2_int min2_int max_two min_two max_three min_three max_four min_four
set_option linter.unusedVariables false
set_option maxHeartbeats 8000000
set_option maxRecDepth 100000
set_option linter.unusedSimpArgs false
mutual
def spec_CircuitOf.j0:Nat→Int→Int→Bool→Int→List Int→Option (Int)
 | 0,_,_,_,_,_=>none
 | k+1,x1,x2,x31,x835000,x835001=>if x31=true then (some 0) else (if 0≤(IntKind.u64.wrap (x2)) then (spec_CircuitOf.l0 k x1 x2 (shl .i64 1 (IntKind.u64.wrap (x2))) 0 x835000 x835001) else (none))
def spec_CircuitOf.l0:Nat→Int→Int→Int→Int→Int→List Int→Option (Int)
 | 0,_,_,_,_,_,_=>none
 | k+1,x1,x2,x7,x8,x835000,x835001=>if x8<x835000 then ((spec_l2Has.f x1 x8).bind fun t839=>(if t839=true then (if 0≤(IntKind.u64.wrap (x8)) then (if 0≤(IntKind.u64.wrap (x2)) then ((spec_HasSet.f k x835001 (wrap64 ((wrap64 (x1-(shl .i64 1 (IntKind.u64.wrap (x8)))))+(shl .i64 1 (IntKind.u64.wrap (x2)))))).bind fun t840=>(if t840=true then (spec_CircuitOf.l0 k x1 x2 (wrap64 (x7+(shl .i64 1 (IntKind.u64.wrap (x8))))) (wrap64 (x8+1)) x835000 x835001) else (spec_CircuitOf.l0 k x1 x2 x7 (wrap64 (x8+1)) x835000 x835001))) else (none)) else (none)) else (spec_CircuitOf.l0 k x1 x2 x7 (wrap64 (x8+1)) x835000 x835001))) else (some x7)
end
def spec_CircuitOf.f (k:Nat) (a0_0:Int) (l0_1:List Int) (a1:Int) (a2:Int):Option (Int):=(spec_IsMatroid.f k a0_0 l0_1).bind fun t835=>(if t835=true then ((spec_HasSet.f k l0_1 a1).bind fun t836=>(if t836=true then ((spec_l1In.f a2 0 (wrap64 (a0_0-1))).bind fun t837=>(if t837=true then ((spec_l2Has.f a1 a2).bind fun t838=>(spec_CircuitOf.j0 k a1 a2 t838 a0_0 l0_1)) else (spec_CircuitOf.j0 k a1 a2 true a0_0 l0_1))) else (spec_CircuitOf.j0 k a1 a2 true a0_0 l0_1))) else (spec_CircuitOf.j0 k a1 a2 true a0_0 l0_1))
theorem spec_CircuitOf.calls (k:Nat) (a0_0:Int) (A0_1:Option Addr) (c0_1:Nat) (l0_1:List Int) (a1:Int) (a2:Int) (r:Int) (w:World) (hr0_1:Kd.C (Kd.int .i64) w A0_1 l0_1.length l0_1) (hc0_1:l0_1.length≤c0_1) (h:spec_CircuitOf.f k a0_0 l0_1 a1 a2=some r) :
    Calls Tryz.prog 17 #[.agg #[.int .i64 a0_0,.slice A0_1 l0_1.length c0_1],.int .i64 a1,.int .i64 a2] w fun e w'=>e=.returned (.int .i64 r)∧Below w.heap.size w w':=by
 have hu26:=Tryz.underlying26
 have HR0_1:=Aside0.mk hr0_1
 have HC0_1:=Aside0.mk hc0_1
 clear hr0_1 hc0_1
 have HB:=Aside0.mk (Below.refl w.heap.size w)
 unfold spec_CircuitOf.f at h
 have H:=h
 clear h
 have HC4:=Aside0.mk H
 clear H
 go_enter Tryz.func17,Tryz.ntmps17
 go_upto_region 1 with (first|((with_reducible refine gate_dst (N:=3) rfl ?_);refine bx_ (N:=3) (cs:=#[.int .i64 a0_0,.slice A0_1 l0_1.length c0_1]) (t:=26) ?_;intro gb834 hg w5 hbox hb;have BK834:=Aside0.mk (hbox);have GW834:=Aside0.mk (gw_ hg (h_HB HB.out));have GE834:=GW834;replace HB:=s_HB HB.out hb;clear hb hbox hg))
 (try simp only [Act.put,List.setIfInBounds_toArray,List.set_cons_zero,List.set_cons_succ])
 go_cut [31] (fun v31 wc=>∃ (kq:Nat) (x31_3:Bool),v31=.bool x31_3∧Aside0 (spec_CircuitOf.j0 kq a1 a2 x31_3 a0_0 l0_1=some r)∧Aside0 (kq≤k)∧Aside0 (wc.heap[gb834]?=some (.cells #[.int .i64 a0_0,(.slice A0_1 l0_1.length c0_1)] 26 (0,0)))∧Aside0 (Below w.heap.size w wc))
 case first =>
  have H:=HC4.out
  clear HC4
  replace H:=bnd_ H;obtain ⟨t835,A6,H⟩:=H
  replace H:=(gst_ H).symm;rcases H with ⟨rfl,H⟩|⟨rfl,H⟩
  ·have H':=Aside0.mk H
   clear H
   obtain ⟨hcz22_0,hcz22_1,hfz22_0,hfz22_1⟩:=bz2_ BK834.out
   go_wp2_with (first|((with_reducible refine gate_callee (f:=20) rfl ?_);refine goesL_ (some 10) rfl rfl Tryz.func20 krT_ rfl #[.agg #[.int .i64 a0_0,.slice A0_1 l0_1.length c0_1]] rfl agT_ ?_;(with_reducible refine (spec_IsMatroid.calls k a0_0 _ _ l0_1 false _ ?side1 ?side2 A6.out).mono ?_);(case side1=>exact cC_ HR0_1.out);(case side2=>exact HC0_1.out);rintro e w23 ⟨rfl,hb⟩;refine ⟨_,rfl,?_⟩;replace BK834:=sBK_ BK834.out hb;replace HB:=s_HB HB.out hb;(try clear hb)))
   go_meet
   case rel=>exact ⟨_,(true),sT_,H',⟨by first|omega|exact Nat.le_refl _⟩,⟨bkC_ BK834.out⟩,⟨h_HB HB.out⟩⟩
  replace H:=bnd_ H;obtain ⟨t836,A8,H⟩:=H
  replace H:=(gst_ H).symm;rcases H with ⟨rfl,H⟩|⟨rfl,H⟩
  ·have H':=Aside0.mk H
   clear H
   obtain ⟨hcz19_0,hcz19_1,hfz19_0,hfz19_1⟩:=bz2_ BK834.out
   go_wp2_with (first|((with_reducible refine gate_callee (f:=20) rfl ?_);refine goesL_ (some 10) rfl rfl Tryz.func20 krT_ rfl #[.agg #[.int .i64 a0_0,.slice A0_1 l0_1.length c0_1]] rfl agT_ ?_;(with_reducible refine (spec_IsMatroid.calls k a0_0 _ _ l0_1 true _ ?side1 ?side2 A6.out).mono ?_);(case side1=>exact cC_ HR0_1.out);(case side2=>exact HC0_1.out);rintro e w20 ⟨rfl,hb⟩;refine ⟨_,rfl,?_⟩;replace BK834:=sBK_ BK834.out hb;replace HB:=s_HB HB.out hb;(try clear hb);obtain ⟨hcz21_0,hcz21_1,hfz21_0,hfz21_1⟩:=bz2_ BK834.out)|(go_at_call 21;(with_reducible refine (spec_HasSet.calls k _ _ l0_1 a1 false _ ?side1 ?side2 A8.out).mono ?_);(case side1=>exact cC_ HR0_1.out);(case side2=>exact HC0_1.out);rintro e w' ⟨rfl,⟨nd,rfl⟩⟩))
   go_meet
   case rel=>exact ⟨_,(true),sT_,H',⟨by first|omega|exact Nat.le_refl _⟩,⟨bkC_ BK834.out⟩,⟨h_HB HB.out⟩⟩
  replace H:=bnd_ H;obtain ⟨t837,A10,H⟩:=H
  replace H:=(gst_ H).symm;rcases H with ⟨rfl,H⟩|⟨rfl,H⟩
  ·have H':=Aside0.mk H
   clear H
   obtain ⟨hcz16_0,hcz16_1,hfz16_0,hfz16_1⟩:=bz2_ BK834.out
   go_wp2_with (first|((with_reducible refine gate_callee (f:=20) rfl ?_);refine goesL_ (some 10) rfl rfl Tryz.func20 krT_ rfl #[.agg #[.int .i64 a0_0,.slice A0_1 l0_1.length c0_1]] rfl agT_ ?_;(with_reducible refine (spec_IsMatroid.calls k a0_0 _ _ l0_1 true _ ?side1 ?side2 A6.out).mono ?_);(case side1=>exact cC_ HR0_1.out);(case side2=>exact HC0_1.out);rintro e w17 ⟨rfl,hb⟩;refine ⟨_,rfl,?_⟩;replace BK834:=sBK_ BK834.out hb;replace HB:=s_HB HB.out hb;(try clear hb);obtain ⟨hcz18_0,hcz18_1,hfz18_0,hfz18_1⟩:=bz2_ BK834.out)|(go_at_call 21;(with_reducible refine (spec_HasSet.calls k _ _ l0_1 a1 true _ ?side1 ?side2 A8.out).mono ?_);(case side1=>exact cC_ HR0_1.out);(case side2=>exact HC0_1.out);rintro e w' ⟨rfl,⟨nd,rfl⟩⟩)|(go_at_call 53;(with_reducible refine (spec_l1In.calls a2 0 (wrap64 (a0_0-1)) false _ A10.out).mono ?_);rintro e w' ⟨rfl,⟨nd,rfl⟩⟩))
   go_meet
   case rel=>exact ⟨_,(true),sT_,H',⟨by first|omega|exact Nat.le_refl _⟩,⟨bkC_ BK834.out⟩,⟨h_HB HB.out⟩⟩
  replace H:=bnd_ H;obtain ⟨t838,A12,H⟩:=H
  have H':=Aside0.mk H
  clear H
  obtain ⟨hcz13_0,hcz13_1,hfz13_0,hfz13_1⟩:=bz2_ BK834.out
  go_wp2_with (first|((with_reducible refine gate_callee (f:=20) rfl ?_);refine goesL_ (some 10) rfl rfl Tryz.func20 krT_ rfl #[.agg #[.int .i64 a0_0,.slice A0_1 l0_1.length c0_1]] rfl agT_ ?_;(with_reducible refine (spec_IsMatroid.calls k a0_0 _ _ l0_1 true _ ?side1 ?side2 A6.out).mono ?_);(case side1=>exact cC_ HR0_1.out);(case side2=>exact HC0_1.out);rintro e w14 ⟨rfl,hb⟩;refine ⟨_,rfl,?_⟩;replace BK834:=sBK_ BK834.out hb;replace HB:=s_HB HB.out hb;(try clear hb);obtain ⟨hcz15_0,hcz15_1,hfz15_0,hfz15_1⟩:=bz2_ BK834.out)|(go_at_call 21;(with_reducible refine (spec_HasSet.calls k _ _ l0_1 a1 true _ ?side1 ?side2 A8.out).mono ?_);(case side1=>exact cC_ HR0_1.out);(case side2=>exact HC0_1.out);rintro e w' ⟨rfl,⟨nd,rfl⟩⟩)|(go_at_call 53;(with_reducible refine (spec_l1In.calls a2 0 (wrap64 (a0_0-1)) true _ A10.out).mono ?_);rintro e w' ⟨rfl,⟨nd,rfl⟩⟩)|(go_at_call 54;(with_reducible refine (spec_l2Has.calls a1 a2 t838 _ A12.out).mono ?_);rintro e w' ⟨rfl,⟨nd,rfl⟩⟩))
  go_meet
  case rel=>exact ⟨_,(t838),sT_,H',⟨by first|omega|exact Nat.le_refl _⟩,⟨bkC_ BK834.out⟩,⟨h_HB HB.out⟩⟩
 case rest =>
 clear HC4
 try clear c1
 try clear c2
 try clear p2
 try clear p6
 try clear c7
 try clear c9
 try clear c11
 try clear c17
 try clear c20
 try clear hcz13_0
 try clear hcz13_1
 try clear hcz15_0
 try clear hcz15_1
 try clear hcz16_0
 try clear hcz16_1
 try clear hcz18_0
 try clear hcz18_1
 try clear hcz19_0
 try clear hcz19_1
 try clear hcz21_0
 try clear hcz21_1
 try clear hcz22_0
 try clear hcz22_1
 try clear hfz13_0
 try clear hfz13_1
 try clear hfz15_0
 try clear hfz15_1
 try clear hfz16_0
 try clear hfz16_1
 try clear hfz18_0
 try clear hfz18_1
 try clear hfz19_0
 try clear hfz19_1
 try clear hfz21_0
 try clear hfz21_1
 try clear hfz22_0
 try clear hfz22_1
 obtain ⟨kq,x31_3,rfl,HA,HJ3,BK834,HB⟩:=hcut
 cases kq with
 | zero=>exact absurd HA.out (by simp [spec_CircuitOf.j0])
 | succ kj3 =>
 have H:=HA.out
 clear HA
 simp only [spec_CircuitOf.j0] at H
 replace H:=gst_ H;rcases H with ⟨rfl,H⟩|⟨rfl,H⟩
 ·obtain rfl:=Option.some.inj H
  go_wp2
  go_ret
  exact ⟨eT_,h_HB HB.out⟩
 obtain ⟨ji25,hji25⟩:∃ j_:Int,(IntKind.u64.wrap (a2))=j_:=⟨_,rfl⟩
 first |rw [hji25] at H|simp only [hji25] at H
 replace H:=gsp_ H;obtain ⟨c26,H⟩:=H
 have c26b0:=eq_true c26
 have c26b1:decide (0≤(ji25))=true:=decide_eq_true c26
 clear c26
 obtain ⟨ji27,hji27⟩:∃ j_:Int,(shl .i64 1 (ji25))=j_:=⟨_,rfl⟩
 first |rw [hji27] at H|simp only [hji27] at H
 have hji27_:(IntKind.i64.wrap (1*2 ^ min (ji25).toNat 64))=ji27:=hji27
 have hji27z:(ji25)≤64→(IntKind.i64.wrap (1*2 ^ (ji25).toNat))=ji27:=shl_small hji27
 have hji27u:(IntKind.i64.wrap (2 ^ min (ji25).toNat 64))=ji27:=by have h_:=hji27_;rw [Int.one_mul] at h_;exact h_
 have hji27v:(ji25)≤64→(IntKind.i64.wrap (2 ^ (ji25).toNat))=ji27:=fun hle_=>by have h_:=hji27z hle_;rw [Int.one_mul] at h_;exact h_
 have hji27y:(wrap64 (1*2 ^ min (ji25).toNat 64))=ji27:=(i64_w _).symm.trans hji27_
 have hji27x:(ji25)≤64→(wrap64 (1*2 ^ (ji25).toNat))=ji27:=fun h_=>(i64_w _).symm.trans (hji27z h_)
 have H':=Aside0.mk H
 clear H
 go_wp2
 go_loopg [7,8] kj3 (fun kq v7 v8 w'=>∃ (x7_2:Int) (x8_2:Int),v7=.int .i64 x7_2∧v8=.int .i64 x8_2∧Aside0 (spec_CircuitOf.l0 kq a1 a2 x7_2 x8_2 a0_0 l0_1=some r)∧Aside0 (kq≤kj3)∧Aside0 (w'.heap[gb834]?=some (.cells #[.int .i64 a0_0,(.slice A0_1 l0_1.length c0_1)] 26 (0,0)))∧Aside0 (Below w.heap.size w w'))
 case atStart=>exact ⟨(ji27),(0),(by first|rfl|(simp;done)|(simp only [← hji27]<;>(first|rfl|simp))|(simp [*];done)),sT_,H',⟨Nat.le_refl _⟩,⟨bkC_ BK834.out⟩,⟨h_HB HB.out⟩⟩
 case round =>
 clear H'
 try clear c1
 try clear c2
 try clear p2
 try clear p6
 try clear c7
 try clear c9
 try clear c11
 try clear c17
 try clear c20
 try clear c24
 try clear c26
 try clear c26b0
 try clear c26b1
 try clear hcz13_0
 try clear hcz13_1
 try clear hcz15_0
 try clear hcz15_1
 try clear hcz16_0
 try clear hcz16_1
 try clear hcz18_0
 try clear hcz18_1
 try clear hcz19_0
 try clear hcz19_1
 try clear hcz21_0
 try clear hcz21_1
 try clear hcz22_0
 try clear hcz22_1
 try clear hfz13_0
 try clear hfz13_1
 try clear hfz15_0
 try clear hfz15_1
 try clear hfz16_0
 try clear hfz16_1
 try clear hfz18_0
 try clear hfz18_1
 try clear hfz19_0
 try clear hfz19_1
 try clear hfz21_0
 try clear hfz21_1
 try clear hfz22_0
 try clear hfz22_1
 try clear p2
 try clear p6
 obtain ⟨x7_2,x8_2,rfl,rfl,HA,HK2,BK834,HB⟩:=hrel
 cases gk with
 | zero=>exact absurd HA.out (by simp [spec_CircuitOf.l0])
 | succ k2 =>
 have H:=HA.out
 clear HA
 simp only [spec_CircuitOf.l0] at H
 replace H:=gsn_ H;rcases H with ⟨c28b0,H⟩|⟨c28b0,H⟩
 ·obtain rfl:=Option.some.inj H
  obtain ⟨hcz43_0,hcz43_1,hfz43_0,hfz43_1⟩:=bz2_ BK834.out
  go_wp2
  go_ret
  exact ⟨by first|rfl|(simp [errW_none,errW_some]<;>rfl)|(simp only [← hji25,← hji27];first|rfl|(simp [errW_none,errW_some]<;>rfl))|(simp [*,errW_none,errW_some]<;>rfl),h_HB HB.out⟩
 replace H:=bnd_ H;obtain ⟨t839,A29,H⟩:=H
 replace H:=(gst_ H).symm;rcases H with ⟨rfl,H⟩|⟨rfl,H⟩
 ·have H':=Aside0.mk H
  clear H
  obtain ⟨hcz42_0,hcz42_1,hfz42_0,hfz42_1⟩:=bz2_ BK834.out
  go_wp2_with (first|((with_reducible refine gate_callee (f:=54) rfl ?_);refine goesL_ (some 43) rfl rfl Tryz.func54 krT_ rfl #[.int .i64 a1,.int .i64 x8_2] rfl agT_ ?_;(with_reducible refine (spec_l2Has.calls a1 x8_2 false _ A29.out).mono ?_);rintro e w' ⟨rfl,⟨nd,rfl⟩⟩;refine ⟨_,rfl,?_⟩))
  go_roundg k2
  case measure=>have:=HJ3.out;have:=HK2.out;omega
  case rel=>exact ⟨(x7_2),(wrap64 (x8_2+1)),sT_,sT_,H',⟨by have:=HJ3.out;have:=HK2.out;omega⟩,⟨bkC_ BK834.out⟩,⟨h_HB HB.out⟩⟩
 obtain ⟨ji31,hji31⟩:∃ j_:Int,(IntKind.u64.wrap (x8_2))=j_:=⟨_,rfl⟩
 first |rw [hji31] at H|simp only [hji31] at H
 (try rw [hji31] at A29)
 replace H:=gsp_ H;obtain ⟨c32,H⟩:=H
 have c32b0:=eq_true c32
 have c32b1:decide (0≤(ji31))=true:=decide_eq_true c32
 clear c32
 obtain ⟨ji33,hji33⟩:∃ j_:Int,(shl .i64 1 (ji31))=j_:=⟨_,rfl⟩
 first |rw [hji33] at H|simp only [hji33] at H
 (try rw [hji33] at A29)
 have hji33_:(IntKind.i64.wrap (1*2 ^ min (ji31).toNat 64))=ji33:=hji33
 have hji33z:(ji31)≤64→(IntKind.i64.wrap (1*2 ^ (ji31).toNat))=ji33:=shl_small hji33
 have hji33u:(IntKind.i64.wrap (2 ^ min (ji31).toNat 64))=ji33:=by have h_:=hji33_;rw [Int.one_mul] at h_;exact h_
 have hji33v:(ji31)≤64→(IntKind.i64.wrap (2 ^ (ji31).toNat))=ji33:=fun hle_=>by have h_:=hji33z hle_;rw [Int.one_mul] at h_;exact h_
 have hji33y:(wrap64 (1*2 ^ min (ji31).toNat 64))=ji33:=(i64_w _).symm.trans hji33_
 have hji33x:(ji31)≤64→(wrap64 (1*2 ^ (ji31).toNat))=ji33:=fun h_=>(i64_w _).symm.trans (hji33z h_)
 obtain ⟨ji34,hji34⟩:∃ j_:Int,(IntKind.u64.wrap (a2))=j_:=⟨_,rfl⟩
 first |rw [hji34] at H|simp only [hji34] at H
 (try rw [hji34] at A29)
 (try clear hji25)
 (try clear hji25w)
 (try clear hji25_)
 (try clear hji25z)
 (try clear hji25u)
 (try clear hji25v)
 (try clear hji25y)
 (try clear hji25x)
 replace H:=gsp_ H;obtain ⟨c35,H⟩:=H
 have c35b0:=eq_true c35
 have c35b1:decide (0≤(ji34))=true:=decide_eq_true c35
 clear c35
 obtain ⟨ji36,hji36⟩:∃ j_:Int,(shl .i64 1 (ji34))=j_:=⟨_,rfl⟩
 first |rw [hji36] at H|simp only [hji36] at H
 (try rw [hji36] at A29)
 have hji36_:(IntKind.i64.wrap (1*2 ^ min (ji34).toNat 64))=ji36:=hji36
 have hji36z:(ji34)≤64→(IntKind.i64.wrap (1*2 ^ (ji34).toNat))=ji36:=shl_small hji36
 have hji36u:(IntKind.i64.wrap (2 ^ min (ji34).toNat 64))=ji36:=by have h_:=hji36_;rw [Int.one_mul] at h_;exact h_
 have hji36v:(ji34)≤64→(IntKind.i64.wrap (2 ^ (ji34).toNat))=ji36:=fun hle_=>by have h_:=hji36z hle_;rw [Int.one_mul] at h_;exact h_
 have hji36y:(wrap64 (1*2 ^ min (ji34).toNat 64))=ji36:=(i64_w _).symm.trans hji36_
 have hji36x:(ji34)≤64→(wrap64 (1*2 ^ (ji34).toNat))=ji36:=fun h_=>(i64_w _).symm.trans (hji36z h_)
 replace H:=bnd_ H;obtain ⟨t840,A37,H⟩:=H
 replace H:=(gst_ H).symm;rcases H with ⟨rfl,H⟩|⟨rfl,H⟩
 ·have H':=Aside0.mk H
  clear H
  obtain ⟨hcz41_0,hcz41_1,hfz41_0,hfz41_1⟩:=bz2_ BK834.out
  go_wp2_with (first|((with_reducible refine gate_callee (f:=54) rfl ?_);refine goesL_ (some 43) rfl rfl Tryz.func54 krT_ rfl #[.int .i64 a1,.int .i64 x8_2] rfl agT_ ?_;(with_reducible refine (spec_l2Has.calls a1 x8_2 true _ A29.out).mono ?_);rintro e w' ⟨rfl,⟨nd,rfl⟩⟩;refine ⟨_,rfl,?_⟩)|(go_at_call 21;(with_reducible refine (spec_HasSet.calls k2 _ _ l0_1 (wrap64 ((wrap64 (a1-(ji33)))+(ji36))) false _ ?side1 ?side2 A37.out).mono ?_);(case side1=>repeat (first|exact (Kd.C_below HR0_1.out (h_HB HB.out))|(with_reducible refine Kd.C_alloc ?_ _)|(with_reducible refine Kd.C_drewN ?_ _)|(with_reducible refine Kd.C_drew ?_)));(case side2=>exact HC0_1.out);rintro e w' ⟨rfl,⟨nd,rfl⟩⟩))
  go_roundg k2
  case measure=>have:=HJ3.out;have:=HK2.out;omega
  case rel=>exact ⟨(x7_2),(wrap64 (x8_2+1)),sT_,sT_,H',⟨by have:=HJ3.out;have:=HK2.out;omega⟩,⟨bkC_ BK834.out⟩,⟨h_HB HB.out⟩⟩
 have c39b0:=eq_true (odT_:0≤(ji31))
 have H':=Aside0.mk H
 clear H
 obtain ⟨hcz40_0,hcz40_1,hfz40_0,hfz40_1⟩:=bz2_ BK834.out
 go_wp2_with (first|((with_reducible refine gate_callee (f:=54) rfl ?_);refine goesL_ (some 43) rfl rfl Tryz.func54 krT_ rfl #[.int .i64 a1,.int .i64 x8_2] rfl agT_ ?_;(with_reducible refine (spec_l2Has.calls a1 x8_2 true _ A29.out).mono ?_);rintro e w' ⟨rfl,⟨nd,rfl⟩⟩;refine ⟨_,rfl,?_⟩)|(go_at_call 21;(with_reducible refine (spec_HasSet.calls k2 _ _ l0_1 (wrap64 ((wrap64 (a1-(ji33)))+(ji36))) true _ ?side1 ?side2 A37.out).mono ?_);(case side1=>repeat (first|exact (Kd.C_below HR0_1.out (h_HB HB.out))|(with_reducible refine Kd.C_alloc ?_ _)|(with_reducible refine Kd.C_drewN ?_ _)|(with_reducible refine Kd.C_drew ?_)));(case side2=>exact HC0_1.out);rintro e w' ⟨rfl,⟨nd,rfl⟩⟩))
 go_roundg k2
 case measure=>have:=HJ3.out;have:=HK2.out;omega
 case rel=>exact ⟨(wrap64 (x7_2+(ji33))),(wrap64 (x8_2+1)),(by first|rfl|(simp;done)|(simp only [← hji33]<;>(first|rfl|simp))|(simp [*];done)),sT_,H',⟨by have:=HJ3.out;have:=HK2.out;omega⟩,⟨bkC_ BK834.out⟩,⟨h_HB HB.out⟩⟩
-- (never reached: whole numbers have 64 bits here)
def bits_OnesCount64.f (a0:Int):Option (Int):=some (Go.bits .and .i64 (wrap64 (IntKind.u64.wrap ((IntKind.u64.wrap ((IntKind.u64.wrap ((Go.bits .and .u64 (IntKind.u64.wrap (((IntKind.u64.wrap ((Go.bits .and .u64 ((IntKind.u64.wrap ((Go.bits .and .u64 (a0 / 2) 6148914691236517205)+(Go.bits .and .u64 a0 6148914691236517205))) / 4) 3689348814741910323)+(Go.bits .and .u64 (IntKind.u64.wrap ((Go.bits .and .u64 (a0 / 2) 6148914691236517205)+(Go.bits .and .u64 a0 6148914691236517205))) 3689348814741910323))) / 16)+(IntKind.u64.wrap ((Go.bits .and .u64 ((IntKind.u64.wrap ((Go.bits .and .u64 (a0 / 2) 6148914691236517205)+(Go.bits .and .u64 a0 6148914691236517205))) / 4) 3689348814741910323)+(Go.bits .and .u64 (IntKind.u64.wrap ((Go.bits .and .u64 (a0 / 2) 6148914691236517205)+(Go.bits .and .u64 a0 6148914691236517205))) 3689348814741910323))))) 1085102592571150095)+((Go.bits .and .u64 (IntKind.u64.wrap (((IntKind.u64.wrap ((Go.bits .and .u64 ((IntKind.u64.wrap ((Go.bits .and .u64 (a0 / 2) 6148914691236517205)+(Go.bits .and .u64 a0 6148914691236517205))) / 4) 3689348814741910323)+(Go.bits .and .u64 (IntKind.u64.wrap ((Go.bits .and .u64 (a0 / 2) 6148914691236517205)+(Go.bits .and .u64 a0 6148914691236517205))) 3689348814741910323))) / 16)+(IntKind.u64.wrap ((Go.bits .and .u64 ((IntKind.u64.wrap ((Go.bits .and .u64 (a0 / 2) 6148914691236517205)+(Go.bits .and .u64 a0 6148914691236517205))) / 4) 3689348814741910323)+(Go.bits .and .u64 (IntKind.u64.wrap ((Go.bits .and .u64 (a0 / 2) 6148914691236517205)+(Go.bits .and .u64 a0 6148914691236517205))) 3689348814741910323))))) 1085102592571150095) / 256)))+((IntKind.u64.wrap ((Go.bits .and .u64 (IntKind.u64.wrap (((IntKind.u64.wrap ((Go.bits .and .u64 ((IntKind.u64.wrap ((Go.bits .and .u64 (a0 / 2) 6148914691236517205)+(Go.bits .and .u64 a0 6148914691236517205))) / 4) 3689348814741910323)+(Go.bits .and .u64 (IntKind.u64.wrap ((Go.bits .and .u64 (a0 / 2) 6148914691236517205)+(Go.bits .and .u64 a0 6148914691236517205))) 3689348814741910323))) / 16)+(IntKind.u64.wrap ((Go.bits .and .u64 ((IntKind.u64.wrap ((Go.bits .and .u64 (a0 / 2) 6148914691236517205)+(Go.bits .and .u64 a0 6148914691236517205))) / 4) 3689348814741910323)+(Go.bits .and .u64 (IntKind.u64.wrap ((Go.bits .and .u64 (a0 / 2) 6148914691236517205)+(Go.bits .and .u64 a0 6148914691236517205))) 3689348814741910323))))) 1085102592571150095)+((Go.bits .and .u64 (IntKind.u64.wrap (((IntKind.u64.wrap ((Go.bits .and .u64 ((IntKind.u64.wrap ((Go.bits .and .u64 (a0 / 2) 6148914691236517205)+(Go.bits .and .u64 a0 6148914691236517205))) / 4) 3689348814741910323)+(Go.bits .and .u64 (IntKind.u64.wrap ((Go.bits .and .u64 (a0 / 2) 6148914691236517205)+(Go.bits .and .u64 a0 6148914691236517205))) 3689348814741910323))) / 16)+(IntKind.u64.wrap ((Go.bits .and .u64 ((IntKind.u64.wrap ((Go.bits .and .u64 (a0 / 2) 6148914691236517205)+(Go.bits .and .u64 a0 6148914691236517205))) / 4) 3689348814741910323)+(Go.bits .and .u64 (IntKind.u64.wrap ((Go.bits .and .u64 (a0 / 2) 6148914691236517205)+(Go.bits .and .u64 a0 6148914691236517205))) 3689348814741910323))))) 1085102592571150095) / 256))) / 65536)))+((IntKind.u64.wrap ((IntKind.u64.wrap ((Go.bits .and .u64 (IntKind.u64.wrap (((IntKind.u64.wrap ((Go.bits .and .u64 ((IntKind.u64.wrap ((Go.bits .and .u64 (a0 / 2) 6148914691236517205)+(Go.bits .and .u64 a0 6148914691236517205))) / 4) 3689348814741910323)+(Go.bits .and .u64 (IntKind.u64.wrap ((Go.bits .and .u64 (a0 / 2) 6148914691236517205)+(Go.bits .and .u64 a0 6148914691236517205))) 3689348814741910323))) / 16)+(IntKind.u64.wrap ((Go.bits .and .u64 ((IntKind.u64.wrap ((Go.bits .and .u64 (a0 / 2) 6148914691236517205)+(Go.bits .and .u64 a0 6148914691236517205))) / 4) 3689348814741910323)+(Go.bits .and .u64 (IntKind.u64.wrap ((Go.bits .and .u64 (a0 / 2) 6148914691236517205)+(Go.bits .and .u64 a0 6148914691236517205))) 3689348814741910323))))) 1085102592571150095)+((Go.bits .and .u64 (IntKind.u64.wrap (((IntKind.u64.wrap ((Go.bits .and .u64 ((IntKind.u64.wrap ((Go.bits .and .u64 (a0 / 2) 6148914691236517205)+(Go.bits .and .u64 a0 6148914691236517205))) / 4) 3689348814741910323)+(Go.bits .and .u64 (IntKind.u64.wrap ((Go.bits .and .u64 (a0 / 2) 6148914691236517205)+(Go.bits .and .u64 a0 6148914691236517205))) 3689348814741910323))) / 16)+(IntKind.u64.wrap ((Go.bits .and .u64 ((IntKind.u64.wrap ((Go.bits .and .u64 (a0 / 2) 6148914691236517205)+(Go.bits .and .u64 a0 6148914691236517205))) / 4) 3689348814741910323)+(Go.bits .and .u64 (IntKind.u64.wrap ((Go.bits .and .u64 (a0 / 2) 6148914691236517205)+(Go.bits .and .u64 a0 6148914691236517205))) 3689348814741910323))))) 1085102592571150095) / 256)))+((IntKind.u64.wrap ((Go.bits .and .u64 (IntKind.u64.wrap (((IntKind.u64.wrap ((Go.bits .and .u64 ((IntKind.u64.wrap ((Go.bits .and .u64 (a0 / 2) 6148914691236517205)+(Go.bits .and .u64 a0 6148914691236517205))) / 4) 3689348814741910323)+(Go.bits .and .u64 (IntKind.u64.wrap ((Go.bits .and .u64 (a0 / 2) 6148914691236517205)+(Go.bits .and .u64 a0 6148914691236517205))) 3689348814741910323))) / 16)+(IntKind.u64.wrap ((Go.bits .and .u64 ((IntKind.u64.wrap ((Go.bits .and .u64 (a0 / 2) 6148914691236517205)+(Go.bits .and .u64 a0 6148914691236517205))) / 4) 3689348814741910323)+(Go.bits .and .u64 (IntKind.u64.wrap ((Go.bits .and .u64 (a0 / 2) 6148914691236517205)+(Go.bits .and .u64 a0 6148914691236517205))) 3689348814741910323))))) 1085102592571150095)+((Go.bits .and .u64 (IntKind.u64.wrap (((IntKind.u64.wrap ((Go.bits .and .u64 ((IntKind.u64.wrap ((Go.bits .and .u64 (a0 / 2) 6148914691236517205)+(Go.bits .and .u64 a0 6148914691236517205))) / 4) 3689348814741910323)+(Go.bits .and .u64 (IntKind.u64.wrap ((Go.bits .and .u64 (a0 / 2) 6148914691236517205)+(Go.bits .and .u64 a0 6148914691236517205))) 3689348814741910323))) / 16)+(IntKind.u64.wrap ((Go.bits .and .u64 ((IntKind.u64.wrap ((Go.bits .and .u64 (a0 / 2) 6148914691236517205)+(Go.bits .and .u64 a0 6148914691236517205))) / 4) 3689348814741910323)+(Go.bits .and .u64 (IntKind.u64.wrap ((Go.bits .and .u64 (a0 / 2) 6148914691236517205)+(Go.bits .and .u64 a0 6148914691236517205))) 3689348814741910323))))) 1085102592571150095) / 256))) / 65536))) / 4294967296)))) 127)
theorem bits_OnesCount64.calls (a0:Int) (r:Int) (w:World) (h:bits_OnesCount64.f a0=some r) :
    Calls Tryz.prog 96 #[.int .u64 a0] w fun e w'=>e=.returned (.int .i64 r)∧Drawn0 w w':=by
 unfold bits_OnesCount64.f at h
 have H:=h
 clear h
 obtain rfl:=Option.some.inj H
 go_enter Tryz.func96,Tryz.ntmps96
 go_wp2
 go_ret
 exact ⟨sT_,dT_⟩
def bits_OnesCount.f (a0:Int):Option (Int):=(bits_OnesCount64.f a0).bind fun t841=>(some t841)
theorem bits_OnesCount.calls (a0:Int) (r:Int) (w:World) (h:bits_OnesCount.f a0=some r) :
    Calls Tryz.prog 85 #[.int .u64 a0] w fun e w'=>e=.returned (.int .i64 r)∧Drawn0 w w':=by
 have H:((bits_OnesCount64.f a0).bind fun t841=>(some t841))=some r:=h
 clear h
 replace H:=bnd_ H;obtain ⟨t841,A2,H⟩:=H
 obtain rfl:=Option.some.inj H
 go_enter Tryz.func85,Tryz.ntmps85
 go_wp2_with (first|((with_reducible refine gate_callee (f:=96) rfl ?_);refine goesL_ (some 7) rfl rfl Tryz.func96 krT_ rfl #[.int .u64 a0] rfl agT_ ?_;(with_reducible refine (bits_OnesCount64.calls a0 t841 _ A2.out).mono ?_);rintro e w' ⟨rfl,⟨nd,rfl⟩⟩;refine ⟨_,rfl,?_⟩))
 go_ret
 exact ⟨sT_,dT_⟩
def impl_CountOf.f (a0:Int):Option (Int):=(impl_isAny.f a0).bind fun t842=>(if t842=true then ((bits_OnesCount.f (IntKind.u64.wrap (a0))).bind fun t843=>(some t843)) else (some 0))
theorem impl_CountOf.calls (a0:Int) (r:Int) (w:World) (h:impl_CountOf.f a0=some r) :
    Calls Tryz.prog 55 #[.int .i64 a0] w fun e w'=>e=.returned (.int .i64 r)∧Drawn0 w w':=by
 unfold impl_CountOf.f at h
 have H:=h
 clear h
 replace H:=bnd_ H;obtain ⟨t842,A2,H⟩:=H
 replace H:=(gst_ H).symm;rcases H with ⟨rfl,H⟩|⟨rfl,H⟩
 ·obtain rfl:=Option.some.inj H
  go_enter Tryz.func55,Tryz.ntmps55
  go_wp2_with (first|((with_reducible refine gate_callee (f:=72) rfl ?_);refine goesL_ (some 4) rfl rfl Tryz.func72 krT_ rfl #[.int .i64 a0] rfl agT_ ?_;(with_reducible refine (impl_isAny.calls a0 false _ A2.out).mono ?_);rintro e w' ⟨rfl,⟨nd,rfl⟩⟩;refine ⟨_,rfl,?_⟩))
  go_ret
  exact ⟨sT_,dT_⟩
 replace H:=bnd_ H;obtain ⟨t843,A4,H⟩:=H
 obtain rfl:=Option.some.inj H
 go_enter Tryz.func55,Tryz.ntmps55
 go_wp2_with (first|((with_reducible refine gate_callee (f:=72) rfl ?_);refine goesL_ (some 4) rfl rfl Tryz.func72 krT_ rfl #[.int .i64 a0] rfl agT_ ?_;(with_reducible refine (impl_isAny.calls a0 true _ A2.out).mono ?_);rintro e w' ⟨rfl,⟨nd,rfl⟩⟩;refine ⟨_,rfl,?_⟩)|((with_reducible refine gate_callee (f:=85) rfl ?_);refine goesL_ (some 8) rfl rfl Tryz.func85 krT_ rfl #[.int .u64 (IntKind.u64.wrap (a0))] rfl agT_ ?_;(with_reducible refine (bits_OnesCount.calls (IntKind.u64.wrap (a0)) t843 _ A4.out).mono ?_);rintro e w' ⟨rfl,⟨nd,rfl⟩⟩;refine ⟨_,rfl,?_⟩))
 go_ret
 exact ⟨sT_,dT_⟩
def impl_GirthOf.l0:Nat→Int→List Int→Int→Int→Option (Int)
 | 0,_,_,_,_=>none
 | k+1,x3,x7,x8,x9=>if x9<x8 then (if 0≤x9 then (if x9<(x7.length:Int) then (if x3=0 then ((impl_CountOf.f (rd x7 x9)).bind fun t849=>(impl_GirthOf.l0 k t849 x7 x8 (wrap64 (x9+1)))) else ((impl_CountOf.f (rd x7 x9)).bind fun t850=>(if t850<x3 then ((impl_CountOf.f (rd x7 x9)).bind fun t851=>(impl_GirthOf.l0 k t851 x7 x8 (wrap64 (x9+1)))) else (impl_GirthOf.l0 k x3 x7 x8 (wrap64 (x9+1)))))) else (none)) else (none)) else (some x3)
def impl_GirthOf.f (k:Nat) (a0_0:Int) (l0_1:List Int):Option (Int):=(impl_Circuits.f k a0_0 l0_1).bind fun t845=>(impl_GirthOf.l0 k 0 t845 (t845.length:Int) 0)
theorem impl_GirthOf.calls (k:Nat) (a0_0:Int) (A0_1:Option Addr) (c0_1:Nat) (l0_1:List Int) (r:Int) (w:World) (hr0_1:Kd.C (Kd.int .i64) w A0_1 l0_1.length l0_1) (hc0_1:l0_1.length≤c0_1) (h:impl_GirthOf.f k a0_0 l0_1=some r) :
    Calls Tryz.prog 18 #[.agg #[.int .i64 a0_0,.slice A0_1 l0_1.length c0_1]] w fun e w'=>e=.returned (.int .i64 r)∧Below w.heap.size w w':=by
 have hu26:=Tryz.underlying26
 have HR0_1:=Aside0.mk hr0_1
 have HC0_1:=Aside0.mk hc0_1
 clear hr0_1 hc0_1
 have HB:=Aside0.mk (Below.refl w.heap.size w)
 have H:((impl_Circuits.f k a0_0 l0_1).bind fun t845=>(impl_GirthOf.l0 k 0 t845 (t845.length:Int) 0))=some r:=h
 clear h
 replace H:=bnd_ H;obtain ⟨t845,A2,H⟩:=H
 have H':=Aside0.mk H
 clear H
 go_enter Tryz.func18,Tryz.ntmps18
 go_wp2_with (first|((with_reducible refine gate_dst (N:=1) rfl ?_);refine bx_ (N:=1) (cs:=#[.int .i64 a0_0,.slice A0_1 l0_1.length c0_1]) (t:=26) ?_;intro gb844 hg w3 hbox hb;have BK844:=Aside0.mk (hbox);have GW844:=Aside0.mk (gw_ hg (h_HB HB.out));have GE844:=GW844;replace HB:=s_HB HB.out hb;clear hb hbox hg;obtain ⟨hcz4_0,hcz4_1,hfz4_0,hfz4_1⟩:=bz2_ BK844.out)|((with_reducible refine gate_callee (f:=6) rfl ?_);refine goesL_ (some 7) rfl rfl Tryz.func6 krT_ rfl #[.agg #[.int .i64 a0_0,.slice A0_1 l0_1.length c0_1]] rfl agT_ ?_;(with_reducible refine (impl_Circuits.calls k a0_0 _ _ l0_1 t845 _ ?side1 ?side2 A2.out).mono ?_);(case side1=>exact cC_ HR0_1.out);(case side2=>exact HC0_1.out);rintro e w5 ⟨v846,rfl,ho0,hb⟩;refine ⟨_,rfl,?_⟩;have HO847:=Aside0.mk (Kd.R_lower ho0 (below_size (h_HB HB.out)));replace BK844:=sBK_ BK844.out hb;replace HB:=s_HB HB.out hb;(try clear hb);(try clear ho0);obtain ⟨Ao6,co6,eo6⟩:=Kd.R_slice HO847.out;subst eo6))
 go_loopg [3,9] k (fun kq v3 v9 w'=>∃ (x3_1:Int) (x9_1:Int),v3=.int .i64 x3_1∧v9=.int .i64 x9_1∧Aside0 (impl_GirthOf.l0 kq x3_1 t845 (t845.length:Int) x9_1=some r)∧Aside0 (kq≤k)∧Aside0 (Kd.R (Kd.int .i64) 3 w' w.heap.size (fun _=>True) (.slice Ao6 t845.length co6) t845)∧Aside0 (w'.heap[gb844]?=some (.cells #[.int .i64 a0_0,(.slice A0_1 l0_1.length c0_1)] 26 (0,0)))∧Aside0 (Below w.heap.size w w'))
 case atStart=>exact ⟨(0),(0),sT_,sT_,H',⟨Nat.le_refl _⟩,⟨kRC_ HO847.out⟩,⟨bkC_ BK844.out⟩,⟨h_HB HB.out⟩⟩
 case round =>
 clear H'
 try clear c1
 try clear p2
 try clear c6
 try clear hcz4_0
 try clear hcz4_1
 try clear hfz4_0
 try clear hfz4_1
 obtain ⟨x3_1,x9_1,rfl,rfl,HA,HK1,HO_7,BK844,HB⟩:=hrel
 cases gk with
 | zero=>exact absurd HA.out (by simp [impl_GirthOf.l0])
 | succ k1 =>
 have H:=HA.out
 clear HA
 simp only [impl_GirthOf.l0] at H
 replace H:=gsn_ H;rcases H with ⟨c7b0,H⟩|⟨c7b0,H⟩
 ·obtain rfl:=Option.some.inj H
  go_wp2
  go_ret
  exact ⟨eT_,h_HB HB.out⟩
 replace H:=gsm_ H;obtain ⟨c8b0,H⟩:=H
 replace H:=gsm_ H;obtain ⟨c9b0,H⟩:=H
 replace H:=gse_ H;rcases H with ⟨c10b0,c10b1,H⟩|⟨c10b0,c10b1,c10,H⟩
 ·replace H:=bnd_ H;obtain ⟨t849,A11,H⟩:=H
  have H':=Aside0.mk H
  clear H
  obtain ⟨ad848,e848,hx848_0,p848,q848⟩:=aiI_ (Kd.R_reads' HO_7.out).2.2 x9_1
  cases e848
  go_wp2_with (first|((with_reducible refine gate_callee (f:=55) rfl ?_);refine goesL_ (some 22) rfl rfl Tryz.func55 krT_ rfl #[.int .i64 (rd t845 x9_1)] rfl agT_ ?_;(with_reducible refine (impl_CountOf.calls (rd t845 x9_1) t849 _ A11.out).mono ?_);rintro e w' ⟨rfl,⟨nd,rfl⟩⟩;refine ⟨_,rfl,?_⟩))
  go_roundg k1
  case measure=>have:=HK1.out;omega
  case rel=>exact ⟨(t849),(wrap64 (x9_1+1)),sT_,sT_,H',⟨by have:=HK1.out;omega⟩,⟨kRC_ HO_7.out⟩,⟨bkC_ BK844.out⟩,⟨h_HB HB.out⟩⟩
 replace H:=bnd_ H;obtain ⟨t850,A12,H⟩:=H
 replace H:=gsn_ H;rcases H with ⟨c13b0,H⟩|⟨c13b0,H⟩
 ·have H':=Aside0.mk H
  clear H
  obtain ⟨ad848,e848,hx848_0,p848,q848⟩:=aiI_ (Kd.R_reads' HO_7.out).2.2 x9_1
  cases e848
  go_wp2_with (first|(go_at_call 55;(with_reducible refine (impl_CountOf.calls (rd t845 x9_1) t850 _ A12.out).mono ?_);rintro e w' ⟨rfl,⟨nd,rfl⟩⟩))
  go_roundg k1
  case measure=>have:=HK1.out;omega
  case rel=>exact ⟨(x3_1),(wrap64 (x9_1+1)),sT_,sT_,H',⟨by have:=HK1.out;omega⟩,⟨kRC_ HO_7.out⟩,⟨bkC_ BK844.out⟩,⟨h_HB HB.out⟩⟩
 replace H:=bnd_ H;obtain ⟨t851,A14,H⟩:=H
 have H':=Aside0.mk H
 clear H
 obtain ⟨ad848,e848,hx848_0,p848,q848⟩:=aiI_ (Kd.R_reads' HO_7.out).2.2 x9_1
 cases e848
 go_wp2_with (first|(go_at_call 55;(with_reducible refine (impl_CountOf.calls (rd t845 x9_1) t850 _ A12.out).mono ?_);rintro e w' ⟨rfl,⟨nd,rfl⟩⟩)|((with_reducible refine gate_callee (f:=55) rfl ?_);refine goesL_ (some 22) rfl rfl Tryz.func55 krT_ rfl #[.int .i64 (rd t845 x9_1)] rfl agT_ ?_;(with_reducible refine (impl_CountOf.calls (rd t845 x9_1) t851 _ A14.out).mono ?_);rintro e w' ⟨rfl,⟨nd,rfl⟩⟩;refine ⟨_,rfl,?_⟩))
 go_roundg k1
 case measure=>have:=HK1.out;omega
 case rel=>exact ⟨(t851),(wrap64 (x9_1+1)),sT_,sT_,H',⟨by have:=HK1.out;omega⟩,⟨kRC_ HO_7.out⟩,⟨bkC_ BK844.out⟩,⟨h_HB HB.out⟩⟩
def spec_GirthOf.l0:Nat→List Int→Int→Int→Option (Int)
 | 0,_,_,_=>none
 | k+1,x3,x4,x5=>if x5<(x3.length:Int) then (if 0≤x5 then ((spec_CountOf.f k (rd x3 x5)).bind fun t857=>(if x4=0 then (spec_GirthOf.l0 k x3 t857 (wrap64 (x5+1))) else (if t857<x4 then (spec_GirthOf.l0 k x3 t857 (wrap64 (x5+1))) else (spec_GirthOf.l0 k x3 x4 (wrap64 (x5+1)))))) else (none)) else (some x4)
def spec_GirthOf.f (k:Nat) (a0_0:Int) (l0_1:List Int):Option (Int):=(spec_Circuits.f k a0_0 l0_1).bind fun t853=>(spec_GirthOf.l0 k t853 0 0)
theorem spec_GirthOf.calls (k:Nat) (a0_0:Int) (A0_1:Option Addr) (c0_1:Nat) (l0_1:List Int) (r:Int) (w:World) (hr0_1:Kd.C (Kd.int .i64) w A0_1 l0_1.length l0_1) (hc0_1:l0_1.length≤c0_1) (h:spec_GirthOf.f k a0_0 l0_1=some r) :
    Calls Tryz.prog 19 #[.agg #[.int .i64 a0_0,.slice A0_1 l0_1.length c0_1]] w fun e w'=>e=.returned (.int .i64 r)∧Below w.heap.size w w':=by
 have hu26:=Tryz.underlying26
 have HR0_1:=Aside0.mk hr0_1
 have HC0_1:=Aside0.mk hc0_1
 clear hr0_1 hc0_1
 have HB:=Aside0.mk (Below.refl w.heap.size w)
 have H:((spec_Circuits.f k a0_0 l0_1).bind fun t853=>(spec_GirthOf.l0 k t853 0 0))=some r:=h
 clear h
 replace H:=bnd_ H;obtain ⟨t853,A2,H⟩:=H
 have H':=Aside0.mk H
 clear H
 go_enter Tryz.func19,Tryz.ntmps19
 go_wp2_with (first|((with_reducible refine gate_dst (N:=1) rfl ?_);refine bx_ (N:=1) (cs:=#[.int .i64 a0_0,.slice A0_1 l0_1.length c0_1]) (t:=26) ?_;intro gb852 hg w3 hbox hb;have BK852:=Aside0.mk (hbox);have GW852:=Aside0.mk (gw_ hg (h_HB HB.out));have GE852:=GW852;replace HB:=s_HB HB.out hb;clear hb hbox hg;obtain ⟨hcz4_0,hcz4_1,hfz4_0,hfz4_1⟩:=bz2_ BK852.out)|((with_reducible refine gate_callee (f:=15) rfl ?_);refine goesL_ (some 8) rfl rfl Tryz.func15 krT_ rfl #[.agg #[.int .i64 a0_0,.slice A0_1 l0_1.length c0_1]] rfl agT_ ?_;(with_reducible refine (spec_Circuits.calls k a0_0 _ _ l0_1 t853 _ ?side1 ?side2 A2.out).mono ?_);(case side1=>exact cC_ HR0_1.out);(case side2=>exact HC0_1.out);rintro e w5 ⟨v854,rfl,ho0,hb⟩;refine ⟨_,rfl,?_⟩;have HO855:=Aside0.mk (Kd.R_lower ho0 (below_size (h_HB HB.out)));replace BK852:=sBK_ BK852.out hb;replace HB:=s_HB HB.out hb;(try clear hb);(try clear ho0)))
 go_loopg [4,5] k (fun kq v4 v5 w'=>∃ (x4_1:Int) (x5_1:Int),v4=.int .i64 x4_1∧v5=.int .i64 x5_1∧Aside0 (spec_GirthOf.l0 kq t853 x4_1 x5_1=some r)∧Aside0 (kq≤k)∧Aside0 (Kd.R (Kd.int .i64) 3 w' w.heap.size (fun _=>True) v854 t853)∧Aside0 (w'.heap[gb852]?=some (.cells #[.int .i64 a0_0,(.slice A0_1 l0_1.length c0_1)] 26 (0,0)))∧Aside0 (Below w.heap.size w w'))
 case atStart=>exact ⟨(0),(0),sT_,sT_,H',⟨Nat.le_refl _⟩,⟨kRC_ HO855.out⟩,⟨bkC_ BK852.out⟩,⟨h_HB HB.out⟩⟩
 case round =>
 clear H'
 try clear c1
 try clear p2
 try clear hcz4_0
 try clear hcz4_1
 try clear hfz4_0
 try clear hfz4_1
 obtain ⟨x4_1,x5_1,rfl,rfl,HA,HK1,HO_3,BK852,HB⟩:=hrel
 cases gk with
 | zero=>exact absurd HA.out (by simp [spec_GirthOf.l0])
 | succ k1 =>
 have H:=HA.out
 clear HA
 simp only [spec_GirthOf.l0] at H
 replace H:=gsn_ H;rcases H with ⟨c6b0,H⟩|⟨c6b0,H⟩
 ·obtain rfl:=Option.some.inj H
  obtain ⟨Ao14,co14,eo14⟩:=Kd.R_slice HO_3.out
  subst eo14
  go_wp2
  go_ret
  exact ⟨eT_,h_HB HB.out⟩
 replace H:=gsm_ H;obtain ⟨c7b0,H⟩:=H
 replace H:=bnd_ H;obtain ⟨t857,A8,H⟩:=H
 replace H:=gse_ H;rcases H with ⟨c9b0,c9b1,H⟩|⟨c9b0,c9b1,c9,H⟩
 ·have H':=Aside0.mk H
  clear H
  obtain ⟨Ao10,co10,eo10⟩:=Kd.R_slice HO_3.out
  subst eo10
  obtain ⟨ad856,e856,hx856_0,p856,q856⟩:=aiI_ (Kd.R_reads' HO_3.out).2.2 x5_1
  cases e856
  go_wp2_with (first|((with_reducible refine gate_callee (f:=56) rfl ?_);refine goesL_ (some 19) rfl rfl Tryz.func56 krT_ rfl #[.int .i64 (rd t853 x5_1)] rfl agT_ ?_;(with_reducible refine (spec_CountOf.calls k1 (rd t853 x5_1) t857 _ A8.out).mono ?_);rintro e w' ⟨rfl,⟨nd,rfl⟩⟩;refine ⟨_,rfl,?_⟩))
  go_roundg k1
  case measure=>have:=HK1.out;omega
  case rel=>exact ⟨(t857),(wrap64 (x5_1+1)),sT_,sT_,H',⟨by have:=HK1.out;omega⟩,⟨kRC_ HO_3.out⟩,⟨bkC_ BK852.out⟩,⟨h_HB HB.out⟩⟩
 replace H:=gsb_ H;rcases H with ⟨c11b0,H⟩|⟨c11b0,H⟩
 ·have H':=Aside0.mk H
  clear H
  obtain ⟨Ao12,co12,eo12⟩:=Kd.R_slice HO_3.out
  subst eo12
  obtain ⟨ad856,e856,hx856_0,p856,q856⟩:=aiI_ (Kd.R_reads' HO_3.out).2.2 x5_1
  cases e856
  go_wp2_with (first|((with_reducible refine gate_callee (f:=56) rfl ?_);refine goesL_ (some 19) rfl rfl Tryz.func56 krT_ rfl #[.int .i64 (rd t853 x5_1)] rfl agT_ ?_;(with_reducible refine (spec_CountOf.calls k1 (rd t853 x5_1) t857 _ A8.out).mono ?_);rintro e w' ⟨rfl,⟨nd,rfl⟩⟩;refine ⟨_,rfl,?_⟩))
  go_roundg k1
  case measure=>have:=HK1.out;omega
  case rel=>exact ⟨(t857),(wrap64 (x5_1+1)),sT_,sT_,H',⟨by have:=HK1.out;omega⟩,⟨kRC_ HO_3.out⟩,⟨bkC_ BK852.out⟩,⟨h_HB HB.out⟩⟩
 have H':=Aside0.mk H
 clear H
 obtain ⟨Ao13,co13,eo13⟩:=Kd.R_slice HO_3.out
 subst eo13
 obtain ⟨ad856,e856,hx856_0,p856,q856⟩:=aiI_ (Kd.R_reads' HO_3.out).2.2 x5_1
 cases e856
 go_wp2_with (first|((with_reducible refine gate_callee (f:=56) rfl ?_);refine goesL_ (some 19) rfl rfl Tryz.func56 krT_ rfl #[.int .i64 (rd t853 x5_1)] rfl agT_ ?_;(with_reducible refine (spec_CountOf.calls k1 (rd t853 x5_1) t857 _ A8.out).mono ?_);rintro e w' ⟨rfl,⟨nd,rfl⟩⟩;refine ⟨_,rfl,?_⟩))
 go_roundg k1
 case measure=>have:=HK1.out;omega
 case rel=>exact ⟨(x4_1),(wrap64 (x5_1+1)),sT_,sT_,H',⟨by have:=HK1.out;omega⟩,⟨kRC_ HO_3.out⟩,⟨bkC_ BK852.out⟩,⟨h_HB HB.out⟩⟩
def spec_WithoutElement.f (a0:Int) (a1:Int):Option (Int):=(spec_HasElement.f a0 a1).bind fun t858=>(if t858=true then (if 0≤(IntKind.u64.wrap (a1)) then (some (wrap64 (a0-(shl .i64 1 (IntKind.u64.wrap (a1)))))) else (none)) else (some a0))
theorem spec_WithoutElement.calls (a0:Int) (a1:Int) (r:Int) (w:World) (h:spec_WithoutElement.f a0 a1=some r) :
    Calls Tryz.prog 22 #[.int .i64 a0,.int .i64 a1] w fun e w'=>e=.returned (.int .i64 r)∧Drawn0 w w':=by
 unfold spec_WithoutElement.f at h
 have H:=h
 clear h
 replace H:=bnd_ H;obtain ⟨t858,A3,H⟩:=H
 replace H:=(gst_ H).symm;rcases H with ⟨rfl,H⟩|⟨rfl,H⟩
 ·obtain rfl:=Option.some.inj H
  go_enter Tryz.func22,Tryz.ntmps22
  go_wp2_with (first|((with_reducible refine gate_callee (f:=58) rfl ?_);refine goesL_ (some 7) rfl rfl Tryz.func58 krT_ rfl #[.int .i64 a0,.int .i64 a1] rfl agT_ ?_;(with_reducible refine (spec_HasElement.calls a0 a1 false _ A3.out).mono ?_);rintro e w' ⟨rfl,⟨nd,rfl⟩⟩;refine ⟨_,rfl,?_⟩))
  go_ret
  exact ⟨sT_,dT_⟩
 obtain ⟨ji5,hji5⟩:∃ j_:Int,(IntKind.u64.wrap (a1))=j_:=⟨_,rfl⟩
 first |rw [hji5] at H|simp only [hji5] at H
 (try rw [hji5] at A3)
 replace H:=gsp_ H;obtain ⟨c6,H⟩:=H
 have c6b0:=eq_true c6
 have c6b1:decide (0≤(ji5))=true:=decide_eq_true c6
 clear c6
 obtain ⟨ji7,hji7⟩:∃ j_:Int,(shl .i64 1 (ji5))=j_:=⟨_,rfl⟩
 first |rw [hji7] at H|simp only [hji7] at H
 (try rw [hji7] at A3)
 have hji7_:(IntKind.i64.wrap (1*2 ^ min (ji5).toNat 64))=ji7:=hji7
 have hji7z:(ji5)≤64→(IntKind.i64.wrap (1*2 ^ (ji5).toNat))=ji7:=shl_small hji7
 have hji7u:(IntKind.i64.wrap (2 ^ min (ji5).toNat 64))=ji7:=by have h_:=hji7_;rw [Int.one_mul] at h_;exact h_
 have hji7v:(ji5)≤64→(IntKind.i64.wrap (2 ^ (ji5).toNat))=ji7:=fun hle_=>by have h_:=hji7z hle_;rw [Int.one_mul] at h_;exact h_
 have hji7y:(wrap64 (1*2 ^ min (ji5).toNat 64))=ji7:=(i64_w _).symm.trans hji7_
 have hji7x:(ji5)≤64→(wrap64 (1*2 ^ (ji5).toNat))=ji7:=fun h_=>(i64_w _).symm.trans (hji7z h_)
 obtain rfl:=Option.some.inj H
 go_enter Tryz.func22,Tryz.ntmps22
 go_wp2_with (first|((with_reducible refine gate_callee (f:=58) rfl ?_);refine goesL_ (some 7) rfl rfl Tryz.func58 krT_ rfl #[.int .i64 a0,.int .i64 a1] rfl agT_ ?_;(with_reducible refine (spec_HasElement.calls a0 a1 true _ A3.out).mono ?_);rintro e w' ⟨rfl,⟨nd,rfl⟩⟩;refine ⟨_,rfl,?_⟩))
 go_ret
 exact ⟨by first|rfl|(simp;done)|(simp only [← hji5,← hji7]<;>(first|rfl|simp))|(simp [*];done),dT_⟩
end Go.Proofs.YtekegbacnagbcaaGreat.P
