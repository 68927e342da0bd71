-- written by gprint (a program of this session's, round the kit's print), out of the translation and hand-written texts
import Derived.Test.YtekegbacnagbcaaGreatPVFnCircuitsx0
import Derived.Test.YtekegbacnagbcaaGreatPVFnCircuitsx2
import Derived.Test.YtekegbacnagbcaaGreatPVFnCircuitsx11
namespace Go.Proofs.YtekegbacnagbcaaGreat.P
open Go.RowKit Go.Proofs.YtekegbacnagbcaaGreatW.PrintWords Go.Proofs.YtekegbacnagbcaaGreatW.PrintLast Go.Proofs.YtekegbacnagbcaaGreatW.PrintMore
attribute [local go_sem] max2_int min2_int max_two min_two max_three min_three max_four min_four
set_option linter.unusedVariables false
set_option maxHeartbeats 8000000
set_option maxRecDepth 100000
set_option linter.unusedSimpArgs false
def spec_l1New.l0:Nat→List Int→Int→Int→Option (List Int × Int × Int)
 | 0,_,_,_=>none
 | k+1,x0,x3,x4=>if x4<(x0.length:Int) then (if x4<4000 then (if 0≤x4 then (spec_l1New.l0 k x0 (Go.bits .and .i64 (wrap64 ((wrap64 ((wrap64 (x3*131))+(wrap64 (rd x0 x4))))+7)) 1073741823) (wrap64 (x4+1))) else (none)) else (some (x0,0,x3))) else (some (x0,0,x3))
def spec_l1New.f (k:Nat) (l0:List Int):Option (List Int × Int × Int):=spec_l1New.l0 k l0 (wrap64 (26583+(l0.length:Int))) 0
theorem spec_l1New.calls (k:Nat) (A0:Option Addr) (c0:Nat) (l0:List Int) (r1:List Int) (r2:Int) (r3:Int) (w0 w:World) (hB:Below w0.heap.size w0 w) (hr0:Kd.C (Kd.int .u8) w0 A0 l0.length l0) (hc0:l0.length≤c0) (h:spec_l1New.f k l0=some (r1,r2,r3)) :
    Calls Tryz.prog 24 #[.slice A0 l0.length c0] w fun e w'=>∃ g_:Nat,e=.returned (.pointer (some ⟨g_,0,none⟩))∧IsS68 w0 w' g_ r1 r2 r3∧Below w0.heap.size w0 w'∧Below w.heap.size w w':=by
 have hu68:=Tryz.underlying68
 have HR0:=Aside0.mk hr0
 have HC0:=Aside0.mk hc0
 clear hr0 hc0
 have HBW:=Aside0.mk (Below.refl w.heap.size w)
 have HW0:=Aside0.mk hB.size
 have HB:=Aside0.mk hB
 clear hB
 have H:(spec_l1New.l0 k l0 (wrap64 (26583+(l0.length:Int))) 0)=some (r1,r2,r3):=h
 clear h
 have H':=Aside0.mk H
 clear H
 go_enter Tryz.func24,Tryz.ntmps24
 go_wp2
 go_loopg [3,4] k (fun kq v3 v4 w'=>∃ (x3_1:Int) (x4_1:Int),v3=.int .i64 x3_1∧v4=.int .i64 x4_1∧Aside0 (spec_l1New.l0 kq l0 x3_1 x4_1=some (r1,r2,r3))∧Aside0 (kq≤k)∧Aside0 (Below w0.heap.size w0 w')∧Aside0 (Below w.heap.size w w'))
 case atStart=>exact ⟨(wrap64 (26583+(l0.length:Int))),(0),sT_,sT_,H',⟨Nat.le_refl _⟩,⟨h_HB HB.out⟩,⟨h_HBW HBW.out⟩⟩
 case round =>
 clear H'
 obtain ⟨x3_1,x4_1,rfl,rfl,HA,HK1,HB,HBW⟩:=hrel
 cases gk with
 | zero=>exact absurd HA.out (by simp [spec_l1New.l0])
 | succ k1 =>
 have H:=HA.out
 clear HA
 simp only [spec_l1New.l0] at H
 replace H:=gsn_ H;rcases H with ⟨c2b0,H⟩|⟨c2b0,H⟩
 ·simp only [Option.some.injEq,Prod.mk.injEq] at H
  obtain ⟨rfl,rfl,rfl⟩:=H
  go_wp2_with (first|((with_reducible refine gate_dst (N:=31) rfl ?_);refine bx_ (N:=31) (cs:=#[.slice A0 l0.length c0,.int .i64 0,.int .i64 x3_1]) (t:=68) ?_;intro gb503 hg w6 hbox hb;replace HB:=s_HB HB.out hb;have BK503:=Aside0.mk (hbox);have GW503:=Aside0.mk (gw_ hg (h_HBW HBW.out));have GE503:=Aside0.mk ((Nat.le_trans HW0.out (gw_ hg (h_HBW HBW.out)):w0.heap.size≤gb503));replace HBW:=Aside0.mk (below_step HBW.out hb);clear hb hbox hg))
  go_ret
  exact ⟨_,rfl,(show IsS68 w0 _ gb503 l0 0 x3_1 from ⟨_,_,bkC_ BK503.out,GE503.out,HR0.out⟩),h_HB HB.out,h_HBW HBW.out⟩
 replace H:=gsn_ H;rcases H with ⟨c3b0,H⟩|⟨c3b0,H⟩
 ·simp only [Option.some.injEq,Prod.mk.injEq] at H
  obtain ⟨rfl,rfl,rfl⟩:=H
  go_wp2_with (first|((with_reducible refine gate_dst (N:=31) rfl ?_);refine bx_ (N:=31) (cs:=#[.slice A0 l0.length c0,.int .i64 0,.int .i64 x3_1]) (t:=68) ?_;intro gb502 hg w5 hbox hb;replace HB:=s_HB HB.out hb;have BK502:=Aside0.mk (hbox);have GW502:=Aside0.mk (gw_ hg (h_HBW HBW.out));have GE502:=Aside0.mk ((Nat.le_trans HW0.out (gw_ hg (h_HBW HBW.out)):w0.heap.size≤gb502));replace HBW:=Aside0.mk (below_step HBW.out hb);clear hb hbox hg))
  go_ret
  exact ⟨_,rfl,(show IsS68 w0 _ gb502 l0 0 x3_1 from ⟨_,_,bkC_ BK502.out,GE502.out,HR0.out⟩),h_HB HB.out,h_HBW HBW.out⟩
 replace H:=gsm_ H;obtain ⟨c4b0,H⟩:=H
 have H':=Aside0.mk H
 clear H
 obtain ⟨ad501,e501,hx501_0,p501,q501⟩:=aiI_ HR0.out x4_1
 cases e501
 replace hx501_0:=pw_cell_below HB.out hx501_0
 go_wp2
 go_roundg k1
 case measure=>have:=HK1.out;omega
 case rel=>exact ⟨(Go.bits .and .i64 (wrap64 ((wrap64 ((wrap64 (x3_1*131))+(wrap64 (rd l0 x4_1))))+7)) 1073741823),(wrap64 (x4_1+1)),sT_,sT_,H',⟨by have:=HK1.out;omega⟩,⟨h_HB HB.out⟩,⟨h_HBW HBW.out⟩⟩
def spec_DrawCircuits.f (k:Nat) (l0:List Int):Option (Int × List Int):=(spec_l1New.f k l0).bind fun bt505=>((spec_l4Bent.f k bt505.1 bt505.2.1 bt505.2.2 6).bind fun bt509=>(some (bt509.1,bt509.2.1)))
theorem spec_DrawCircuits.calls (k:Nat) (A0:Option Addr) (c0:Nat) (l0:List Int) (r1:Int) (r2:List Int) (w:World) (hr0:Kd.C (Kd.int .u8) w A0 l0.length l0) (hc0:l0.length≤c0) (h:spec_DrawCircuits.f k l0=some (r1,r2)) :
    Calls Tryz.prog 5 #[.slice A0 l0.length c0] w fun e w'=>∃ v1_:Value,e=.returned (.agg #[.int .i64 r1,v1_])∧Kd.R (Kd.int .i64) 3 w' w.heap.size (fun _=>True) v1_ r2∧Below w.heap.size w w':=by
 have hu26:=Tryz.underlying26
 have HR0:=Aside0.mk hr0
 have HC0:=Aside0.mk hc0
 clear hr0 hc0
 have HB:=Aside0.mk (Below.refl w.heap.size w)
 unfold spec_DrawCircuits.f at h
 have H:=h
 clear h
 replace H:=bnd_ H;obtain ⟨⟨t505,t506,t507⟩,A2,H⟩:=H;dsimp only at H
 replace H:=bnd_ H;obtain ⟨⟨t509,t510,t513,t514⟩,A3,H⟩:=H;dsimp only at H
 simp only [Option.some.injEq,Prod.mk.injEq] at H
 obtain ⟨rfl,rfl⟩:=H
 go_enter Tryz.func5,Tryz.ntmps5
 go_wp2_with (first|((with_reducible refine gate_dst (N:=2) rfl ?_);refine bx_ (N:=2) (cs:=#[.int .i64 0,.slice none 0 0]) (t:=26) ?_;intro gb504 hg w4 hbox hb;have BK504:=Aside0.mk (hbox);have GW504:=Aside0.mk (gw_ hg (h_HB HB.out));have GE504:=GW504;replace HB:=s_HB HB.out hb;clear hb hbox hg)|((with_reducible refine gate_callee (f:=24) rfl ?_);refine goesL_ (some 4) rfl rfl Tryz.func24 krT_ rfl #[.slice A0 l0.length c0] rfl agT_ ?_;(with_reducible refine (spec_l1New.calls k _ _ l0 t505 t506 t507 w _ ?side1 ?side2 ?side3 A2.out).mono ?_);(case side1=>exact h_HB HB.out);(case side2=>exact HR0.out);(case side3=>exact HC0.out);rintro e w5 ⟨g508,rfl,hi,hb,hb2⟩;refine ⟨_,rfl,?_⟩;replace HB:=Aside0.mk (hb);have HI508:=Aside0.mk (hi);have NB508_504:=Aside0.mk (IsS68.ne_blk hi (blk_below (bkC_ BK504.out) hb2) (by decide));have NB504_508:=Aside0.mk (Ne.symm (IsS68.ne_blk hi (blk_below (bkC_ BK504.out) hb2) (by decide)));replace BK504:=Aside0.mk (blk_below (bkC_ BK504.out) hb2);(try clear hb);(try clear hb2);(try clear hi))|((with_reducible refine gate_callee (f:=23) rfl ?_);refine goesL_ (some 5) rfl rfl Tryz.func23 krT_ rfl #[.pointer (some ⟨g508,0,none⟩),.int .i64 6] rfl agT_ ?_;(with_reducible refine (spec_l4Bent.calls k g508 t505 t506 t507 6 t509 t510 t513 t514 w _ ?side1 ?side2 A3.out).mono ?_);(case side1=>repeat (first|(with_reducible first|exact HI508.out|apply IsS68.alloc|apply IsS68.drewN|apply IsS68.drew|apply IsS68.set_1|apply IsS68.set_2|refine IsS68.far ?_ NB508_504.out _)|exact HI508.out));(case side2=>exact h_HB HB.out);rintro e w6 ⟨v511,rfl,ho0,hi,hb,hk⟩;refine ⟨_,rfl,?_⟩;replace BK504:=Aside0.mk (KeepBut.blk hk (bkC_ BK504.out) NB504_508.out (by simp));have HO512:=Aside0.mk (Kd.R_lower ho0 (below_size (h_HB HB.out)));replace HB:=Aside0.mk (hb);replace HI508:=Aside0.mk (hi);(try clear hb);(try clear hk);(try clear hi);(try clear ho0);have hnb7:=NB504_508.out;have hnc7:=NB508_504.out;obtain ⟨hcz8_0,hcz8_1,hfz8_0,hfz8_1⟩:=bz2_ BK504.out;obtain ⟨Ao9,co9,eo9⟩:=Kd.R_slice HO512.out;subst eo9))
 refine bodyPost_ret (results_cell_row rfl _ _ gb504 26 #[.int .i64 t509,.slice Ao9 t510.length co9] (0,0) _ rfl (by (with_reducible repeat (first|refine blk_drewN ?_ _|refine blk_drew ?_|refine blk_alloc ?_ _));exact bp2_ (bkC_ BK504.out)) Tryz.underlying26 rfl krT_) rfl ?_
 exact ⟨_,eT_,by (with_reducible repeat (first|apply Kd.R_alloc|apply Kd.R_drewN|apply Kd.R_drew));exact Kd.R_mono (Kd.R_far (p:=⟨gb504,1,none⟩) (Kd.R_far (p:=⟨gb504,0,none⟩) (Kd.R_types HO512.out BK504.out (by decide)) (fun _ hk=>hk.2) (.int .i64 t509)) (fun _ hk=>hk.2) (.slice Ao9 t510.length co9)) (fun _ hk=>trivial),h_HB HB.out⟩
def impl_isSize.f (a0:Int):Option (Bool):=if a0≥0 then (some (decide (a0≤8))) else (some false)
theorem impl_isSize.calls (a0:Int) (r:Bool) (w:World) (h:impl_isSize.f a0=some r) :
    Calls Tryz.prog 71 #[.int .i64 a0] w fun e w'=>e=.returned (.bool r)∧Drawn0 w w':=by
 have H:(if a0≥0 then (some (decide (a0≤8))) else (some false))=some r:=h
 clear h
 replace H:=gsq_ H;rcases H with ⟨c2,H⟩|⟨c2,H⟩
 ·have c2b0:decide (0≤a0)=true:=decide_eq_true c2
  clear c2
  obtain rfl:=Option.some.inj H
  go_enter Tryz.func71,Tryz.ntmps71
  go_wp2
  go_ret
  exact ⟨sT_,dT_⟩
 have c2b0:decide (0≤a0)=false:=decide_eq_false c2
 clear c2
 obtain rfl:=Option.some.inj H
 go_enter Tryz.func71,Tryz.ntmps71
 go_wp2
 go_ret
 exact ⟨sT_,dT_⟩
def impl_IsSet.f (a0:Int) (a1:Int):Option (Bool):=(impl_isSize.f a0).bind fun t515=>(if t515=true then (if a1≥0 then (if 0≤a0 then (some (decide (a1<(shl .i64 1 a0)))) else (none)) else (some false)) else (some false))
theorem impl_IsSet.calls (a0:Int) (a1:Int) (r:Bool) (w:World) (h:impl_IsSet.f a0 a1=some r) :
    Calls Tryz.prog 70 #[.int .i64 a0,.int .i64 a1] w fun e w'=>e=.returned (.bool r)∧Drawn0 w w':=by
 unfold impl_IsSet.f at h
 have H:=h
 clear h
 replace H:=bnd_ H;obtain ⟨t515,A3,H⟩:=H
 replace H:=(gst_ H).symm;rcases H with ⟨rfl,H⟩|⟨rfl,H⟩
 ·obtain rfl:=Option.some.inj H
  go_enter Tryz.func70,Tryz.ntmps70
  go_wp2_with (first|((with_reducible refine gate_callee (f:=71) rfl ?_);refine goesL_ (some 6) rfl rfl Tryz.func71 krT_ rfl #[.int .i64 a0] rfl agT_ ?_;(with_reducible refine (impl_isSize.calls a0 false _ A3.out).mono ?_);rintro e w' ⟨rfl,⟨nd,rfl⟩⟩;refine ⟨_,rfl,?_⟩))
  go_ret
  exact ⟨sT_,dT_⟩
 replace H:=(gsq_ H).symm;rcases H with ⟨c5,H⟩|⟨c5,H⟩
 ·have c5b0:decide (0≤a1)=false:=decide_eq_false c5
  clear c5
  obtain rfl:=Option.some.inj H
  go_enter Tryz.func70,Tryz.ntmps70
  go_wp2_with (first|((with_reducible refine gate_callee (f:=71) rfl ?_);refine goesL_ (some 6) rfl rfl Tryz.func71 krT_ rfl #[.int .i64 a0] rfl agT_ ?_;(with_reducible refine (impl_isSize.calls a0 true _ A3.out).mono ?_);rintro e w' ⟨rfl,⟨nd,rfl⟩⟩;refine ⟨_,rfl,?_⟩))
  go_ret
  exact ⟨sT_,dT_⟩
 have c5b0:decide (0≤a1)=true:=decide_eq_true c5
 clear c5
 replace H:=gsp_ H;obtain ⟨c6,H⟩:=H
 have c6b0:=eq_true c6
 have c6b1:decide (0≤a0)=true:=decide_eq_true c6
 clear c6
 obtain ⟨ji7,hji7⟩:∃ j_:Int,(shl .i64 1 a0)=j_:=⟨_,rfl⟩
 first |rw [hji7] at H|simp only [hji7] at H
 (try rw [hji7] at A3)
 have hji7_:(IntKind.i64.wrap (1*2 ^ min a0.toNat 64))=ji7:=hji7
 have hji7z:a0≤64→(IntKind.i64.wrap (1*2 ^ a0.toNat))=ji7:=shl_small hji7
 have hji7u:(IntKind.i64.wrap (2 ^ min a0.toNat 64))=ji7:=by have h_:=hji7_;rw [Int.one_mul] at h_;exact h_
 have hji7v:a0≤64→(IntKind.i64.wrap (2 ^ a0.toNat))=ji7:=fun hle_=>by have h_:=hji7z hle_;rw [Int.one_mul] at h_;exact h_
 have hji7y:(wrap64 (1*2 ^ min a0.toNat 64))=ji7:=(i64_w _).symm.trans hji7_
 have hji7x:a0≤64→(wrap64 (1*2 ^ a0.toNat))=ji7:=fun h_=>(i64_w _).symm.trans (hji7z h_)
 obtain rfl:=Option.some.inj H
 go_enter Tryz.func70,Tryz.ntmps70
 go_wp2_with (first|((with_reducible refine gate_callee (f:=71) rfl ?_);refine goesL_ (some 6) rfl rfl Tryz.func71 krT_ rfl #[.int .i64 a0] rfl agT_ ?_;(with_reducible refine (impl_isSize.calls a0 true _ A3.out).mono ?_);rintro e w' ⟨rfl,⟨nd,rfl⟩⟩;refine ⟨_,rfl,?_⟩))
 go_ret
 exact ⟨by first|rfl|(simp;done)|(simp only [← hji7]<;>(first|rfl|simp))|(simp [*];done),dT_⟩
def impl_IsFamily.l0:Nat→Int→List Int→List Int→Int→Int→Option (Bool)
 | 0,_,_,_,_,_=>none
 | k+1,x0,x1,x7,x8,x9=>if x9<x8 then (if 0≤x9 then (if x9<(x7.length:Int) then ((impl_IsSet.f x0 (rd x7 x9)).bind fun t517=>(if t517=true then (if x9>0 then (if 0≤(wrap64 (x9-1)) then (if (wrap64 (x9-1))<(x1.length:Int) then (if (rd x7 x9)≤(rd x1 (wrap64 (x9-1))) then (some false) else (impl_IsFamily.l0 k x0 x1 x7 x8 (wrap64 (x9+1)))) else (none)) else (none)) else (impl_IsFamily.l0 k x0 x1 x7 x8 (wrap64 (x9+1)))) else (some false))) else (none)) else (none)) else ((impl_isSize.f x0).bind fun t519=>(some t519))
def impl_IsFamily.f (k:Nat) (a0:Int) (l1:List Int):Option (Bool):=impl_IsFamily.l0 k a0 l1 l1 (l1.length:Int) 0
theorem impl_IsFamily.calls (k:Nat) (a0:Int) (A1:Option Addr) (c1:Nat) (l1:List Int) (r:Bool) (w:World) (hr1:Kd.C (Kd.int .i64) w A1 l1.length l1) (hc1:l1.length≤c1) (h:impl_IsFamily.f k a0 l1=some r) :
    Calls Tryz.prog 31 #[.int .i64 a0,.slice A1 l1.length c1] w fun e w'=>e=.returned (.bool r)∧Drawn0 w w':=by
 have HR1:=Aside0.mk hr1
 have HC1:=Aside0.mk hc1
 clear hr1 hc1
 have H:(impl_IsFamily.l0 k a0 l1 l1 (l1.length:Int) 0)=some r:=h
 clear h
 have H':=Aside0.mk H
 clear H
 go_enter Tryz.func31,Tryz.ntmps31
 go_wp2
 go_loopg [9] k (fun kq v9 w'=>∃ (x9_1:Int),v9=.int .i64 x9_1∧Aside0 (impl_IsFamily.l0 kq a0 l1 l1 (l1.length:Int) x9_1=some r)∧Aside0 (kq≤k)∧Drawn0 w w')
 case atStart=>exact ⟨(0),sT_,H',⟨Nat.le_refl _⟩,dT_⟩
 case round =>
 clear H'
 try clear c1
 try clear p2
 obtain ⟨x9_1,rfl,HA,HK1,⟨m1,rfl⟩⟩:=hrel
 cases gk with
 | zero=>exact absurd HA.out (by simp [impl_IsFamily.l0])
 | succ k1 =>
 have H:=HA.out
 clear HA
 simp only [impl_IsFamily.l0] at H
 replace H:=gsn_ H;rcases H with ⟨c3b0,H⟩|⟨c3b0,H⟩
 ·replace H:=bnd_ H;obtain ⟨t519,A13,H⟩:=H
  obtain rfl:=Option.some.inj H
  go_wp2_with (first|((with_reducible refine gate_callee (f:=71) rfl ?_);refine goesL_ (some 33) rfl rfl Tryz.func71 krT_ rfl #[.int .i64 a0] rfl agT_ ?_;(with_reducible refine (impl_isSize.calls a0 t519 _ A13.out).mono ?_);rintro e w' ⟨rfl,⟨nd,rfl⟩⟩;refine ⟨_,rfl,?_⟩))
  go_ret
  exact ⟨sT_,dT_⟩
 replace H:=gsm_ H;obtain ⟨c4b0,H⟩:=H
 replace H:=gsm_ H;obtain ⟨c5b0,H⟩:=H
 replace H:=bnd_ H;obtain ⟨t517,A6,H⟩:=H
 replace H:=(gst_ H).symm;rcases H with ⟨rfl,H⟩|⟨rfl,H⟩
 ·obtain rfl:=Option.some.inj H
  obtain ⟨ad516,e516,hx516_0,p516,q516⟩:=aiI_ HR1.out x9_1
  cases e516
  go_wp2_with (first|((with_reducible refine gate_callee (f:=70) rfl ?_);refine goesL_ (some 16) rfl rfl Tryz.func70 krT_ rfl #[.int .i64 a0,.int .i64 (rd l1 x9_1)] rfl agT_ ?_;(with_reducible refine (impl_IsSet.calls a0 (rd l1 x9_1) false _ A6.out).mono ?_);rintro e w' ⟨rfl,⟨nd,rfl⟩⟩;refine ⟨_,rfl,?_⟩))
  go_ret
  exact ⟨sT_,dT_⟩
 replace H:=(gsq_ H).symm;rcases H with ⟨c8,H⟩|⟨c8,H⟩
 ·have c8b0:decide (0<x9_1)=false:=decide_eq_false c8
  clear c8
  have H':=Aside0.mk H
  clear H
  obtain ⟨ad516,e516,hx516_0,p516,q516⟩:=aiI_ HR1.out x9_1
  cases e516
  go_wp2_with (first|((with_reducible refine gate_callee (f:=70) rfl ?_);refine goesL_ (some 16) rfl rfl Tryz.func70 krT_ rfl #[.int .i64 a0,.int .i64 (rd l1 x9_1)] rfl agT_ ?_;(with_reducible refine (impl_IsSet.calls a0 (rd l1 x9_1) true _ A6.out).mono ?_);rintro e w' ⟨rfl,⟨nd,rfl⟩⟩;refine ⟨_,rfl,?_⟩))
  go_roundg k1
  case measure=>have:=HK1.out;omega
  case rel=>exact ⟨(wrap64 (x9_1+1)),sT_,H',⟨by have:=HK1.out;omega⟩,dT_⟩
 have c8b0:decide (0<x9_1)=true:=decide_eq_true c8
 clear c8
 obtain ⟨ji9,hji9⟩:∃ j_:Int,(wrap64 (x9_1-1))=j_:=⟨_,rfl⟩
 first |rw [hji9] at H|simp only [hji9] at H
 (try rw [hji9] at A6)
 have hji9w:(IntKind.i64.wrap (x9_1-1))=ji9:=(i64_w _).trans hji9
 replace H:=gsm_ H;obtain ⟨c10b0,H⟩:=H
 replace H:=gsm_ H;obtain ⟨c11b0,H⟩:=H
 replace H:=gsb_ H;rcases H with ⟨c12b0,H⟩|⟨c12b0,H⟩
 ·obtain rfl:=Option.some.inj H
  obtain ⟨ad516,e516,hx516_0,p516,q516⟩:=aiI_ HR1.out x9_1
  cases e516
  go_wp2_with (first|((with_reducible refine gate_callee (f:=70) rfl ?_);refine goesL_ (some 16) rfl rfl Tryz.func70 krT_ rfl #[.int .i64 a0,.int .i64 (rd l1 x9_1)] rfl agT_ ?_;(with_reducible refine (impl_IsSet.calls a0 (rd l1 x9_1) true _ A6.out).mono ?_);rintro e w' ⟨rfl,⟨nd,rfl⟩⟩;refine ⟨_,rfl,?_⟩;obtain ⟨ad518,e518,hx518_0,p518,q518⟩:=aiI_ HR1.out (ji9);obtain rfl:ad516=ad518:=(by injection e518)))
  go_ret
  exact ⟨by first|rfl|(simp;done)|(simp only [← hji9]<;>(first|rfl|simp))|(simp [*];done),dT_⟩
 have H':=Aside0.mk H
 clear H
 obtain ⟨ad516,e516,hx516_0,p516,q516⟩:=aiI_ HR1.out x9_1
 cases e516
 go_wp2_with (first|((with_reducible refine gate_callee (f:=70) rfl ?_);refine goesL_ (some 16) rfl rfl Tryz.func70 krT_ rfl #[.int .i64 a0,.int .i64 (rd l1 x9_1)] rfl agT_ ?_;(with_reducible refine (impl_IsSet.calls a0 (rd l1 x9_1) true _ A6.out).mono ?_);rintro e w' ⟨rfl,⟨nd,rfl⟩⟩;refine ⟨_,rfl,?_⟩;obtain ⟨ad518,e518,hx518_0,p518,q518⟩:=aiI_ HR1.out (ji9);obtain rfl:ad516=ad518:=(by injection e518)))
 go_roundg k1
 case measure=>have:=HK1.out;omega
 case rel=>exact ⟨(wrap64 (x9_1+1)),sT_,H',⟨by have:=HK1.out;omega⟩,dT_⟩
def impl_isAny.f (a0:Int):Option (Bool):=if a0≥0 then (some (decide (a0<256))) else (some false)
theorem impl_isAny.calls (a0:Int) (r:Bool) (w:World) (h:impl_isAny.f a0=some r) :
    Calls Tryz.prog 72 #[.int .i64 a0] w fun e w'=>e=.returned (.bool r)∧Drawn0 w w':=by
 have H:(if a0≥0 then (some (decide (a0<256))) else (some false))=some r:=h
 clear h
 replace H:=gsq_ H;rcases H with ⟨c2,H⟩|⟨c2,H⟩
 ·have c2b0:decide (0≤a0)=true:=decide_eq_true c2
  clear c2
  obtain rfl:=Option.some.inj H
  go_enter Tryz.func72,Tryz.ntmps72
  go_wp2
  go_ret
  exact ⟨sT_,dT_⟩
 have c2b0:decide (0≤a0)=false:=decide_eq_false c2
 clear c2
 obtain rfl:=Option.some.inj H
 go_enter Tryz.func72,Tryz.ntmps72
 go_wp2
 go_ret
 exact ⟨sT_,dT_⟩
def impl_HasElement.f (a0:Int) (a1:Int):Option (Bool):=(impl_isAny.f a0).bind fun t520=>(if t520=true then (if a1≥0 then (if a1<8 then (if 0≤a1 then (some ((Go.bits .and .i64 (shr .i64 a0 a1) 1)==1)) else (none)) else (some false)) else (some false)) else (some false))
theorem impl_HasElement.calls (a0:Int) (a1:Int) (r:Bool) (w:World) (h:impl_HasElement.f a0 a1=some r) :
    Calls Tryz.prog 50 #[.int .i64 a0,.int .i64 a1] w fun e w'=>e=.returned (.bool r)∧Drawn0 w w':=by
 unfold impl_HasElement.f at h
 have H:=h
 clear h
 replace H:=bnd_ H;obtain ⟨t520,A3,H⟩:=H
 replace H:=(gst_ H).symm;rcases H with ⟨rfl,H⟩|⟨rfl,H⟩
 ·obtain rfl:=Option.some.inj H
  go_enter Tryz.func50,Tryz.ntmps50
  go_wp2_with (first|((with_reducible refine gate_callee (f:=72) rfl ?_);refine goesL_ (some 6) rfl rfl Tryz.func72 krT_ rfl #[.int .i64 a0] rfl agT_ ?_;(with_reducible refine (impl_isAny.calls a0 false _ A3.out).mono ?_);rintro e w' ⟨rfl,⟨nd,rfl⟩⟩;refine ⟨_,rfl,?_⟩))
  go_ret
  exact ⟨sT_,dT_⟩
 replace H:=(gsq_ H).symm;rcases H with ⟨c5,H⟩|⟨c5,H⟩
 ·have c5b0:decide (0≤a1)=false:=decide_eq_false c5
  clear c5
  obtain rfl:=Option.some.inj H
  go_enter Tryz.func50,Tryz.ntmps50
  go_wp2_with (first|((with_reducible refine gate_callee (f:=72) rfl ?_);refine goesL_ (some 6) rfl rfl Tryz.func72 krT_ rfl #[.int .i64 a0] rfl agT_ ?_;(with_reducible refine (impl_isAny.calls a0 true _ A3.out).mono ?_);rintro e w' ⟨rfl,⟨nd,rfl⟩⟩;refine ⟨_,rfl,?_⟩))
  go_ret
  exact ⟨sT_,dT_⟩
 have c5b0:decide (0≤a1)=true:=decide_eq_true c5
 clear c5
 replace H:=gsn_ H;rcases H with ⟨c6b0,H⟩|⟨c6b0,H⟩
 ·obtain rfl:=Option.some.inj H
  go_enter Tryz.func50,Tryz.ntmps50
  go_wp2_with (first|((with_reducible refine gate_callee (f:=72) rfl ?_);refine goesL_ (some 6) rfl rfl Tryz.func72 krT_ rfl #[.int .i64 a0] rfl agT_ ?_;(with_reducible refine (impl_isAny.calls a0 true _ A3.out).mono ?_);rintro e w' ⟨rfl,⟨nd,rfl⟩⟩;refine ⟨_,rfl,?_⟩))
  go_ret
  exact ⟨sT_,dT_⟩
 replace H:=gsp_ H;obtain ⟨c7,H⟩:=H
 have c7b0:=eq_true c7
 have c7b1:decide (0≤a1)=true:=decide_eq_true c7
 clear c7
 obtain ⟨ji8,hji8⟩:∃ j_:Int,(shr .i64 a0 a1)=j_:=⟨_,rfl⟩
 first |rw [hji8] at H|simp only [hji8] at H
 (try rw [hji8] at A3)
 have hji8_:(a0 / 2 ^ min a1.toNat 64)=ji8:=hji8
 have hji8z:a1≤64→(a0 / 2 ^ a1.toNat)=ji8:=shr_small hji8
 obtain rfl:=Option.some.inj H
 go_enter Tryz.func50,Tryz.ntmps50
 go_wp2_with (first|((with_reducible refine gate_callee (f:=72) rfl ?_);refine goesL_ (some 6) rfl rfl Tryz.func72 krT_ rfl #[.int .i64 a0] rfl agT_ ?_;(with_reducible refine (impl_isAny.calls a0 true _ A3.out).mono ?_);rintro e w' ⟨rfl,⟨nd,rfl⟩⟩;refine ⟨_,rfl,?_⟩))
 go_ret
 exact ⟨by first|rfl|(simp;done)|(simp only [← hji8]<;>(first|rfl|simp))|(simp [*];done),dT_⟩
def impl_ElementsOf.l0:Nat→Int→List Int→Int→Option (List Int)
 | 0,_,_,_=>none
 | k+1,x0,x3,x4=>if x4<8 then ((impl_HasElement.f x0 x4).bind fun t524=>(if t524=true then (if x3.length<17592186044416 then (impl_ElementsOf.l0 k x0 (x3++[x4]) (wrap64 (x4+1))) else (none)) else (impl_ElementsOf.l0 k x0 x3 (wrap64 (x4+1))))) else (some x3)
def impl_ElementsOf.f (k:Nat) (a0:Int):Option (List Int):=impl_ElementsOf.l0 k a0 (([]:List Int)) 0
theorem impl_ElementsOf.calls (k:Nat) (a0:Int) (r:List Int) (w:World) (h:impl_ElementsOf.f k a0=some r) :
    Calls Tryz.prog 33 #[.int .i64 a0] w fun e w'=>∃ v0_:Value,e=.returned (v0_)∧Kd.R (Kd.int .i64) 3 w' w.heap.size (fun _=>True) v0_ r∧Below w.heap.size w w':=by
 have HB:=Aside0.mk (Below.refl w.heap.size w)
 have H:(impl_ElementsOf.l0 k a0 (([]:List Int)) 0)=some r:=h
 clear h
 obtain ⟨y521,hy521⟩:∃ y_:List Int,y_=(([]:List Int)):=⟨_,rfl⟩
 rw [← hy521] at H
 have Ny521:=Aside0.mk hy521
 clear hy521
 have H':=Aside0.mk H
 clear H
 go_enter Tryz.func33,Tryz.ntmps33
 go_wp2_with (first|((with_reducible refine gate_dst (N:=5) rfl ?_);refine Kd.R_lit (Kd.int .i64) _ 3 ?hg (N:=5) ?hd (xs:=([]:List Int)) (inner:=[]) (ok:=fun _=>True) (okp:=fun _=>True) ?hr ?hp (fun _ hk=>hk) trivial (Below.refl _ _) (Nat.le_refl _) (by simp) ?_;(case hd=>rfl);(case hg=>rfl);(case hr=>exact hrT_);(case hp=>exact (Reps.none _ _));intro v522 w2 ho3 hb hg_ hnew_;clear hg_ hnew_;(first|rw [← Ny521.out] at ho3|(simp only [Int.reduceToNat] at ho3;rw [← Ny521.out] at ho3));have HO523:=Aside0.mk (Kd.R_lower ho3 (below_size (h_HB HB.out)));replace HB:=s_HB HB.out hb;clear hb ho3))
 go_loopg [3,4] k (fun kq v3 v4 w'=>∃ (x3_1:List Int) (x4_1:Int),v4=.int .i64 x4_1∧Aside0 (impl_ElementsOf.l0 kq a0 x3_1 x4_1=some r)∧Aside0 (kq≤k)∧Aside0 (Kd.R (Kd.int .i64) 3 w' w.heap.size (fun _=>True) v3 x3_1)∧Aside0 (Below w.heap.size w w'))
 case atStart=>exact ⟨(y521),(0),sT_,H',⟨Nat.le_refl _⟩,⟨kRC_ HO523.out⟩,⟨h_HB HB.out⟩⟩
 case round =>
 clear H'
 try clear p2
 try clear c3
 obtain ⟨x3_1,x4_1,rfl,HA,HK1,HO_3,HB⟩:=hrel
 cases gk with
 | zero=>exact absurd HA.out (by simp [impl_ElementsOf.l0])
 | succ k1 =>
 have H:=HA.out
 clear HA
 simp only [impl_ElementsOf.l0] at H
 replace H:=gsn_ H;rcases H with ⟨c4b0,H⟩|⟨c4b0,H⟩
 ·obtain rfl:=Option.some.inj H
  go_wp2
  go_ret
  exact ⟨_,eT_,kRC_ HO_3.out,h_HB HB.out⟩
 replace H:=bnd_ H;obtain ⟨t524,A5,H⟩:=H
 replace H:=(gst_ H).symm;rcases H with ⟨rfl,H⟩|⟨rfl,H⟩
 ·have H':=Aside0.mk H
  clear H
  go_wp2_with (first|((with_reducible refine gate_callee (f:=50) rfl ?_);refine goesL_ (some 12) rfl rfl Tryz.func50 krT_ rfl #[.int .i64 a0,.int .i64 x4_1] rfl agT_ ?_;(with_reducible refine (impl_HasElement.calls a0 x4_1 false _ A5.out).mono ?_);rintro e w' ⟨rfl,⟨nd,rfl⟩⟩;refine ⟨_,rfl,?_⟩))
  go_roundg k1
  case measure=>have:=HK1.out;omega
  case rel=>exact ⟨(x3_1),(wrap64 (x4_1+1)),sT_,H',⟨by have:=HK1.out;omega⟩,⟨kRC_ HO_3.out⟩,⟨h_HB HB.out⟩⟩
 replace H:=gsl_ H;obtain ⟨LMc7,H⟩:=H
 obtain ⟨y525,hy525⟩:∃ y_:List Int,y_=(x3_1++[x4_1]):=⟨_,rfl⟩
 rw [← hy525] at H
 have Ny525:=Aside0.mk hy525
 clear hy525
 have H':=Aside0.mk H
 clear H
 go_wp2_with (first|((with_reducible refine gate_callee (f:=50) rfl ?_);refine goesL_ (some 12) rfl rfl Tryz.func50 krT_ rfl #[.int .i64 a0,.int .i64 x4_1] rfl agT_ ?_;(with_reducible refine (impl_HasElement.calls a0 x4_1 true _ A5.out).mono ?_);rintro e w' ⟨rfl,⟨nd,rfl⟩⟩;refine ⟨_,rfl,?_⟩)|((with_reducible refine gate_builtin (b:=.append) (xs:=#[.tmp 13,.tmp 15]) rfl ?_);at_builtin;refine Kd.R_append (Kd.int .i64) (w0:=w) w.heap.size rfl (.tmp 13) (.tmp 15) 24 3 (.int .i64 0) 8 rfl Tryz.underlying24 info3 rfl (by decide) (by omega) u3 x3_1 x4_1 [.int .i64 x4_1] (fun _=>True) (fun _=>False) rfl rfl ?aP (fun _ hk=>hk.elim) ?aF ?aO ?aB ?aS ?aL ?_;(case aP=>exact rfl);(case aB=>exact (h_HB HB.out));(case aF=>exact (fun _ _=>trivial));(case aO=>exact (kRC_ HO_3.out));(case aS=>exact (below_size (h_HB HB.out)));(case aL=>have:=LMc7.out;omega);intro v526 w8 ho hb hg hat;rw [← Ny525.out] at ho;replace HB:=Aside0.mk (hb);have HO527:=Aside0.mk (ho);clear HO_3;clear ho hb hg hat))
 go_roundg k1
 case measure=>have:=HK1.out;omega
 case rel=>exact ⟨(y525),(wrap64 (x4_1+1)),sT_,H',⟨by have:=HK1.out;omega⟩,⟨kRC_ HO527.out⟩,⟨h_HB HB.out⟩⟩
/-- The first hit of a predicate in a list, from index x on, as Go's loop looks for it (k: its rounds). -/
def anyL (p:Int→Option Bool) (l:List Int):Nat→Int→Option Bool
 | 0,_=>none
 | k+1,x=>if x<(l.length:Int) then (if 0≤x then ((p (rd l x)).bind fun b=>(if b=true then (some true) else (anyL p l k (wrap64 (x+1))))) else (none)) else (some false)
theorem anyL_mono {p q:Int→Option Bool} (l:List Int) (h:∀ x,LeO (p x) (q x)):∀ k x,LeO (anyL p l k x) (anyL q l (k+1) x)
 | 0,_=>fun r hr=>by simp [anyL] at hr
 | k+1,x=>by
  unfold anyL
  refine LeO.ite ?_ (LeO.refl _)
  refine LeO.ite ?_ (LeO.refl _)
  refine LeO.bind (h _) (fun b=>?_)
  exact LeO.ite (LeO.refl _) (anyL_mono l h k _)
/-- A function value that takes a whole number, answers as p does, and leaves memory alone. -/
def Quiet1 (g:Nat) (lb:Array Value) (w:World) (p:Int→Option Bool):Prop :=
 ∀ (x:Int) (b:Bool) (n:Nat),p x=some b→Calls Tryz.prog g (#[.int .i64 x]++lb) (w.drewN n) fun e w'=>e=.returned (.bool b)∧Drawn0 (w.drewN n) w'
theorem g_enters {f : FuncId} {fn : Func} {c : Code} (hf : Tryz.prog.funcs[f]? = some fn) (hname : (fn.name == "runtime.NumGoroutine") = false) (hb : fn.body = some c) : ∀ args w, (callFunc f args).run Tryz.prog w = .ok (.enter f args) w := by
 intro args w
 have h1 : fn.name ≠ "runtime.NumGoroutine" := by simpa using hname
 simp [callFunc,hf,h1,hb,mark]
theorem drawn_quiet {f:Nat} {args:Array Value} {w:World} {n:Nat} {v:Value} (h:Calls Tryz.prog f args (w.drewN n) fun e w'=>e=.returned v∧Drawn0 (w.drewN n) w') :
    Calls Tryz.prog f args (w.drewN n) fun e w''=>e=.returned v∧∃ m,w''=w.drewN m:=Calls.quiet_of (h.mono fun _ _ ⟨he,⟨m,hm⟩⟩=>⟨he,m,hm⟩)
/-- What IndexFunc answers, of which ContainsFunc asks only whether it is no less than nought. -/
def IdxIs (r:Bool) (w:World) (e:Ending) (w':World):Prop:=(∃ i:Int,e=.returned (.int .i64 i)∧decide (0≤i)=r)∧Drawn0 w w'
set_option maxHeartbeats 4000000 in
theorem indexFunc_calls (g:Nat) (lb:Array Value) (eg:∀ args w,(callFunc g args).run Tryz.prog w=.ok (.enter g args) w) (p:Int→Option Bool) (k:Nat) (A0:Option Addr) (c0:Nat) (l0:List Int) (r:Bool) (w:World)
  (hr0:Kd.C (Kd.int .i64) w A0 l0.length l0) (hp:Quiet1 g lb w p) (h:anyL p l0 k 0=some r) :
    Calls Tryz.prog 73 #[.slice A0 l0.length c0,.func (.func g) #[] lb] w (IdxIs r w):=by
 have HR0:=Aside0.mk hr0
 clear hr0
 have HP:=Aside0.mk hp
 clear hp
 have H':=Aside0.mk h
 clear h
 go_enter Tryz.func73,Tryz.ntmps73
 go_wp2
 go_loopg [5,8] k (fun kq v5 v8 w'=>∃ (x:Int),v8=.int .i64 x∧Aside0 (anyL p l0 kq x=some r)∧Drawn0 w w')
 case atStart=>exact ⟨0,rfl,H',Drawn0.refl _⟩
 case round =>
  clear H'
  obtain ⟨x,rfl,HA,⟨m,rfl⟩⟩:=hrel
  cases gk with
  | zero=>exact absurd HA.out (by simp [anyL])
  | succ k1 =>
   have H:=HA.out
   clear HA
   simp only [anyL] at H
   by_cases c3:x<(l0.length:Int)
   ·rw [if_pos c3] at H
    have c3b0:decide (x<(l0.length:Int))=true:=decide_eq_true c3
    by_cases p0:0≤x
    ·rw [if_pos p0] at H
     replace H:=Option.bind_eq_some_iff.mp H
     obtain ⟨b,hb,H⟩:=H
     have HC:=Aside0.mk (fun n=>HP.out (rd l0 x) b n hb)
     clear hb
     obtain ⟨ad,e0,hx0⟩:=Kd.at_int HR0.out x p0 c3
     cases e0
     have P0:=Aside0.mk p0
     replace p0:=eq_true p0
     replace c3:=eq_true c3
     cases b with
     | true =>
      rw [if_pos rfl] at H
      obtain rfl:=Option.some.inj H
      go_wp2_with ((with_reducible refine (HC.out _).mono ?_);rintro e w' ⟨rfl,⟨q,rfl⟩⟩)
      go_ret
      exact ⟨⟨_,rfl,decide_eq_true P0.out⟩,dT_⟩
     | false =>
      rw [if_neg (by decide)] at H
      have H':=Aside0.mk H
      clear H
      go_wp2_with ((with_reducible refine (HC.out _).mono ?_);rintro e w' ⟨rfl,⟨q,rfl⟩⟩)
      go_roundg k1
      case measure=>omega
      case rel=>exact ⟨wrap64 (x+1),rfl,H',dT_⟩
    ·rw [if_neg p0] at H
     exact absurd H (by simp)
   ·rw [if_neg c3] at H
    have c3b0:decide (x<(l0.length:Int))=false:=decide_eq_false c3
    obtain rfl:=Option.some.inj H
    go_wp2
    go_ret
    exact ⟨⟨_,rfl,rfl⟩,dT_⟩
-- needs slices.IndexFunc[[]int,int]
set_option maxHeartbeats 4000000 in
theorem containsFunc_calls (g:Nat) (lb:Array Value) (eg:∀ args w,(callFunc g args).run Tryz.prog w=.ok (.enter g args) w) (p:Int→Option Bool) (k:Nat) (A0:Option Addr) (c0:Nat) (l0:List Int) (r:Bool) (w:World)
  (hr0:Kd.C (Kd.int .i64) w A0 l0.length l0) (hp:Quiet1 g lb w p) (h:anyL p l0 k 0=some r) :
    Calls Tryz.prog 34 #[.slice A0 l0.length c0,.func (.func g) #[] lb] w fun e w'=>e=.returned (.bool r)∧Drawn0 w w':=by
 have HC:=Aside0.mk (indexFunc_calls g lb eg p k A0 c0 l0 r w hr0 hp h)
 clear eg hr0 hp h
 go_enter Tryz.func34,Tryz.ntmps34
 go_wp2_with ((with_reducible refine HC.out.mono ?_);rintro e w' ⟨⟨i,rfl,hi⟩,⟨q,rfl⟩⟩;have HI:=Aside0.mk hi;clear hi)
 go_ret
 exact ⟨by rw [← HI.out];first|rfl|(simp;done),dT_⟩
def slices_Index_int_int.l0:Nat→List Int→Int→Int→Int→Option (Int)
 | 0,_,_,_,_=>none
 | k+1,x0,x1,x7,x8=>if x8<x7 then (if 0≤x8 then (if x8<(x0.length:Int) then (if x1=(rd x0 x8) then (some x8) else (slices_Index_int_int.l0 k x0 x1 x7 (wrap64 (x8+1)))) else (none)) else (none)) else (some (-1))
def slices_Index_int_int.f (k:Nat) (l0:List Int) (a1:Int):Option (Int):=slices_Index_int_int.l0 k l0 a1 (l0.length:Int) 0
theorem slices_Index_int_int.calls (k:Nat) (A0:Option Addr) (c0:Nat) (l0:List Int) (a1:Int) (r:Int) (w:World) (hr0:Kd.C (Kd.int .i64) w A0 l0.length l0) (hc0:l0.length≤c0) (h:slices_Index_int_int.f k l0 a1=some r) :
    Calls Tryz.prog 94 #[.slice A0 l0.length c0,.int .i64 a1] w fun e w'=>e=.returned (.int .i64 r)∧Drawn0 w w':=by
 have HR0:=Aside0.mk hr0
 have HC0:=Aside0.mk hc0
 clear hr0 hc0
 have H:(slices_Index_int_int.l0 k l0 a1 (l0.length:Int) 0)=some r:=h
 clear h
 have H':=Aside0.mk H
 clear H
 go_enter Tryz.func94,Tryz.ntmps94
 go_wp2
 go_loopg [8] k (fun kq v8 w'=>∃ (x8_1:Int),v8=.int .i64 x8_1∧Aside0 (slices_Index_int_int.l0 kq l0 a1 (l0.length:Int) x8_1=some r)∧Aside0 (kq≤k)∧Drawn0 w w')
 case atStart=>exact ⟨(0),sT_,H',⟨Nat.le_refl _⟩,dT_⟩
 case round =>
 clear H'
 try clear p2
 obtain ⟨x8_1,rfl,HA,HK1,⟨m1,rfl⟩⟩:=hrel
 cases gk with
 | zero=>exact absurd HA.out (by simp [slices_Index_int_int.l0])
 | succ k1 =>
 have H:=HA.out
 clear HA
 simp only [slices_Index_int_int.l0] at H
 replace H:=gsn_ H;rcases H with ⟨c3b0,H⟩|⟨c3b0,H⟩
 ·obtain rfl:=Option.some.inj H
  go_wp2
  go_ret
  exact ⟨sT_,dT_⟩
 replace H:=gsm_ H;obtain ⟨c4b0,H⟩:=H
 replace H:=gsm_ H;obtain ⟨c5b0,H⟩:=H
 replace H:=gse_ H;rcases H with ⟨c6b0,c6b1,H⟩|⟨c6b0,c6b1,c6,H⟩
 ·obtain rfl:=Option.some.inj H
  obtain ⟨ad528,e528,hx528_0,p528,q528⟩:=aiI_ HR0.out x8_1
  cases e528
  go_wp2
  go_ret
  exact ⟨sT_,dT_⟩
 have H':=Aside0.mk H
 clear H
 obtain ⟨ad528,e528,hx528_0,p528,q528⟩:=aiI_ HR0.out x8_1
 cases e528
 go_wp2
 go_roundg k1
 case measure=>have:=HK1.out;omega
 case rel=>exact ⟨(wrap64 (x8_1+1)),sT_,H',⟨by have:=HK1.out;omega⟩,dT_⟩
def slices_Contains_int_int.f (k:Nat) (l0:List Int) (a1:Int):Option (Bool):=(slices_Index_int_int.f k l0 a1).bind fun t529=>(some (decide (t529≥0)))
theorem slices_Contains_int_int.calls (k:Nat) (A0:Option Addr) (c0:Nat) (l0:List Int) (a1:Int) (r:Bool) (w:World) (hr0:Kd.C (Kd.int .i64) w A0 l0.length l0) (hc0:l0.length≤c0) (h:slices_Contains_int_int.f k l0 a1=some r) :
    Calls Tryz.prog 82 #[.slice A0 l0.length c0,.int .i64 a1] w fun e w'=>e=.returned (.bool r)∧Drawn0 w w':=by
 have HR0:=Aside0.mk hr0
 have HC0:=Aside0.mk hc0
 clear hr0 hc0
 have H:((slices_Index_int_int.f k l0 a1).bind fun t529=>(some (decide (t529≥0))))=some r:=h
 clear h
 replace H:=bnd_ H;obtain ⟨t529,A3,H⟩:=H
 obtain rfl:=Option.some.inj H
 go_enter Tryz.func82,Tryz.ntmps82
 go_wp2_with (first|((with_reducible refine gate_callee (f:=94) rfl ?_);refine goesL_ (some 7) rfl rfl Tryz.func94 krT_ rfl #[.slice A0 l0.length c0,.int .i64 a1] rfl agT_ ?_;(with_reducible refine (slices_Index_int_int.calls k _ _ l0 a1 t529 _ ?side1 ?side2 A3.out).mono ?_);(case side1=>repeat (first|exact HR0.out|(with_reducible refine Kd.C_alloc ?_ _)|(with_reducible refine Kd.C_drewN ?_ _)|(with_reducible refine Kd.C_drew ?_)));(case side2=>exact HC0.out);rintro e w' ⟨rfl,⟨nd,rfl⟩⟩;refine ⟨_,rfl,?_⟩))
 go_ret
 exact ⟨sT_,dT_⟩
end Go.Proofs.YtekegbacnagbcaaGreat.P
