-- written by gprint (a program of this session's, round the kit's print), out of the translation and hand-written texts
import Derived.Test.YtekegbacnagbcaaGreatPVFnCircuitsx0
import Derived.Test.YtekegbacnagbcaaGreatPVFnCircuitsx3
import Derived.Test.YtekegbacnagbcaaGreatPVFnCircuitsx4
import Derived.Test.YtekegbacnagbcaaGreatPVFnCircuitsx5
namespace Go.Proofs.YtekegbacnagbcaaGreat.P
open Go.RowKit Go.Proofs.YtekegbacnagbcaaGreatW.PrintWords Go.Proofs.YtekegbacnagbcaaGreatW.PrintLast Go.Proofs.YtekegbacnagbcaaGreatW.PrintMore
attribute [local go_sem] max2_int min2_int max_two min_two max_three min_three max_four min_four
set_option linter.unusedVariables false
set_option maxHeartbeats 8000000
set_option maxRecDepth 100000
set_option linter.unusedSimpArgs false
def spec_l4Exchange.l0:Nat→Int→Int→Int→Int→Int→List Int→Option (Bool)
 | 0,_,_,_,_,_,_=>none
 | k+1,x1,x2,x3,x9,x225000,x225001=>if x9<x225000 then ((spec_l2Has.f x2 x9).bind fun t225=>(if t225=true then ((spec_l2Has.f x1 x9).bind fun t226=>(if t226=true then (spec_l4Exchange.l0 k x1 x2 x3 (wrap64 (x9+1)) x225000 x225001) else (if 0≤(IntKind.u64.wrap (x3)) then (if 0≤(IntKind.u64.wrap (x9)) then ((spec_HasSet.f k x225001 (wrap64 ((wrap64 (x1-(shl .i64 1 (IntKind.u64.wrap (x3)))))+(shl .i64 1 (IntKind.u64.wrap (x9)))))).bind fun t227=>(if t227=true then (some true) else (spec_l4Exchange.l0 k x1 x2 x3 (wrap64 (x9+1)) x225000 x225001))) else (none)) else (none)))) else (spec_l4Exchange.l0 k x1 x2 x3 (wrap64 (x9+1)) x225000 x225001))) else (some false)
def spec_l4Exchange.f (k:Nat) (a0_0:Int) (l0_1:List Int) (a1:Int) (a2:Int) (a3:Int):Option (Bool):=spec_l4Exchange.l0 k a1 a2 a3 0 a0_0 l0_1
theorem spec_l4Exchange.calls (k:Nat) (a0_0:Int) (A0_1:Option Addr) (c0_1:Nat) (l0_1:List Int) (a1:Int) (a2:Int) (a3:Int) (r:Bool) (w:World) (hr0_1:Kd.C (Kd.int .i64) w A0_1 l0_1.length l0_1) (hc0_1:l0_1.length≤c0_1) (h:spec_l4Exchange.f k a0_0 l0_1 a1 a2 a3=some r) :
    Calls Tryz.prog 86 #[.agg #[.int .i64 a0_0,.slice A0_1 l0_1.length c0_1],.int .i64 a1,.int .i64 a2,.int .i64 a3] w fun e w'=>e=.returned (.bool r)∧Below w.heap.size w w':=by
 have hu26:=Tryz.underlying26
 have HR0_1:=Aside0.mk hr0_1
 have HC0_1:=Aside0.mk hc0_1
 clear hr0_1 hc0_1
 have HB:=Aside0.mk (Below.refl w.heap.size w)
 have H:(spec_l4Exchange.l0 k a1 a2 a3 0 a0_0 l0_1)=some r:=h
 clear h
 have H':=Aside0.mk H
 clear H
 go_enter Tryz.func86,Tryz.ntmps86
 go_wp2_with (first|((with_reducible refine gate_dst (N:=4) rfl ?_);refine bx_ (N:=4) (cs:=#[.int .i64 a0_0,.slice A0_1 l0_1.length c0_1]) (t:=26) ?_;intro gb224 hg w5 hbox hb;have BK224:=Aside0.mk (hbox);have GW224:=Aside0.mk (gw_ hg (h_HB HB.out));have GE224:=GW224;replace HB:=s_HB HB.out hb;clear hb hbox hg))
 go_loopg [9] k (fun kq v9 w'=>∃ (x9_1:Int),v9=.int .i64 x9_1∧Aside0 (spec_l4Exchange.l0 kq a1 a2 a3 x9_1 a0_0 l0_1=some r)∧Aside0 (kq≤k)∧Aside0 (w'.heap[gb224]?=some (.cells #[.int .i64 a0_0,(.slice A0_1 l0_1.length c0_1)] 26 (0,0)))∧Aside0 (Below w.heap.size w w'))
 case atStart=>exact ⟨(0),sT_,H',⟨Nat.le_refl _⟩,⟨bkC_ BK224.out⟩,⟨h_HB HB.out⟩⟩
 case round =>
 clear H'
 try clear p2
 obtain ⟨x9_1,rfl,HA,HK1,BK224,HB⟩:=hrel
 cases gk with
 | zero=>exact absurd HA.out (by simp [spec_l4Exchange.l0])
 | succ k1 =>
 have H:=HA.out
 clear HA
 simp only [spec_l4Exchange.l0] at H
 replace H:=gsn_ H;rcases H with ⟨c6b0,H⟩|⟨c6b0,H⟩
 ·obtain rfl:=Option.some.inj H
  obtain ⟨hcz23_0,hcz23_1,hfz23_0,hfz23_1⟩:=bz2_ BK224.out
  go_wp2
  go_ret
  exact ⟨eT_,h_HB HB.out⟩
 replace H:=bnd_ H;obtain ⟨t225,A7,H⟩:=H
 replace H:=(gst_ H).symm;rcases H with ⟨rfl,H⟩|⟨rfl,H⟩
 ·have H':=Aside0.mk H
  clear H
  obtain ⟨hcz22_0,hcz22_1,hfz22_0,hfz22_1⟩:=bz2_ BK224.out
  go_wp2_with (first|((with_reducible refine gate_callee (f:=54) rfl ?_);refine goesL_ (some 18) rfl rfl Tryz.func54 krT_ rfl #[.int .i64 a2,.int .i64 x9_1] rfl agT_ ?_;(with_reducible refine (spec_l2Has.calls a2 x9_1 false _ A7.out).mono ?_);rintro e w' ⟨rfl,⟨nd,rfl⟩⟩;refine ⟨_,rfl,?_⟩))
  go_roundg k1
  case measure=>have:=HK1.out;omega
  case rel=>exact ⟨(wrap64 (x9_1+1)),sT_,H',⟨by have:=HK1.out;omega⟩,⟨bkC_ BK224.out⟩,⟨h_HB HB.out⟩⟩
 replace H:=bnd_ H;obtain ⟨t226,A9,H⟩:=H
 replace H:=gst_ H;rcases H with ⟨rfl,H⟩|⟨rfl,H⟩
 ·have H':=Aside0.mk H
  clear H
  obtain ⟨hcz11_0,hcz11_1,hfz11_0,hfz11_1⟩:=bz2_ BK224.out
  go_wp2_with (first|((with_reducible refine gate_callee (f:=54) rfl ?_);refine goesL_ (some 18) rfl rfl Tryz.func54 krT_ rfl #[.int .i64 a2,.int .i64 x9_1] rfl agT_ ?_;(with_reducible refine (spec_l2Has.calls a2 x9_1 true _ A7.out).mono ?_);rintro e w' ⟨rfl,⟨nd,rfl⟩⟩;refine ⟨_,rfl,?_⟩)|(go_at_call 54;(with_reducible refine (spec_l2Has.calls a1 x9_1 true _ A9.out).mono ?_);rintro e w' ⟨rfl,⟨nd,rfl⟩⟩))
  go_roundg k1
  case measure=>have:=HK1.out;omega
  case rel=>exact ⟨(wrap64 (x9_1+1)),sT_,H',⟨by have:=HK1.out;omega⟩,⟨bkC_ BK224.out⟩,⟨h_HB HB.out⟩⟩
 obtain ⟨ji12,hji12⟩:∃ j_:Int,(IntKind.u64.wrap (a3))=j_:=⟨_,rfl⟩
 first |rw [hji12] at H|simp only [hji12] at H
 (try rw [hji12] at A7)
 (try rw [hji12] at A9)
 replace H:=gsp_ H;obtain ⟨c13,H⟩:=H
 have c13b0:=eq_true c13
 have c13b1:decide (0≤(ji12))=true:=decide_eq_true c13
 clear c13
 obtain ⟨ji14,hji14⟩:∃ j_:Int,(shl .i64 1 (ji12))=j_:=⟨_,rfl⟩
 first |rw [hji14] at H|simp only [hji14] at H
 (try rw [hji14] at A7)
 (try rw [hji14] at A9)
 have hji14_:(IntKind.i64.wrap (1*2 ^ min (ji12).toNat 64))=ji14:=hji14
 have hji14z:(ji12)≤64→(IntKind.i64.wrap (1*2 ^ (ji12).toNat))=ji14:=shl_small hji14
 have hji14u:(IntKind.i64.wrap (2 ^ min (ji12).toNat 64))=ji14:=by have h_:=hji14_;rw [Int.one_mul] at h_;exact h_
 have hji14v:(ji12)≤64→(IntKind.i64.wrap (2 ^ (ji12).toNat))=ji14:=fun hle_=>by have h_:=hji14z hle_;rw [Int.one_mul] at h_;exact h_
 have hji14y:(wrap64 (1*2 ^ min (ji12).toNat 64))=ji14:=(i64_w _).symm.trans hji14_
 have hji14x:(ji12)≤64→(wrap64 (1*2 ^ (ji12).toNat))=ji14:=fun h_=>(i64_w _).symm.trans (hji14z h_)
 obtain ⟨ji15,hji15⟩:∃ j_:Int,(IntKind.u64.wrap (x9_1))=j_:=⟨_,rfl⟩
 first |rw [hji15] at H|simp only [hji15] at H
 (try rw [hji15] at A7)
 (try rw [hji15] at A9)
 replace H:=gsp_ H;obtain ⟨c16,H⟩:=H
 have c16b0:=eq_true c16
 have c16b1:decide (0≤(ji15))=true:=decide_eq_true c16
 clear c16
 obtain ⟨ji17,hji17⟩:∃ j_:Int,(shl .i64 1 (ji15))=j_:=⟨_,rfl⟩
 first |rw [hji17] at H|simp only [hji17] at H
 (try rw [hji17] at A7)
 (try rw [hji17] at A9)
 have hji17_:(IntKind.i64.wrap (1*2 ^ min (ji15).toNat 64))=ji17:=hji17
 have hji17z:(ji15)≤64→(IntKind.i64.wrap (1*2 ^ (ji15).toNat))=ji17:=shl_small hji17
 have hji17u:(IntKind.i64.wrap (2 ^ min (ji15).toNat 64))=ji17:=by have h_:=hji17_;rw [Int.one_mul] at h_;exact h_
 have hji17v:(ji15)≤64→(IntKind.i64.wrap (2 ^ (ji15).toNat))=ji17:=fun hle_=>by have h_:=hji17z hle_;rw [Int.one_mul] at h_;exact h_
 have hji17y:(wrap64 (1*2 ^ min (ji15).toNat 64))=ji17:=(i64_w _).symm.trans hji17_
 have hji17x:(ji15)≤64→(wrap64 (1*2 ^ (ji15).toNat))=ji17:=fun h_=>(i64_w _).symm.trans (hji17z h_)
 replace H:=bnd_ H;obtain ⟨t227,A18,H⟩:=H
 replace H:=gst_ H;rcases H with ⟨rfl,H⟩|⟨rfl,H⟩
 ·obtain rfl:=Option.some.inj H
  obtain ⟨hcz20_0,hcz20_1,hfz20_0,hfz20_1⟩:=bz2_ BK224.out
  go_wp2_with (first|((with_reducible refine gate_callee (f:=54) rfl ?_);refine goesL_ (some 18) rfl rfl Tryz.func54 krT_ rfl #[.int .i64 a2,.int .i64 x9_1] rfl agT_ ?_;(with_reducible refine (spec_l2Has.calls a2 x9_1 true _ A7.out).mono ?_);rintro e w' ⟨rfl,⟨nd,rfl⟩⟩;refine ⟨_,rfl,?_⟩)|(go_at_call 54;(with_reducible refine (spec_l2Has.calls a1 x9_1 false _ A9.out).mono ?_);rintro e w' ⟨rfl,⟨nd,rfl⟩⟩)|(go_at_call 21;(with_reducible refine (spec_HasSet.calls k1 _ _ l0_1 (wrap64 ((wrap64 (a1-(ji14)))+(ji17))) true _ ?side1 ?side2 A18.out).mono ?_);(case side1=>repeat (first|exact (Kd.C_below HR0_1.out (h_HB HB.out))|(with_reducible refine Kd.C_alloc ?_ _)|(with_reducible refine Kd.C_drewN ?_ _)|(with_reducible refine Kd.C_drew ?_)));(case side2=>exact HC0_1.out);rintro e w' ⟨rfl,⟨nd,rfl⟩⟩))
  go_ret
  exact ⟨by first|rfl|(simp [errW_none,errW_some]<;>rfl)|(simp only [← hji12,← hji14,← hji15,← hji17];first|rfl|(simp [errW_none,errW_some]<;>rfl))|(simp [*,errW_none,errW_some]<;>rfl),h_HB HB.out⟩
 have H':=Aside0.mk H
 clear H
 obtain ⟨hcz21_0,hcz21_1,hfz21_0,hfz21_1⟩:=bz2_ BK224.out
 go_wp2_with (first|((with_reducible refine gate_callee (f:=54) rfl ?_);refine goesL_ (some 18) rfl rfl Tryz.func54 krT_ rfl #[.int .i64 a2,.int .i64 x9_1] rfl agT_ ?_;(with_reducible refine (spec_l2Has.calls a2 x9_1 true _ A7.out).mono ?_);rintro e w' ⟨rfl,⟨nd,rfl⟩⟩;refine ⟨_,rfl,?_⟩)|(go_at_call 54;(with_reducible refine (spec_l2Has.calls a1 x9_1 false _ A9.out).mono ?_);rintro e w' ⟨rfl,⟨nd,rfl⟩⟩)|(go_at_call 21;(with_reducible refine (spec_HasSet.calls k1 _ _ l0_1 (wrap64 ((wrap64 (a1-(ji14)))+(ji17))) false _ ?side1 ?side2 A18.out).mono ?_);(case side1=>repeat (first|exact (Kd.C_below HR0_1.out (h_HB HB.out))|(with_reducible refine Kd.C_alloc ?_ _)|(with_reducible refine Kd.C_drewN ?_ _)|(with_reducible refine Kd.C_drew ?_)));(case side2=>exact HC0_1.out);rintro e w' ⟨rfl,⟨nd,rfl⟩⟩))
 go_roundg k1
 case measure=>have:=HK1.out;omega
 case rel=>exact ⟨(wrap64 (x9_1+1)),sT_,H',⟨by have:=HK1.out;omega⟩,⟨bkC_ BK224.out⟩,⟨h_HB HB.out⟩⟩
mutual
def spec_FirstFailure.l0:Nat→Int→Int→List Int→Option (Int × Int × Int × Bool)
 | 0,_,_,_=>none
 | k+1,x4,x229000,x229001=>if x4<(x229001.length:Int) then (spec_FirstFailure.l1 k x4 0 x229000 x229001) else (some (0,0,0,false))
def spec_FirstFailure.l1:Nat→Int→Int→Int→List Int→Option (Int × Int × Int × Bool)
 | 0,_,_,_,_=>none
 | k+1,x4,x5,x229000,x229001=>if x5<(x229001.length:Int) then (spec_FirstFailure.l2 k x4 x5 0 x229000 x229001) else (spec_FirstFailure.l0 k (wrap64 (x4+1)) x229000 x229001)
def spec_FirstFailure.l2:Nat→Int→Int→Int→Int→List Int→Option (Int × Int × Int × Bool)
 | 0,_,_,_,_,_=>none
 | k+1,x4,x5,x6,x229000,x229001=>if x6<x229000 then (if 0≤x4 then (if x4<(x229001.length:Int) then (if 0≤x5 then (if x5<(x229001.length:Int) then ((spec_l2Has.f (rd x229001 x4) x6).bind fun t233=>(if t233=true then ((spec_l2Has.f (rd x229001 x5) x6).bind fun t234=>(if t234=true then (spec_FirstFailure.l2 k x4 x5 (wrap64 (x6+1)) x229000 x229001) else ((spec_l4Exchange.f k x229000 x229001 (rd x229001 x4) (rd x229001 x5) x6).bind fun t235=>(if t235=true then (spec_FirstFailure.l2 k x4 x5 (wrap64 (x6+1)) x229000 x229001) else (some (rd x229001 x4,rd x229001 x5,x6,true)))))) else (spec_FirstFailure.l2 k x4 x5 (wrap64 (x6+1)) x229000 x229001))) else (none)) else (none)) else (none)) else (none)) else (spec_FirstFailure.l1 k x4 (wrap64 (x5+1)) x229000 x229001)
end
def spec_FirstFailure.f (k:Nat) (a0_0:Int) (l0_1:List Int):Option (Int × Int × Int × Bool):=(spec_IsFamily.f k a0_0 l0_1).bind fun t230=>(if t230=true then (spec_FirstFailure.l0 k 0 a0_0 l0_1) else (some (0,0,0,false)))
theorem spec_FirstFailure.calls (k:Nat) (a0_0:Int) (A0_1:Option Addr) (c0_1:Nat) (l0_1:List Int) (r1:Int) (r2:Int) (r3:Int) (r4:Bool) (w:World) (hr0_1:Kd.C (Kd.int .i64) w A0_1 l0_1.length l0_1) (hc0_1:l0_1.length≤c0_1) (h:spec_FirstFailure.f k a0_0 l0_1=some (r1,r2,r3,r4)) :
    Calls Tryz.prog 57 #[.agg #[.int .i64 a0_0,.slice A0_1 l0_1.length c0_1]] w fun e w'=>e=.returned (.tuple #[.agg #[.int .i64 r1,.int .i64 r2,.int .i64 r3],.bool r4])∧Below w.heap.size w w':=by
 have hu26:=Tryz.underlying26
 have hu32:=Tryz.underlying32
 have HR0_1:=Aside0.mk hr0_1
 have HC0_1:=Aside0.mk hc0_1
 clear hr0_1 hc0_1
 have HB:=Aside0.mk (Below.refl w.heap.size w)
 unfold spec_FirstFailure.f at h
 have H:=h
 clear h
 replace H:=bnd_ H;obtain ⟨t230,A2,H⟩:=H
 replace H:=(gst_ H).symm;rcases H with ⟨rfl,H⟩|⟨rfl,H⟩
 ·simp only [Option.some.injEq,Prod.mk.injEq] at H
  obtain ⟨rfl,rfl,rfl,rfl⟩:=H
  go_enter Tryz.func57,Tryz.ntmps57
  go_wp2_with (first|((with_reducible refine gate_dst (N:=1) rfl ?_);refine bx_ (N:=1) (cs:=#[.int .i64 a0_0,.slice A0_1 l0_1.length c0_1]) (t:=26) ?_;intro gb228 hg w45 hbox hb;have BK228:=Aside0.mk (hbox);have GW228:=Aside0.mk (gw_ hg (h_HB HB.out));have GE228:=GW228;replace HB:=s_HB HB.out hb;clear hb hbox hg)|((with_reducible refine gate_dst (N:=2) rfl ?_);refine bx_ (N:=2) (cs:=#[.int .i64 0,.int .i64 0,.int .i64 0]) (t:=32) ?_;intro gb229 hg w46 hbox hb;have BK229:=Aside0.mk (hbox);have GW229:=Aside0.mk (gw_ hg (h_HB HB.out));have GE229:=GW229;replace HB:=s_HB HB.out hb;have NB228_229:=Aside0.mk (nbl_ hg (bkC_ BK228.out));have NB229_228:=Aside0.mk NB228_229.out.symm;replace BK228:=sBK_ BK228.out hb;clear hb hbox hg;have hnb47:=NB228_229.out;have hnc47:=NB229_228.out;obtain ⟨hcz48_0,hcz48_1,hfz48_0,hfz48_1⟩:=bz2_ BK228.out)|((with_reducible refine gate_callee (f:=36) rfl ?_);refine goesL_ (some 13) rfl rfl Tryz.func36 krT_ rfl #[.int .i64 a0_0,.slice A0_1 l0_1.length c0_1] rfl agT_ ?_;(with_reducible refine (spec_IsFamily.calls k a0_0 _ _ l0_1 false _ ?side1 ?side2 A2.out).mono ?_);(case side1=>exact cC_ HR0_1.out);(case side2=>exact HC0_1.out);rintro e w' ⟨rfl,⟨nd,rfl⟩⟩;refine ⟨_,rfl,?_⟩;(try (rw [drewN_self w46];generalize hq_:World.drewN w46 _=w46;replace BK228:Aside0 (w46.heap[gb228]?=some (.cells #[.int .i64 a0_0,.slice A0_1 l0_1.length c0_1] 26 (0,0))):=⟨by rw [← hq_];exact (bkC_ BK228.out)⟩;replace BK229:Aside0 (w46.heap[gb229]?=some (.cells #[.int .i64 0,.int .i64 0,.int .i64 0] 32 (0,0))):=⟨by rw [← hq_];exact (bkC_ BK229.out)⟩;replace HB:Aside0 (Below w.heap.size w w46):=⟨by rw [← hq_];exact (h_HB HB.out)⟩;clear hq_;have hcuz49_gb228_0:w46.cell? ⟨gb228,0,none⟩=some (.int .i64 a0_0):=(blk_cell BK228.out 0).trans rfl;have hfuz49_gb228_0:=blk_frozen BK228.out 0;have hcuz49_gb228_1:w46.cell? ⟨gb228,1,none⟩=some (.slice A0_1 l0_1.length c0_1):=(blk_cell BK228.out 1).trans rfl;have hfuz49_gb228_1:=blk_frozen BK228.out 1;have hcuz49_gb229_0:w46.cell? ⟨gb229,0,none⟩=some (.int .i64 0):=(blk_cell BK229.out 0).trans rfl;have hfuz49_gb229_0:=blk_frozen BK229.out 0;have hcuz49_gb229_1:w46.cell? ⟨gb229,1,none⟩=some (.int .i64 0):=(blk_cell BK229.out 1).trans rfl;have hfuz49_gb229_1:=blk_frozen BK229.out 1;have hcuz49_gb229_2:w46.cell? ⟨gb229,2,none⟩=some (.int .i64 0):=(blk_cell BK229.out 2).trans rfl;have hfuz49_gb229_2:=blk_frozen BK229.out 2));obtain ⟨hcz50_0,hcz50_1,hcz50_2,hfz50_0,hfz50_1,hfz50_2⟩:=bz3_ BK229.out))
  refine bodyPost_ret (results_ct rfl _ _ gb229 32 #[.int .i64 0,.int .i64 0,.int .i64 0] (0,0) _ rfl (by (with_reducible repeat (first|refine blk_drewN ?_ _|refine blk_drew ?_|refine blk_alloc ?_ _));exact bp3_ (bkC_ BK229.out)) Tryz.underlying32 rfl krT_) rfl ?_
  exact ⟨eT_,h_HB HB.out⟩
 have H':=Aside0.mk H
 clear H
 go_enter Tryz.func57,Tryz.ntmps57
 go_wp2_with (first|((with_reducible refine gate_dst (N:=1) rfl ?_);refine bx_ (N:=1) (cs:=#[.int .i64 a0_0,.slice A0_1 l0_1.length c0_1]) (t:=26) ?_;intro gb228 hg w4 hbox hb;have BK228:=Aside0.mk (hbox);have GW228:=Aside0.mk (gw_ hg (h_HB HB.out));have GE228:=GW228;replace HB:=s_HB HB.out hb;clear hb hbox hg)|((with_reducible refine gate_dst (N:=2) rfl ?_);refine bx_ (N:=2) (cs:=#[.int .i64 0,.int .i64 0,.int .i64 0]) (t:=32) ?_;intro gb229 hg w5 hbox hb;have BK229:=Aside0.mk (hbox);have GW229:=Aside0.mk (gw_ hg (h_HB HB.out));have GE229:=GW229;replace HB:=s_HB HB.out hb;have NB228_229:=Aside0.mk (nbl_ hg (bkC_ BK228.out));have NB229_228:=Aside0.mk NB228_229.out.symm;replace BK228:=sBK_ BK228.out hb;clear hb hbox hg;have hnb6:=NB228_229.out;have hnc6:=NB229_228.out;obtain ⟨hcz7_0,hcz7_1,hfz7_0,hfz7_1⟩:=bz2_ BK228.out)|((with_reducible refine gate_callee (f:=36) rfl ?_);refine goesL_ (some 13) rfl rfl Tryz.func36 krT_ rfl #[.int .i64 a0_0,.slice A0_1 l0_1.length c0_1] rfl agT_ ?_;(with_reducible refine (spec_IsFamily.calls k a0_0 _ _ l0_1 true _ ?side1 ?side2 A2.out).mono ?_);(case side1=>exact cC_ HR0_1.out);(case side2=>exact HC0_1.out);rintro e w' ⟨rfl,⟨nd,rfl⟩⟩;refine ⟨_,rfl,?_⟩))
 go_loopg [4] k (fun kq v4 w'=>∃ (x4_1:Int) (x230000_1:Int) (x230001_1:Int) (x230002_1:Int),v4=.int .i64 x4_1∧Aside0 (spec_FirstFailure.l0 kq x4_1 a0_0 l0_1=some (r1,r2,r3,r4))∧Aside0 (kq≤k)∧Aside0 (w'.heap[gb228]?=some (.cells #[.int .i64 a0_0,(.slice A0_1 l0_1.length c0_1)] 26 (0,0)))∧Aside0 (w'.heap[gb229]?=some (.cells #[.int .i64 x230000_1,.int .i64 x230001_1,.int .i64 x230002_1] 32 (0,0)))∧Aside0 (Below w.heap.size w w'))
 case atStart=>exact ⟨(0),(0),(0),(0),sT_,H',⟨Nat.le_refl _⟩,⟨bkC_ BK228.out⟩,⟨bkC_ BK229.out⟩,⟨h_HB HB.out⟩⟩
 case round =>
 clear H'
 try clear p2
 try clear c3
 try clear c5
 try clear c6
 try clear hcz7_0
 try clear hcz7_1
 try clear hfz7_0
 try clear hfz7_1
 obtain ⟨x4_1,x230000_1,x230001_1,x230002_1,rfl,HA,HK1,BK228,BK229,HB⟩:=hrel
 cases gk with
 | zero=>exact absurd HA.out (by simp [spec_FirstFailure.l0])
 | succ k1 =>
 have H:=HA.out
 clear HA
 simp only [spec_FirstFailure.l0] at H
 replace H:=gsn_ H;rcases H with ⟨c8b0,H⟩|⟨c8b0,H⟩
 ·simp only [Option.some.injEq,Prod.mk.injEq] at H
  obtain ⟨rfl,rfl,rfl,rfl⟩:=H
  have hnb42:=NB228_229.out
  have hnc42:=NB229_228.out
  obtain ⟨hcz43_0,hcz43_1,hfz43_0,hfz43_1⟩:=bz2_ BK228.out
  obtain ⟨hcz44_0,hcz44_1,hcz44_2,hfz44_0,hfz44_1,hfz44_2⟩:=bz3_ BK229.out
  go_wp2
  refine bodyPost_ret (results_ct rfl _ _ gb229 32 #[.int .i64 0,.int .i64 0,.int .i64 0] (0,0) _ rfl (by (with_reducible repeat (first|refine blk_drewN ?_ _|refine blk_drew ?_|refine blk_alloc ?_ _));exact bp3_ (bkC_ BK229.out)) Tryz.underlying32 rfl krT_) rfl ?_
  exact ⟨eT_,h_HB HB.out⟩
 have H':=Aside0.mk H
 clear H
 have hnb9:=NB228_229.out
 have hnc9:=NB229_228.out
 obtain ⟨hcz10_0,hcz10_1,hfz10_0,hfz10_1⟩:=bz2_ BK228.out
 go_wp2
 go_loopg [5] k1 (fun kq v5 w'=>∃ (x5_2:Int) (x230000_2:Int) (x230001_2:Int) (x230002_2:Int),v5=.int .i64 x5_2∧Aside0 (spec_FirstFailure.l1 kq x4_1 x5_2 a0_0 l0_1=some (r1,r2,r3,r4))∧Aside0 (kq≤k1)∧Aside0 (w'.heap[gb228]?=some (.cells #[.int .i64 a0_0,(.slice A0_1 l0_1.length c0_1)] 26 (0,0)))∧Aside0 (w'.heap[gb229]?=some (.cells #[.int .i64 x230000_2,.int .i64 x230001_2,.int .i64 x230002_2] 32 (0,0)))∧Aside0 (Below w.heap.size w w'))
 case atStart=>exact ⟨(0),(x230000_1),(x230001_1),(x230002_1),sT_,H',⟨Nat.le_refl _⟩,⟨bkC_ BK228.out⟩,⟨bkC_ BK229.out⟩,⟨h_HB HB.out⟩⟩
 case round =>
 clear H'
 try clear p2
 try clear c3
 try clear c5
 try clear c6
 try clear c8
 try clear c8b0
 try clear c9
 try clear hcz10_0
 try clear hcz10_1
 try clear hcz7_0
 try clear hcz7_1
 try clear hfz10_0
 try clear hfz10_1
 try clear hfz7_0
 try clear hfz7_1
 try clear p2
 obtain ⟨x5_2,x230000_2,x230001_2,x230002_2,rfl,HA,HK2,BK228,BK229,HB⟩:=hrel
 cases gk with
 | zero=>exact absurd HA.out (by simp [spec_FirstFailure.l1])
 | succ k2 =>
 have H:=HA.out
 clear HA
 simp only [spec_FirstFailure.l1] at H
 replace H:=gsn_ H;rcases H with ⟨c11b0,H⟩|⟨c11b0,H⟩
 ·have H':=Aside0.mk H
  clear H
  have hnb40:=NB228_229.out
  have hnc40:=NB229_228.out
  obtain ⟨hcz41_0,hcz41_1,hfz41_0,hfz41_1⟩:=bz2_ BK228.out
  go_wp2
  go_roundg k2
  case measure=>have:=HK1.out;have:=HK2.out;omega
  case rel=>exact ⟨(wrap64 (x4_1+1)),(x230000_2),(x230001_2),(x230002_2),sT_,H',⟨by have:=HK1.out;have:=HK2.out;omega⟩,⟨bkC_ BK228.out⟩,⟨bkC_ BK229.out⟩,⟨h_HB HB.out⟩⟩
 have H':=Aside0.mk H
 clear H
 have hnb12:=NB228_229.out
 have hnc12:=NB229_228.out
 obtain ⟨hcz13_0,hcz13_1,hfz13_0,hfz13_1⟩:=bz2_ BK228.out
 go_wp2
 go_loopg [6] k2 (fun kq v6 w'=>∃ (x6_3:Int) (x230000_3:Int) (x230001_3:Int) (x230002_3:Int),v6=.int .i64 x6_3∧Aside0 (spec_FirstFailure.l2 kq x4_1 x5_2 x6_3 a0_0 l0_1=some (r1,r2,r3,r4))∧Aside0 (kq≤k2)∧Aside0 (w'.heap[gb228]?=some (.cells #[.int .i64 a0_0,(.slice A0_1 l0_1.length c0_1)] 26 (0,0)))∧Aside0 (w'.heap[gb229]?=some (.cells #[.int .i64 x230000_3,.int .i64 x230001_3,.int .i64 x230002_3] 32 (0,0)))∧Aside0 (Below w.heap.size w w'))
 case atStart=>exact ⟨(0),(x230000_2),(x230001_2),(x230002_2),sT_,H',⟨Nat.le_refl _⟩,⟨bkC_ BK228.out⟩,⟨bkC_ BK229.out⟩,⟨h_HB HB.out⟩⟩
 case round =>
 clear H'
 try clear c1
 try clear p2
 try clear c3
 try clear c5
 try clear c6
 try clear c8
 try clear c8b0
 try clear c9
 try clear c11
 try clear c11b0
 try clear c12
 try clear hcz10_0
 try clear hcz10_1
 try clear hcz13_0
 try clear hcz13_1
 try clear hcz7_0
 try clear hcz7_1
 try clear hfz10_0
 try clear hfz10_1
 try clear hfz13_0
 try clear hfz13_1
 try clear hfz7_0
 try clear hfz7_1
 try clear p2
 obtain ⟨x6_3,x230000_3,x230001_3,x230002_3,rfl,HA,HK3,BK228,BK229,HB⟩:=hrel
 cases gk with
 | zero=>exact absurd HA.out (by simp [spec_FirstFailure.l2])
 | succ k3 =>
 have H:=HA.out
 clear HA
 simp only [spec_FirstFailure.l2] at H
 replace H:=gsn_ H;rcases H with ⟨c14b0,H⟩|⟨c14b0,H⟩
 ·have H':=Aside0.mk H
  clear H
  have hnb38:=NB228_229.out
  have hnc38:=NB229_228.out
  obtain ⟨hcz39_0,hcz39_1,hfz39_0,hfz39_1⟩:=bz2_ BK228.out
  go_wp2
  go_roundg k3
  case measure=>have:=HK1.out;have:=HK2.out;have:=HK3.out;omega
  case rel=>exact ⟨(wrap64 (x5_2+1)),(x230000_3),(x230001_3),(x230002_3),sT_,H',⟨by have:=HK1.out;have:=HK2.out;have:=HK3.out;omega⟩,⟨bkC_ BK228.out⟩,⟨bkC_ BK229.out⟩,⟨h_HB HB.out⟩⟩
 replace H:=gsm_ H;obtain ⟨c15b0,H⟩:=H
 replace H:=gsm_ H;obtain ⟨c16b0,H⟩:=H
 replace H:=gsm_ H;obtain ⟨c17b0,H⟩:=H
 replace H:=gsm_ H;obtain ⟨c18b0,H⟩:=H
 replace H:=bnd_ H;obtain ⟨t233,A19,H⟩:=H
 replace H:=(gst_ H).symm;rcases H with ⟨rfl,H⟩|⟨rfl,H⟩
 ·have H':=Aside0.mk H
  clear H
  have hnb36:=NB228_229.out
  have hnc36:=NB229_228.out
  obtain ⟨hcz37_0,hcz37_1,hfz37_0,hfz37_1⟩:=bz2_ BK228.out
  obtain ⟨ad231,e231,hx231_0,p231,q231⟩:=aiI_ HR0_1.out x4_1
  cases e231
  replace hx231_0:=(HB.out.cell (World.block_lt_of_cell? w _ hx231_0)).trans hx231_0
  obtain ⟨ad232,e232,hx232_0,p232,q232⟩:=aiI_ HR0_1.out x5_2
  obtain rfl:ad231=ad232:=(by injection e232)
  replace hx232_0:=(HB.out.cell (World.block_lt_of_cell? w _ hx232_0)).trans hx232_0
  go_wp2_with (first|((with_reducible refine gate_callee (f:=54) rfl ?_);refine goesL_ (some 48) rfl rfl Tryz.func54 krT_ rfl #[.int .i64 (rd l0_1 x4_1),.int .i64 x6_3] rfl agT_ ?_;(with_reducible refine (spec_l2Has.calls (rd l0_1 x4_1) x6_3 false _ A19.out).mono ?_);rintro e w' ⟨rfl,⟨nd,rfl⟩⟩;refine ⟨_,rfl,?_⟩))
  go_roundg k3
  case measure=>have:=HK1.out;have:=HK2.out;have:=HK3.out;omega
  case rel=>exact ⟨(wrap64 (x6_3+1)),(x230000_3),(x230001_3),(x230002_3),sT_,H',⟨by have:=HK1.out;have:=HK2.out;have:=HK3.out;omega⟩,⟨bkC_ BK228.out⟩,⟨bkC_ BK229.out⟩,⟨h_HB HB.out⟩⟩
 replace H:=bnd_ H;obtain ⟨t234,A21,H⟩:=H
 replace H:=gst_ H;rcases H with ⟨rfl,H⟩|⟨rfl,H⟩
 ·have H':=Aside0.mk H
  clear H
  have hnb23:=NB228_229.out
  have hnc23:=NB229_228.out
  obtain ⟨hcz24_0,hcz24_1,hfz24_0,hfz24_1⟩:=bz2_ BK228.out
  obtain ⟨ad231,e231,hx231_0,p231,q231⟩:=aiI_ HR0_1.out x4_1
  cases e231
  replace hx231_0:=(HB.out.cell (World.block_lt_of_cell? w _ hx231_0)).trans hx231_0
  obtain ⟨ad232,e232,hx232_0,p232,q232⟩:=aiI_ HR0_1.out x5_2
  obtain rfl:ad231=ad232:=(by injection e232)
  replace hx232_0:=(HB.out.cell (World.block_lt_of_cell? w _ hx232_0)).trans hx232_0
  go_wp2_with (first|((with_reducible refine gate_callee (f:=54) rfl ?_);refine goesL_ (some 48) rfl rfl Tryz.func54 krT_ rfl #[.int .i64 (rd l0_1 x4_1),.int .i64 x6_3] rfl agT_ ?_;(with_reducible refine (spec_l2Has.calls (rd l0_1 x4_1) x6_3 true _ A19.out).mono ?_);rintro e w' ⟨rfl,⟨nd,rfl⟩⟩;refine ⟨_,rfl,?_⟩)|(go_at_call 54;(with_reducible refine (spec_l2Has.calls (rd l0_1 x5_2) x6_3 true _ A21.out).mono ?_);rintro e w' ⟨rfl,⟨nd,rfl⟩⟩))
  go_roundg k3
  case measure=>have:=HK1.out;have:=HK2.out;have:=HK3.out;omega
  case rel=>exact ⟨(wrap64 (x6_3+1)),(x230000_3),(x230001_3),(x230002_3),sT_,H',⟨by have:=HK1.out;have:=HK2.out;have:=HK3.out;omega⟩,⟨bkC_ BK228.out⟩,⟨bkC_ BK229.out⟩,⟨h_HB HB.out⟩⟩
 replace H:=bnd_ H;obtain ⟨t235,A25,H⟩:=H
 replace H:=(gst_ H).symm;rcases H with ⟨rfl,H⟩|⟨rfl,H⟩
 ·simp only [Option.some.injEq,Prod.mk.injEq] at H
  obtain ⟨rfl,rfl,rfl,rfl⟩:=H
  have hnb30:=NB228_229.out
  have hnc30:=NB229_228.out
  obtain ⟨hcz31_0,hcz31_1,hfz31_0,hfz31_1⟩:=bz2_ BK228.out
  obtain ⟨ad231,e231,hx231_0,p231,q231⟩:=aiI_ HR0_1.out x4_1
  cases e231
  replace hx231_0:=(HB.out.cell (World.block_lt_of_cell? w _ hx231_0)).trans hx231_0
  obtain ⟨ad232,e232,hx232_0,p232,q232⟩:=aiI_ HR0_1.out x5_2
  obtain rfl:ad231=ad232:=(by injection e232)
  replace hx232_0:=(HB.out.cell (World.block_lt_of_cell? w _ hx232_0)).trans hx232_0
  go_wp2_with (first|((with_reducible refine gate_callee (f:=54) rfl ?_);refine goesL_ (some 48) rfl rfl Tryz.func54 krT_ rfl #[.int .i64 (rd l0_1 x4_1),.int .i64 x6_3] rfl agT_ ?_;(with_reducible refine (spec_l2Has.calls (rd l0_1 x4_1) x6_3 true _ A19.out).mono ?_);rintro e w' ⟨rfl,⟨nd,rfl⟩⟩;refine ⟨_,rfl,?_⟩;(try (rw [drewN_self wr];generalize hq_:World.drewN wr _=wr;replace BK228:Aside0 (wr.heap[gb228]?=some (.cells #[.int .i64 a0_0,.slice (some ad231) l0_1.length c0_1] 26 (0,0))):=⟨by rw [← hq_];exact (bkC_ BK228.out)⟩;replace BK229:Aside0 (wr.heap[gb229]?=some (.cells #[.int .i64 x230000_3,.int .i64 x230001_3,.int .i64 x230002_3] 32 (0,0))):=⟨by rw [← hq_];exact (bkC_ BK229.out)⟩;replace HB:Aside0 (Below w.heap.size w wr):=⟨by rw [← hq_];exact (h_HB HB.out)⟩;clear hq_;have hcuz32_gb228_0:wr.cell? ⟨gb228,0,none⟩=some (.int .i64 a0_0):=(blk_cell BK228.out 0).trans rfl;have hfuz32_gb228_0:=blk_frozen BK228.out 0;have hcuz32_gb228_1:wr.cell? ⟨gb228,1,none⟩=some (.slice (some ad231) l0_1.length c0_1):=(blk_cell BK228.out 1).trans rfl;have hfuz32_gb228_1:=blk_frozen BK228.out 1;have hcuz32_gb229_0:wr.cell? ⟨gb229,0,none⟩=some (.int .i64 x230000_3):=(blk_cell BK229.out 0).trans rfl;have hfuz32_gb229_0:=blk_frozen BK229.out 0;have hcuz32_gb229_1:wr.cell? ⟨gb229,1,none⟩=some (.int .i64 x230001_3):=(blk_cell BK229.out 1).trans rfl;have hfuz32_gb229_1:=blk_frozen BK229.out 1;have hcuz32_gb229_2:wr.cell? ⟨gb229,2,none⟩=some (.int .i64 x230002_3):=(blk_cell BK229.out 2).trans rfl;have hfuz32_gb229_2:=blk_frozen BK229.out 2)))|(go_at_call 54;(with_reducible refine (spec_l2Has.calls (rd l0_1 x5_2) x6_3 false _ A21.out).mono ?_);rintro e w' ⟨rfl,⟨nd,rfl⟩⟩;(try (rw [drewN_self wr];generalize hq_:World.drewN wr _=wr;replace BK228:Aside0 (wr.heap[gb228]?=some (.cells #[.int .i64 a0_0,.slice (some ad231) l0_1.length c0_1] 26 (0,0))):=⟨by rw [← hq_];exact (bkC_ BK228.out)⟩;replace BK229:Aside0 (wr.heap[gb229]?=some (.cells #[.int .i64 x230000_3,.int .i64 x230001_3,.int .i64 x230002_3] 32 (0,0))):=⟨by rw [← hq_];exact (bkC_ BK229.out)⟩;replace HB:Aside0 (Below w.heap.size w wr):=⟨by rw [← hq_];exact (h_HB HB.out)⟩;clear hq_;have hcuz33_gb228_0:wr.cell? ⟨gb228,0,none⟩=some (.int .i64 a0_0):=(blk_cell BK228.out 0).trans rfl;have hfuz33_gb228_0:=blk_frozen BK228.out 0;have hcuz33_gb228_1:wr.cell? ⟨gb228,1,none⟩=some (.slice (some ad231) l0_1.length c0_1):=(blk_cell BK228.out 1).trans rfl;have hfuz33_gb228_1:=blk_frozen BK228.out 1;have hcuz33_gb229_0:wr.cell? ⟨gb229,0,none⟩=some (.int .i64 x230000_3):=(blk_cell BK229.out 0).trans rfl;have hfuz33_gb229_0:=blk_frozen BK229.out 0;have hcuz33_gb229_1:wr.cell? ⟨gb229,1,none⟩=some (.int .i64 x230001_3):=(blk_cell BK229.out 1).trans rfl;have hfuz33_gb229_1:=blk_frozen BK229.out 1;have hcuz33_gb229_2:wr.cell? ⟨gb229,2,none⟩=some (.int .i64 x230002_3):=(blk_cell BK229.out 2).trans rfl;have hfuz33_gb229_2:=blk_frozen BK229.out 2)))|(go_at_call 86;(with_reducible refine (spec_l4Exchange.calls k3 a0_0 _ _ l0_1 (rd l0_1 x4_1) (rd l0_1 x5_2) x6_3 false _ ?side1 ?side2 A25.out).mono ?_);(case side1=>exact cC_ HR0_1.out);(case side2=>exact HC0_1.out);rintro e w34 ⟨rfl,hb⟩;replace BK228:=sBK_ BK228.out hb;replace BK229:=sBK_ BK229.out hb;replace HB:=s_HB HB.out hb;(try clear hb);obtain ⟨hcz35_0,hcz35_1,hcz35_2,hfz35_0,hfz35_1,hfz35_2⟩:=bz3_ BK229.out))
  refine bodyPost_ret (results_ct rfl _ _ gb229 32 #[.int .i64 (rd l0_1 x4_1),.int .i64 (rd l0_1 x5_2),.int .i64 x6_3] (0,0) _ rfl (by (with_reducible repeat (first|refine blk_drewN ?_ _|refine blk_drew ?_|refine blk_alloc ?_ _));exact bp3_ (bkC_ BK229.out)) Tryz.underlying32 rfl krT_) rfl ?_
  exact ⟨eT_,h_HB HB.out⟩
 have H':=Aside0.mk H
 clear H
 have hnb27:=NB228_229.out
 have hnc27:=NB229_228.out
 obtain ⟨hcz28_0,hcz28_1,hfz28_0,hfz28_1⟩:=bz2_ BK228.out
 obtain ⟨ad231,e231,hx231_0,p231,q231⟩:=aiI_ HR0_1.out x4_1
 cases e231
 replace hx231_0:=(HB.out.cell (World.block_lt_of_cell? w _ hx231_0)).trans hx231_0
 obtain ⟨ad232,e232,hx232_0,p232,q232⟩:=aiI_ HR0_1.out x5_2
 obtain rfl:ad231=ad232:=(by injection e232)
 replace hx232_0:=(HB.out.cell (World.block_lt_of_cell? w _ hx232_0)).trans hx232_0
 go_wp2_with (first|((with_reducible refine gate_callee (f:=54) rfl ?_);refine goesL_ (some 48) rfl rfl Tryz.func54 krT_ rfl #[.int .i64 (rd l0_1 x4_1),.int .i64 x6_3] rfl agT_ ?_;(with_reducible refine (spec_l2Has.calls (rd l0_1 x4_1) x6_3 true _ A19.out).mono ?_);rintro e w' ⟨rfl,⟨nd,rfl⟩⟩;refine ⟨_,rfl,?_⟩)|(go_at_call 54;(with_reducible refine (spec_l2Has.calls (rd l0_1 x5_2) x6_3 false _ A21.out).mono ?_);rintro e w' ⟨rfl,⟨nd,rfl⟩⟩)|(go_at_call 86;(with_reducible refine (spec_l4Exchange.calls k3 a0_0 _ _ l0_1 (rd l0_1 x4_1) (rd l0_1 x5_2) x6_3 true _ ?side1 ?side2 A25.out).mono ?_);(case side1=>repeat (first|exact (Kd.C_below HR0_1.out (h_HB HB.out))|(with_reducible refine Kd.C_alloc ?_ _)|(with_reducible refine Kd.C_drewN ?_ _)|(with_reducible refine Kd.C_drew ?_)));(case side2=>exact HC0_1.out);rintro e w29 ⟨rfl,hb⟩;replace BK228:=sBK_ BK228.out hb;replace BK229:=sBK_ BK229.out hb;replace HB:=s_HB HB.out hb;(try clear hb)))
 go_roundg k3
 case measure=>have:=HK1.out;have:=HK2.out;have:=HK3.out;omega
 case rel=>exact ⟨(wrap64 (x6_3+1)),(x230000_3),(x230001_3),(x230002_3),sT_,H',⟨by have:=HK1.out;have:=HK2.out;have:=HK3.out;omega⟩,⟨bkC_ BK228.out⟩,⟨bkC_ BK229.out⟩,⟨h_HB HB.out⟩⟩
def spec_IsMatroid.f (k:Nat) (a0_0:Int) (l0_1:List Int):Option (Bool):=(spec_FirstFailure.f k a0_0 l0_1).bind fun bt237=>((spec_IsFamily.f k a0_0 l0_1).bind fun t242=>(if t242=true then (if (l0_1.length:Int)>0 then (some (!bt237.2.2.2)) else (some false)) else (some false)))
theorem spec_IsMatroid.calls (k:Nat) (a0_0:Int) (A0_1:Option Addr) (c0_1:Nat) (l0_1:List Int) (r:Bool) (w:World) (hr0_1:Kd.C (Kd.int .i64) w A0_1 l0_1.length l0_1) (hc0_1:l0_1.length≤c0_1) (h:spec_IsMatroid.f k a0_0 l0_1=some r) :
    Calls Tryz.prog 20 #[.agg #[.int .i64 a0_0,.slice A0_1 l0_1.length c0_1]] w fun e w'=>e=.returned (.bool r)∧Below w.heap.size w w':=by
 have hu26:=Tryz.underlying26
 have hu32:=Tryz.underlying32
 have HR0_1:=Aside0.mk hr0_1
 have HC0_1:=Aside0.mk hc0_1
 clear hr0_1 hc0_1
 have HB:=Aside0.mk (Below.refl w.heap.size w)
 unfold spec_IsMatroid.f at h
 have H:=h
 clear h
 replace H:=bnd_ H;obtain ⟨⟨t237,t238,t239,t240⟩,A2,H⟩:=H;dsimp only at H
 replace H:=bnd_ H;obtain ⟨t242,A3,H⟩:=H
 replace H:=(gst_ H).symm;rcases H with ⟨rfl,H⟩|⟨rfl,H⟩
 ·obtain rfl:=Option.some.inj H
  go_enter Tryz.func20,Tryz.ntmps20
  go_wp2_with (first|((with_reducible refine gate_dst (N:=1) rfl ?_);(try (refine gate_guard (by rfl) ?_;dsimp only));refine bx_ (N:=1) (cs:=#[.int .i64 a0_0,.slice A0_1 l0_1.length c0_1]) (t:=26) ?_;intro gb236 hg w20 hbox hb;have BK236:=Aside0.mk (hbox);have GW236:=Aside0.mk (gw_ hg (h_HB HB.out));have GE236:=GW236;replace HB:=s_HB HB.out hb;clear hb hbox hg;obtain ⟨hcz21_0,hcz21_1,hfz21_0,hfz21_1⟩:=bz2_ BK236.out)|((with_reducible refine gate_callee (f:=57) rfl ?_);refine goesL_ (some 7) rfl rfl Tryz.func57 krT_ rfl #[.agg #[.int .i64 a0_0,.slice A0_1 l0_1.length c0_1]] rfl agT_ ?_;(with_reducible refine (spec_FirstFailure.calls k a0_0 _ _ l0_1 t237 t238 t239 t240 _ ?side1 ?side2 A2.out).mono ?_);(case side1=>exact cC_ HR0_1.out);(case side2=>exact HC0_1.out);rintro e w22 ⟨rfl,hb⟩;refine ⟨_,rfl,?_⟩;replace BK236:=sBK_ BK236.out hb;replace HB:=s_HB HB.out hb;(try clear hb))|((with_reducible refine gate_dst (N:=3) rfl ?_);(try (refine gate_guard (by rfl) ?_;dsimp only));refine bx_ (N:=3) (cs:=#[.int .i64 0,.int .i64 0,.int .i64 0]) (t:=32) ?_;intro gb241 hg w23 hbox hb;have BK241:=Aside0.mk (hbox);have GW241:=Aside0.mk (gw_ hg (h_HB HB.out));have GE241:=GW241;replace HB:=s_HB HB.out hb;have NB236_241:=Aside0.mk (nbl_ hg (bkC_ BK236.out));have NB241_236:=Aside0.mk NB236_241.out.symm;replace BK236:=sBK_ BK236.out hb;clear hb hbox hg;have hnb24:=NB241_236.out;have hnc24:=NB236_241.out;obtain ⟨hcz25_0,hcz25_1,hcz25_2,hfz25_0,hfz25_1,hfz25_2⟩:=bz3_ BK241.out;obtain ⟨hcz26_0,hcz26_1,hfz26_0,hfz26_1⟩:=bz2_ BK236.out)|((with_reducible refine gate_callee (f:=36) rfl ?_);refine goesL_ (some 14) rfl rfl Tryz.func36 krT_ rfl #[.int .i64 a0_0,.slice A0_1 l0_1.length c0_1] rfl agT_ ?_;(with_reducible refine (spec_IsFamily.calls k a0_0 _ _ l0_1 false _ ?side1 ?side2 A3.out).mono ?_);(case side1=>exact Kd.C_below HR0_1.out (h_HB HB.out));(case side2=>exact HC0_1.out);rintro e w' ⟨rfl,⟨nd,rfl⟩⟩;refine ⟨_,rfl,?_⟩))
  go_ret
  exact ⟨eT_,h_HB HB.out⟩
 replace H:=gsq_ H;rcases H with ⟨c5,H⟩|⟨c5,H⟩
 ·have c5b0:decide (0<(l0_1.length:Int))=true:=decide_eq_true c5
  have c5b1:decide (0<l0_1.length)=true:=decide_eq_true (by omega)
  clear c5
  obtain rfl:=Option.some.inj H
  go_enter Tryz.func20,Tryz.ntmps20
  go_wp2_with (first|((with_reducible refine gate_dst (N:=1) rfl ?_);(try (refine gate_guard (by rfl) ?_;dsimp only));refine bx_ (N:=1) (cs:=#[.int .i64 a0_0,.slice A0_1 l0_1.length c0_1]) (t:=26) ?_;intro gb236 hg w6 hbox hb;have BK236:=Aside0.mk (hbox);have GW236:=Aside0.mk (gw_ hg (h_HB HB.out));have GE236:=GW236;replace HB:=s_HB HB.out hb;clear hb hbox hg;obtain ⟨hcz7_0,hcz7_1,hfz7_0,hfz7_1⟩:=bz2_ BK236.out)|((with_reducible refine gate_callee (f:=57) rfl ?_);refine goesL_ (some 7) rfl rfl Tryz.func57 krT_ rfl #[.agg #[.int .i64 a0_0,.slice A0_1 l0_1.length c0_1]] rfl agT_ ?_;(with_reducible refine (spec_FirstFailure.calls k a0_0 _ _ l0_1 t237 t238 t239 t240 _ ?side1 ?side2 A2.out).mono ?_);(case side1=>exact cC_ HR0_1.out);(case side2=>exact HC0_1.out);rintro e w8 ⟨rfl,hb⟩;refine ⟨_,rfl,?_⟩;replace BK236:=sBK_ BK236.out hb;replace HB:=s_HB HB.out hb;(try clear hb))|((with_reducible refine gate_dst (N:=3) rfl ?_);(try (refine gate_guard (by rfl) ?_;dsimp only));refine bx_ (N:=3) (cs:=#[.int .i64 0,.int .i64 0,.int .i64 0]) (t:=32) ?_;intro gb241 hg w9 hbox hb;have BK241:=Aside0.mk (hbox);have GW241:=Aside0.mk (gw_ hg (h_HB HB.out));have GE241:=GW241;replace HB:=s_HB HB.out hb;have NB236_241:=Aside0.mk (nbl_ hg (bkC_ BK236.out));have NB241_236:=Aside0.mk NB236_241.out.symm;replace BK236:=sBK_ BK236.out hb;clear hb hbox hg;have hnb10:=NB241_236.out;have hnc10:=NB236_241.out;obtain ⟨hcz11_0,hcz11_1,hcz11_2,hfz11_0,hfz11_1,hfz11_2⟩:=bz3_ BK241.out;obtain ⟨hcz12_0,hcz12_1,hfz12_0,hfz12_1⟩:=bz2_ BK236.out)|((with_reducible refine gate_callee (f:=36) rfl ?_);refine goesL_ (some 14) rfl rfl Tryz.func36 krT_ rfl #[.int .i64 a0_0,.slice A0_1 l0_1.length c0_1] rfl agT_ ?_;(with_reducible refine (spec_IsFamily.calls k a0_0 _ _ l0_1 true _ ?side1 ?side2 A3.out).mono ?_);(case side1=>exact Kd.C_below HR0_1.out (h_HB HB.out));(case side2=>exact HC0_1.out);rintro e w' ⟨rfl,⟨nd,rfl⟩⟩;refine ⟨_,rfl,?_⟩))
  go_ret
  exact ⟨eT_,h_HB HB.out⟩
 have c5b0:decide (0<(l0_1.length:Int))=false:=decide_eq_false c5
 have c5b1:decide (0<l0_1.length)=false:=decide_eq_false (by omega)
 clear c5
 obtain rfl:=Option.some.inj H
 go_enter Tryz.func20,Tryz.ntmps20
 go_wp2_with (first|((with_reducible refine gate_dst (N:=1) rfl ?_);(try (refine gate_guard (by rfl) ?_;dsimp only));refine bx_ (N:=1) (cs:=#[.int .i64 a0_0,.slice A0_1 l0_1.length c0_1]) (t:=26) ?_;intro gb236 hg w13 hbox hb;have BK236:=Aside0.mk (hbox);have GW236:=Aside0.mk (gw_ hg (h_HB HB.out));have GE236:=GW236;replace HB:=s_HB HB.out hb;clear hb hbox hg;obtain ⟨hcz14_0,hcz14_1,hfz14_0,hfz14_1⟩:=bz2_ BK236.out)|((with_reducible refine gate_callee (f:=57) rfl ?_);refine goesL_ (some 7) rfl rfl Tryz.func57 krT_ rfl #[.agg #[.int .i64 a0_0,.slice A0_1 l0_1.length c0_1]] rfl agT_ ?_;(with_reducible refine (spec_FirstFailure.calls k a0_0 _ _ l0_1 t237 t238 t239 t240 _ ?side1 ?side2 A2.out).mono ?_);(case side1=>exact cC_ HR0_1.out);(case side2=>exact HC0_1.out);rintro e w15 ⟨rfl,hb⟩;refine ⟨_,rfl,?_⟩;replace BK236:=sBK_ BK236.out hb;replace HB:=s_HB HB.out hb;(try clear hb))|((with_reducible refine gate_dst (N:=3) rfl ?_);(try (refine gate_guard (by rfl) ?_;dsimp only));refine bx_ (N:=3) (cs:=#[.int .i64 0,.int .i64 0,.int .i64 0]) (t:=32) ?_;intro gb241 hg w16 hbox hb;have BK241:=Aside0.mk (hbox);have GW241:=Aside0.mk (gw_ hg (h_HB HB.out));have GE241:=GW241;replace HB:=s_HB HB.out hb;have NB236_241:=Aside0.mk (nbl_ hg (bkC_ BK236.out));have NB241_236:=Aside0.mk NB236_241.out.symm;replace BK236:=sBK_ BK236.out hb;clear hb hbox hg;have hnb17:=NB241_236.out;have hnc17:=NB236_241.out;obtain ⟨hcz18_0,hcz18_1,hcz18_2,hfz18_0,hfz18_1,hfz18_2⟩:=bz3_ BK241.out;obtain ⟨hcz19_0,hcz19_1,hfz19_0,hfz19_1⟩:=bz2_ BK236.out)|((with_reducible refine gate_callee (f:=36) rfl ?_);refine goesL_ (some 14) rfl rfl Tryz.func36 krT_ rfl #[.int .i64 a0_0,.slice A0_1 l0_1.length c0_1] rfl agT_ ?_;(with_reducible refine (spec_IsFamily.calls k a0_0 _ _ l0_1 true _ ?side1 ?side2 A3.out).mono ?_);(case side1=>exact Kd.C_below HR0_1.out (h_HB HB.out));(case side2=>exact HC0_1.out);rintro e w' ⟨rfl,⟨nd,rfl⟩⟩;refine ⟨_,rfl,?_⟩))
 go_ret
 exact ⟨eT_,h_HB HB.out⟩
end Go.Proofs.YtekegbacnagbcaaGreat.P
