-- written by gprint (a program of this session's, round the kit's print), out of the translation and hand-written texts
import Derived.Test.YtekegbacnagbcaaGreatDoorPVFnMatroidsx0
import Derived.Test.YtekegbacnagbcaaGreatDoorPVFnMatroidsx2
import Derived.Test.YtekegbacnagbcaaGreatDoorPVFnMatroidsx6
import Derived.Test.YtekegbacnagbcaaGreatDoorPVFnMatroidsx10
namespace Go.Proofs.YtekegbacnagbcaaGreatDoor.P
open Go.RowKit Go.Proofs.YtekegbacnagbcaaGreatDoorW.PrintWords Go.Proofs.YtekegbacnagbcaaGreatDoorW.PrintLast Go.Proofs.YtekegbacnagbcaaGreatDoorW.PrintMore
attribute [local go_sem] max2_int min2_int max_two min_two max_three min_three max_four min_four   -- for this text's walks alone
set_option linter.unusedVariables false
set_option linter.unusedSimpArgs false
/-! ### spec_l1Byte: function 114 -/
def spec_l1Byte.f (s0_0:List Int) (s0_1:Int) (s0_2:Int):Option (Int × Int × Int):=if s0_1<(s0_0.length:Int) then (if 0≤s0_1 then (some (Go.bits .and .i64 (wrap64 ((Go.bits .and .i64 (Go.bits .xor .i64 ((wrap64 ((wrap64 (s0_2*6364136223846793005))+1442695040888963407)) / 8589934592) ((wrap64 ((wrap64 (s0_2*6364136223846793005))+1442695040888963407)) / 35184372088832)) 255)+(wrap64 (rd s0_0 s0_1)))) 255,wrap64 (s0_1+1),wrap64 ((wrap64 (s0_2*6364136223846793005))+1442695040888963407))) else (none)) else (some (Go.bits .and .i64 (Go.bits .xor .i64 ((wrap64 ((wrap64 (s0_2*6364136223846793005))+1442695040888963407)) / 8589934592) ((wrap64 ((wrap64 (s0_2*6364136223846793005))+1442695040888963407)) / 35184372088832)) 255,s0_1,wrap64 ((wrap64 (s0_2*6364136223846793005))+1442695040888963407)))
set_option maxHeartbeats 8000000 in
set_option maxRecDepth 100000 in
theorem spec_l1Byte.calls (g:Nat) (s0_0:List Int) (s0_1:Int) (s0_2:Int) (r1:Int) (r2:Int) (r3:Int) (w0 w:World) (hI:IsS94 w0 w g s0_0 s0_1 s0_2) (hB:Below w0.heap.size w0 w) (h:spec_l1Byte.f s0_0 s0_1 s0_2=some (r1,r2,r3)) :
    Calls Tryz.prog 114 #[.pointer (some ⟨g,0,none⟩)] w fun e w'=>e=.returned (.int .i64 r1)∧IsS94 w0 w' g s0_0 r2 r3∧Below w0.heap.size w0 w'∧KeepBut w w' g none:=by
 have HI0:=Aside0.mk hI
 have HK:=Aside0.mk (KeepBut.refl w g none)
 have HL:=Aside0.mk hB.size
 clear hI
 have HW0:=Aside0.mk hB.size
 have HB:=Aside0.mk hB
 clear hB
 unfold spec_l1Byte.f at h
 have H:=h
 clear h
 rcases gsn_ H with ⟨c2b0,H⟩|⟨c2b0,H⟩
 ·simp only [Option.some.injEq,Prod.mk.injEq] at H
  obtain ⟨rfl,rfl,rfl⟩:=H
  obtain ⟨ASz5_0,cSz5_0,HGz5,hgz5,HSz5_0⟩:=HI0.out
  have hcz5_0:=cellS94_0 HGz5
  have hcz5_1:=cellS94_1 HGz5
  have hcz5_2:=cellS94_2 HGz5
  have hfz5_1:=blk_frozen HGz5 1
  have hfz5_2:=blk_frozen HGz5 2
  clear HGz5 hgz5
  go_enter Tryz.func114,Tryz.ntmps114
  go_wp2
  repeat (go_quiet (fail);try go_wp2)
  go_ret
  exact ⟨eT_,h_HI0 HI0.out,h_HB HB.out,h_HK HK.out⟩
 replace H:=gsm_ H;obtain ⟨c3b0,H⟩:=H
 simp only [Option.some.injEq,Prod.mk.injEq] at H
 obtain ⟨rfl,rfl,rfl⟩:=H
 obtain ⟨ASz4_0,cSz4_0,HGz4,hgz4,HSz4_0⟩:=HI0.out
 have hcz4_0:=cellS94_0 HGz4
 have hcz4_1:=cellS94_1 HGz4
 have hcz4_2:=cellS94_2 HGz4
 have hfz4_1:=blk_frozen HGz4 1
 have hfz4_2:=blk_frozen HGz4 2
 clear HGz4 hgz4
 have p384:0≤(s0_1:Int):=odT_
 have q384:s0_1<(s0_0.length:Int):=odT_
 obtain ⟨ad384,e384,hx384_0⟩:=Kd.at_int HSz4_0 s0_1 p384 q384
 cases e384
 have hn384_0:ad384.block≠g:=Nat.ne_of_lt (Nat.lt_of_lt_of_le (by have:=World.block_lt_of_cell? _ _ hx384_0;first|rwa [add_block] at this|exact this) (IsS94.ge HI0.out))
 replace hx384_0:=pw_cell_below HB.out hx384_0
 replace hx384_0:=(cell_far (p:=⟨g,2,none⟩) (by first|(rw [add_block];exact hn384_0)|(show (Addr.add _ _).block≠_;rw [add_block];exact hn384_0)|exact hn384_0) (.int .i64 (wrap64 ((wrap64 (s0_2*6364136223846793005))+1442695040888963407)))).trans hx384_0
 (try have hy384_0:=fun (n_:Nat)=>(show (((w.drewN n_).setCell ⟨g,2,none⟩ (.int .i64 (wrap64 ((wrap64 (s0_2*6364136223846793005))+1442695040888963407))))).cell? _=some _ from hx384_0))
 clear hn384_0
 replace p384:=eq_true p384
 replace q384:=eq_true q384
 go_enter Tryz.func114,Tryz.ntmps114
 go_wp2
 repeat (go_quiet (fail);try go_wp2)
 go_ret
 exact ⟨eT_,h_HI0 HI0.out,h_HB HB.out,h_HK HK.out⟩
/-! ### spec_l1Below: function 70 -/
def spec_l1Below.f (s0_0:List Int) (s0_1:Int) (s0_2:Int) (a1:Int):Option (Int × Int × Int):=if a1≤0 then (some (0,s0_1,s0_2)) else (if a1≤256 then ((spec_l1Byte.f s0_0 s0_1 s0_2).bind fun bt385=>(if a1=0 then (none) else (some (Int.tmod bt385.1 a1,bt385.2.1,bt385.2.2)))) else ((spec_l1Byte.f s0_0 s0_1 s0_2).bind fun bt388=>((spec_l1Byte.f s0_0 bt388.2.1 bt388.2.2).bind fun bt391=>((spec_l1Byte.f s0_0 bt391.2.1 bt391.2.2).bind fun bt394=>((spec_l1Byte.f s0_0 bt394.2.1 bt394.2.2).bind fun bt397=>(if a1=0 then (none) else (some (Int.tmod (wrap64 ((wrap64 ((wrap64 ((wrap64 (bt388.1*16777216))+(wrap64 (bt391.1*65536))))+(wrap64 (bt394.1*256))))+bt397.1)) a1,bt397.2.1,bt397.2.2))))))))
set_option maxHeartbeats 8000000 in
set_option maxRecDepth 100000 in
theorem spec_l1Below.calls (g:Nat) (s0_0:List Int) (s0_1:Int) (s0_2:Int) (a1:Int) (r1:Int) (r2:Int) (r3:Int) (w0 w:World) (hI:IsS94 w0 w g s0_0 s0_1 s0_2) (hB:Below w0.heap.size w0 w) (h:spec_l1Below.f s0_0 s0_1 s0_2 a1=some (r1,r2,r3)) :
    Calls Tryz.prog 70 #[.pointer (some ⟨g,0,none⟩),.int .i64 a1] w fun e w'=>e=.returned (.int .i64 r1)∧IsS94 w0 w' g s0_0 r2 r3∧Below w0.heap.size w0 w'∧KeepBut w w' g none:=by
 have HI0:=Aside0.mk hI
 have HK:=Aside0.mk (KeepBut.refl w g none)
 have HL:=Aside0.mk hB.size
 clear hI
 have HW0:=Aside0.mk hB.size
 have HB:=Aside0.mk hB
 clear hB
 unfold spec_l1Below.f at h
 have H:=h
 clear h
 rcases gsb_ H with ⟨c3b0,H⟩|⟨c3b0,H⟩
 ·simp only [Option.some.injEq,Prod.mk.injEq] at H
  obtain ⟨rfl,rfl,rfl⟩:=H
  go_enter Tryz.func70,Tryz.ntmps70
  go_wp2
  go_ret
  exact ⟨eT_,h_HI0 HI0.out,h_HB HB.out,h_HK HK.out⟩
 rcases gsb_ H with ⟨c4b0,H⟩|⟨c4b0,H⟩
 ·replace H:=bnd_ H;obtain ⟨⟨t385,t386,t387⟩,A5,H⟩:=H;dsimp only at H
  by_cases c6:a1=0
  ·rw [if_pos c6] at H
   exact absurd H (by simp)
  rw [if_neg c6] at H
  have c6b0:(a1==0)=false:=beq_eq_false_iff_ne.mpr c6
  have c6b1:(a1 != 0)=true:=bne_iff_ne.mpr c6
  simp only [Option.some.injEq,Prod.mk.injEq] at H
  obtain ⟨rfl,rfl,rfl⟩:=H
  go_enter Tryz.func70,Tryz.ntmps70
  go_wp2_with (first|((with_reducible refine gate_callee (f:=114) rfl ?_);refine goesL_ (some 14) rfl rfl Tryz.func114 krT_ rfl #[.pointer (some ⟨g,0,none⟩)] rfl agT_ ?_;(with_reducible refine (spec_l1Byte.calls g s0_0 s0_1 s0_2 t385 t386 t387 w0 _ ?side1 ?side2 A5.out).mono ?_);(case side1=>exact h_HI0 HI0.out);(case side2=>exact h_HB HB.out);rintro e w7 ⟨rfl,hi,hb,hk⟩;refine ⟨_,rfl,?_⟩;replace HK:=Aside0.mk (KeepBut.trans (h_HK HK.out) hk (.inl rfl));replace HB:=Aside0.mk (hb);replace HI0:=Aside0.mk (hi);(try clear hb);(try clear hb2);(try clear hk);(try clear hi)))
  go_ret
  exact ⟨eT_,h_HI0 HI0.out,h_HB HB.out,h_HK HK.out⟩
 replace H:=bnd_ H;obtain ⟨⟨t388,t389,t390⟩,A8,H⟩:=H;dsimp only at H
 replace H:=bnd_ H;obtain ⟨⟨t391,t392,t393⟩,A9,H⟩:=H;dsimp only at H
 replace H:=bnd_ H;obtain ⟨⟨t394,t395,t396⟩,A10,H⟩:=H;dsimp only at H
 replace H:=bnd_ H;obtain ⟨⟨t397,t398,t399⟩,A11,H⟩:=H;dsimp only at H
 by_cases c12:a1=0
 ·rw [if_pos c12] at H
  exact absurd H (by simp)
 rw [if_neg c12] at H
 have c12b0:(a1==0)=false:=beq_eq_false_iff_ne.mpr c12
 have c12b1:(a1 != 0)=true:=bne_iff_ne.mpr c12
 simp only [Option.some.injEq,Prod.mk.injEq] at H
 obtain ⟨rfl,rfl,rfl⟩:=H
 go_enter Tryz.func70,Tryz.ntmps70
 go_wp2_with (first|((with_reducible refine gate_callee (f:=114) rfl ?_);refine goesL_ (some 18) rfl rfl Tryz.func114 krT_ rfl #[.pointer (some ⟨g,0,none⟩)] rfl agT_ ?_;(with_reducible refine (spec_l1Byte.calls g s0_0 s0_1 s0_2 t388 t389 t390 w0 _ ?side1 ?side2 A8.out).mono ?_);(case side1=>exact h_HI0 HI0.out);(case side2=>exact h_HB HB.out);rintro e w13 ⟨rfl,hi,hb,hk⟩;refine ⟨_,rfl,?_⟩;replace HK:=Aside0.mk (KeepBut.trans (h_HK HK.out) hk (.inl rfl));replace HB:=Aside0.mk (hb);replace HI0:=Aside0.mk (hi);(try clear hb);(try clear hb2);(try clear hk);(try clear hi))|((with_reducible refine gate_callee (f:=114) rfl ?_);refine goesL_ (some 20) rfl rfl Tryz.func114 krT_ rfl #[.pointer (some ⟨g,0,none⟩)] rfl agT_ ?_;(with_reducible refine (spec_l1Byte.calls g s0_0 t389 t390 t391 t392 t393 w0 _ ?side1 ?side2 A9.out).mono ?_);(case side1=>exact h_HI0 HI0.out);(case side2=>exact h_HB HB.out);rintro e w14 ⟨rfl,hi,hb,hk⟩;refine ⟨_,rfl,?_⟩;replace HK:=Aside0.mk (KeepBut.trans (h_HK HK.out) hk (.inl rfl));replace HB:=Aside0.mk (hb);replace HI0:=Aside0.mk (hi);(try clear hb);(try clear hb2);(try clear hk);(try clear hi))|((with_reducible refine gate_callee (f:=114) rfl ?_);refine goesL_ (some 22) rfl rfl Tryz.func114 krT_ rfl #[.pointer (some ⟨g,0,none⟩)] rfl agT_ ?_;(with_reducible refine (spec_l1Byte.calls g s0_0 t392 t393 t394 t395 t396 w0 _ ?side1 ?side2 A10.out).mono ?_);(case side1=>exact h_HI0 HI0.out);(case side2=>exact h_HB HB.out);rintro e w15 ⟨rfl,hi,hb,hk⟩;refine ⟨_,rfl,?_⟩;replace HK:=Aside0.mk (KeepBut.trans (h_HK HK.out) hk (.inl rfl));replace HB:=Aside0.mk (hb);replace HI0:=Aside0.mk (hi);(try clear hb);(try clear hb2);(try clear hk);(try clear hi))|((with_reducible refine gate_callee (f:=114) rfl ?_);refine goesL_ (some 24) rfl rfl Tryz.func114 krT_ rfl #[.pointer (some ⟨g,0,none⟩)] rfl agT_ ?_;(with_reducible refine (spec_l1Byte.calls g s0_0 t395 t396 t397 t398 t399 w0 _ ?side1 ?side2 A11.out).mono ?_);(case side1=>exact h_HI0 HI0.out);(case side2=>exact h_HB HB.out);rintro e w16 ⟨rfl,hi,hb,hk⟩;refine ⟨_,rfl,?_⟩;replace HK:=Aside0.mk (KeepBut.trans (h_HK HK.out) hk (.inl rfl));replace HB:=Aside0.mk (hb);replace HI0:=Aside0.mk (hi);(try clear hb);(try clear hb2);(try clear hk);(try clear hi)))
 go_ret
 exact ⟨eT_,h_HI0 HI0.out,h_HB HB.out,h_HK HK.out⟩
/-! ### spec_l1Min: function 72 -/
def spec_l1Min.f (a0:Int) (a1:Int):Option (Int):=if a0<a1 then (some a0) else (some a1)
set_option maxHeartbeats 8000000 in
set_option maxRecDepth 100000 in
theorem spec_l1Min.calls (a0:Int) (a1:Int) (r:Int) (w:World) (h:spec_l1Min.f a0 a1=some r) :
    Calls Tryz.prog 72 #[.int .i64 a0,.int .i64 a1] w fun e w'=>e=.returned (.int .i64 r)∧Drawn0 w w':=by
 have H:(if a0<a1 then (some a0) else (some a1))=some r:=h
 clear h
 rcases gsb_ H with ⟨c3b0,H⟩|⟨c3b0,H⟩
 ·obtain rfl:=Option.some.inj H
  go_enter Tryz.func72,Tryz.ntmps72
  go_wp2
  go_ret
  exact ⟨sT_,dT_⟩
 obtain rfl:=Option.some.inj H
 go_enter Tryz.func72,Tryz.ntmps72
 go_wp2
 go_ret
 exact ⟨sT_,dT_⟩
/-! ### spec_l1PickInt: function 74 -/
def spec_l1PickInt.f (s0_0:List Int) (s0_1:Int) (s0_2:Int) (l1:List Int):Option (Int × Int × Int):=(spec_l1Below.f s0_0 s0_1 s0_2 (l1.length:Int)).bind fun bt400=>(if 0≤bt400.1 then (if bt400.1<(l1.length:Int) then (some (rd l1 bt400.1,bt400.2.1,bt400.2.2)) else (none)) else (none))
set_option maxHeartbeats 8000000 in
set_option maxRecDepth 100000 in
theorem spec_l1PickInt.calls (g:Nat) (s0_0:List Int) (s0_1:Int) (s0_2:Int) (A1:Option Addr) (c1:Nat) (l1:List Int) (r1:Int) (r2:Int) (r3:Int) (w0 w:World) (hI:IsS94 w0 w g s0_0 s0_1 s0_2) (hB:Below w0.heap.size w0 w) (hr1:Kd.C (Kd.int .i64) w A1 l1.length l1) (hc1:l1.length≤c1) (hf1:∀ ad,A1=some ad→0<l1.length→ad.block≠g) (h:spec_l1PickInt.f s0_0 s0_1 s0_2 l1=some (r1,r2,r3)) :
    Calls Tryz.prog 74 #[.pointer (some ⟨g,0,none⟩),.slice A1 l1.length c1] w fun e w'=>e=.returned (.int .i64 r1)∧IsS94 w0 w' g s0_0 r2 r3∧Below w0.heap.size w0 w'∧KeepBut w w' g none:=by
 have HR1:=Aside0.mk hr1
 have HC1:=Aside0.mk hc1
 clear hr1 hc1
 have HI0:=Aside0.mk hI
 have HK:=Aside0.mk (KeepBut.refl w g none)
 have HL:=Aside0.mk hB.size
 clear hI
 have HW0:=Aside0.mk hB.size
 have HB:=Aside0.mk hB
 clear hB
 unfold spec_l1PickInt.f at h
 have H:=h
 clear h
 replace H:=bnd_ H;obtain ⟨⟨t400,t401,t402⟩,A3,H⟩:=H;dsimp only at H
 replace H:=gsm_ H;obtain ⟨c4b0,H⟩:=H
 replace H:=gsm_ H;obtain ⟨c5b0,H⟩:=H
 simp only [Option.some.injEq,Prod.mk.injEq] at H
 obtain ⟨rfl,rfl,rfl⟩:=H
 go_enter Tryz.func74,Tryz.ntmps74
 go_wp2_with (first|((with_reducible refine gate_callee (f:=70) rfl ?_);refine goesL_ (some 9) rfl rfl Tryz.func70 krT_ rfl #[.pointer (some ⟨g,0,none⟩),.int .i64 (l1.length:Int)] rfl agT_ ?_;(with_reducible refine (spec_l1Below.calls g s0_0 s0_1 s0_2 (l1.length:Int) t400 t401 t402 w0 _ ?side1 ?side2 A3.out).mono ?_);(case side1=>exact h_HI0 HI0.out);(case side2=>exact h_HB HB.out);rintro e w6 ⟨rfl,hi,hb,hk⟩;refine ⟨_,rfl,?_⟩;replace HK:=Aside0.mk (KeepBut.trans (h_HK HK.out) hk (.inl rfl));replace HB:=Aside0.mk (hb);replace HI0:=Aside0.mk (hi);(try clear hb);(try clear hb2);(try clear hk);(try clear hi);have p403:0≤(t400:Int):=odT_;have q403:t400<(l1.length:Int):=odT_;obtain ⟨ad403,e403,hx403_0⟩:=Kd.at_int HR1.out t400 p403 q403;cases e403;replace hx403_0:=keep_cell HK.out hx403_0 (by first|(rw [add_block];exact hf1 _ rfl (by omega))|exact hf1 _ rfl (by omega)|exact hf1 ad403 rfl (by omega));replace p403:=eq_true p403;replace q403:=eq_true q403))
 go_ret
 exact ⟨eT_,h_HI0 HI0.out,h_HB HB.out,h_HK HK.out⟩
/-! ### spec_l3Draw: function 91 -/
def spec_l3Draw.l0:Nat→Int→List Int→Int→Int→List Int→Int→Int→Option (List Int × Int × Int)
 | 0,_,_,_,_,_,_,_=>none
 | k+1,x1,x5,x6,x7,x1000,x1001,x1002=>if x7<x6 then (if 0≤(IntKind.u64.wrap (x1)) then ((spec_l1Below.f x1000 x1001 x1002 (shl .i64 1 (IntKind.u64.wrap (x1)))).bind fun bt410=>(if x5.length<17592186044416 then (spec_l3Draw.l0 k x1 (x5++[bt410.1]) x6 (wrap64 (x7+1)) x1000 bt410.2.1 bt410.2.2) else (none))) else (none)) else (some (x5,x1001,x1002))
def spec_l3Draw.f (k:Nat) (s0_0:List Int) (s0_1:Int) (s0_2:Int) (a1:Int):Option (List Int × Int × Int):=(spec_l1Below.f s0_0 s0_1 s0_2 6).bind fun bt407=>(spec_l3Draw.l0 k a1 (([]:List Int)) bt407.1 0 s0_0 bt407.2.1 bt407.2.2)
set_option maxHeartbeats 8000000 in
set_option maxRecDepth 100000 in
theorem spec_l3Draw.calls (k:Nat) (g:Nat) (s0_0:List Int) (s0_1:Int) (s0_2:Int) (a1:Int) (r1:List Int) (r2:Int) (r3:Int) (w0 w:World) (hI:IsS94 w0 w g s0_0 s0_1 s0_2) (hB:Below w0.heap.size w0 w) (h:spec_l3Draw.f k s0_0 s0_1 s0_2 a1=some (r1,r2,r3)) :
    Calls Tryz.prog 91 #[.pointer (some ⟨g,0,none⟩),.int .i64 a1] w fun e w'=>∃ v0_:Value,e=.returned (v0_)∧Kd.R (Kd.int .i64) 3 w' w.heap.size (fun _=>True) v0_ r1∧IsS94 w0 w' g s0_0 r2 r3∧Below w0.heap.size w0 w'∧KeepBut w w' g none:=by
 have HI0:=Aside0.mk hI
 have HK:=Aside0.mk (KeepBut.refl w g none)
 have HL:=Aside0.mk hB.size
 clear hI
 have HW0:=Aside0.mk hB.size
 have HB:=Aside0.mk hB
 clear hB
 unfold spec_l3Draw.f at h
 have H:=h
 clear h
 obtain ⟨y404,hy404⟩:∃ y_:List Int,y_=(([]:List Int)):=⟨_,rfl⟩
 rw [← hy404] at H
 have Ny404:=Aside0.mk hy404
 clear hy404
 replace H:=bnd_ H;obtain ⟨⟨t407,t408,t409⟩,A3,H⟩:=H;dsimp only at H
 have H':=Aside0.mk H
 clear H
 go_enter Tryz.func91,Tryz.ntmps91
 go_wp2_with (first|((with_reducible refine gate_dst (N:=8) rfl ?_);refine Kd.R_lit (Kd.int .i64) _ 3 ?hg (N:=8) ?hd (xs:=([]:List Int)) (inner:=[]) (ok:=fun _=>True) (okp:=fun _=>True) ?hr ?hp (fun _ hk=>hk) trivial (Below.refl _ _) (Nat.le_refl _) (by simp) ?_;(case hd=>rfl);(case hg=>rfl);(case hr=>exact hrT_);(case hp=>exact (Reps.none _ _));intro v405 w4 ho5 hb hg_ hnew_;clear hg_ hnew_;(first|rw [← Ny404.out] at ho5|(simp only [Int.reduceToNat] at ho5;rw [← Ny404.out] at ho5));have HO406:=Aside0.mk (Kd.R_lower ho5 (keep_size (w:=w) (g:=g) (row:=none) (h_HK HK.out)));replace HI0:=Aside0.mk (IsS94.below (h_HI0 HI0.out) hb);replace HK:=Aside0.mk (KeepBut.trans (h_HK HK.out) (KeepBut.of_below hb g none) (.inl rfl));replace HB:=Aside0.mk (below_step (h_HB HB.out) hb);clear hb ho5)|((with_reducible refine gate_callee (f:=70) rfl ?_);refine goesL_ (some 10) rfl rfl Tryz.func70 krT_ rfl #[.pointer (some ⟨g,0,none⟩),.int .i64 6] rfl agT_ ?_;(with_reducible refine (spec_l1Below.calls g s0_0 s0_1 s0_2 6 t407 t408 t409 w0 _ ?side1 ?side2 A3.out).mono ?_);(case side1=>exact h_HI0 HI0.out);(case side2=>exact h_HB HB.out);rintro e w6 ⟨rfl,hi,hb,hk⟩;refine ⟨_,rfl,?_⟩;replace HO406:=Aside0.mk (Kd.R_mono (Kd.R_keep (IsS94.apart (show IsS94 w0 _ g s0_0 s0_1 s0_2 from h_HI0 HI0.out) (kRC_ HO406.out) (by decide)) hk (fun _ h=>h.2)) (fun _ h=>h.1));replace HK:=Aside0.mk (KeepBut.trans (h_HK HK.out) hk (.inl rfl));replace HB:=Aside0.mk (hb);replace HI0:=Aside0.mk (hi);(try clear hb);(try clear hb2);(try clear hk);(try clear hi)))
 go_loopg [5,7] k (fun kq v5 v7 w'=>∃ (x5_1:List Int) (x7_1:Int) (x1001_1:Int) (x1002_1:Int),v7=.int .i64 x7_1∧Aside0 (spec_l3Draw.l0 kq a1 x5_1 t407 x7_1 s0_0 x1001_1 x1002_1=some (r1,r2,r3))∧Aside0 (kq≤k)∧Aside0 (Kd.R (Kd.int .i64) 3 w' w.heap.size (fun _=>True) v5 x5_1)∧Aside0 (IsS94 w0 w' g s0_0 x1001_1 x1002_1)∧Aside0 (KeepBut w w' g none)∧Aside0 (Below w0.heap.size w0 w'))
 case atStart=>exact ⟨(y404),(0),(t408),(t409),sT_,H',⟨Nat.le_refl _⟩,⟨kRC_ HO406.out⟩,⟨h_HI0 HI0.out⟩,⟨h_HK HK.out⟩,⟨h_HB HB.out⟩⟩
 case round =>
 clear H'
 try clear p2
 obtain ⟨x5_1,x7_1,x1001_1,x1002_1,rfl,HA,HK1,HO_5,HI0,HK,HB⟩:=hrel
 cases gk with
 | zero=>exact absurd HA.out (by simp [spec_l3Draw.l0])
 | succ k1 =>
 have H:=HA.out
 clear HA
 simp only [spec_l3Draw.l0] at H
 rcases gsn_ H with ⟨c7b0,H⟩|⟨c7b0,H⟩
 ·simp only [Option.some.injEq,Prod.mk.injEq] at H
  obtain ⟨rfl,rfl,rfl⟩:=H
  go_wp2
  go_ret
  exact ⟨_,eT_,kRC_ HO_5.out,h_HI0 HI0.out,h_HB HB.out,h_HK HK.out⟩
 obtain ⟨ji8,hji8⟩:∃ j_:Int,(IntKind.u64.wrap (a1))=j_:=⟨_,rfl⟩
 first |rw [hji8] at H|simp only [hji8] at H
 by_cases c9:0≤(ji8)
 rotate_left
 ·rw [if_neg c9] at H
  exact absurd H (by simp)
 rw [if_pos c9] at H
 have c9b0:=eq_true c9
 have c9b1:decide (0≤(ji8))=true:=decide_eq_true c9
 clear c9
 obtain ⟨ji10,hji10⟩:∃ j_:Int,(shl .i64 1 (ji8))=j_:=⟨_,rfl⟩
 first |rw [hji10] at H|simp only [hji10] at H
 have hji10_:(IntKind.i64.wrap (1*2 ^ min (ji8).toNat 64))=ji10:=hji10
 have hji10z:(ji8)≤64→(IntKind.i64.wrap (1*2 ^ (ji8).toNat))=ji10:=shl_small hji10
 have hji10u:(IntKind.i64.wrap (2 ^ min (ji8).toNat 64))=ji10:=by have h_:=hji10_;rw [Int.one_mul] at h_;exact h_
 have hji10v:(ji8)≤64→(IntKind.i64.wrap (2 ^ (ji8).toNat))=ji10:=fun hle_=>by have h_:=hji10z hle_;rw [Int.one_mul] at h_;exact h_
 have hji10y:(wrap64 (1*2 ^ min (ji8).toNat 64))=ji10:=(i64_w _).symm.trans hji10_
 have hji10x:(ji8)≤64→(wrap64 (1*2 ^ (ji8).toNat))=ji10:=fun h_=>(i64_w _).symm.trans (hji10z h_)
 replace H:=bnd_ H;obtain ⟨⟨t410,t411,t412⟩,A11,H⟩:=H;dsimp only at H
 by_cases c12:x5_1.length<17592186044416
 ·rw [if_pos c12] at H
  have LMc12:=Aside0.mk c12
  clear c12
  obtain ⟨y413,hy413⟩:∃ y_:List Int,y_=(x5_1++[t410]):=⟨_,rfl⟩
  rw [← hy413] at H
  have Ny413:=Aside0.mk hy413
  clear hy413
  have H':=Aside0.mk H
  clear H
  go_wp2_with (first|((with_reducible refine gate_callee (f:=70) rfl ?_);refine goesL_ (some 21) rfl rfl Tryz.func70 krT_ rfl #[.pointer (some ⟨g,0,none⟩),.int .i64 ji10] rfl (by (try simp only [List.map_toArray,List.map_cons,List.map_nil]);first|done|(simp only [hji10];rfl)|rfl|(simp only [List.length_drop,List.length_take];rfl)) ?_;(with_reducible refine (spec_l1Below.calls g s0_0 x1001_1 x1002_1 ji10 t410 t411 t412 w0 _ ?side1 ?side2 A11.out).mono ?_);(case side1=>exact h_HI0 HI0.out);(case side2=>exact h_HB HB.out);rintro e w13 ⟨rfl,hi,hb,hk⟩;refine ⟨_,rfl,?_⟩;replace HO_5:=Aside0.mk (Kd.R_mono (Kd.R_keep (IsS94.apart (show IsS94 w0 _ g s0_0 x1001_1 x1002_1 from h_HI0 HI0.out) (kRC_ HO_5.out) (by decide)) hk (fun _ h=>h.2)) (fun _ h=>h.1));replace HK:=Aside0.mk (KeepBut.trans (h_HK HK.out) hk (.inl rfl));replace HB:=Aside0.mk (hb);replace HI0:=Aside0.mk (hi);(try clear hb);(try clear hb2);(try clear hk);(try clear hi))|((with_reducible refine gate_builtin (b:=.append) (xs:=#[.tmp 16,.tmp 22]) rfl ?_);at_builtin;refine Kd.R_append (Kd.int .i64) w.heap.size rfl (.tmp 16) (.tmp 22) 22 3 (.int .i64 0) 8 rfl Tryz.underlying22 info3 rfl (by decide) (by omega) u5 x5_1 t410 [.int .i64 t410] (fun _=>True) (fun _=>False) rfl rfl ?aP (fun _ hk=>hk.elim) ?aF ?aO (Below.refl _ _) ?aS ?aL ?_;(case aP=>exact rfl);(case aF=>exact (fun _ _=>trivial));(case aO=>exact (kRC_ HO_5.out));(case aS=>exact (keep_size (w:=w) (g:=g) (row:=none) (h_HK HK.out)));(case aL=>have:=LMc12.out;omega);intro v414 w14 ho hb hg hat;rw [← Ny413.out] at ho;replace HI0:=Aside0.mk (IsS94.grown (h_HI0 HI0.out) hg (IsS94.own_ne HI0.out HO_5.out (by decide)));replace HB:=Aside0.mk (below_weaken (h_HB HB.out) HL.out hb);replace HK:=Aside0.mk (KeepBut.trans (h_HK HK.out) (KeepBut.of_grown hg g) (Kd.R_base2 HO_5.out));have HO415:=Aside0.mk (ho);clear HO_5;clear ho hb hg hat))
  go_roundg k1
  case measure=>have:=HK1.out;omega
  case rel=>exact ⟨(y413),(wrap64 (x7_1+1)),(t411),(t412),sT_,H',⟨by have:=HK1.out;omega⟩,⟨kRC_ HO415.out⟩,⟨h_HI0 HI0.out⟩,⟨h_HK HK.out⟩,⟨h_HB HB.out⟩⟩
 ·rw [if_neg c12] at H
  exact absurd H (by simp)
/-! ### spec_FullSet: function 77 -/
def spec_FullSet.f (a0:Int):Option (Int):=(spec_l1In.f a0 0 8).bind fun t416=>(if t416=true then (if 0≤(IntKind.u64.wrap (a0)) then (some (wrap64 ((shl .i64 1 (IntKind.u64.wrap (a0)))-1))) else (none)) else (some 0))
set_option maxHeartbeats 8000000 in
set_option maxRecDepth 100000 in
theorem spec_FullSet.calls (a0:Int) (r:Int) (w:World) (h:spec_FullSet.f a0=some r) :
    Calls Tryz.prog 77 #[.int .i64 a0] w fun e w'=>e=.returned (.int .i64 r)∧Drawn0 w w':=by
 unfold spec_FullSet.f at h
 have H:=h
 clear h
 replace H:=bnd_ H;obtain ⟨t416,A2,H⟩:=H
 by_cases c3:t416=true
 rotate_left
 ·replace c3:=Bool.eq_false_iff.mpr c3
  subst c3
  replace H:=bF_ H
  obtain rfl:=Option.some.inj H
  go_enter Tryz.func77,Tryz.ntmps77
  go_wp2_with (first|((with_reducible refine gate_callee (f:=75) rfl ?_);refine goesL_ (some 4) rfl rfl Tryz.func75 krT_ rfl #[.int .i64 a0,.int .i64 0,.int .i64 8] rfl agT_ ?_;(with_reducible refine (spec_l1In.calls a0 0 8 false _ A2.out).mono ?_);rintro e w' ⟨rfl,⟨nd,rfl⟩⟩;refine ⟨_,rfl,?_⟩))
  go_ret
  exact ⟨sT_,dT_⟩
 subst c3
 replace H:=bT_ H
 obtain ⟨ji4,hji4⟩:∃ j_:Int,(IntKind.u64.wrap (a0))=j_:=⟨_,rfl⟩
 first |rw [hji4] at H|simp only [hji4] at H
 (try rw [hji4] at A2)
 by_cases c5:0≤(ji4)
 rotate_left
 ·rw [if_neg c5] at H
  exact absurd H (by simp)
 rw [if_pos c5] at H
 have c5b0:=eq_true c5
 have c5b1:decide (0≤(ji4))=true:=decide_eq_true c5
 clear c5
 obtain ⟨ji6,hji6⟩:∃ j_:Int,(shl .i64 1 (ji4))=j_:=⟨_,rfl⟩
 first |rw [hji6] at H|simp only [hji6] at H
 (try rw [hji6] at A2)
 have hji6_:(IntKind.i64.wrap (1*2 ^ min (ji4).toNat 64))=ji6:=hji6
 have hji6z:(ji4)≤64→(IntKind.i64.wrap (1*2 ^ (ji4).toNat))=ji6:=shl_small hji6
 have hji6u:(IntKind.i64.wrap (2 ^ min (ji4).toNat 64))=ji6:=by have h_:=hji6_;rw [Int.one_mul] at h_;exact h_
 have hji6v:(ji4)≤64→(IntKind.i64.wrap (2 ^ (ji4).toNat))=ji6:=fun hle_=>by have h_:=hji6z hle_;rw [Int.one_mul] at h_;exact h_
 have hji6y:(wrap64 (1*2 ^ min (ji4).toNat 64))=ji6:=(i64_w _).symm.trans hji6_
 have hji6x:(ji4)≤64→(wrap64 (1*2 ^ (ji4).toNat))=ji6:=fun h_=>(i64_w _).symm.trans (hji6z h_)
 obtain rfl:=Option.some.inj H
 go_enter Tryz.func77,Tryz.ntmps77
 go_wp2_with (first|((with_reducible refine gate_callee (f:=75) rfl ?_);refine goesL_ (some 4) rfl rfl Tryz.func75 krT_ rfl #[.int .i64 a0,.int .i64 0,.int .i64 8] rfl agT_ ?_;(with_reducible refine (spec_l1In.calls a0 0 8 true _ A2.out).mono ?_);rintro e w' ⟨rfl,⟨nd,rfl⟩⟩;refine ⟨_,rfl,?_⟩))
 go_ret
 exact ⟨by first|rfl|(simp;done)|(simp only [← hji4,← hji6]<;>(first|rfl|simp))|(simp [*];done),dT_⟩
/-! ### spec_CountOf: function 107 -/
def spec_CountOf.l0:Nat→Int→Int→Option (Int)
 | 0,_,_=>none
 | k+1,x0,x3=>if x0>0 then (spec_CountOf.l0 k (x0 / 2) (wrap64 (x3+(Go.bits .and .i64 x0 1)))) else (some x3)
def spec_CountOf.f (k:Nat) (a0:Int):Option (Int):=(spec_IsSet.f 8 a0).bind fun t417=>(if t417=true then (spec_CountOf.l0 k a0 0) else (some 0))
set_option maxHeartbeats 8000000 in
set_option maxRecDepth 100000 in
theorem spec_CountOf.calls (k:Nat) (a0:Int) (r:Int) (w:World) (h:spec_CountOf.f k a0=some r) :
    Calls Tryz.prog 107 #[.int .i64 a0] w fun e w'=>e=.returned (.int .i64 r)∧Drawn0 w w':=by
 have H:((spec_IsSet.f 8 a0).bind fun t417=>(if t417=true then (spec_CountOf.l0 k a0 0) else (some 0)))=some r:=h
 clear h
 replace H:=bnd_ H;obtain ⟨t417,A2,H⟩:=H
 by_cases c3:t417=true
 rotate_left
 ·replace c3:=Bool.eq_false_iff.mpr c3
  subst c3
  replace H:=bF_ H
  obtain rfl:=Option.some.inj H
  go_enter Tryz.func107,Tryz.ntmps107
  go_wp2_with (first|((with_reducible refine gate_callee (f:=80) rfl ?_);refine goesL_ (some 5) rfl rfl Tryz.func80 krT_ rfl #[.int .i64 8,.int .i64 a0] rfl agT_ ?_;(with_reducible refine (spec_IsSet.calls 8 a0 false _ A2.out).mono ?_);rintro e w' ⟨rfl,⟨nd,rfl⟩⟩;refine ⟨_,rfl,?_⟩))
  go_ret
  exact ⟨sT_,dT_⟩
 subst c3
 replace H:=bT_ H
 have H':=Aside0.mk H
 clear H
 go_enter Tryz.func107,Tryz.ntmps107
 go_wp2_with (first|((with_reducible refine gate_callee (f:=80) rfl ?_);refine goesL_ (some 5) rfl rfl Tryz.func80 krT_ rfl #[.int .i64 8,.int .i64 a0] rfl agT_ ?_;(with_reducible refine (spec_IsSet.calls 8 a0 true _ A2.out).mono ?_);rintro e w' ⟨rfl,⟨nd,rfl⟩⟩;refine ⟨_,rfl,?_⟩))
 go_loopg [0,3] k (fun kq v0 v3 w'=>∃ (x0_1:Int) (x3_1:Int),v0=.int .i64 x0_1∧v3=.int .i64 x3_1∧Aside0 (spec_CountOf.l0 kq x0_1 x3_1=some r)∧Aside0 (kq≤k)∧Drawn0 w w')
 case atStart=>exact ⟨(a0),(0),sT_,sT_,H',⟨Nat.le_refl _⟩,dT_⟩
 case round =>
 clear H'
 try clear c1
 try clear p2
 try clear c3
 obtain ⟨x0_1,x3_1,rfl,rfl,HA,HK1,⟨m1,rfl⟩⟩:=hrel
 cases gk with
 | zero=>exact absurd HA.out (by simp [spec_CountOf.l0])
 | succ k1 =>
 have H:=HA.out
 clear HA
 simp only [spec_CountOf.l0] at H
 by_cases c4:x0_1>0
 ·rw [if_pos c4] at H
  have c4b0:decide (0<x0_1)=true:=decide_eq_true c4
  clear c4
  have H':=Aside0.mk H
  clear H
  go_wp2
  go_roundg k1
  case measure=>have:=HK1.out;omega
  case rel=>exact ⟨(x0_1 / 2),(wrap64 (x3_1+(Go.bits .and .i64 x0_1 1))),sT_,sT_,H',⟨by have:=HK1.out;omega⟩,dT_⟩
 ·rw [if_neg c4] at H
  have c4b0:decide (0<x0_1)=false:=decide_eq_false c4
  clear c4
  obtain rfl:=Option.some.inj H
  go_wp2
  go_ret
  exact ⟨sT_,dT_⟩
/-! ### spec_Uniform: function 49 -/
mutual
def spec_Uniform.j0:Nat→Int→Int→Bool→Option (Int × List Int)
 | 0,_,_,_=>none
 | k+1,x0,x1,x15=>if x15=true then (some (0,([]:List Int))) else (spec_Uniform.l0 k x0 x1 0 x1 ([]:List Int))
def spec_Uniform.l0:Nat→Int→Int→Int→Int→List Int→Option (Int × List Int)
 | 0,_,_,_,_,_=>none
 | k+1,x0,x1,x6,x422000,x422001=>(spec_FullSet.f x1).bind fun t422=>(if x6≤t422 then ((spec_CountOf.f k x6).bind fun t423=>(if t423=x0 then (if x422001.length<17592186044416 then (spec_Uniform.l0 k x0 x1 (wrap64 (x6+1)) x422000 (x422001++[x6])) else (none)) else (spec_Uniform.l0 k x0 x1 (wrap64 (x6+1)) x422000 x422001))) else (some (x422000,x422001)))
end
def spec_Uniform.f (k:Nat) (a0:Int) (a1:Int):Option (Int × List Int):=(spec_l1In.f a1 0 8).bind fun t419=>(if t419=true then ((spec_l1In.f a0 0 a1).bind fun t420=>(spec_Uniform.j0 k a0 a1 (!t420))) else (spec_Uniform.j0 k a0 a1 true))
set_option maxHeartbeats 8000000 in
set_option maxRecDepth 100000 in
theorem spec_Uniform.calls (k:Nat) (a0:Int) (a1:Int) (r1:Int) (r2:List Int) (w:World) (h:spec_Uniform.f k a0 a1=some (r1,r2)) :
    Calls Tryz.prog 49 #[.int .i64 a0,.int .i64 a1] w fun e w'=>∃ v1_:Value,e=.returned (.agg #[.int .i64 r1,v1_])∧Kd.R (Kd.int .i64) 3 w' w.heap.size (fun _=>True) v1_ r2∧Below w.heap.size w w':=by
 have hu24:=Tryz.underlying24
 have HB:=Aside0.mk (Below.refl w.heap.size w)
 unfold spec_Uniform.f at h
 have H:=h
 clear h
 have HC3:=Aside0.mk H
 clear H
 go_enter Tryz.func49,Tryz.ntmps49
 go_upto_region 1 with (first|((with_reducible refine gate_dst (N:=4) rfl ?_);refine bx_ (N:=4) (cs:=#[.int .i64 0,.slice none 0 0]) (t:=24) ?_;intro gb418 hg w4 hbox hb;have BK418:=Aside0.mk (hbox);have GW418:=Aside0.mk (gw_ hg (h_HB HB.out));have GE418:=Aside0.mk (gw_ hg (h_HB HB.out));replace HB:=Aside0.mk (below_step (h_HB HB.out) hb);clear hb hbox hg))
 (try simp only [Act.put,List.setIfInBounds_toArray,List.set_cons_zero,List.set_cons_succ])
 go_cut [15] (fun v15 wc=>∃ (kq:Nat) (x15_2:Bool),v15=.bool x15_2∧Aside0 (spec_Uniform.j0 kq a0 a1 x15_2=some (r1,r2))∧Aside0 (kq≤k)∧Aside0 (wc.heap[gb418]?=some (.cells #[.int .i64 0,(.slice none 0 0)] 24 (0,0)))∧Aside0 (Below w.heap.size w wc))
 case first =>
  have H:=HC3.out
  clear HC3
  replace H:=bnd_ H;obtain ⟨t419,A5,H⟩:=H
  by_cases c6:t419=true
  ·subst c6
   replace H:=bT_ H
   replace H:=bnd_ H;obtain ⟨t420,A7,H⟩:=H
   have H':=Aside0.mk H
   clear H
   go_wp2_with (first|((with_reducible refine gate_callee (f:=75) rfl ?_);refine goesL_ (some 8) rfl rfl Tryz.func75 krT_ rfl #[.int .i64 a1,.int .i64 0,.int .i64 8] rfl agT_ ?_;(with_reducible refine (spec_l1In.calls a1 0 8 true _ A5.out).mono ?_);rintro e w' ⟨rfl,⟨nd,rfl⟩⟩;refine ⟨_,rfl,?_⟩)|(go_at_call 75;(with_reducible refine (spec_l1In.calls a0 0 a1 t420 _ A7.out).mono ?_);rintro e w' ⟨rfl,⟨nd,rfl⟩⟩))
   go_meet
   case rel=>exact ⟨_,(!t420),sT_,H',⟨by first|omega|exact Nat.le_refl _⟩,⟨bkC_ BK418.out⟩,⟨h_HB HB.out⟩⟩
  replace c6:=Bool.eq_false_iff.mpr c6
  subst c6
  replace H:=bF_ H
  have H':=Aside0.mk H
  clear H
  go_wp2_with (first|((with_reducible refine gate_callee (f:=75) rfl ?_);refine goesL_ (some 8) rfl rfl Tryz.func75 krT_ rfl #[.int .i64 a1,.int .i64 0,.int .i64 8] rfl agT_ ?_;(with_reducible refine (spec_l1In.calls a1 0 8 false _ A5.out).mono ?_);rintro e w' ⟨rfl,⟨nd,rfl⟩⟩;refine ⟨_,rfl,?_⟩))
  go_meet
  case rel=>exact ⟨_,(true),sT_,H',⟨by first|omega|exact Nat.le_refl _⟩,⟨bkC_ BK418.out⟩,⟨h_HB HB.out⟩⟩
 case rest =>
 clear HC3
 try clear p2
 try clear c4
 try clear c6
 try clear c7
 obtain ⟨kq,x15_2,rfl,HA,HJ2,BK418,HB⟩:=hcut
 cases kq with
 | zero=>exact absurd HA.out (by simp [spec_Uniform.j0])
 | succ kj2 =>
 have H:=HA.out
 clear HA
 simp only [spec_Uniform.j0] at H
 by_cases c8:x15_2=true
 ·subst c8
  replace H:=bT_ H
  simp only [Option.some.injEq,Prod.mk.injEq] at H
  obtain ⟨rfl,rfl⟩:=H
  obtain ⟨hcz9_0,hcz9_1,hfz9_0,hfz9_1⟩:=bz2_ BK418.out
  go_wp2
  refine bodyPost_ret (results_cell_row rfl _ _ gb418 24 #[.int .i64 0,.slice none 0 0] (0,0) _ rfl (by (with_reducible repeat (first|refine blk_drewN ?_ _|refine blk_drew ?_|refine blk_alloc ?_ _));refine blk_put (cs:=#[.int .i64 0,.slice none 0 0]) ?_ 1 _ rfl;(with_reducible repeat (first|refine blk_drewN ?_ _|refine blk_drew ?_|refine blk_alloc ?_ _));refine blk_put (cs:=#[.int .i64 0,.slice none 0 0]) ?_ 0 _ rfl;exact bkC_ BK418.out) Tryz.underlying24 rfl krT_) rfl ?_
  exact ⟨_,eT_,by first|exact Kd.R_nil _ _ _ _ _|exact Kd.N_nil _ _ _ _ _|exact Kd.V_nil _ _ _ _ _|exact Kd.Q_nil _ _ _ _ _|exact Kd.S_nil _ _ _ _ _,h_HB HB.out⟩
 replace c8:=Bool.eq_false_iff.mpr c8
 subst c8
 replace H:=bF_ H
 have H':=Aside0.mk H
 clear H
 go_wp2_with (first|((with_reducible refine gate_dst (N:=5) rfl ?_);refine bx_ (N:=5) (cs:=#[.int .i64 0,.slice none 0 0]) (t:=24) ?_;intro gb421 hg w10 hbox hb;have BK421:=Aside0.mk (hbox);have GW421:=Aside0.mk (gw_ hg (h_HB HB.out));have GE421:=Aside0.mk (gw_ hg (h_HB HB.out));replace HB:=Aside0.mk (below_step (h_HB HB.out) hb);have NB418_421:=Aside0.mk (nbl_ hg (bkC_ BK418.out));have NB421_418:=Aside0.mk (nbg_ hg (bkC_ BK418.out));replace BK418:=Aside0.mk (blkB_ BK418.out hb);clear hb hbox hg;have hnb11:=NB421_418.out;have hnc11:=NB418_421.out;obtain ⟨hcz12_0,hcz12_1,hfz12_0,hfz12_1⟩:=bz2_ BK421.out))
 go_loopg [6] kj2 (fun kq v6 w'=>∃ (x6_2:Int) (x422001_2:List Int) (u422001:Value),v6=.int .i64 x6_2∧Aside0 (spec_Uniform.l0 kq a0 a1 x6_2 a1 x422001_2=some (r1,r2))∧Aside0 (kq≤kj2)∧Aside0 (Kd.R (Kd.int .i64) 3 w' w.heap.size (fun _=>True) u422001 x422001_2)∧Aside0 (w'.heap[gb418]?=some (.cells #[.int .i64 0,(.slice none 0 0)] 24 (0,0)))∧Aside0 (w'.heap[gb421]?=some (.cells #[.int .i64 a1,u422001] 24 (0,0)))∧Aside0 (Below w.heap.size w w'))
 case atStart=>exact ⟨(0),(([]:List Int)),(.slice none 0 0),sT_,H',⟨Nat.le_refl _⟩,⟨by first|exact Kd.R_nil _ _ _ _ _|exact Kd.N_nil _ _ _ _ _|exact Kd.V_nil _ _ _ _ _|exact Kd.Q_nil _ _ _ _ _|exact Kd.S_nil _ _ _ _ _⟩,⟨bkC_ BK418.out⟩,⟨by (with_reducible repeat (first|refine blk_drewN ?_ _|refine blk_drew ?_|refine blk_alloc ?_ _));refine blk_put (cs:=#[.int .i64 a1,.slice none 0 0]) ?_ 1 _ rfl;(with_reducible repeat (first|refine blk_drewN ?_ _|refine blk_drew ?_|refine blk_alloc ?_ _));refine blk_put (cs:=#[.int .i64 0,.slice none 0 0]) ?_ 0 _ rfl;exact bkC_ BK421.out⟩,⟨h_HB HB.out⟩⟩
 case round =>
 clear H'
 try clear c1
 try clear p2
 try clear c4
 try clear c6
 try clear c7
 try clear c8
 try clear c11
 try clear hcz12_0
 try clear hcz12_1
 try clear hcz9_0
 try clear hcz9_1
 try clear hfz12_0
 try clear hfz12_1
 try clear hfz9_0
 try clear hfz9_1
 try clear p2
 obtain ⟨x6_2,x422001_2,u422001,rfl,HA,HK2,HO_422001,BK418,BK421,HB⟩:=hrel
 cases gk with
 | zero=>exact absurd HA.out (by simp [spec_Uniform.l0])
 | succ k2 =>
 have H:=HA.out
 clear HA
 simp only [spec_Uniform.l0] at H
 replace H:=bnd_ H;obtain ⟨t422,A13,H⟩:=H
 rcases gsn_ H with ⟨c14b0,H⟩|⟨c14b0,H⟩
 ·simp only [Option.some.injEq,Prod.mk.injEq] at H
  obtain ⟨rfl,rfl⟩:=H
  go_wp2_with (first|((with_reducible refine gate_callee (f:=77) rfl ?_);refine goesL_ (some 21) rfl rfl Tryz.func77 krT_ rfl #[.int .i64 a1] rfl agT_ ?_;(with_reducible refine (spec_FullSet.calls a1 t422 _ A13.out).mono ?_);rintro e w' ⟨rfl,⟨nd,rfl⟩⟩;refine ⟨_,rfl,?_⟩;(try (rw [drewN_self wr];generalize hq_:World.drewN wr _=wr;replace HO_422001:Aside0 (Kd.R (Kd.int .i64) 3 wr w.heap.size (fun _=>True) u422001 x422001_2):=⟨by rw [← hq_];exact (kRC_ HO_422001.out)⟩;replace BK418:Aside0 (wr.heap[gb418]?=some (.cells #[.int .i64 0,.slice none 0 0] 24 (0,0))):=⟨by rw [← hq_];exact (bkC_ BK418.out)⟩;replace BK421:Aside0 (wr.heap[gb421]?=some (.cells #[.int .i64 a1,u422001] 24 (0,0))):=⟨by rw [← hq_];exact (bkC_ BK421.out)⟩;replace HB:Aside0 (Below w.heap.size w wr):=⟨by rw [← hq_];exact (h_HB HB.out)⟩;clear hq_;have hcuz25_gb418_0:wr.cell? ⟨gb418,0,none⟩=some (.int .i64 0):=(blk_cell BK418.out 0).trans rfl;have hfuz25_gb418_0:=blk_frozen BK418.out 0;have hcuz25_gb418_1:wr.cell? ⟨gb418,1,none⟩=some (.slice none 0 0):=(blk_cell BK418.out 1).trans rfl;have hfuz25_gb418_1:=blk_frozen BK418.out 1;have hcuz25_gb421_0:wr.cell? ⟨gb421,0,none⟩=some (.int .i64 a1):=(blk_cell BK421.out 0).trans rfl;have hfuz25_gb421_0:=blk_frozen BK421.out 0;have hcuz25_gb421_1:wr.cell? ⟨gb421,1,none⟩=some (u422001):=(blk_cell BK421.out 1).trans rfl;have hfuz25_gb421_1:=blk_frozen BK421.out 1));have hnb26:=NB421_418.out;have hnc26:=NB418_421.out;obtain ⟨hcz27_0,hcz27_1,hfz27_0,hfz27_1⟩:=bz2_ BK421.out;obtain ⟨hcz28_0,hcz28_1,hfz28_0,hfz28_1⟩:=bz2_ BK418.out;obtain ⟨Ao29,co29,eo29⟩:=Kd.R_slice HO_422001.out;subst eo29))
  refine bodyPost_ret (results_cell_row rfl _ _ gb418 24 #[.int .i64 a1,.slice Ao29 x422001_2.length co29] (0,0) _ rfl (by (with_reducible repeat (first|refine blk_drewN ?_ _|refine blk_drew ?_|refine blk_alloc ?_ _));refine blk_put (cs:=#[.int .i64 a1,.slice none 0 0]) ?_ 1 _ rfl;(with_reducible repeat (first|refine blk_drewN ?_ _|refine blk_drew ?_|refine blk_alloc ?_ _));refine blk_put (cs:=#[.int .i64 0,.slice none 0 0]) ?_ 0 _ rfl;exact bkC_ BK418.out) Tryz.underlying24 rfl krT_) rfl ?_
  exact ⟨_,eT_,by (with_reducible repeat (first|apply Kd.R_alloc|apply Kd.R_drewN|apply Kd.R_drew));exact Kd.R_mono (Kd.R_far (p:=⟨gb418,1,none⟩) (Kd.R_far (p:=⟨gb418,0,none⟩) (Kd.R_types HO_422001.out BK418.out (by decide)) (fun _ hk=>hk.2) (.int .i64 a1)) (fun _ hk=>hk.2) (.slice Ao29 x422001_2.length co29)) (fun _ hk=>trivial),h_HB HB.out⟩
 replace H:=bnd_ H;obtain ⟨t423,A15,H⟩:=H
 by_cases c16:t423=a0
 ·rw [if_pos c16] at H
  have c16b0:(t423==a0)=true:=beq_iff_eq.mpr c16
  have c16b1:(t423 != a0)=false:=bne_eq_false_iff_eq.mpr c16
  clear c16
  by_cases c17:x422001_2.length<17592186044416
  ·rw [if_pos c17] at H
   have LMc17:=Aside0.mk c17
   clear c17
   obtain ⟨y424,hy424⟩:∃ y_:List Int,y_=(x422001_2++[x6_2]):=⟨_,rfl⟩
   rw [← hy424] at H
   have Ny424:=Aside0.mk hy424
   clear hy424
   have H':=Aside0.mk H
   clear H
   go_wp2_with (first|((with_reducible refine gate_callee (f:=77) rfl ?_);refine goesL_ (some 21) rfl rfl Tryz.func77 krT_ rfl #[.int .i64 a1] rfl agT_ ?_;(with_reducible refine (spec_FullSet.calls a1 t422 _ A13.out).mono ?_);rintro e w' ⟨rfl,⟨nd,rfl⟩⟩;refine ⟨_,rfl,?_⟩;(try (rw [drewN_self wr];generalize hq_:World.drewN wr _=wr;replace HO_422001:Aside0 (Kd.R (Kd.int .i64) 3 wr w.heap.size (fun _=>True) u422001 x422001_2):=⟨by rw [← hq_];exact (kRC_ HO_422001.out)⟩;replace BK418:Aside0 (wr.heap[gb418]?=some (.cells #[.int .i64 0,.slice none 0 0] 24 (0,0))):=⟨by rw [← hq_];exact (bkC_ BK418.out)⟩;replace BK421:Aside0 (wr.heap[gb421]?=some (.cells #[.int .i64 a1,u422001] 24 (0,0))):=⟨by rw [← hq_];exact (bkC_ BK421.out)⟩;replace HB:Aside0 (Below w.heap.size w wr):=⟨by rw [← hq_];exact (h_HB HB.out)⟩;clear hq_;have hcuz18_gb418_0:wr.cell? ⟨gb418,0,none⟩=some (.int .i64 0):=(blk_cell BK418.out 0).trans rfl;have hfuz18_gb418_0:=blk_frozen BK418.out 0;have hcuz18_gb418_1:wr.cell? ⟨gb418,1,none⟩=some (.slice none 0 0):=(blk_cell BK418.out 1).trans rfl;have hfuz18_gb418_1:=blk_frozen BK418.out 1;have hcuz18_gb421_0:wr.cell? ⟨gb421,0,none⟩=some (.int .i64 a1):=(blk_cell BK421.out 0).trans rfl;have hfuz18_gb421_0:=blk_frozen BK421.out 0;have hcuz18_gb421_1:wr.cell? ⟨gb421,1,none⟩=some (u422001):=(blk_cell BK421.out 1).trans rfl;have hfuz18_gb421_1:=blk_frozen BK421.out 1)))|((with_reducible refine gate_callee (f:=107) rfl ?_);refine goesL_ (some 26) rfl rfl Tryz.func107 krT_ rfl #[.int .i64 x6_2] rfl agT_ ?_;(with_reducible refine (spec_CountOf.calls k2 x6_2 t423 _ A15.out).mono ?_);rintro e w' ⟨rfl,⟨nd,rfl⟩⟩;refine ⟨_,rfl,?_⟩;(try (rw [drewN_self wr];generalize hq_:World.drewN wr _=wr;replace HO_422001:Aside0 (Kd.R (Kd.int .i64) 3 wr w.heap.size (fun _=>True) u422001 x422001_2):=⟨by rw [← hq_];exact (kRC_ HO_422001.out)⟩;replace BK418:Aside0 (wr.heap[gb418]?=some (.cells #[.int .i64 0,.slice none 0 0] 24 (0,0))):=⟨by rw [← hq_];exact (bkC_ BK418.out)⟩;replace BK421:Aside0 (wr.heap[gb421]?=some (.cells #[.int .i64 a1,u422001] 24 (0,0))):=⟨by rw [← hq_];exact (bkC_ BK421.out)⟩;replace HB:Aside0 (Below w.heap.size w wr):=⟨by rw [← hq_];exact (h_HB HB.out)⟩;clear hq_;have hcuz19_gb418_0:wr.cell? ⟨gb418,0,none⟩=some (.int .i64 0):=(blk_cell BK418.out 0).trans rfl;have hfuz19_gb418_0:=blk_frozen BK418.out 0;have hcuz19_gb418_1:wr.cell? ⟨gb418,1,none⟩=some (.slice none 0 0):=(blk_cell BK418.out 1).trans rfl;have hfuz19_gb418_1:=blk_frozen BK418.out 1;have hcuz19_gb421_0:wr.cell? ⟨gb421,0,none⟩=some (.int .i64 a1):=(blk_cell BK421.out 0).trans rfl;have hfuz19_gb421_0:=blk_frozen BK421.out 0;have hcuz19_gb421_1:wr.cell? ⟨gb421,1,none⟩=some (u422001):=(blk_cell BK421.out 1).trans rfl;have hfuz19_gb421_1:=blk_frozen BK421.out 1));have hnb20:=NB421_418.out;have hnc20:=NB418_421.out;obtain ⟨hcz21_0,hcz21_1,hfz21_0,hfz21_1⟩:=bz2_ BK421.out)|((with_reducible refine gate_builtin (b:=.append) (xs:=#[.tmp 30,.tmp 32]) rfl ?_);at_builtin;refine Kd.R_append (Kd.int .i64) (w0:=w) w.heap.size rfl (.tmp 30) (.tmp 32) 22 3 (.int .i64 0) 8 rfl Tryz.underlying22 info3 rfl (by decide) (by omega) u422001 x422001_2 x6_2 [.int .i64 x6_2] (fun _=>True) (fun _=>False) rfl rfl ?aP (fun _ hk=>hk.elim) ?aF ?aO ?aB ?aS ?aL ?_;(case aP=>exact rfl);(case aB=>exact (h_HB HB.out));(case aF=>exact (fun _ _=>trivial));(case aO=>exact (kRC_ HO_422001.out));(case aS=>exact (below_size (h_HB HB.out)));(case aL=>have:=LMc17.out;omega);intro v425 w22 ho hb hg hat;rw [← Ny424.out] at ho;replace BK418:=Aside0.mk (blk_grown (bkC_ BK418.out) hg (Kd.R_ne HO_422001.out BK418.out (by decide)));replace BK421:=Aside0.mk (blk_grown (bkC_ BK421.out) hg (Kd.R_ne HO_422001.out BK421.out (by decide)));replace HB:=Aside0.mk (hb);have HO426:=Aside0.mk (ho);clear HO_422001;clear ho hb hg hat;obtain ⟨Ao23,co23,eo23⟩:=Kd.R_slice HO426.out;subst eo23;obtain ⟨hcz24_0,hcz24_1,hfz24_0,hfz24_1⟩:=bz2_ BK421.out))
   go_roundg k2
   case measure=>have:=HJ2.out;have:=HK2.out;omega
   case rel=>exact ⟨(wrap64 (x6_2+1)),(y424),(.slice Ao23 y424.length co23),sT_,H',⟨by have:=HJ2.out;have:=HK2.out;omega⟩,⟨by (with_reducible repeat (first|apply Kd.R_alloc|apply Kd.R_drewN|apply Kd.R_drew));exact Kd.R_mono (Kd.R_far (p:=⟨gb421,1,none⟩) (Kd.R_types HO426.out BK421.out (by decide)) (fun _ hk=>hk.2) (.slice Ao23 y424.length co23)) (fun _ hk=>trivial)⟩,⟨bkC_ BK418.out⟩,⟨by (with_reducible repeat (first|refine blk_drewN ?_ _|refine blk_drew ?_|refine blk_alloc ?_ _));refine blk_put (cs:=#[.int .i64 a1,u422001]) ?_ 1 _ rfl;exact bkC_ BK421.out⟩,⟨h_HB HB.out⟩⟩
  ·rw [if_neg c17] at H
   exact absurd H (by simp)
 ·rw [if_neg c16] at H
  have c16b0:(t423==a0)=false:=beq_eq_false_iff_ne.mpr c16
  have c16b1:(t423 != a0)=true:=bne_iff_ne.mpr c16
  have H':=Aside0.mk H
  clear H
  go_wp2_with (first|((with_reducible refine gate_callee (f:=77) rfl ?_);refine goesL_ (some 21) rfl rfl Tryz.func77 krT_ rfl #[.int .i64 a1] rfl agT_ ?_;(with_reducible refine (spec_FullSet.calls a1 t422 _ A13.out).mono ?_);rintro e w' ⟨rfl,⟨nd,rfl⟩⟩;refine ⟨_,rfl,?_⟩)|((with_reducible refine gate_callee (f:=107) rfl ?_);refine goesL_ (some 26) rfl rfl Tryz.func107 krT_ rfl #[.int .i64 x6_2] rfl agT_ ?_;(with_reducible refine (spec_CountOf.calls k2 x6_2 t423 _ A15.out).mono ?_);rintro e w' ⟨rfl,⟨nd,rfl⟩⟩;refine ⟨_,rfl,?_⟩))
  go_roundg k2
  case measure=>have:=HJ2.out;have:=HK2.out;omega
  case rel=>exact ⟨(wrap64 (x6_2+1)),(x422001_2),(u422001),sT_,H',⟨by have:=HJ2.out;have:=HK2.out;omega⟩,⟨kRC_ HO_422001.out⟩,⟨bkC_ BK418.out⟩,⟨bkC_ BK421.out⟩,⟨h_HB HB.out⟩⟩
/-! ### spec_l1Pick: function 121 -/
def spec_l1Pick.f (s0_0:List Int) (s0_1:Int) (s0_2:Int) (l1:List ByteArray):Option (ByteArray × Int × Int):=(spec_l1Below.f s0_0 s0_1 s0_2 (l1.length:Int)).bind fun bt427=>(if 0≤bt427.1 then (if bt427.1<(l1.length:Int) then (some (rdOf ByteArray.empty l1 bt427.1,bt427.2.1,bt427.2.2)) else (none)) else (none))
set_option maxHeartbeats 8000000 in
set_option maxRecDepth 100000 in
theorem spec_l1Pick.calls (g:Nat) (s0_0:List Int) (s0_1:Int) (s0_2:Int) (A1:Option Addr) (c1:Nat) (l1:List ByteArray) (r1:ByteArray) (r2:Int) (r3:Int) (w0 w:World) (hI:IsS94 w0 w g s0_0 s0_1 s0_2) (hB:Below w0.heap.size w0 w) (hr1:Kd.C Kd.string w A1 l1.length l1) (hc1:l1.length≤c1) (hf1:∀ ad,A1=some ad→0<l1.length→ad.block≠g) (h:spec_l1Pick.f s0_0 s0_1 s0_2 l1=some (r1,r2,r3)) :
    Calls Tryz.prog 121 #[.pointer (some ⟨g,0,none⟩),.slice A1 l1.length c1] w fun e w'=>e=.returned (.string r1)∧IsS94 w0 w' g s0_0 r2 r3∧Below w0.heap.size w0 w'∧KeepBut w w' g none:=by
 have HR1:=Aside0.mk hr1
 have HC1:=Aside0.mk hc1
 clear hr1 hc1
 have HI0:=Aside0.mk hI
 have HK:=Aside0.mk (KeepBut.refl w g none)
 have HL:=Aside0.mk hB.size
 clear hI
 have HW0:=Aside0.mk hB.size
 have HB:=Aside0.mk hB
 clear hB
 unfold spec_l1Pick.f at h
 have H:=h
 clear h
 replace H:=bnd_ H;obtain ⟨⟨t427,t428,t429⟩,A3,H⟩:=H;dsimp only at H
 replace H:=gsm_ H;obtain ⟨c4b0,H⟩:=H
 replace H:=gsm_ H;obtain ⟨c5b0,H⟩:=H
 simp only [Option.some.injEq,Prod.mk.injEq] at H
 obtain ⟨rfl,rfl,rfl⟩:=H
 go_enter Tryz.func121,Tryz.ntmps121
 go_wp2_with (first|((with_reducible refine gate_callee (f:=70) rfl ?_);refine goesL_ (some 9) rfl rfl Tryz.func70 krT_ rfl #[.pointer (some ⟨g,0,none⟩),.int .i64 (l1.length:Int)] rfl agT_ ?_;(with_reducible refine (spec_l1Below.calls g s0_0 s0_1 s0_2 (l1.length:Int) t427 t428 t429 w0 _ ?side1 ?side2 A3.out).mono ?_);(case side1=>exact h_HI0 HI0.out);(case side2=>exact h_HB HB.out);rintro e w6 ⟨rfl,hi,hb,hk⟩;refine ⟨_,rfl,?_⟩;replace HK:=Aside0.mk (KeepBut.trans (h_HK HK.out) hk (.inl rfl));replace HB:=Aside0.mk (hb);replace HI0:=Aside0.mk (hi);(try clear hb);(try clear hb2);(try clear hk);(try clear hi);have p430:0≤(t427:Int):=odT_;have q430:t427<(l1.length:Int):=odT_;obtain ⟨ad430,e430,hx430_0⟩:=Kd.at_string HR1.out t427 p430 q430;cases e430;replace hx430_0:=keep_cell HK.out hx430_0 (by first|(rw [add_block];exact hf1 _ rfl (by omega))|exact hf1 _ rfl (by omega)|exact hf1 ad430 rfl (by omega));replace p430:=eq_true p430;replace q430:=eq_true q430))
 go_ret
 exact ⟨eT_,h_HI0 HI0.out,h_HB HB.out,h_HK HK.out⟩
/-! ### spec_l4Named: function 125 -/
def spec_l4Named.f (k:Nat) (s0_0:List Int) (s0_1:Int) (s0_2:Int):Option (Int × List Int × Int × Int):=(spec_l1Pick.f s0_0 s0_1 s0_2 (([(⟨#[48,32,45]⟩:ByteArray),(⟨#[49,32,45]⟩:ByteArray),(⟨#[49,32,97]⟩:ByteArray),(⟨#[52,32,97,98,44,97,99,44,98,99,44,97,100,44,98,100,44,99,100]⟩:ByteArray),(⟨#[52,32,97,98,44,97,99,44,97,100,44,98,100,44,99,100]⟩:ByteArray),(⟨#[51,32,97,44,98]⟩:ByteArray),(⟨#[53,32,97,98,44,97,99,44,98,99,44,97,100,44,98,100]⟩:ByteArray),(⟨#[50,32,45]⟩:ByteArray),(⟨#[51,32,97,98,99]⟩:ByteArray)]:List ByteArray))).bind fun bt435=>((spec_ParseMatroid.f k bt435.1).bind fun bt438=>(some (bt438.1,bt438.2.1,bt435.2.1,bt435.2.2)))
set_option maxHeartbeats 8000000 in
set_option maxRecDepth 100000 in
theorem spec_l4Named.calls (k:Nat) (g:Nat) (s0_0:List Int) (s0_1:Int) (s0_2:Int) (r1:Int) (r2:List Int) (r3:Int) (r4:Int) (w0 w:World) (hI:IsS94 w0 w g s0_0 s0_1 s0_2) (hB:Below w0.heap.size w0 w) (h:spec_l4Named.f k s0_0 s0_1 s0_2=some (r1,r2,r3,r4)) :
    Calls Tryz.prog 125 #[.pointer (some ⟨g,0,none⟩)] w fun e w'=>∃ v1_:Value,e=.returned (.agg #[.int .i64 r1,v1_])∧Kd.R (Kd.int .i64) 3 w' w.heap.size (fun _=>True) v1_ r2∧IsS94 w0 w' g s0_0 r3 r4∧Below w0.heap.size w0 w'∧KeepBut w w' g none:=by
 have hu24:=Tryz.underlying24
 have HI0:=Aside0.mk hI
 have HK:=Aside0.mk (KeepBut.refl w g none)
 have HL:=Aside0.mk hB.size
 clear hI
 have HW0:=Aside0.mk hB.size
 have HB:=Aside0.mk hB
 clear hB
 unfold spec_l4Named.f at h
 have H:=h
 clear h
 obtain ⟨y432,hy432⟩:∃ y_:List ByteArray,y_=(([(⟨#[48,32,45]⟩:ByteArray),(⟨#[49,32,45]⟩:ByteArray),(⟨#[49,32,97]⟩:ByteArray),(⟨#[52,32,97,98,44,97,99,44,98,99,44,97,100,44,98,100,44,99,100]⟩:ByteArray),(⟨#[52,32,97,98,44,97,99,44,97,100,44,98,100,44,99,100]⟩:ByteArray),(⟨#[51,32,97,44,98]⟩:ByteArray),(⟨#[53,32,97,98,44,97,99,44,98,99,44,97,100,44,98,100]⟩:ByteArray),(⟨#[50,32,45]⟩:ByteArray),(⟨#[51,32,97,98,99]⟩:ByteArray)]:List ByteArray)):=⟨_,rfl⟩
 rw [← hy432] at H
 have Ny432:=Aside0.mk hy432
 clear hy432
 replace H:=bnd_ H;obtain ⟨⟨t435,t436,t437⟩,A2,H⟩:=H;dsimp only at H
 replace H:=bnd_ H;obtain ⟨⟨t438,t439,t442⟩,A3,H⟩:=H;dsimp only at H
 simp only [Option.some.injEq,Prod.mk.injEq] at H
 obtain ⟨rfl,rfl,rfl,rfl⟩:=H
 go_enter Tryz.func125,Tryz.ntmps125
 go_wp2_with (first|((with_reducible refine gate_dst (N:=2) rfl ?_);refine bx_ (N:=2) (cs:=#[.int .i64 0,.slice none 0 0]) (t:=24) ?_;intro gb431 hg w4 hbox hb;replace HB:=Aside0.mk (below_step (h_HB HB.out) hb);have BK431:=Aside0.mk (hbox);have GW431:=Aside0.mk ((by rw [hg];exact (keep_size (w:=w) (g:=g) (row:=none) (h_HK HK.out)):w.heap.size≤gb431));have GE431:=Aside0.mk ((Nat.le_trans HW0.out (by rw [hg];exact (keep_size (w:=w) (g:=g) (row:=none) (h_HK HK.out)):w.heap.size≤gb431):w0.heap.size≤gb431));replace HK:=Aside0.mk (KeepBut.trans (h_HK HK.out) (KeepBut.of_below hb g none) (.inl rfl));have NB0_431:=Aside0.mk ((by rw [hg];exact Nat.ne_of_lt (IsS94.lt (show IsS94 w0 _ g s0_0 s0_1 s0_2 from h_HI0 HI0.out)):g≠gb431));have NB431_0:=Aside0.mk ((by rw [hg];exact Nat.ne_of_gt (IsS94.lt (show IsS94 w0 _ g s0_0 s0_1 s0_2 from h_HI0 HI0.out)):gb431≠g));replace HI0:=Aside0.mk (IsS94.below (h_HI0 HI0.out) hb);clear hb hbox hg)|((with_reducible refine gate_dst (N:=7) rfl ?_);refine Kd.R_lit Kd.string _ 9 ?hg (N:=7) ?hd (xs:=([(⟨#[48,32,45]⟩:ByteArray),(⟨#[49,32,45]⟩:ByteArray),(⟨#[49,32,97]⟩:ByteArray),(⟨#[52,32,97,98,44,97,99,44,98,99,44,97,100,44,98,100,44,99,100]⟩:ByteArray),(⟨#[52,32,97,98,44,97,99,44,97,100,44,98,100,44,99,100]⟩:ByteArray),(⟨#[51,32,97,44,98]⟩:ByteArray),(⟨#[53,32,97,98,44,97,99,44,98,99,44,97,100,44,98,100]⟩:ByteArray),(⟨#[50,32,45]⟩:ByteArray),(⟨#[51,32,97,98,99]⟩:ByteArray)]:List ByteArray)) (inner:=[.string (⟨#[48,32,45]⟩:ByteArray),.string (⟨#[49,32,45]⟩:ByteArray),.string (⟨#[49,32,97]⟩:ByteArray),.string (⟨#[52,32,97,98,44,97,99,44,98,99,44,97,100,44,98,100,44,99,100]⟩:ByteArray),.string (⟨#[52,32,97,98,44,97,99,44,97,100,44,98,100,44,99,100]⟩:ByteArray),.string (⟨#[51,32,97,44,98]⟩:ByteArray),.string (⟨#[53,32,97,98,44,97,99,44,98,99,44,97,100,44,98,100]⟩:ByteArray),.string (⟨#[50,32,45]⟩:ByteArray),.string (⟨#[51,32,97,98,99]⟩:ByteArray)]) (ok:=fun _=>True) (okp:=fun _=>True) ?hr ?hp (fun _ hk=>hk) trivial (Below.refl _ _) (Nat.le_refl _) (by simp) ?_;(case hd=>rfl);(case hg=>rfl);(case hr=>exact hrT_);(case hp=>exact (Reps.one (show Kd.M Kd.string _ _ _ (⟨#[48,32,45]⟩:ByteArray) [.string (⟨#[48,32,45]⟩:ByteArray)] from rfl) (Reps.one (show Kd.M Kd.string _ _ _ (⟨#[49,32,45]⟩:ByteArray) [.string (⟨#[49,32,45]⟩:ByteArray)] from rfl) (Reps.one (show Kd.M Kd.string _ _ _ (⟨#[49,32,97]⟩:ByteArray) [.string (⟨#[49,32,97]⟩:ByteArray)] from rfl) (Reps.one (show Kd.M Kd.string _ _ _ (⟨#[52,32,97,98,44,97,99,44,98,99,44,97,100,44,98,100,44,99,100]⟩:ByteArray) [.string (⟨#[52,32,97,98,44,97,99,44,98,99,44,97,100,44,98,100,44,99,100]⟩:ByteArray)] from rfl) (Reps.one (show Kd.M Kd.string _ _ _ (⟨#[52,32,97,98,44,97,99,44,97,100,44,98,100,44,99,100]⟩:ByteArray) [.string (⟨#[52,32,97,98,44,97,99,44,97,100,44,98,100,44,99,100]⟩:ByteArray)] from rfl) (Reps.one (show Kd.M Kd.string _ _ _ (⟨#[51,32,97,44,98]⟩:ByteArray) [.string (⟨#[51,32,97,44,98]⟩:ByteArray)] from rfl) (Reps.one (show Kd.M Kd.string _ _ _ (⟨#[53,32,97,98,44,97,99,44,98,99,44,97,100,44,98,100]⟩:ByteArray) [.string (⟨#[53,32,97,98,44,97,99,44,98,99,44,97,100,44,98,100]⟩:ByteArray)] from rfl) (Reps.one (show Kd.M Kd.string _ _ _ (⟨#[50,32,45]⟩:ByteArray) [.string (⟨#[50,32,45]⟩:ByteArray)] from rfl) (Reps.one (show Kd.M Kd.string _ _ _ (⟨#[51,32,97,98,99]⟩:ByteArray) [.string (⟨#[51,32,97,98,99]⟩:ByteArray)] from rfl) (Reps.none _ _)))))))))));intro v433 w5 ho6 hb hg_ hnew_;clear hg_ hnew_;(first|rw [← Ny432.out] at ho6|(simp only [Int.reduceToNat] at ho6;rw [← Ny432.out] at ho6));have HO434:=Aside0.mk (Kd.R_lower ho6 (keep_size (w:=w) (g:=g) (row:=none) (h_HK HK.out)));replace HI0:=Aside0.mk (IsS94.below (h_HI0 HI0.out) hb);replace BK431:=Aside0.mk (blkB_ BK431.out hb);replace HK:=Aside0.mk (KeepBut.trans (h_HK HK.out) (KeepBut.of_below hb g none) (.inl rfl));replace HB:=Aside0.mk (below_step (h_HB HB.out) hb);clear hb ho6;obtain ⟨Ao7,co7,eo7⟩:=Kd.R_slice HO434.out;subst eo7)|((with_reducible refine gate_callee (f:=121) rfl ?_);refine goesL_ (some 8) rfl rfl Tryz.func121 krT_ rfl #[.pointer (some ⟨g,0,none⟩),.slice Ao7 y432.length co7] rfl agT_ ?_;(with_reducible refine (spec_l1Pick.calls g s0_0 s0_1 s0_2 _ _ y432 t435 t436 t437 w0 _ ?side1 ?side2 ?side3 ?side4 ?side5 A2.out).mono ?_);(case side1=>exact h_HI0 HI0.out);(case side2=>exact h_HB HB.out);(case side3=>repeat (first|exact (Kd.R_reads' HO434.out).2.2|(with_reducible refine Kd.C_alloc ?_ _)|(with_reducible refine Kd.C_drewN ?_ _)|(with_reducible refine Kd.C_drew ?_)));(case side4=>exact (Kd.R_reads' HO434.out).2.1);(case side5=>exact far_slice (IsS94.own_ne HI0.out HO434.out (by decide)));rintro e w8 ⟨rfl,hi,hb,hk⟩;refine ⟨_,rfl,?_⟩;replace BK431:=Aside0.mk (KeepBut.blk hk (bkC_ BK431.out) NB431_0.out (by simp));replace HO434:=Aside0.mk (Kd.R_mono (Kd.R_keep (IsS94.apart (show IsS94 w0 _ g s0_0 s0_1 s0_2 from h_HI0 HI0.out) (kRC_ HO434.out) (by decide)) hk (fun _ h=>h.2)) (fun _ h=>h.1));replace HK:=Aside0.mk (KeepBut.trans (h_HK HK.out) hk (.inl rfl));replace HB:=Aside0.mk (hb);replace HI0:=Aside0.mk (hi);(try clear hb);(try clear hb2);(try clear hk);(try clear hi))|((with_reducible refine gate_callee (f:=6) rfl ?_);refine goesL_ (some 9) rfl rfl Tryz.func6 krT_ rfl #[.string t435] rfl agT_ ?_;(with_reducible refine (spec_ParseMatroid.calls k t435 t438 t439 t442 _ A3.out).mono ?_);rintro e w9 ⟨v440,rfl,ho0,hb⟩;refine ⟨_,rfl,?_⟩;replace HO434:=Aside0.mk (Kd.R_below (kRC_ HO434.out) hb);have HO441:=Aside0.mk (Kd.R_lower ho0 (keep_size (w:=w) (g:=g) (row:=none) (h_HK HK.out)));replace HI0:=Aside0.mk (IsS94.below (h_HI0 HI0.out) hb);replace BK431:=Aside0.mk (blkB_ BK431.out hb);replace HK:=Aside0.mk (KeepBut.trans (h_HK HK.out) (KeepBut.of_below hb g none) (.inl rfl));replace HB:=Aside0.mk (below_step (h_HB HB.out) hb);(try clear hb);(try clear hb2);(try clear hk);(try clear hi);(try clear ho0))|((with_reducible refine gate_dst (N:=3) rfl ?_);refine bx_ (N:=3) (cs:=#[.int .i64 0,.slice none 0 0]) (t:=24) ?_;intro gb443 hg w10 hbox hb;have n0_:=Aside0.mk (Kd.R_below (kRC_ HO434.out) hb);have n1_:=Aside0.mk (Kd.R_below (kRC_ HO441.out) hb);have n2_:=Aside0.mk (IsS94.below (h_HI0 HI0.out) hb);have n3_:=Aside0.mk (blkB_ BK431.out hb);have n4_:=Aside0.mk (KeepBut.trans (h_HK HK.out) (KeepBut.of_below hb g none) (.inl rfl));have n5_:=Aside0.mk (below_step (h_HB HB.out) hb);have n6_:=Aside0.mk (hbox);have n7_:=Aside0.mk ((by rw [hg];exact (keep_size (w:=w) (g:=g) (row:=none) (h_HK HK.out)):w.heap.size≤gb443));have n8_:=Aside0.mk ((Nat.le_trans HW0.out (by rw [hg];exact (keep_size (w:=w) (g:=g) (row:=none) (h_HK HK.out)):w.heap.size≤gb443):w0.heap.size≤gb443));have n9_:=Aside0.mk (nbl_ hg (bkC_ BK431.out));have n10_:=Aside0.mk (nbg_ hg (bkC_ BK431.out));have n11_:=Aside0.mk ((by rw [hg];exact Nat.ne_of_lt (IsS94.lt (show IsS94 w0 _ g s0_0 t436 t437 from h_HI0 HI0.out)):g≠gb443));have n12_:=Aside0.mk ((by rw [hg];exact Nat.ne_of_gt (IsS94.lt (show IsS94 w0 _ g s0_0 t436 t437 from h_HI0 HI0.out)):gb443≠g));clear HO434;clear HO441;clear HI0;clear BK431;clear HK;clear HB;have HO434:=n0_;have HO441:=n1_;have HI0:=n2_;have BK431:=n3_;have HK:=n4_;have HB:=n5_;have BK443:=n6_;have GW443:=n7_;have GE443:=n8_;have NB431_443:=n9_;have NB443_431:=n10_;have NB0_443:=n11_;have NB443_0:=n12_;clear n0_ n1_ n2_ n3_ n4_ n5_ n6_ n7_ n8_ n9_ n10_ n11_ n12_;clear hb hbox hg;have hnb11:=NB443_431.out;have hnc11:=NB431_443.out;have hnb12:=NB443_0.out;have hnc12:=NB0_443.out;obtain ⟨hcz13_0,hcz13_1,hfz13_0,hfz13_1⟩:=bz2_ BK443.out;obtain ⟨Ao14,co14,eo14⟩:=Kd.R_slice HO441.out;subst eo14;have hnb15:=NB431_0.out;have hnc15:=NB0_431.out;obtain ⟨hcz16_0,hcz16_1,hfz16_0,hfz16_1⟩:=bz2_ BK431.out))
 refine bodyPost_ret (results_cell_row rfl _ _ gb431 24 #[.int .i64 t438,.slice Ao14 t439.length co14] (0,0) _ rfl (by (with_reducible repeat (first|refine blk_drewN ?_ _|refine blk_drew ?_|refine blk_alloc ?_ _));refine blk_put (cs:=#[.int .i64 t438,.slice none 0 0]) ?_ 1 _ rfl;(with_reducible repeat (first|refine blk_drewN ?_ _|refine blk_drew ?_|refine blk_alloc ?_ _));refine blk_put (cs:=#[.int .i64 0,.slice none 0 0]) ?_ 0 _ rfl;exact bkC_ BK431.out) Tryz.underlying24 rfl krT_) rfl ?_
 exact ⟨_,eT_,by (with_reducible repeat (first|apply Kd.R_alloc|apply Kd.R_drewN|apply Kd.R_drew));exact Kd.R_mono (Kd.R_far (p:=⟨gb431,1,none⟩) (Kd.R_far (p:=⟨gb431,0,none⟩) (Kd.R_far (p:=⟨gb443,1,none⟩) (Kd.R_far (p:=⟨gb443,0,none⟩) (Kd.R_types (Kd.R_types HO441.out BK443.out (by decide)) BK431.out (by decide)) (fun _ hk=>hk.1.2) (.int .i64 t438)) (fun _ hk=>hk.1.2) (.slice Ao14 t439.length co14)) (fun _ hk=>hk.2) (.int .i64 t438)) (fun _ hk=>hk.2) (.slice Ao14 t439.length co14)) (fun _ hk=>trivial),h_HI0 HI0.out,h_HB HB.out,h_HK HK.out⟩
end Go.Proofs.YtekegbacnagbcaaGreatDoor.P
