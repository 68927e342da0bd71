-- written by gprint (a program of this session's, round the kit's print), out of the translation and hand-written texts
import Derived.Test.YtekegbacnagbcaaGreatPVFnCircuitsx0
import Derived.Test.YtekegbacnagbcaaGreatPVFnCircuitsx2
import Derived.Test.YtekegbacnagbcaaGreatPVFnCircuitsx7
import Derived.Test.YtekegbacnagbcaaGreatPVFnCircuitsx9
import Derived.Test.YtekegbacnagbcaaGreatPVFnCircuitsx10
namespace Go.Proofs.YtekegbacnagbcaaGreat.P
open Go.RowKit Go.Proofs.YtekegbacnagbcaaGreatW.PrintWords Go.Proofs.YtekegbacnagbcaaGreatW.PrintLast Go.Proofs.YtekegbacnagbcaaGreatW.PrintMore
attribute [local go_sem] max2_int min2_int max_two min_two max_three min_three max_four min_four
set_option linter.unusedVariables false
set_option maxHeartbeats 8000000
set_option maxRecDepth 100000
set_option linter.unusedSimpArgs false
def spec_l3Draw.l0:Nat→Int→List Int→Int→Int→List Int→Int→Int→Option (List Int × Int × Int)
 | 0,_,_,_,_,_,_,_=>none
 | k+1,x1,x5,x6,x7,x1000,x1001,x1002=>if x7<x6 then (if 0≤(IntKind.u64.wrap (x1)) then ((spec_l1Below.f x1000 x1001 x1002 (shl .i64 1 (IntKind.u64.wrap (x1)))).bind fun bt442=>(if x5.length<17592186044416 then (spec_l3Draw.l0 k x1 (x5++[bt442.1]) x6 (wrap64 (x7+1)) x1000 bt442.2.1 bt442.2.2) else (none))) else (none)) else (some (x5,x1001,x1002))
def spec_l3Draw.f (k:Nat) (s0_0:List Int) (s0_1:Int) (s0_2:Int) (a1:Int):Option (List Int × Int × Int):=(spec_l1Below.f s0_0 s0_1 s0_2 6).bind fun bt439=>(spec_l3Draw.l0 k a1 (([]:List Int)) bt439.1 0 s0_0 bt439.2.1 bt439.2.2)
theorem spec_l3Draw.calls (k:Nat) (g:Nat) (s0_0:List Int) (s0_1:Int) (s0_2:Int) (a1:Int) (r1:List Int) (r2:Int) (r3:Int) (w0 w:World) (hI:IsS68 w0 w g s0_0 s0_1 s0_2) (hB:Below w0.heap.size w0 w) (h:spec_l3Draw.f k s0_0 s0_1 s0_2 a1=some (r1,r2,r3)) :
    Calls Tryz.prog 61 #[.pointer (some ⟨g,0,none⟩),.int .i64 a1] w fun e w'=>∃ v0_:Value,e=.returned (v0_)∧Kd.R (Kd.int .i64) 3 w' w.heap.size (fun _=>True) v0_ r1∧IsS68 w0 w' g s0_0 r2 r3∧Below w0.heap.size w0 w'∧KeepBut w w' g none:=by
 have HI0:=Aside0.mk hI
 have HK:=Aside0.mk (KeepBut.refl w g none)
 have HL:=Aside0.mk hB.size
 clear hI
 have HW0:=Aside0.mk hB.size
 have HB:=Aside0.mk hB
 clear hB
 unfold spec_l3Draw.f at h
 have H:=h
 clear h
 obtain ⟨y436,hy436⟩:∃ y_:List Int,y_=(([]:List Int)):=⟨_,rfl⟩
 rw [← hy436] at H
 have Ny436:=Aside0.mk hy436
 clear hy436
 replace H:=bnd_ H;obtain ⟨⟨t439,t440,t441⟩,A3,H⟩:=H;dsimp only at H
 have H':=Aside0.mk H
 clear H
 go_enter Tryz.func61,Tryz.ntmps61
 go_wp2_with (first|((with_reducible refine gate_dst (N:=8) rfl ?_);refine Kd.R_lit (Kd.int .i64) _ 3 ?hg (N:=8) ?hd (xs:=([]:List Int)) (inner:=[]) (ok:=fun _=>True) (okp:=fun _=>True) ?hr ?hp (fun _ hk=>hk) trivial (Below.refl _ _) (Nat.le_refl _) (by simp) ?_;(case hd=>rfl);(case hg=>rfl);(case hr=>exact hrT_);(case hp=>exact (Reps.none _ _));intro v437 w4 ho5 hb hg_ hnew_;clear hg_ hnew_;(first|rw [← Ny436.out] at ho5|(simp only [Int.reduceToNat] at ho5;rw [← Ny436.out] at ho5));have HO438:=Aside0.mk (Kd.R_lower ho5 (keep_size (w:=w) (g:=g) (row:=none) (h_HK HK.out)));replace HI0:=Aside0.mk (IsS68.below (h_HI0 HI0.out) hb);replace HK:=Aside0.mk (KeepBut.trans (h_HK HK.out) (KeepBut.of_below hb g none) (.inl rfl));replace HB:=s_HB HB.out hb;clear hb ho5)|((with_reducible refine gate_callee (f:=46) rfl ?_);refine goesL_ (some 10) rfl rfl Tryz.func46 krT_ rfl #[.pointer (some ⟨g,0,none⟩),.int .i64 6] rfl agT_ ?_;(with_reducible refine (spec_l1Below.calls g s0_0 s0_1 s0_2 6 t439 t440 t441 w0 _ ?side1 ?side2 A3.out).mono ?_);(case side1=>exact h_HI0 HI0.out);(case side2=>exact h_HB HB.out);rintro e w6 ⟨rfl,hi,hb,hk⟩;refine ⟨_,rfl,?_⟩;replace HO438:=Aside0.mk (Kd.R_mono (Kd.R_keep (IsS68.apart (show IsS68 w0 _ g s0_0 s0_1 s0_2 from h_HI0 HI0.out) (kRC_ HO438.out) (by decide)) hk (fun _ h=>h.2)) (fun _ h=>h.1));replace HK:=Aside0.mk (KeepBut.trans (h_HK HK.out) hk (.inl rfl));replace HB:=Aside0.mk (hb);replace HI0:=Aside0.mk (hi);(try clear hb);(try clear hk);(try clear hi)))
 go_loopg [5,7] k (fun kq v5 v7 w'=>∃ (x5_1:List Int) (x7_1:Int) (x1001_1:Int) (x1002_1:Int),v7=.int .i64 x7_1∧Aside0 (spec_l3Draw.l0 kq a1 x5_1 t439 x7_1 s0_0 x1001_1 x1002_1=some (r1,r2,r3))∧Aside0 (kq≤k)∧Aside0 (Kd.R (Kd.int .i64) 3 w' w.heap.size (fun _=>True) v5 x5_1)∧Aside0 (IsS68 w0 w' g s0_0 x1001_1 x1002_1)∧Aside0 (KeepBut w w' g none)∧Aside0 (Below w0.heap.size w0 w'))
 case atStart=>exact ⟨(y436),(0),(t440),(t441),sT_,H',⟨Nat.le_refl _⟩,⟨kRC_ HO438.out⟩,⟨h_HI0 HI0.out⟩,⟨h_HK HK.out⟩,⟨h_HB HB.out⟩⟩
 case round =>
 clear H'
 try clear p2
 try clear c4
 try clear c6
 obtain ⟨x5_1,x7_1,x1001_1,x1002_1,rfl,HA,HK1,HO_5,HI0,HK,HB⟩:=hrel
 cases gk with
 | zero=>exact absurd HA.out (by simp [spec_l3Draw.l0])
 | succ k1 =>
 have H:=HA.out
 clear HA
 simp only [spec_l3Draw.l0] at H
 replace H:=gsn_ H;rcases H with ⟨c7b0,H⟩|⟨c7b0,H⟩
 ·simp only [Option.some.injEq,Prod.mk.injEq] at H
  obtain ⟨rfl,rfl,rfl⟩:=H
  go_wp2
  go_ret
  exact ⟨_,eT_,kRC_ HO_5.out,h_HI0 HI0.out,h_HB HB.out,h_HK HK.out⟩
 obtain ⟨ji8,hji8⟩:∃ j_:Int,(IntKind.u64.wrap (a1))=j_:=⟨_,rfl⟩
 first |rw [hji8] at H|simp only [hji8] at H
 replace H:=gsp_ H;obtain ⟨c9,H⟩:=H
 have c9b0:=eq_true c9
 have c9b1:decide (0≤(ji8))=true:=decide_eq_true c9
 clear c9
 obtain ⟨ji10,hji10⟩:∃ j_:Int,(shl .i64 1 (ji8))=j_:=⟨_,rfl⟩
 first |rw [hji10] at H|simp only [hji10] at H
 have hji10_:(IntKind.i64.wrap (1*2 ^ min (ji8).toNat 64))=ji10:=hji10
 have hji10z:(ji8)≤64→(IntKind.i64.wrap (1*2 ^ (ji8).toNat))=ji10:=shl_small hji10
 have hji10u:(IntKind.i64.wrap (2 ^ min (ji8).toNat 64))=ji10:=by have h_:=hji10_;rw [Int.one_mul] at h_;exact h_
 have hji10v:(ji8)≤64→(IntKind.i64.wrap (2 ^ (ji8).toNat))=ji10:=fun hle_=>by have h_:=hji10z hle_;rw [Int.one_mul] at h_;exact h_
 have hji10y:(wrap64 (1*2 ^ min (ji8).toNat 64))=ji10:=(i64_w _).symm.trans hji10_
 have hji10x:(ji8)≤64→(wrap64 (1*2 ^ (ji8).toNat))=ji10:=fun h_=>(i64_w _).symm.trans (hji10z h_)
 replace H:=bnd_ H;obtain ⟨⟨t442,t443,t444⟩,A11,H⟩:=H;dsimp only at H
 replace H:=gsl_ H;obtain ⟨LMc12,H⟩:=H
 obtain ⟨y445,hy445⟩:∃ y_:List Int,y_=(x5_1++[t442]):=⟨_,rfl⟩
 rw [← hy445] at H
 have Ny445:=Aside0.mk hy445
 clear hy445
 have H':=Aside0.mk H
 clear H
 go_wp2_with (first|((with_reducible refine gate_callee (f:=46) rfl ?_);refine goesL_ (some 21) rfl rfl Tryz.func46 krT_ rfl #[.pointer (some ⟨g,0,none⟩),.int .i64 ji10] rfl (by (try simp only [List.map_toArray,List.map_cons,List.map_nil]);first|done|(simp only [hji10];rfl)|rfl|(simp only [List.length_drop,List.length_take];rfl)) ?_;(with_reducible refine (spec_l1Below.calls g s0_0 x1001_1 x1002_1 ji10 t442 t443 t444 w0 _ ?side1 ?side2 A11.out).mono ?_);(case side1=>exact h_HI0 HI0.out);(case side2=>exact h_HB HB.out);rintro e w13 ⟨rfl,hi,hb,hk⟩;refine ⟨_,rfl,?_⟩;replace HO_5:=Aside0.mk (Kd.R_mono (Kd.R_keep (IsS68.apart (show IsS68 w0 _ g s0_0 x1001_1 x1002_1 from h_HI0 HI0.out) (kRC_ HO_5.out) (by decide)) hk (fun _ h=>h.2)) (fun _ h=>h.1));replace HK:=Aside0.mk (KeepBut.trans (h_HK HK.out) hk (.inl rfl));replace HB:=Aside0.mk (hb);replace HI0:=Aside0.mk (hi);(try clear hb);(try clear hk);(try clear hi))|((with_reducible refine gate_builtin (b:=.append) (xs:=#[.tmp 16,.tmp 22]) rfl ?_);at_builtin;refine Kd.R_append (Kd.int .i64) w.heap.size rfl (.tmp 16) (.tmp 22) 24 3 (.int .i64 0) 8 rfl Tryz.underlying24 info3 rfl (by decide) (by omega) u5 x5_1 t442 [.int .i64 t442] (fun _=>True) (fun _=>False) rfl rfl ?aP (fun _ hk=>hk.elim) ?aF ?aO (Below.refl _ _) ?aS ?aL ?_;(case aP=>exact rfl);(case aF=>exact (fun _ _=>trivial));(case aO=>exact (kRC_ HO_5.out));(case aS=>exact (keep_size (w:=w) (g:=g) (row:=none) (h_HK HK.out)));(case aL=>have:=LMc12.out;omega);intro v446 w14 ho hb hg hat;rw [← Ny445.out] at ho;replace HI0:=Aside0.mk (IsS68.grown (h_HI0 HI0.out) hg (IsS68.own_ne HI0.out HO_5.out (by decide)));replace HB:=Aside0.mk (below_weaken (h_HB HB.out) HL.out hb);replace HK:=Aside0.mk (KeepBut.trans (h_HK HK.out) (KeepBut.of_grown hg g) (Kd.R_base2 HO_5.out));have HO447:=Aside0.mk (ho);clear HO_5;clear ho hb hg hat))
 go_roundg k1
 case measure=>have:=HK1.out;omega
 case rel=>exact ⟨(y445),(wrap64 (x7_1+1)),(t443),(t444),sT_,H',⟨by have:=HK1.out;omega⟩,⟨kRC_ HO447.out⟩,⟨h_HI0 HI0.out⟩,⟨h_HK HK.out⟩,⟨h_HB HB.out⟩⟩
def spec_l1Max.f (a0:Int) (a1:Int):Option (Int):=if a0>a1 then (some a0) else (some a1)
theorem spec_l1Max.calls (a0:Int) (a1:Int) (r:Int) (w:World) (h:spec_l1Max.f a0 a1=some r) :
    Calls Tryz.prog 62 #[.int .i64 a0,.int .i64 a1] w fun e w'=>e=.returned (.int .i64 r)∧Drawn0 w w':=by
 have H:(if a0>a1 then (some a0) else (some a1))=some r:=h
 clear h
 replace H:=gsq_ H;rcases H with ⟨c3,H⟩|⟨c3,H⟩
 ·have c3b0:decide (a1<a0)=true:=decide_eq_true c3
  clear c3
  obtain rfl:=Option.some.inj H
  go_enter Tryz.func62,Tryz.ntmps62
  go_wp2
  go_ret
  exact ⟨sT_,dT_⟩
 have c3b0:decide (a1<a0)=false:=decide_eq_false c3
 clear c3
 obtain rfl:=Option.some.inj H
 go_enter Tryz.func62,Tryz.ntmps62
 go_wp2
 go_ret
 exact ⟨sT_,dT_⟩
def spec_l1Min.f (a0:Int) (a1:Int):Option (Int):=if a0<a1 then (some a0) else (some a1)
theorem spec_l1Min.calls (a0:Int) (a1:Int) (r:Int) (w:World) (h:spec_l1Min.f a0 a1=some r) :
    Calls Tryz.prog 63 #[.int .i64 a0,.int .i64 a1] w fun e w'=>e=.returned (.int .i64 r)∧Drawn0 w w':=by
 have H:(if a0<a1 then (some a0) else (some a1))=some r:=h
 clear h
 replace H:=gsb_ H;rcases H with ⟨c3b0,H⟩|⟨c3b0,H⟩
 ·obtain rfl:=Option.some.inj H
  go_enter Tryz.func63,Tryz.ntmps63
  go_wp2
  go_ret
  exact ⟨sT_,dT_⟩
 obtain rfl:=Option.some.inj H
 go_enter Tryz.func63,Tryz.ntmps63
 go_wp2
 go_ret
 exact ⟨sT_,dT_⟩
def spec_l4Bent.f (k:Nat) (s0_0:List Int) (s0_1:Int) (s0_2:Int) (a1:Int):Option (Int × List Int × Int × Int):=(spec_l4Draw.f k s0_0 s0_1 s0_2 a1).bind fun bt449=>((spec_l1Below.f s0_0 bt449.2.2.1 bt449.2.2.2 10).bind fun bt456=>(if bt456.1=0 then ((spec_l1PickInt.f s0_0 bt456.2.1 bt456.2.2 (([(-1),0,2,9]:List Int))).bind fun bt462=>(some (bt462.1,bt449.2.1,bt462.2.1,bt462.2.2))) else (if bt456.1=1 then ((spec_l2Bent.f s0_0 bt456.2.1 bt456.2.2).bind fun bt465=>(if bt449.2.1.length<17592186044416 then (some (bt449.1,(bt449.2.1++[bt465.1]),bt465.2.1,bt465.2.2)) else (none))) else (if bt456.1=2 then (if (bt449.2.1.length:Int)>1 then ((spec_l1Below.f s0_0 bt456.2.1 bt456.2.2 (bt449.2.1.length:Int)).bind fun bt471=>((some (([]:List Int):List Int)).bind fun y474=>(if 0≤bt471.1 then (if bt471.1≤(bt449.2.1.length:Int) then ((some (bt449.2.1.take (bt471.1:Int).toNat:List Int)).bind fun y477=>(if y474.length+y477.length<17592186044416 then ((some (y474++y477:List Int)).bind fun y481=>(if 0≤(wrap64 (bt471.1+1)) then (if (wrap64 (bt471.1+1))≤(bt449.2.1.length:Int) then ((some (bt449.2.1.drop ((wrap64 (bt471.1+1)):Int).toNat:List Int)).bind fun y484=>(if y481.length+y484.length<17592186044416 then (some (bt449.1,(y481++y484),bt471.2.1,bt471.2.2)) else (none))) else (none)) else (none))) else (none))) else (none)) else (none)))) else (some (bt449.1,bt449.2.1,bt456.2.1,bt456.2.2))) else (if bt456.1=3 then ((spec_l1Min.f bt449.1 8).bind fun t491=>((spec_l1Max.f 0 t491).bind fun t492=>((spec_l3Draw.f k s0_0 bt456.2.1 bt456.2.2 t492).bind fun bt493=>((spec_SortSets.f k bt493.1).bind fun t498=>(some (bt449.1,t498,bt493.2.1,bt493.2.2)))))) else (some (bt449.1,bt449.2.1,bt456.2.1,bt456.2.2)))))))
def spec_l4Bent.T6:Bool × List (List Nat × List Nat):=(true,[([],[]),([0],[0]),([],[]),([2],[2]),([3],[3]),([1,4,3],[1,4]),([0,1,2,3,4,5],[]),([6,5,5,0,1,2,3,4,5],[5,6])])
def spec_l4Bent.B6:List Nat:=[0,1,0,4,12,31,63,127]
theorem spec_l4Bent.tab6:rtab .any (opsOf Tryz.f23 6)=spec_l4Bent.T6:=by kernel_rfl
theorem spec_l4Bent.bits6:waitsOk spec_l4Bent.T6.2 spec_l4Bent.B6=true:=by kernel_rfl
def spec_l4Bent.T10:Bool × List (List Nat × List Nat):=(true,[([],[]),([],[]),([1],[1]),([],[]),([2,3],[2,3]),([0,4],[0,4]),([],[]),([6],[6]),([],[]),([8],[8]),([7,9],[7,9]),([5,10,5],[5,10]),([0,1,2,3,4,5,6,7,8,9,10,11],[]),([12,11,11,0,1,2,3,4,5,6,7,8,9,10,11],[11,12])])
def spec_l4Bent.B10:List Nat:=[0,0,2,0,14,31,0,64,0,256,960,2047,4095,8191]
theorem spec_l4Bent.tab10:rtab .any (opsOf Tryz.f23 10)=spec_l4Bent.T10:=by kernel_rfl
theorem spec_l4Bent.bits10:waitsOk spec_l4Bent.T10.2 spec_l4Bent.B10=true:=by kernel_rfl
theorem spec_l4Bent.calls (k:Nat) (g:Nat) (s0_0:List Int) (s0_1:Int) (s0_2:Int) (a1:Int) (r1:Int) (r2:List Int) (r3:Int) (r4:Int) (w0 w:World) (hI:IsS68 w0 w g s0_0 s0_1 s0_2) (hB:Below w0.heap.size w0 w) (h:spec_l4Bent.f k s0_0 s0_1 s0_2 a1=some (r1,r2,r3,r4)) :
    Calls Tryz.prog 23 #[.pointer (some ⟨g,0,none⟩),.int .i64 a1] w fun e w'=>∃ v1_:Value,e=.returned (.agg #[.int .i64 r1,v1_])∧Kd.R (Kd.int .i64) 3 w' w.heap.size (fun _=>True) v1_ r2∧IsS68 w0 w' g s0_0 r3 r4∧Below w0.heap.size w0 w'∧KeepBut w w' g none:=by
 have hu26:=Tryz.underlying26
 have HI0:=Aside0.mk hI
 have HK:=Aside0.mk (KeepBut.refl w g none)
 have HL:=Aside0.mk hB.size
 clear hI
 have HW0:=Aside0.mk hB.size
 have HB:=Aside0.mk hB
 clear hB
 unfold spec_l4Bent.f at h
 have H:=h
 clear h
 replace H:=bnd_ H;obtain ⟨⟨t449,t450,t453,t454⟩,A3,H⟩:=H;dsimp only at H
 replace H:=bnd_ H;obtain ⟨⟨t456,t457,t458⟩,A4,H⟩:=H;dsimp only at H
 replace H:=gse_ H;rcases H with ⟨c5b0,c5b1,H⟩|⟨c5b0,c5b1,c5,H⟩
 ·obtain ⟨y459,hy459⟩:∃ y_:List Int,y_=(([(-1),0,2,9]:List Int)):=⟨_,rfl⟩
  rw [← hy459] at H
  have Ny459:=Aside0.mk hy459
  clear hy459
  replace H:=bnd_ H;obtain ⟨⟨t462,t463,t464⟩,A6,H⟩:=H;dsimp only at H
  simp only [Option.some.injEq,Prod.mk.injEq] at H
  obtain ⟨rfl,rfl,rfl,rfl⟩:=H
  go_enter Tryz.func23,Tryz.ntmps23
  go_wp2_with (first|((with_reducible refine gate_dst (N:=4) rfl ?_);refine bx_ (N:=4) (cs:=#[.int .i64 0,.slice none 0 0]) (t:=26) ?_;intro gb448 hg w7 hbox hb;replace HB:=s_HB HB.out hb;have BK448:=Aside0.mk (hbox);have GW448:=Aside0.mk ((by rw [hg];exact (keep_size (w:=w) (g:=g) (row:=none) (h_HK HK.out)):w.heap.size≤gb448));have GE448:=Aside0.mk ((Nat.le_trans HW0.out (by rw [hg];exact (keep_size (w:=w) (g:=g) (row:=none) (h_HK HK.out)):w.heap.size≤gb448):w0.heap.size≤gb448));replace HK:=Aside0.mk (KeepBut.trans (h_HK HK.out) (KeepBut.of_below hb g none) (.inl rfl));have NB0_448:=Aside0.mk ((by rw [hg];exact Nat.ne_of_lt (IsS68.lt (show IsS68 w0 _ g s0_0 s0_1 s0_2 from h_HI0 HI0.out)):g≠gb448));have NB448_0:=Aside0.mk ((by rw [hg];exact Nat.ne_of_gt (IsS68.lt (show IsS68 w0 _ g s0_0 s0_1 s0_2 from h_HI0 HI0.out)):gb448≠g));replace HI0:=Aside0.mk (IsS68.below (h_HI0 HI0.out) hb);clear hb hbox hg)|((with_reducible refine gate_callee (f:=45) rfl ?_);refine goesL_ (some 9) rfl rfl Tryz.func45 krT_ rfl #[.pointer (some ⟨g,0,none⟩),.int .i64 a1] rfl agT_ ?_;(with_reducible refine (spec_l4Draw.calls k g s0_0 s0_1 s0_2 a1 t449 t450 t453 t454 w0 _ ?side1 ?side2 A3.out).mono ?_);(case side1=>exact h_HI0 HI0.out);(case side2=>exact h_HB HB.out);rintro e w8 ⟨v451,rfl,ho0,hi,hb,hk⟩;refine ⟨_,rfl,?_⟩;replace BK448:=Aside0.mk (KeepBut.blk hk (bkC_ BK448.out) NB448_0.out (by simp));have HO452:=Aside0.mk (Kd.R_lower ho0 (keep_size (w:=w) (g:=g) (row:=none) (h_HK HK.out)));replace HK:=Aside0.mk (KeepBut.trans (h_HK HK.out) hk (.inl rfl));replace HB:=Aside0.mk (hb);replace HI0:=Aside0.mk (hi);(try clear hb);(try clear hk);(try clear hi);(try clear ho0))|((with_reducible refine gate_dst (N:=5) rfl ?_);refine bx_ (N:=5) (cs:=#[.int .i64 0,.slice none 0 0]) (t:=26) ?_;intro gb455 hg w9 hbox hb;replace HO452:=Aside0.mk (Kd.R_below (kRC_ HO452.out) hb);replace HB:=s_HB HB.out hb;have BK455:=Aside0.mk (hbox);have GW455:=Aside0.mk ((by rw [hg];exact (keep_size (w:=w) (g:=g) (row:=none) (h_HK HK.out)):w.heap.size≤gb455));have GE455:=Aside0.mk ((Nat.le_trans HW0.out (by rw [hg];exact (keep_size (w:=w) (g:=g) (row:=none) (h_HK HK.out)):w.heap.size≤gb455):w0.heap.size≤gb455));replace HK:=Aside0.mk (KeepBut.trans (h_HK HK.out) (KeepBut.of_below hb g none) (.inl rfl));have NB448_455:=Aside0.mk (nbl_ hg (bkC_ BK448.out));have NB455_448:=Aside0.mk NB448_455.out.symm;replace BK448:=sBK_ BK448.out hb;have NB0_455:=Aside0.mk ((by rw [hg];exact Nat.ne_of_lt (IsS68.lt (show IsS68 w0 _ g s0_0 t453 t454 from h_HI0 HI0.out)):g≠gb455));have NB455_0:=Aside0.mk ((by rw [hg];exact Nat.ne_of_gt (IsS68.lt (show IsS68 w0 _ g s0_0 t453 t454 from h_HI0 HI0.out)):gb455≠g));replace HI0:=Aside0.mk (IsS68.below (h_HI0 HI0.out) hb);clear hb hbox hg;have hnb10:=NB455_448.out;have hnc10:=NB448_455.out;have hnb11:=NB455_0.out;have hnc11:=NB0_455.out;obtain ⟨hcz12_0,hcz12_1,hfz12_0,hfz12_1⟩:=bz2_ BK455.out;obtain ⟨Ao13,co13,eo13⟩:=Kd.R_slice HO452.out;subst eo13)|((with_reducible refine gate_callee (f:=46) rfl ?_);refine goesL_ (some 11) rfl rfl Tryz.func46 krT_ rfl #[.pointer (some ⟨g,0,none⟩),.int .i64 10] rfl agT_ ?_;(with_reducible refine (spec_l1Below.calls g s0_0 t453 t454 10 t456 t457 t458 w0 _ ?side1 ?side2 A4.out).mono ?_);(case side1=>exact h_HI0 HI0.out);(case side2=>exact h_HB HB.out);rintro e w14 ⟨rfl,hi,hb,hk⟩;refine ⟨_,rfl,?_⟩;replace BK448:=Aside0.mk (KeepBut.blk hk (bkC_ BK448.out) NB448_0.out (by simp));replace HO452:=Aside0.mk (Kd.R_mono (Kd.R_keep (IsS68.apart (show IsS68 w0 _ g s0_0 t453 t454 from h_HI0 HI0.out) (kRF_ HO452.out) (by decide)) hk (fun _ h=>h.2)) (fun _ h=>h.1));replace BK455:=Aside0.mk (KeepBut.blk hk (g':=gb455) (o:=.cells #[.int .i64 t449,.slice Ao13 t450.length co13] 26 (0,0)) (by (with_reducible repeat (first|refine blk_drewN ?_ _|refine blk_drew ?_|refine blk_alloc ?_ _));exact bp2_ (bkC_ BK455.out)) NB455_0.out (by simp));replace HK:=Aside0.mk (KeepBut.trans (h_HK HK.out) hk (.inl rfl));replace HB:=Aside0.mk (hb);replace HI0:=Aside0.mk (hi);(try clear hb);(try clear hk);(try clear hi))|((with_reducible refine gate_dst (N:=15) rfl ?_);refine Kd.R_lit (Kd.int .i64) _ 3 ?hg (N:=15) ?hd (xs:=([(-1),0,2,9]:List Int)) (inner:=[.int .i64 (-1),.int .i64 0,.int .i64 2,.int .i64 9]) (ok:=fun _=>True) (okp:=fun _=>True) ?hr ?hp (fun _ hk=>hk) trivial (Below.refl _ _) (Nat.le_refl _) (by simp) ?_;(case hd=>rfl);(case hg=>rfl);(case hr=>exact hrT_);(case hp=>exact (Reps.one (show Kd.M (Kd.int .i64) _ _ _ (-1) [.int .i64 (-1)] from rfl) (Reps.one (show Kd.M (Kd.int .i64) _ _ _ 0 [.int .i64 0] from rfl) (Reps.one (show Kd.M (Kd.int .i64) _ _ _ 2 [.int .i64 2] from rfl) (Reps.one (show Kd.M (Kd.int .i64) _ _ _ 9 [.int .i64 9] from rfl) (Reps.none _ _))))));intro v460 w15 ho16 hb hg_ hnew_;clear hg_ hnew_;(first|rw [← Ny459.out] at ho16|(simp only [Int.reduceToNat] at ho16;rw [← Ny459.out] at ho16));have HO461:=Aside0.mk (Kd.R_lower (Kd.R_new' ho16 (Kd.R_lt (kRC_ HO452.out))) (keep_size (w:=w) (g:=g) (row:=none) (h_HK HK.out)));replace HO452:=Aside0.mk (Kd.R_elder' (kRC_ HO452.out) (Kd.R_base ho16) hb);replace HI0:=Aside0.mk (IsS68.below (h_HI0 HI0.out) hb);replace BK448:=sBK_ BK448.out hb;replace BK455:=sBK_ BK455.out hb;replace HK:=Aside0.mk (KeepBut.trans (h_HK HK.out) (KeepBut.of_below hb g none) (.inl rfl));replace HB:=s_HB HB.out hb;clear hb ho16;obtain ⟨Ao17,co17,eo17⟩:=Kd.R_slice HO461.out;subst eo17)|((with_reducible refine gate_callee (f:=59) rfl ?_);refine goesL_ (some 16) rfl rfl Tryz.func59 krT_ rfl #[.pointer (some ⟨g,0,none⟩),.slice Ao17 y459.length co17] rfl agT_ ?_;(with_reducible refine (spec_l1PickInt.calls g s0_0 t457 t458 _ _ y459 t462 t463 t464 w0 _ ?side1 ?side2 ?side3 ?side4 ?side5 A6.out).mono ?_);(case side1=>exact h_HI0 HI0.out);(case side2=>exact h_HB HB.out);(case side3=>repeat (first|exact (Kd.R_reads' HO461.out).2.2|(with_reducible refine Kd.C_alloc ?_ _)|(with_reducible refine Kd.C_drewN ?_ _)|(with_reducible refine Kd.C_drew ?_)));(case side4=>exact (Kd.R_reads' HO461.out).2.1);(case side5=>exact far_slice (IsS68.own_ne HI0.out HO461.out (by decide)));rintro e w18 ⟨rfl,hi,hb,hk⟩;refine ⟨_,rfl,?_⟩;replace BK448:=Aside0.mk (KeepBut.blk hk (bkC_ BK448.out) NB448_0.out (by simp));replace HO452:=Aside0.mk (Kd.R_mono (Kd.R_keep (IsS68.apart (show IsS68 w0 _ g s0_0 t457 t458 from h_HI0 HI0.out) (kRC_ HO452.out) (by decide)) hk (fun _ h=>h.2)) (fun _ h=>h.1));replace BK455:=Aside0.mk (KeepBut.blk hk (bkC_ BK455.out) NB455_0.out (by simp));replace HO461:=Aside0.mk (Kd.R_mono (Kd.R_keep (IsS68.apart (show IsS68 w0 _ g s0_0 t457 t458 from h_HI0 HI0.out) (kRC_ HO461.out) (by decide)) hk (fun _ h=>h.2)) (fun _ h=>h.1));replace HK:=Aside0.mk (KeepBut.trans (h_HK HK.out) hk (.inl rfl));replace HB:=Aside0.mk (hb);replace HI0:=Aside0.mk (hi);(try clear hb);(try clear hk);(try clear hi);obtain ⟨hcz19_0,hcz19_1,hfz19_0,hfz19_1⟩:=bz2_ BK455.out;have hnb20:=NB448_0.out;have hnc20:=NB0_448.out;obtain ⟨hcz21_0,hcz21_1,hfz21_0,hfz21_1⟩:=bz2_ BK448.out))
  refine bodyPost_ret (results_cell_row rfl _ _ gb448 26 #[.int .i64 t462,.slice Ao13 t450.length co13] (0,0) _ rfl (by (with_reducible repeat (first|refine blk_drewN ?_ _|refine blk_drew ?_|refine blk_alloc ?_ _));refine blk_put (cs:=#[.int .i64 t462,.slice none 0 0]) ?_ 1 _ rfl;(with_reducible repeat (first|refine blk_drewN ?_ _|refine blk_drew ?_|refine blk_alloc ?_ _));refine blk_put (cs:=#[.int .i64 0,.slice none 0 0]) ?_ 0 _ rfl;exact bkC_ BK448.out) Tryz.underlying26 rfl krT_) rfl ?_
  exact ⟨_,eT_,by (with_reducible repeat (first|apply Kd.R_alloc|apply Kd.R_drewN|apply Kd.R_drew));exact Kd.R_mono (Kd.R_far (p:=⟨gb448,1,none⟩) (Kd.R_far (p:=⟨gb448,0,none⟩) (Kd.R_far (p:=⟨gb455,0,none⟩) (Kd.R_types (Kd.R_types HO452.out BK455.out (by decide)) BK448.out (by decide)) (fun _ hk=>hk.1.2) (.int .i64 t462)) (fun _ hk=>hk.2) (.int .i64 t462)) (fun _ hk=>hk.2) (.slice Ao13 t450.length co13)) (fun _ hk=>trivial),h_HI0 HI0.out,h_HB HB.out,h_HK HK.out⟩
 replace H:=gse_ H;rcases H with ⟨c22b0,c22b1,H⟩|⟨c22b0,c22b1,c22,H⟩
 ·replace H:=bnd_ H;obtain ⟨⟨t465,t466,t467⟩,A23,H⟩:=H;dsimp only at H
  replace H:=gsl_ H;obtain ⟨LMc24,H⟩:=H
  obtain ⟨y468,hy468⟩:∃ y_:List Int,y_=(t450++[t465]):=⟨_,rfl⟩
  rw [← hy468] at H
  have Ny468:=Aside0.mk hy468
  clear hy468
  simp only [Option.some.injEq,Prod.mk.injEq] at H
  obtain ⟨rfl,rfl,rfl,rfl⟩:=H
  go_enter Tryz.func23,Tryz.ntmps23
  try go_wp2_with (first|((with_reducible refine gate_dst (N:=4) rfl ?_);refine bx_ (N:=4) (cs:=#[.int .i64 0,.slice none 0 0]) (t:=26) ?_;intro gb448 hg w25 hbox hb;replace HB:=s_HB HB.out hb;have BK448:=Aside0.mk (hbox);have GW448:=Aside0.mk ((by rw [hg];exact (keep_size (w:=w) (g:=g) (row:=none) (h_HK HK.out)):w.heap.size≤gb448));have GE448:=Aside0.mk ((Nat.le_trans HW0.out (by rw [hg];exact (keep_size (w:=w) (g:=g) (row:=none) (h_HK HK.out)):w.heap.size≤gb448):w0.heap.size≤gb448));replace HK:=Aside0.mk (KeepBut.trans (h_HK HK.out) (KeepBut.of_below hb g none) (.inl rfl));have NB0_448:=Aside0.mk ((by rw [hg];exact Nat.ne_of_lt (IsS68.lt (show IsS68 w0 _ g s0_0 s0_1 s0_2 from h_HI0 HI0.out)):g≠gb448));have NB448_0:=Aside0.mk ((by rw [hg];exact Nat.ne_of_gt (IsS68.lt (show IsS68 w0 _ g s0_0 s0_1 s0_2 from h_HI0 HI0.out)):gb448≠g));replace HI0:=Aside0.mk (IsS68.below (h_HI0 HI0.out) hb);clear hb hbox hg)|((with_reducible refine gate_callee (f:=45) rfl ?_);refine goesL_ (some 9) rfl rfl Tryz.func45 krT_ rfl #[.pointer (some ⟨g,0,none⟩),.int .i64 a1] rfl agT_ ?_;(with_reducible refine (spec_l4Draw.calls k g s0_0 s0_1 s0_2 a1 t449 t450 t453 t454 w0 _ ?side1 ?side2 A3.out).mono ?_);(case side1=>exact h_HI0 HI0.out);(case side2=>exact h_HB HB.out);rintro e w26 ⟨v451,rfl,ho0,hi,hb,hk⟩;refine ⟨_,rfl,?_⟩;replace BK448:=Aside0.mk (KeepBut.blk hk (bkC_ BK448.out) NB448_0.out (by simp));have HO452:=Aside0.mk (Kd.R_lower ho0 (keep_size (w:=w) (g:=g) (row:=none) (h_HK HK.out)));replace HK:=Aside0.mk (KeepBut.trans (h_HK HK.out) hk (.inl rfl));replace HB:=Aside0.mk (hb);replace HI0:=Aside0.mk (hi);(try clear hb);(try clear hk);(try clear hi);(try clear ho0))|((with_reducible refine gate_dst (N:=5) rfl ?_);refine bx_ (N:=5) (cs:=#[.int .i64 0,.slice none 0 0]) (t:=26) ?_;intro gb455 hg w27 hbox hb;replace HO452:=Aside0.mk (Kd.R_below (kRC_ HO452.out) hb);replace HB:=s_HB HB.out hb;have BK455:=Aside0.mk (hbox);have GW455:=Aside0.mk ((by rw [hg];exact (keep_size (w:=w) (g:=g) (row:=none) (h_HK HK.out)):w.heap.size≤gb455));have GE455:=Aside0.mk ((Nat.le_trans HW0.out (by rw [hg];exact (keep_size (w:=w) (g:=g) (row:=none) (h_HK HK.out)):w.heap.size≤gb455):w0.heap.size≤gb455));replace HK:=Aside0.mk (KeepBut.trans (h_HK HK.out) (KeepBut.of_below hb g none) (.inl rfl));have NB448_455:=Aside0.mk (nbl_ hg (bkC_ BK448.out));have NB455_448:=Aside0.mk NB448_455.out.symm;replace BK448:=sBK_ BK448.out hb;have NB0_455:=Aside0.mk ((by rw [hg];exact Nat.ne_of_lt (IsS68.lt (show IsS68 w0 _ g s0_0 t453 t454 from h_HI0 HI0.out)):g≠gb455));have NB455_0:=Aside0.mk ((by rw [hg];exact Nat.ne_of_gt (IsS68.lt (show IsS68 w0 _ g s0_0 t453 t454 from h_HI0 HI0.out)):gb455≠g));replace HI0:=Aside0.mk (IsS68.below (h_HI0 HI0.out) hb);clear hb hbox hg;have hnb28:=NB455_448.out;have hnc28:=NB448_455.out;have hnb29:=NB455_0.out;have hnc29:=NB0_455.out;obtain ⟨hcz30_0,hcz30_1,hfz30_0,hfz30_1⟩:=bz2_ BK455.out;obtain ⟨Ao31,co31,eo31⟩:=Kd.R_slice HO452.out;subst eo31)|((with_reducible refine gate_callee (f:=46) rfl ?_);refine goesL_ (some 11) rfl rfl Tryz.func46 krT_ rfl #[.pointer (some ⟨g,0,none⟩),.int .i64 10] rfl agT_ ?_;(with_reducible refine (spec_l1Below.calls g s0_0 t453 t454 10 t456 t457 t458 w0 _ ?side1 ?side2 A4.out).mono ?_);(case side1=>exact h_HI0 HI0.out);(case side2=>exact h_HB HB.out);rintro e w32 ⟨rfl,hi,hb,hk⟩;refine ⟨_,rfl,?_⟩;replace BK448:=Aside0.mk (KeepBut.blk hk (bkC_ BK448.out) NB448_0.out (by simp));replace HO452:=Aside0.mk (Kd.R_mono (Kd.R_keep (IsS68.apart (show IsS68 w0 _ g s0_0 t453 t454 from h_HI0 HI0.out) (kRF_ HO452.out) (by decide)) hk (fun _ h=>h.2)) (fun _ h=>h.1));replace BK455:=Aside0.mk (KeepBut.blk hk (g':=gb455) (o:=.cells #[.int .i64 t449,.slice Ao31 t450.length co31] 26 (0,0)) (by (with_reducible repeat (first|refine blk_drewN ?_ _|refine blk_drew ?_|refine blk_alloc ?_ _));exact bp2_ (bkC_ BK455.out)) NB455_0.out (by simp));replace HK:=Aside0.mk (KeepBut.trans (h_HK HK.out) hk (.inl rfl));replace HB:=Aside0.mk (hb);replace HI0:=Aside0.mk (hi);(try clear hb);(try clear hk);(try clear hi)))
  replace HO452:=Aside0.mk (Kd.R_drew HO452.out);replace BK448:=Aside0.mk (blk_drew BK448.out);replace BK455:=Aside0.mk (blk_drew BK455.out);replace HI0:=Aside0.mk (IsS68.drew HI0.out);replace HK:=Aside0.mk (keep_drew HK.out);replace HB:=Aside0.mk (below_drew1 HB.out)
  refine start_ (n:=8) (S:=fun w'=>w'.cell? ⟨gb455,0,none⟩=some (.int .i64 t449)∧w'.cell? ⟨gb455,1,none⟩=some (.slice Ao31 t450.length co31)) (ds:=[7]) #[F_,F_,F_,F_,F_,F_,F_,F_] krT_ rfl rfl ⟨(blk_cell BK455.out 0).trans rfl,(blk_cell BK455.out 1).trans rfl⟩ (fun hHeld=>?_);refine with_tabW spec_l4Bent.tab6 spec_l4Bent.bits6 (fun HT_ HW_=>?_)
  generalize w32.drew=w33 at HO452 BK448 BK455 HI0 HK HB hHeld ⊢
  refine pu_ 0 (some 20) (bm_ 8 1) rfl rfl HT_.out ?_
  refine pu_ 2 (some 22) (bm_ 8 5) rfl rfl HT_.out ?_
  refine take_ (i:=1) (N:=some 21) (v:=?_) (a':=?_) (bm_ 8 7) rfl rfl (take_ofW HT_.out HW_.out krT_) (fun _ _ _ h=>h) (Or.inl ⟨by rfl,?_⟩) hHeld ?_ ?_
  rotate_left
  ·rintro w' ⟨s0,s1⟩
   go_simp
   with_reducible rfl
  rotate_left;exact apT_
  refine one_ (i:=3) (N:=some 23) (bm_ 8 15) rfl rfl (one_of HT_.out krT_) (by decide) (fun K hK=>?_)
  refine goes_ Tryz.func48 krT_ rfl #[.pointer (some ⟨g,0,none⟩)] (by rfl) rfl rfl agT_ ?_
  with_reducible refine (spec_l2Bent.calls g s0_0 t457 t458 t465 t466 t467 w0 _ ?side1 ?side2 A23.out).mono ?_
  (case side1=>exact h_HI0 HI0.out)
  (case side2=>exact h_HB HB.out)
  rintro e w34 ⟨rfl,hi,hb,hk⟩
  refine ⟨_,rfl,?_⟩
  replace BK448:=Aside0.mk (KeepBut.blk hk (bkC_ BK448.out) NB448_0.out (by simp));replace HO452:=Aside0.mk (Kd.R_mono (Kd.R_keep (IsS68.apart (show IsS68 w0 _ g s0_0 t457 t458 from h_HI0 HI0.out) (kRC_ HO452.out) (by decide)) hk (fun _ h=>h.2)) (fun _ h=>h.1));replace BK455:=Aside0.mk (KeepBut.blk hk (bkC_ BK455.out) NB455_0.out (by simp));replace HK:=Aside0.mk (KeepBut.trans (h_HK HK.out) hk (.inl rfl));replace HB:=Aside0.mk (hb);replace HI0:=Aside0.mk (hi)
  (try clear hb)
  (try clear hb2)
  (try clear hk)
  (try clear hi)
  refine hK.out _ _ ⟨(blk_cell BK455.out 0).trans rfl,(blk_cell BK455.out 1).trans rfl⟩ (fun hHeld=>?_)
  clear hK K
  refine norm_ (a':=?_) ?_ ?_
  rotate_left
  ·show Act.put _ (some 23) _=_
   simp only [Act.put,List.setIfInBounds_toArray,List.set_cons_zero,List.set_cons_succ,i64_w,i32_w]
   rfl
  refine one_ (i:=4) (N:=some 24) (bm_ 8 31) rfl rfl (one_of HT_.out krT_) (by decide) (fun K hK=>?_)
  refine value_ (w1:=?_) (v:=?_) (by rfl) rfl ?_ ?_
  rotate_left 2
  ·go_simp
   constructor
   ·rfl
   rfl
  refine hK.out _ _ ⟨(blk_cell (blk_alloc BK455.out _) 0).trans rfl,(blk_cell (blk_alloc BK455.out _) 1).trans rfl⟩ (fun hHeld=>?_)
  clear hK K
  refine norm_ (a':=?_) ?_ ?_
  rotate_left
  ·show Act.put _ (some 24) _=_
   simp only [Act.put,List.setIfInBounds_toArray,List.set_cons_zero,List.set_cons_succ,i64_w,i32_w]
   rfl
  refine one_ (i:=5) (N:=some 25) (bm_ 8 63) rfl rfl (one_of HT_.out krT_) (by decide) (fun K hK=>?_)
  refine Kd.R_append_step (Kd.int .i64) w.heap.size (by rfl) (.tmp 21) (.tmp 24) 24 3 (.int .i64 0) 8 rfl Tryz.underlying24 info3 rfl (by decide) (by omega) (.slice Ao31 t450.length co31) t450 t465 [.int .i64 t465] (fun _=>True) (fun _=>False) rfl rfl ?aP (fun _ hk=>hk.elim) ?aF ?aO (Below.refl _ _) ?aS ?aL ?_
  (case aP=>exact rfl)
  (case aF=>exact (fun _ _=>trivial))
  (case aO=>exact (kRC_ HO452.out))
  (case aS=>exact (keep_size (w:=w) (g:=g) (row:=none) (h_HK HK.out)))
  (case aL=>have:=LMc24.out;omega)
  intro v469 w35 ho hb hg hat
  rw [← Ny468.out] at ho
  replace HI0:=Aside0.mk (IsS68.grown (h_HI0 HI0.out) hg (IsS68.own_ne HI0.out HO452.out (by decide)));replace BK448:=Aside0.mk (blk_grown (bkC_ BK448.out) hg (Kd.R_ne HO452.out BK448.out (by decide)));replace BK455:=Aside0.mk (blk_grown (bkC_ BK455.out) hg (Kd.R_ne HO452.out BK455.out (by decide)));replace HB:=Aside0.mk (below_weaken (h_HB HB.out) HL.out hb);replace HK:=Aside0.mk (KeepBut.trans (h_HK HK.out) (KeepBut.of_grown hg g) (Kd.R_base2 HO452.out));have HO470:=Aside0.mk (ho);clear HO452
  clear ho hb hg hat
  obtain ⟨Ao36,co36,eo36⟩:=Kd.R_slice HO470.out
  (first|subst eo36|(injection eo36 with f1_ f2_ f3_;have f4_:=f1_.symm;have f5_:=f3_.symm;clear f1_ f2_ f3_;subst f4_;subst f5_))
  refine hK.out _ _ ⟨(blk_cell BK455.out 0).trans rfl,(blk_cell BK455.out 1).trans rfl⟩ (fun hHeld=>?_)
  clear hK K
  refine norm_ (a':=?_) ?_ ?_
  rotate_left
  ·show Act.put _ (some 25) _=_
   simp only [Act.put,List.setIfInBounds_toArray,List.set_cons_zero,List.set_cons_succ,i64_w,i32_w]
   rfl
  refine pu_ 6 (some 26) (bm_ 8 127) rfl rfl HT_.out ?_
  refine last_ (i:=7) (N:=none) (bm_ 8 255) rfl rfl (one_of HT_.out krT_) (by decide) (fun K hK=>?_)
  have hs37:w35.cell? ⟨gb455,1,none⟩=some (.slice Ao31 t450.length co31):=(blk_cell BK455.out 1).trans rfl
  have hfs37:=blk_frozen BK455.out 1
  have hns37_0:=NB448_455.out
  have hms37_0:=NB455_448.out
  refine skip_ (w1:=?_) (by rfl) rfl ?_ ?_
  rotate_left
  ·go_simp
   rfl
  refine hK.out _ _ ?_
  clear hK K
  refine done_ (done_of HT_.out krT_) ?_
  obtain ⟨hcz38_0,hcz38_1,hfz38_0,hfz38_1⟩:=bz2_ BK455.out
  have hnb39:=NB448_0.out
  have hnc39:=NB0_448.out
  obtain ⟨hcz40_0,hcz40_1,hfz40_0,hfz40_1⟩:=bz2_ BK448.out
  try go_wp2
  refine bodyPost_ret (results_cell_row rfl _ _ gb448 26 #[.int .i64 t449,.slice Ao36 y468.length co36] (0,0) _ rfl (by (with_reducible repeat (first|refine blk_drewN ?_ _|refine blk_drew ?_|refine blk_alloc ?_ _));refine blk_put (cs:=#[.int .i64 t449,.slice none 0 0]) ?_ 1 _ rfl;(with_reducible repeat (first|refine blk_drewN ?_ _|refine blk_drew ?_|refine blk_alloc ?_ _));refine blk_put (cs:=#[.int .i64 0,.slice none 0 0]) ?_ 0 _ rfl;exact bkC_ BK448.out) Tryz.underlying26 rfl krT_) rfl ?_
  exact ⟨_,eT_,by (with_reducible repeat (first|apply Kd.R_alloc|apply Kd.R_drewN|apply Kd.R_drew));exact Kd.R_mono (Kd.R_far (p:=⟨gb448,1,none⟩) (Kd.R_far (p:=⟨gb448,0,none⟩) (Kd.R_far (p:=⟨gb455,1,none⟩) (Kd.R_types (Kd.R_types HO470.out BK455.out (by decide)) BK448.out (by decide)) (fun _ hk=>hk.1.2) (.slice Ao36 y468.length co36)) (fun _ hk=>hk.2) (.int .i64 t449)) (fun _ hk=>hk.2) (.slice Ao36 y468.length co36)) (fun _ hk=>trivial),h_HI0 HI0.out,h_HB HB.out,h_HK HK.out⟩
 replace H:=(gse_ H).symm;rcases H with ⟨c41b0,c41b1,c41,H⟩|⟨c41b0,c41b1,H⟩
 ·replace H:=(gse_ H).symm;rcases H with ⟨c84b0,c84b1,c84,H⟩|⟨c84b0,c84b1,H⟩
  ·simp only [Option.some.injEq,Prod.mk.injEq] at H
   obtain ⟨rfl,rfl,rfl,rfl⟩:=H
   go_enter Tryz.func23,Tryz.ntmps23
   go_wp2_with (first|((with_reducible refine gate_dst (N:=4) rfl ?_);refine bx_ (N:=4) (cs:=#[.int .i64 0,.slice none 0 0]) (t:=26) ?_;intro gb448 hg w107 hbox hb;replace HB:=s_HB HB.out hb;have BK448:=Aside0.mk (hbox);have GW448:=Aside0.mk ((by rw [hg];exact (keep_size (w:=w) (g:=g) (row:=none) (h_HK HK.out)):w.heap.size≤gb448));have GE448:=Aside0.mk ((Nat.le_trans HW0.out (by rw [hg];exact (keep_size (w:=w) (g:=g) (row:=none) (h_HK HK.out)):w.heap.size≤gb448):w0.heap.size≤gb448));replace HK:=Aside0.mk (KeepBut.trans (h_HK HK.out) (KeepBut.of_below hb g none) (.inl rfl));have NB0_448:=Aside0.mk ((by rw [hg];exact Nat.ne_of_lt (IsS68.lt (show IsS68 w0 _ g s0_0 s0_1 s0_2 from h_HI0 HI0.out)):g≠gb448));have NB448_0:=Aside0.mk ((by rw [hg];exact Nat.ne_of_gt (IsS68.lt (show IsS68 w0 _ g s0_0 s0_1 s0_2 from h_HI0 HI0.out)):gb448≠g));replace HI0:=Aside0.mk (IsS68.below (h_HI0 HI0.out) hb);clear hb hbox hg)|((with_reducible refine gate_callee (f:=45) rfl ?_);refine goesL_ (some 9) rfl rfl Tryz.func45 krT_ rfl #[.pointer (some ⟨g,0,none⟩),.int .i64 a1] rfl agT_ ?_;(with_reducible refine (spec_l4Draw.calls k g s0_0 s0_1 s0_2 a1 t449 t450 t453 t454 w0 _ ?side1 ?side2 A3.out).mono ?_);(case side1=>exact h_HI0 HI0.out);(case side2=>exact h_HB HB.out);rintro e w108 ⟨v451,rfl,ho0,hi,hb,hk⟩;refine ⟨_,rfl,?_⟩;replace BK448:=Aside0.mk (KeepBut.blk hk (bkC_ BK448.out) NB448_0.out (by simp));have HO452:=Aside0.mk (Kd.R_lower ho0 (keep_size (w:=w) (g:=g) (row:=none) (h_HK HK.out)));replace HK:=Aside0.mk (KeepBut.trans (h_HK HK.out) hk (.inl rfl));replace HB:=Aside0.mk (hb);replace HI0:=Aside0.mk (hi);(try clear hb);(try clear hk);(try clear hi);(try clear ho0))|((with_reducible refine gate_dst (N:=5) rfl ?_);refine bx_ (N:=5) (cs:=#[.int .i64 0,.slice none 0 0]) (t:=26) ?_;intro gb455 hg w109 hbox hb;replace HO452:=Aside0.mk (Kd.R_below (kRC_ HO452.out) hb);replace HB:=s_HB HB.out hb;have BK455:=Aside0.mk (hbox);have GW455:=Aside0.mk ((by rw [hg];exact (keep_size (w:=w) (g:=g) (row:=none) (h_HK HK.out)):w.heap.size≤gb455));have GE455:=Aside0.mk ((Nat.le_trans HW0.out (by rw [hg];exact (keep_size (w:=w) (g:=g) (row:=none) (h_HK HK.out)):w.heap.size≤gb455):w0.heap.size≤gb455));replace HK:=Aside0.mk (KeepBut.trans (h_HK HK.out) (KeepBut.of_below hb g none) (.inl rfl));have NB448_455:=Aside0.mk (nbl_ hg (bkC_ BK448.out));have NB455_448:=Aside0.mk NB448_455.out.symm;replace BK448:=sBK_ BK448.out hb;have NB0_455:=Aside0.mk ((by rw [hg];exact Nat.ne_of_lt (IsS68.lt (show IsS68 w0 _ g s0_0 t453 t454 from h_HI0 HI0.out)):g≠gb455));have NB455_0:=Aside0.mk ((by rw [hg];exact Nat.ne_of_gt (IsS68.lt (show IsS68 w0 _ g s0_0 t453 t454 from h_HI0 HI0.out)):gb455≠g));replace HI0:=Aside0.mk (IsS68.below (h_HI0 HI0.out) hb);clear hb hbox hg;have hnb110:=NB455_448.out;have hnc110:=NB448_455.out;have hnb111:=NB455_0.out;have hnc111:=NB0_455.out;obtain ⟨hcz112_0,hcz112_1,hfz112_0,hfz112_1⟩:=bz2_ BK455.out;obtain ⟨Ao113,co113,eo113⟩:=Kd.R_slice HO452.out;subst eo113)|((with_reducible refine gate_callee (f:=46) rfl ?_);refine goesL_ (some 11) rfl rfl Tryz.func46 krT_ rfl #[.pointer (some ⟨g,0,none⟩),.int .i64 10] rfl agT_ ?_;(with_reducible refine (spec_l1Below.calls g s0_0 t453 t454 10 t456 t457 t458 w0 _ ?side1 ?side2 A4.out).mono ?_);(case side1=>exact h_HI0 HI0.out);(case side2=>exact h_HB HB.out);rintro e w114 ⟨rfl,hi,hb,hk⟩;refine ⟨_,rfl,?_⟩;replace BK448:=Aside0.mk (KeepBut.blk hk (bkC_ BK448.out) NB448_0.out (by simp));replace HO452:=Aside0.mk (Kd.R_mono (Kd.R_keep (IsS68.apart (show IsS68 w0 _ g s0_0 t453 t454 from h_HI0 HI0.out) (kRF_ HO452.out) (by decide)) hk (fun _ h=>h.2)) (fun _ h=>h.1));replace BK455:=Aside0.mk (KeepBut.blk hk (g':=gb455) (o:=.cells #[.int .i64 t449,.slice Ao113 t450.length co113] 26 (0,0)) (by (with_reducible repeat (first|refine blk_drewN ?_ _|refine blk_drew ?_|refine blk_alloc ?_ _));exact bp2_ (bkC_ BK455.out)) NB455_0.out (by simp));replace HK:=Aside0.mk (KeepBut.trans (h_HK HK.out) hk (.inl rfl));replace HB:=Aside0.mk (hb);replace HI0:=Aside0.mk (hi);(try clear hb);(try clear hk);(try clear hi);obtain ⟨hcz115_0,hcz115_1,hfz115_0,hfz115_1⟩:=bz2_ BK455.out;have hnb116:=NB448_0.out;have hnc116:=NB0_448.out;obtain ⟨hcz117_0,hcz117_1,hfz117_0,hfz117_1⟩:=bz2_ BK448.out))
   refine bodyPost_ret (results_cell_row rfl _ _ gb448 26 #[.int .i64 t449,.slice Ao113 t450.length co113] (0,0) _ rfl (by (with_reducible repeat (first|refine blk_drewN ?_ _|refine blk_drew ?_|refine blk_alloc ?_ _));exact bp2_ (bkC_ BK448.out)) Tryz.underlying26 rfl krT_) rfl ?_
   exact ⟨_,eT_,by (with_reducible repeat (first|apply Kd.R_alloc|apply Kd.R_drewN|apply Kd.R_drew));exact Kd.R_mono (Kd.R_far (p:=⟨gb448,1,none⟩) (Kd.R_far (p:=⟨gb448,0,none⟩) (Kd.R_types HO452.out BK448.out (by decide)) (fun _ hk=>hk.2) (.int .i64 t449)) (fun _ hk=>hk.2) (.slice Ao113 t450.length co113)) (fun _ hk=>trivial),h_HI0 HI0.out,h_HB HB.out,h_HK HK.out⟩
  replace H:=bnd_ H;obtain ⟨t491,A85,H⟩:=H
  replace H:=bnd_ H;obtain ⟨t492,A86,H⟩:=H
  replace H:=bnd_ H;obtain ⟨⟨t493,t496,t497⟩,A87,H⟩:=H;dsimp only at H
  replace H:=bnd_ H;obtain ⟨t498,A88,H⟩:=H
  simp only [Option.some.injEq,Prod.mk.injEq] at H
  obtain ⟨rfl,rfl,rfl,rfl⟩:=H
  go_enter Tryz.func23,Tryz.ntmps23
  go_wp2_with (first|((with_reducible refine gate_dst (N:=4) rfl ?_);refine bx_ (N:=4) (cs:=#[.int .i64 0,.slice none 0 0]) (t:=26) ?_;intro gb448 hg w89 hbox hb;replace HB:=s_HB HB.out hb;have BK448:=Aside0.mk (hbox);have GW448:=Aside0.mk ((by rw [hg];exact (keep_size (w:=w) (g:=g) (row:=none) (h_HK HK.out)):w.heap.size≤gb448));have GE448:=Aside0.mk ((Nat.le_trans HW0.out (by rw [hg];exact (keep_size (w:=w) (g:=g) (row:=none) (h_HK HK.out)):w.heap.size≤gb448):w0.heap.size≤gb448));replace HK:=Aside0.mk (KeepBut.trans (h_HK HK.out) (KeepBut.of_below hb g none) (.inl rfl));have NB0_448:=Aside0.mk ((by rw [hg];exact Nat.ne_of_lt (IsS68.lt (show IsS68 w0 _ g s0_0 s0_1 s0_2 from h_HI0 HI0.out)):g≠gb448));have NB448_0:=Aside0.mk ((by rw [hg];exact Nat.ne_of_gt (IsS68.lt (show IsS68 w0 _ g s0_0 s0_1 s0_2 from h_HI0 HI0.out)):gb448≠g));replace HI0:=Aside0.mk (IsS68.below (h_HI0 HI0.out) hb);clear hb hbox hg)|((with_reducible refine gate_callee (f:=45) rfl ?_);refine goesL_ (some 9) rfl rfl Tryz.func45 krT_ rfl #[.pointer (some ⟨g,0,none⟩),.int .i64 a1] rfl agT_ ?_;(with_reducible refine (spec_l4Draw.calls k g s0_0 s0_1 s0_2 a1 t449 t450 t453 t454 w0 _ ?side1 ?side2 A3.out).mono ?_);(case side1=>exact h_HI0 HI0.out);(case side2=>exact h_HB HB.out);rintro e w90 ⟨v451,rfl,ho0,hi,hb,hk⟩;refine ⟨_,rfl,?_⟩;replace BK448:=Aside0.mk (KeepBut.blk hk (bkC_ BK448.out) NB448_0.out (by simp));have HO452:=Aside0.mk (Kd.R_lower ho0 (keep_size (w:=w) (g:=g) (row:=none) (h_HK HK.out)));replace HK:=Aside0.mk (KeepBut.trans (h_HK HK.out) hk (.inl rfl));replace HB:=Aside0.mk (hb);replace HI0:=Aside0.mk (hi);(try clear hb);(try clear hk);(try clear hi);(try clear ho0))|((with_reducible refine gate_dst (N:=5) rfl ?_);refine bx_ (N:=5) (cs:=#[.int .i64 0,.slice none 0 0]) (t:=26) ?_;intro gb455 hg w91 hbox hb;replace HO452:=Aside0.mk (Kd.R_below (kRC_ HO452.out) hb);replace HB:=s_HB HB.out hb;have BK455:=Aside0.mk (hbox);have GW455:=Aside0.mk ((by rw [hg];exact (keep_size (w:=w) (g:=g) (row:=none) (h_HK HK.out)):w.heap.size≤gb455));have GE455:=Aside0.mk ((Nat.le_trans HW0.out (by rw [hg];exact (keep_size (w:=w) (g:=g) (row:=none) (h_HK HK.out)):w.heap.size≤gb455):w0.heap.size≤gb455));replace HK:=Aside0.mk (KeepBut.trans (h_HK HK.out) (KeepBut.of_below hb g none) (.inl rfl));have NB448_455:=Aside0.mk (nbl_ hg (bkC_ BK448.out));have NB455_448:=Aside0.mk NB448_455.out.symm;replace BK448:=sBK_ BK448.out hb;have NB0_455:=Aside0.mk ((by rw [hg];exact Nat.ne_of_lt (IsS68.lt (show IsS68 w0 _ g s0_0 t453 t454 from h_HI0 HI0.out)):g≠gb455));have NB455_0:=Aside0.mk ((by rw [hg];exact Nat.ne_of_gt (IsS68.lt (show IsS68 w0 _ g s0_0 t453 t454 from h_HI0 HI0.out)):gb455≠g));replace HI0:=Aside0.mk (IsS68.below (h_HI0 HI0.out) hb);clear hb hbox hg;have hnb92:=NB455_448.out;have hnc92:=NB448_455.out;have hnb93:=NB455_0.out;have hnc93:=NB0_455.out;obtain ⟨hcz94_0,hcz94_1,hfz94_0,hfz94_1⟩:=bz2_ BK455.out;obtain ⟨Ao95,co95,eo95⟩:=Kd.R_slice HO452.out;subst eo95)|((with_reducible refine gate_callee (f:=46) rfl ?_);refine goesL_ (some 11) rfl rfl Tryz.func46 krT_ rfl #[.pointer (some ⟨g,0,none⟩),.int .i64 10] rfl agT_ ?_;(with_reducible refine (spec_l1Below.calls g s0_0 t453 t454 10 t456 t457 t458 w0 _ ?side1 ?side2 A4.out).mono ?_);(case side1=>exact h_HI0 HI0.out);(case side2=>exact h_HB HB.out);rintro e w96 ⟨rfl,hi,hb,hk⟩;refine ⟨_,rfl,?_⟩;replace BK448:=Aside0.mk (KeepBut.blk hk (bkC_ BK448.out) NB448_0.out (by simp));replace HO452:=Aside0.mk (Kd.R_mono (Kd.R_keep (IsS68.apart (show IsS68 w0 _ g s0_0 t453 t454 from h_HI0 HI0.out) (kRF_ HO452.out) (by decide)) hk (fun _ h=>h.2)) (fun _ h=>h.1));replace BK455:=Aside0.mk (KeepBut.blk hk (g':=gb455) (o:=.cells #[.int .i64 t449,.slice Ao95 t450.length co95] 26 (0,0)) (by (with_reducible repeat (first|refine blk_drewN ?_ _|refine blk_drew ?_|refine blk_alloc ?_ _));exact bp2_ (bkC_ BK455.out)) NB455_0.out (by simp));replace HK:=Aside0.mk (KeepBut.trans (h_HK HK.out) hk (.inl rfl));replace HB:=Aside0.mk (hb);replace HI0:=Aside0.mk (hi);(try clear hb);(try clear hk);(try clear hi);obtain ⟨hcz97_0,hcz97_1,hfz97_0,hfz97_1⟩:=bz2_ BK455.out)|((with_reducible refine gate_callee (f:=63) rfl ?_);refine goesL_ (some 56) rfl rfl Tryz.func63 krT_ rfl #[.int .i64 t449,.int .i64 8] rfl agT_ ?_;(with_reducible refine (spec_l1Min.calls t449 8 t491 _ A85.out).mono ?_);rintro e w' ⟨rfl,⟨nd,rfl⟩⟩;refine ⟨_,rfl,?_⟩;(try (rw [drewN_self w96];generalize hq_:World.drewN w96 _=w96;replace HO452:Aside0 (Kd.R (Kd.int .i64) 3 w96 w.heap.size (fun _=>True) (.slice Ao95 t450.length co95) t450):=⟨by rw [← hq_];exact (kRC_ HO452.out)⟩;replace BK448:Aside0 (w96.heap[gb448]?=some (.cells #[.int .i64 0,.slice none 0 0] 26 (0,0))):=⟨by rw [← hq_];exact (bkC_ BK448.out)⟩;replace BK455:Aside0 (w96.heap[gb455]?=some (.cells #[.int .i64 t449,.slice Ao95 t450.length co95] 26 (0,0))):=⟨by rw [← hq_];exact (bkC_ BK455.out)⟩;replace HI0:Aside0 (IsS68 w0 w96 g s0_0 t457 t458):=⟨by rw [← hq_];exact (h_HI0 HI0.out)⟩;replace HK:Aside0 (KeepBut w w96 g none):=⟨by rw [← hq_];exact (h_HK HK.out)⟩;replace HB:Aside0 (Below w0.heap.size w0 w96):=⟨by rw [← hq_];exact (h_HB HB.out)⟩;clear hq_;have hcuz98_gb448_0:w96.cell? ⟨gb448,0,none⟩=some (.int .i64 0):=(blk_cell BK448.out 0).trans rfl;have hfuz98_gb448_0:=blk_frozen BK448.out 0;have hcuz98_gb448_1:w96.cell? ⟨gb448,1,none⟩=some (.slice none 0 0):=(blk_cell BK448.out 1).trans rfl;have hfuz98_gb448_1:=blk_frozen BK448.out 1;have hcuz98_gb455_0:w96.cell? ⟨gb455,0,none⟩=some (.int .i64 t449):=(blk_cell BK455.out 0).trans rfl;have hfuz98_gb455_0:=blk_frozen BK455.out 0;have hcuz98_gb455_1:w96.cell? ⟨gb455,1,none⟩=some (.slice Ao95 t450.length co95):=(blk_cell BK455.out 1).trans rfl;have hfuz98_gb455_1:=blk_frozen BK455.out 1)))|((with_reducible refine gate_callee (f:=62) rfl ?_);refine goesL_ (some 57) rfl rfl Tryz.func62 krT_ rfl #[.int .i64 0,.int .i64 t491] rfl agT_ ?_;(with_reducible refine (spec_l1Max.calls 0 t491 t492 _ A86.out).mono ?_);rintro e w' ⟨rfl,⟨nd,rfl⟩⟩;refine ⟨_,rfl,?_⟩;(try (rw [drewN_self w96];generalize hq_:World.drewN w96 _=w96;replace HO452:Aside0 (Kd.R (Kd.int .i64) 3 w96 w.heap.size (fun _=>True) (.slice Ao95 t450.length co95) t450):=⟨by rw [← hq_];exact (kRC_ HO452.out)⟩;replace BK448:Aside0 (w96.heap[gb448]?=some (.cells #[.int .i64 0,.slice none 0 0] 26 (0,0))):=⟨by rw [← hq_];exact (bkC_ BK448.out)⟩;replace BK455:Aside0 (w96.heap[gb455]?=some (.cells #[.int .i64 t449,.slice Ao95 t450.length co95] 26 (0,0))):=⟨by rw [← hq_];exact (bkC_ BK455.out)⟩;replace HI0:Aside0 (IsS68 w0 w96 g s0_0 t457 t458):=⟨by rw [← hq_];exact (h_HI0 HI0.out)⟩;replace HK:Aside0 (KeepBut w w96 g none):=⟨by rw [← hq_];exact (h_HK HK.out)⟩;replace HB:Aside0 (Below w0.heap.size w0 w96):=⟨by rw [← hq_];exact (h_HB HB.out)⟩;clear hq_;have hcuz99_gb448_0:w96.cell? ⟨gb448,0,none⟩=some (.int .i64 0):=(blk_cell BK448.out 0).trans rfl;have hfuz99_gb448_0:=blk_frozen BK448.out 0;have hcuz99_gb448_1:w96.cell? ⟨gb448,1,none⟩=some (.slice none 0 0):=(blk_cell BK448.out 1).trans rfl;have hfuz99_gb448_1:=blk_frozen BK448.out 1;have hcuz99_gb455_0:w96.cell? ⟨gb455,0,none⟩=some (.int .i64 t449):=(blk_cell BK455.out 0).trans rfl;have hfuz99_gb455_0:=blk_frozen BK455.out 0;have hcuz99_gb455_1:w96.cell? ⟨gb455,1,none⟩=some (.slice Ao95 t450.length co95):=(blk_cell BK455.out 1).trans rfl;have hfuz99_gb455_1:=blk_frozen BK455.out 1)))|((with_reducible refine gate_callee (f:=61) rfl ?_);refine goesL_ (some 58) rfl rfl Tryz.func61 krT_ rfl #[.pointer (some ⟨g,0,none⟩),.int .i64 t492] rfl agT_ ?_;(with_reducible refine (spec_l3Draw.calls k g s0_0 t457 t458 t492 t493 t496 t497 w0 _ ?side1 ?side2 A87.out).mono ?_);(case side1=>exact h_HI0 HI0.out);(case side2=>exact h_HB HB.out);rintro e w100 ⟨v494,rfl,ho0,hi,hb,hk⟩;refine ⟨_,rfl,?_⟩;replace BK448:=Aside0.mk (KeepBut.blk hk (bkC_ BK448.out) NB448_0.out (by simp));replace BK455:=Aside0.mk (KeepBut.blk hk (bkC_ BK455.out) NB455_0.out (by simp));have HO495:=Aside0.mk (Kd.R_lower (Kd.R_new' ho0 (Kd.R_lt (kRC_ HO452.out))) (keep_size (w:=w) (g:=g) (row:=none) (h_HK HK.out)));replace HO452:=Aside0.mk (Kd.R_mono (Kd.R_told (Kd.R_oldK (IsS68.apart (show IsS68 w0 _ g s0_0 t457 t458 from h_HI0 HI0.out) (kRC_ HO452.out) (by decide)) hk) (Kd.R_base ho0)) (fun _ h_=>h_.1));replace HK:=Aside0.mk (KeepBut.trans (h_HK HK.out) hk (.inl rfl));replace HB:=Aside0.mk (hb);replace HI0:=Aside0.mk (hi);(try clear hb);(try clear hk);(try clear hi);(try clear ho0);obtain ⟨Ao101,co101,eo101⟩:=Kd.R_slice HO495.out;subst eo101)|((with_reducible refine gate_callee (f:=60) rfl ?_);refine goesL_ (some 59) rfl rfl Tryz.func60 krT_ rfl #[.slice Ao101 t493.length co101] rfl agT_ ?_;(with_reducible refine (spec_SortSets.calls k _ _ t493 t498 _ ?side1 ?side2 A88.out).mono ?_);(case side1=>repeat (first|exact (Kd.R_reads' HO495.out).2.2|(with_reducible refine Kd.C_alloc ?_ _)|(with_reducible refine Kd.C_drewN ?_ _)|(with_reducible refine Kd.C_drew ?_)));(case side2=>exact (Kd.R_reads' HO495.out).2.1);rintro e w102 ⟨v499,rfl,ho0,hb⟩;refine ⟨_,rfl,?_⟩;have HO500:=Aside0.mk (Kd.R_lower (Kd.R_new' (Kd.R_new' ho0 (Kd.R_lt (kRC_ HO452.out))) (Kd.R_lt (kRC_ HO495.out))) (keep_size (w:=w) (g:=g) (row:=none) (h_HK HK.out)));replace HO452:=Aside0.mk (Kd.R_elder' (kRC_ HO452.out) (Kd.R_base ho0) hb);replace HO495:=Aside0.mk (Kd.R_elder' (kRC_ HO495.out) (Kd.R_base ho0) hb);replace HI0:=Aside0.mk (IsS68.below (h_HI0 HI0.out) hb);replace BK448:=sBK_ BK448.out hb;replace BK455:=sBK_ BK455.out hb;replace HK:=Aside0.mk (KeepBut.trans (h_HK HK.out) (KeepBut.of_below hb g none) (.inl rfl));replace HB:=s_HB HB.out hb;(try clear hb);(try clear ho0);obtain ⟨Ao103,co103,eo103⟩:=Kd.R_slice HO500.out;subst eo103;obtain ⟨hcz104_0,hcz104_1,hfz104_0,hfz104_1⟩:=bz2_ BK455.out;have hnb105:=NB448_0.out;have hnc105:=NB0_448.out;obtain ⟨hcz106_0,hcz106_1,hfz106_0,hfz106_1⟩:=bz2_ BK448.out))
  refine bodyPost_ret (results_cell_row rfl _ _ gb448 26 #[.int .i64 t449,.slice Ao103 t498.length co103] (0,0) _ rfl (by (with_reducible repeat (first|refine blk_drewN ?_ _|refine blk_drew ?_|refine blk_alloc ?_ _));refine blk_put (cs:=#[.int .i64 t449,.slice none 0 0]) ?_ 1 _ rfl;(with_reducible repeat (first|refine blk_drewN ?_ _|refine blk_drew ?_|refine blk_alloc ?_ _));refine blk_put (cs:=#[.int .i64 0,.slice none 0 0]) ?_ 0 _ rfl;exact bkC_ BK448.out) Tryz.underlying26 rfl krT_) rfl ?_
  exact ⟨_,eT_,by (with_reducible repeat (first|apply Kd.R_alloc|apply Kd.R_drewN|apply Kd.R_drew));exact Kd.R_mono (Kd.R_far (p:=⟨gb448,1,none⟩) (Kd.R_far (p:=⟨gb448,0,none⟩) (Kd.R_far (p:=⟨gb455,1,none⟩) (Kd.R_types (Kd.R_types HO500.out BK455.out (by decide)) BK448.out (by decide)) (fun _ hk=>hk.1.2) (.slice Ao103 t498.length co103)) (fun _ hk=>hk.2) (.int .i64 t449)) (fun _ hk=>hk.2) (.slice Ao103 t498.length co103)) (fun _ hk=>trivial),h_HI0 HI0.out,h_HB HB.out,h_HK HK.out⟩
 replace H:=(gsq_ H).symm;rcases H with ⟨c42,H⟩|⟨c42,H⟩
 ·have c42b0:decide (1<(t450.length:Int))=false:=decide_eq_false c42
  have c42b1:decide (1<t450.length)=false:=decide_eq_false (by omega)
  clear c42
  simp only [Option.some.injEq,Prod.mk.injEq] at H
  obtain ⟨rfl,rfl,rfl,rfl⟩:=H
  go_enter Tryz.func23,Tryz.ntmps23
  go_wp2_with (first|((with_reducible refine gate_dst (N:=4) rfl ?_);refine bx_ (N:=4) (cs:=#[.int .i64 0,.slice none 0 0]) (t:=26) ?_;intro gb448 hg w73 hbox hb;replace HB:=s_HB HB.out hb;have BK448:=Aside0.mk (hbox);have GW448:=Aside0.mk ((by rw [hg];exact (keep_size (w:=w) (g:=g) (row:=none) (h_HK HK.out)):w.heap.size≤gb448));have GE448:=Aside0.mk ((Nat.le_trans HW0.out (by rw [hg];exact (keep_size (w:=w) (g:=g) (row:=none) (h_HK HK.out)):w.heap.size≤gb448):w0.heap.size≤gb448));replace HK:=Aside0.mk (KeepBut.trans (h_HK HK.out) (KeepBut.of_below hb g none) (.inl rfl));have NB0_448:=Aside0.mk ((by rw [hg];exact Nat.ne_of_lt (IsS68.lt (show IsS68 w0 _ g s0_0 s0_1 s0_2 from h_HI0 HI0.out)):g≠gb448));have NB448_0:=Aside0.mk ((by rw [hg];exact Nat.ne_of_gt (IsS68.lt (show IsS68 w0 _ g s0_0 s0_1 s0_2 from h_HI0 HI0.out)):gb448≠g));replace HI0:=Aside0.mk (IsS68.below (h_HI0 HI0.out) hb);clear hb hbox hg)|((with_reducible refine gate_callee (f:=45) rfl ?_);refine goesL_ (some 9) rfl rfl Tryz.func45 krT_ rfl #[.pointer (some ⟨g,0,none⟩),.int .i64 a1] rfl agT_ ?_;(with_reducible refine (spec_l4Draw.calls k g s0_0 s0_1 s0_2 a1 t449 t450 t453 t454 w0 _ ?side1 ?side2 A3.out).mono ?_);(case side1=>exact h_HI0 HI0.out);(case side2=>exact h_HB HB.out);rintro e w74 ⟨v451,rfl,ho0,hi,hb,hk⟩;refine ⟨_,rfl,?_⟩;replace BK448:=Aside0.mk (KeepBut.blk hk (bkC_ BK448.out) NB448_0.out (by simp));have HO452:=Aside0.mk (Kd.R_lower ho0 (keep_size (w:=w) (g:=g) (row:=none) (h_HK HK.out)));replace HK:=Aside0.mk (KeepBut.trans (h_HK HK.out) hk (.inl rfl));replace HB:=Aside0.mk (hb);replace HI0:=Aside0.mk (hi);(try clear hb);(try clear hk);(try clear hi);(try clear ho0))|((with_reducible refine gate_dst (N:=5) rfl ?_);refine bx_ (N:=5) (cs:=#[.int .i64 0,.slice none 0 0]) (t:=26) ?_;intro gb455 hg w75 hbox hb;replace HO452:=Aside0.mk (Kd.R_below (kRC_ HO452.out) hb);replace HB:=s_HB HB.out hb;have BK455:=Aside0.mk (hbox);have GW455:=Aside0.mk ((by rw [hg];exact (keep_size (w:=w) (g:=g) (row:=none) (h_HK HK.out)):w.heap.size≤gb455));have GE455:=Aside0.mk ((Nat.le_trans HW0.out (by rw [hg];exact (keep_size (w:=w) (g:=g) (row:=none) (h_HK HK.out)):w.heap.size≤gb455):w0.heap.size≤gb455));replace HK:=Aside0.mk (KeepBut.trans (h_HK HK.out) (KeepBut.of_below hb g none) (.inl rfl));have NB448_455:=Aside0.mk (nbl_ hg (bkC_ BK448.out));have NB455_448:=Aside0.mk NB448_455.out.symm;replace BK448:=sBK_ BK448.out hb;have NB0_455:=Aside0.mk ((by rw [hg];exact Nat.ne_of_lt (IsS68.lt (show IsS68 w0 _ g s0_0 t453 t454 from h_HI0 HI0.out)):g≠gb455));have NB455_0:=Aside0.mk ((by rw [hg];exact Nat.ne_of_gt (IsS68.lt (show IsS68 w0 _ g s0_0 t453 t454 from h_HI0 HI0.out)):gb455≠g));replace HI0:=Aside0.mk (IsS68.below (h_HI0 HI0.out) hb);clear hb hbox hg;have hnb76:=NB455_448.out;have hnc76:=NB448_455.out;have hnb77:=NB455_0.out;have hnc77:=NB0_455.out;obtain ⟨hcz78_0,hcz78_1,hfz78_0,hfz78_1⟩:=bz2_ BK455.out;obtain ⟨Ao79,co79,eo79⟩:=Kd.R_slice HO452.out;subst eo79)|((with_reducible refine gate_callee (f:=46) rfl ?_);refine goesL_ (some 11) rfl rfl Tryz.func46 krT_ rfl #[.pointer (some ⟨g,0,none⟩),.int .i64 10] rfl agT_ ?_;(with_reducible refine (spec_l1Below.calls g s0_0 t453 t454 10 t456 t457 t458 w0 _ ?side1 ?side2 A4.out).mono ?_);(case side1=>exact h_HI0 HI0.out);(case side2=>exact h_HB HB.out);rintro e w80 ⟨rfl,hi,hb,hk⟩;refine ⟨_,rfl,?_⟩;replace BK448:=Aside0.mk (KeepBut.blk hk (bkC_ BK448.out) NB448_0.out (by simp));replace HO452:=Aside0.mk (Kd.R_mono (Kd.R_keep (IsS68.apart (show IsS68 w0 _ g s0_0 t453 t454 from h_HI0 HI0.out) (kRF_ HO452.out) (by decide)) hk (fun _ h=>h.2)) (fun _ h=>h.1));replace BK455:=Aside0.mk (KeepBut.blk hk (g':=gb455) (o:=.cells #[.int .i64 t449,.slice Ao79 t450.length co79] 26 (0,0)) (by (with_reducible repeat (first|refine blk_drewN ?_ _|refine blk_drew ?_|refine blk_alloc ?_ _));exact bp2_ (bkC_ BK455.out)) NB455_0.out (by simp));replace HK:=Aside0.mk (KeepBut.trans (h_HK HK.out) hk (.inl rfl));replace HB:=Aside0.mk (hb);replace HI0:=Aside0.mk (hi);(try clear hb);(try clear hk);(try clear hi);obtain ⟨hcz81_0,hcz81_1,hfz81_0,hfz81_1⟩:=bz2_ BK455.out;have hnb82:=NB448_0.out;have hnc82:=NB0_448.out;obtain ⟨hcz83_0,hcz83_1,hfz83_0,hfz83_1⟩:=bz2_ BK448.out))
  refine bodyPost_ret (results_cell_row rfl _ _ gb448 26 #[.int .i64 t449,.slice Ao79 t450.length co79] (0,0) _ rfl (by (with_reducible repeat (first|refine blk_drewN ?_ _|refine blk_drew ?_|refine blk_alloc ?_ _));exact bp2_ (bkC_ BK448.out)) Tryz.underlying26 rfl krT_) rfl ?_
  exact ⟨_,eT_,by (with_reducible repeat (first|apply Kd.R_alloc|apply Kd.R_drewN|apply Kd.R_drew));exact Kd.R_mono (Kd.R_far (p:=⟨gb448,1,none⟩) (Kd.R_far (p:=⟨gb448,0,none⟩) (Kd.R_types HO452.out BK448.out (by decide)) (fun _ hk=>hk.2) (.int .i64 t449)) (fun _ hk=>hk.2) (.slice Ao79 t450.length co79)) (fun _ hk=>trivial),h_HI0 HI0.out,h_HB HB.out,h_HK HK.out⟩
 have c42b0:decide (1<(t450.length:Int))=true:=decide_eq_true c42
 have c42b1:decide (1<t450.length)=true:=decide_eq_true (by omega)
 clear c42
 replace H:=bnd_ H;obtain ⟨⟨t471,t472,t473⟩,A43,H⟩:=H;dsimp only at H
 replace H:=sy_ H;obtain ⟨y474,Ny474,H⟩:=H
 replace H:=gsp_ H;obtain ⟨c44,H⟩:=H
 have c44b0:=eq_true c44
 have c44b1:decide (0≤t471)=true:=decide_eq_true c44
 clear c44
 replace H:=gsp_ H;obtain ⟨c45,H⟩:=H
 have c45b0:=eq_true c45
 have c45b1:decide (t471≤(t450.length:Int))=true:=decide_eq_true c45
 clear c45
 replace H:=sy_ H;obtain ⟨y477,Ny477,H⟩:=H
 replace H:=gsl_ H;obtain ⟨LMc46,H⟩:=H
 replace H:=sy_ H;obtain ⟨y481,Ny481,H⟩:=H
 obtain ⟨ji47,hji47⟩:∃ j_:Int,(wrap64 (t471+1))=j_:=⟨_,rfl⟩
 first |rw [hji47] at H|simp only [hji47] at H
 (try rw [hji47] at A3)
 (try rw [hji47] at A4)
 (try rw [hji47] at A43)
 have hji47w:(IntKind.i64.wrap (t471+1))=ji47:=(i64_w _).trans hji47
 replace H:=gsp_ H;obtain ⟨c48,H⟩:=H
 have c48b0:=eq_true c48
 have c48b1:decide (0≤(ji47))=true:=decide_eq_true c48
 clear c48
 replace H:=gsp_ H;obtain ⟨c49,H⟩:=H
 have c49b0:=eq_true c49
 have c49b1:decide ((ji47)≤(t450.length:Int))=true:=decide_eq_true c49
 clear c49
 replace H:=sy_ H;obtain ⟨y484,Ny484,H⟩:=H
 replace H:=gsl_ H;obtain ⟨LMc50,H⟩:=H
 obtain ⟨y488,hy488⟩:∃ y_:List Int,y_=(y481++y484):=⟨_,rfl⟩
 rw [← hy488] at H
 have Ny488:=Aside0.mk hy488
 clear hy488
 simp only [Option.some.injEq,Prod.mk.injEq] at H
 obtain ⟨rfl,rfl,rfl,rfl⟩:=H
 go_enter Tryz.func23,Tryz.ntmps23
 try go_wp2_with (first|((with_reducible refine gate_dst (N:=4) rfl ?_);refine bx_ (N:=4) (cs:=#[.int .i64 0,.slice none 0 0]) (t:=26) ?_;intro gb448 hg w51 hbox hb;replace HB:=s_HB HB.out hb;have BK448:=Aside0.mk (hbox);have GW448:=Aside0.mk ((by rw [hg];exact (keep_size (w:=w) (g:=g) (row:=none) (h_HK HK.out)):w.heap.size≤gb448));have GE448:=Aside0.mk ((Nat.le_trans HW0.out (by rw [hg];exact (keep_size (w:=w) (g:=g) (row:=none) (h_HK HK.out)):w.heap.size≤gb448):w0.heap.size≤gb448));replace HK:=Aside0.mk (KeepBut.trans (h_HK HK.out) (KeepBut.of_below hb g none) (.inl rfl));have NB0_448:=Aside0.mk ((by rw [hg];exact Nat.ne_of_lt (IsS68.lt (show IsS68 w0 _ g s0_0 s0_1 s0_2 from h_HI0 HI0.out)):g≠gb448));have NB448_0:=Aside0.mk ((by rw [hg];exact Nat.ne_of_gt (IsS68.lt (show IsS68 w0 _ g s0_0 s0_1 s0_2 from h_HI0 HI0.out)):gb448≠g));replace HI0:=Aside0.mk (IsS68.below (h_HI0 HI0.out) hb);clear hb hbox hg)|((with_reducible refine gate_callee (f:=45) rfl ?_);refine goesL_ (some 9) rfl rfl Tryz.func45 krT_ rfl #[.pointer (some ⟨g,0,none⟩),.int .i64 a1] rfl agT_ ?_;(with_reducible refine (spec_l4Draw.calls k g s0_0 s0_1 s0_2 a1 t449 t450 t453 t454 w0 _ ?side1 ?side2 A3.out).mono ?_);(case side1=>exact h_HI0 HI0.out);(case side2=>exact h_HB HB.out);rintro e w52 ⟨v451,rfl,ho0,hi,hb,hk⟩;refine ⟨_,rfl,?_⟩;replace BK448:=Aside0.mk (KeepBut.blk hk (bkC_ BK448.out) NB448_0.out (by simp));have HO452:=Aside0.mk (Kd.R_lower ho0 (keep_size (w:=w) (g:=g) (row:=none) (h_HK HK.out)));replace HK:=Aside0.mk (KeepBut.trans (h_HK HK.out) hk (.inl rfl));replace HB:=Aside0.mk (hb);replace HI0:=Aside0.mk (hi);(try clear hb);(try clear hk);(try clear hi);(try clear ho0))|((with_reducible refine gate_dst (N:=5) rfl ?_);refine bx_ (N:=5) (cs:=#[.int .i64 0,.slice none 0 0]) (t:=26) ?_;intro gb455 hg w53 hbox hb;replace HO452:=Aside0.mk (Kd.R_below (kRC_ HO452.out) hb);replace HB:=s_HB HB.out hb;have BK455:=Aside0.mk (hbox);have GW455:=Aside0.mk ((by rw [hg];exact (keep_size (w:=w) (g:=g) (row:=none) (h_HK HK.out)):w.heap.size≤gb455));have GE455:=Aside0.mk ((Nat.le_trans HW0.out (by rw [hg];exact (keep_size (w:=w) (g:=g) (row:=none) (h_HK HK.out)):w.heap.size≤gb455):w0.heap.size≤gb455));replace HK:=Aside0.mk (KeepBut.trans (h_HK HK.out) (KeepBut.of_below hb g none) (.inl rfl));have NB448_455:=Aside0.mk (nbl_ hg (bkC_ BK448.out));have NB455_448:=Aside0.mk NB448_455.out.symm;replace BK448:=sBK_ BK448.out hb;have NB0_455:=Aside0.mk ((by rw [hg];exact Nat.ne_of_lt (IsS68.lt (show IsS68 w0 _ g s0_0 t453 t454 from h_HI0 HI0.out)):g≠gb455));have NB455_0:=Aside0.mk ((by rw [hg];exact Nat.ne_of_gt (IsS68.lt (show IsS68 w0 _ g s0_0 t453 t454 from h_HI0 HI0.out)):gb455≠g));replace HI0:=Aside0.mk (IsS68.below (h_HI0 HI0.out) hb);clear hb hbox hg;have hnb54:=NB455_448.out;have hnc54:=NB448_455.out;have hnb55:=NB455_0.out;have hnc55:=NB0_455.out;obtain ⟨hcz56_0,hcz56_1,hfz56_0,hfz56_1⟩:=bz2_ BK455.out;obtain ⟨Ao57,co57,eo57⟩:=Kd.R_slice HO452.out;subst eo57)|((with_reducible refine gate_callee (f:=46) rfl ?_);refine goesL_ (some 11) rfl rfl Tryz.func46 krT_ rfl #[.pointer (some ⟨g,0,none⟩),.int .i64 10] rfl agT_ ?_;(with_reducible refine (spec_l1Below.calls g s0_0 t453 t454 10 t456 t457 t458 w0 _ ?side1 ?side2 A4.out).mono ?_);(case side1=>exact h_HI0 HI0.out);(case side2=>exact h_HB HB.out);rintro e w58 ⟨rfl,hi,hb,hk⟩;refine ⟨_,rfl,?_⟩;replace BK448:=Aside0.mk (KeepBut.blk hk (bkC_ BK448.out) NB448_0.out (by simp));replace HO452:=Aside0.mk (Kd.R_mono (Kd.R_keep (IsS68.apart (show IsS68 w0 _ g s0_0 t453 t454 from h_HI0 HI0.out) (kRF_ HO452.out) (by decide)) hk (fun _ h=>h.2)) (fun _ h=>h.1));replace BK455:=Aside0.mk (KeepBut.blk hk (g':=gb455) (o:=.cells #[.int .i64 t449,.slice Ao57 t450.length co57] 26 (0,0)) (by (with_reducible repeat (first|refine blk_drewN ?_ _|refine blk_drew ?_|refine blk_alloc ?_ _));exact bp2_ (bkC_ BK455.out)) NB455_0.out (by simp));replace HK:=Aside0.mk (KeepBut.trans (h_HK HK.out) hk (.inl rfl));replace HB:=Aside0.mk (hb);replace HI0:=Aside0.mk (hi);(try clear hb);(try clear hk);(try clear hi);obtain ⟨hcz59_0,hcz59_1,hfz59_0,hfz59_1⟩:=bz2_ BK455.out)|((with_reducible refine gate_callee (f:=46) rfl ?_);refine goesL_ (some 37) rfl rfl Tryz.func46 krT_ rfl #[.pointer (some ⟨g,0,none⟩),.int .i64 (t450.length:Int)] rfl agT_ ?_;(with_reducible refine (spec_l1Below.calls g s0_0 t457 t458 (t450.length:Int) t471 t472 t473 w0 _ ?side1 ?side2 A43.out).mono ?_);(case side1=>exact h_HI0 HI0.out);(case side2=>exact h_HB HB.out);rintro e w60 ⟨rfl,hi,hb,hk⟩;refine ⟨_,rfl,?_⟩;replace BK448:=Aside0.mk (KeepBut.blk hk (bkC_ BK448.out) NB448_0.out (by simp));replace HO452:=Aside0.mk (Kd.R_mono (Kd.R_keep (IsS68.apart (show IsS68 w0 _ g s0_0 t457 t458 from h_HI0 HI0.out) (kRC_ HO452.out) (by decide)) hk (fun _ h=>h.2)) (fun _ h=>h.1));replace BK455:=Aside0.mk (KeepBut.blk hk (bkC_ BK455.out) NB455_0.out (by simp));replace HK:=Aside0.mk (KeepBut.trans (h_HK HK.out) hk (.inl rfl));replace HB:=Aside0.mk (hb);replace HI0:=Aside0.mk (hi);(try clear hb);(try clear hk);(try clear hi)))
 replace HO452:=Aside0.mk (Kd.R_drew HO452.out);replace BK448:=Aside0.mk (blk_drew BK448.out);replace BK455:=Aside0.mk (blk_drew BK455.out);replace HI0:=Aside0.mk (IsS68.drew HI0.out);replace HK:=Aside0.mk (keep_drew HK.out);replace HB:=Aside0.mk (below_drew1 HB.out)
 have q62:(t471:Int)≤((t450.length:Int):Int):=odT_
 obtain ⟨i062,hi062,_,hsz62,_⟩:=info_parts info3
 have hroom62:t450.length≤co57:=(Kd.R_reads' HO452.out).2.1
 have hC62:Kd.C (Kd.int .i64) _ Ao57 t450.length t450:=(Kd.R_reads' HO452.out).2.2
 have hcut62:=cut_to (P:=Tryz.prog) 24 3 .i64 Tryz.underlying24 hi062 Ao57 t450.length co57 t471 (odT_) q62 hroom62
 have hr62:=Kd.C_take (m:=(t471:Int).toNat) hC62 (by omega)
 have hy62:y477.length=(t471:Int).toNat:=(by rw [Ny477.out,List.length_take];omega)
 rw [← Ny477.out] at hr62
 rw [← hy62] at hcut62
 have HR480:=Aside0.mk hr62
 have HC480:=Aside0.mk (show y477.length≤co57 from by omega)
 clear hr62 hC62 hroom62 hi062 hsz62
 have KY62:=Aside0.mk hy62
 clear hy62
 have KL62:=Aside0.mk (show (t471:Int).toNat≤t450.length from by omega)
 replace q62:=eq_true q62
 have q63:((ji47):Int)≤((t450.length:Int):Int):=odT_
 obtain ⟨i063,hi063,_,hsz63,_⟩:=info_parts info3
 have hroom63:t450.length≤co57:=(Kd.R_reads' HO452.out).2.1
 have hC63:Kd.C (Kd.int .i64) _ Ao57 t450.length t450:=(Kd.R_reads' HO452.out).2.2
 have q063:(0:Int)≤((ji47):Int):=odT_
 have hcut63:=cut_from (P:=Tryz.prog) 24 3 .i64 Tryz.underlying24 hi063 1 hsz63 Ao57 t450.length co57 (ji47) q063 q63
 have hr63:=Kd.C_drop (m:=((ji47):Int).toNat) (c:=co57) hC63 (by omega) hroom63
 obtain ⟨A63,hA63⟩:∃ A1,A1=(if co57=((ji47):Int).toNat then Ao57 else (Ao57:Option Addr).map (·.add (((ji47):Int).toNat*1))):=⟨_,rfl⟩
 obtain ⟨c63,hc63⟩:∃ c1,c1=co57-((ji47):Int).toNat:=⟨_,rfl⟩
 have hy63:y484.length=t450.length-((ji47):Int).toNat:=(by rw [Ny484.out,List.length_drop]<;>omega)
 rw [show (t450).drop ((ji47):Int).toNat=y484 from Ny484.out.symm] at hr63
 replace hr63:Kd.C (Kd.int .i64) _ A63 y484.length y484:=(by rw [hA63];exact hr63)
 rw [← hy63,← hA63,← hc63] at hcut63
 have HR487:=Aside0.mk hr63
 have HC487:=Aside0.mk (show y484.length≤c63 from by rw [hy63,hc63];exact Nat.sub_le_sub_right hroom63 _)
 clear hr63 hC63 hroom63 hi063 hsz63 hc63
 have KY63:=Aside0.mk hy63
 have KA63:=Aside0.mk hA63
 clear hy63 hA63
 have KL63:=Aside0.mk (show ((ji47):Int).toNat≤t450.length from by omega)
 replace q63:=eq_true q63
 refine start_ (n:=14) (S:=fun w'=>w'.cell? ⟨gb455,0,none⟩=some (.int .i64 t449)∧w'.cell? ⟨gb455,1,none⟩=some (.slice Ao57 t450.length co57)) (ds:=[13]) #[F_,F_,F_,F_,F_,F_,F_,F_,F_,F_,F_,F_,F_,F_] krT_ rfl rfl ⟨(blk_cell BK455.out 0).trans rfl,(blk_cell BK455.out 1).trans rfl⟩ (fun hHeld=>?_);refine with_tabW spec_l4Bent.tab10 spec_l4Bent.bits10 (fun HT_ HW_=>?_)
 generalize w60.drew=w61 at HO452 BK448 BK455 HI0 HK HB HR480 HR487 hHeld ⊢
 refine pu_ 1 (some 39) (bm_ 14 2) rfl rfl HT_.out ?_
 refine pu_ 3 (some 41) (bm_ 14 10) rfl rfl HT_.out ?_
 refine pu_ 6 (some 44) (bm_ 14 74) rfl rfl HT_.out ?_
 refine pu_ 8 (some 46) (bm_ 14 330) rfl rfl HT_.out ?_
 refine pu_ 9 (some 47) (bm_ 14 842) rfl rfl HT_.out ?_
 refine take_ (i:=2) (N:=some 40) (v:=?_) (a':=?_) (bm_ 14 846) rfl rfl (take_ofW HT_.out HW_.out krT_) (fun _ _ _ h=>h) (Or.inl ⟨by rfl,?_⟩) hHeld ?_ ?_
 rotate_left
 ·rintro w' ⟨s0,s1⟩
  go_simp
  with_reducible rfl
 rotate_left;exact apT_
 refine pu_ 4 (some 42) (bm_ 14 862) rfl rfl HT_.out ?_
 refine take_ (i:=7) (N:=some 45) (v:=?_) (a':=?_) (bm_ 14 990) rfl rfl (take_ofW HT_.out HW_.out krT_) (fun _ _ _ h=>h) (Or.inl ⟨by rfl,?_⟩) hHeld ?_ ?_
 rotate_left
 ·rintro w' ⟨s0,s1⟩
  go_simp
  with_reducible rfl
 rotate_left;exact apT_
 refine pu_ 10 (some 48) (bm_ 14 2014) rfl rfl HT_.out ?_
 refine one_ (i:=0) (N:=some 38) (bm_ 14 2015) rfl rfl (one_of HT_.out krT_) (by decide) (fun K hK=>?_)
 refine Kd.R_lit_step (Kd.int .i64) _ 3 ?hg (N:=38) ?hd (xs:=([]:List Int)) (inner:=[]) (ok:=fun _=>True) (okp:=fun _=>True) ?hr ?hp (fun _ hk=>hk) trivial (Below.refl _ _) (Nat.le_refl _) (by simp) ?_;(case hd=>rfl);(case hg=>rfl);(case hr=>exact hrT_);(case hp=>exact (Reps.none _ _))
 intro v475 w64 ho65 hb hg_ hnew_
 clear hg_ hnew_
 (first|rw [← Ny474.out] at ho65|(simp only [Int.reduceToNat] at ho65;rw [← Ny474.out] at ho65))
 have HO476:=Aside0.mk (Kd.R_lower (Kd.R_new' ho65 (Kd.R_lt (kRC_ HO452.out))) (keep_size (w:=w) (g:=g) (row:=none) (h_HK HK.out)));replace HO452:=Aside0.mk (Kd.R_elder' (kRC_ HO452.out) (Kd.R_base ho65) hb);replace HI0:=Aside0.mk (IsS68.below (h_HI0 HI0.out) hb);replace BK448:=sBK_ BK448.out hb;replace BK455:=sBK_ BK455.out hb;replace HR480:=Aside0.mk (Kd.C_below (by repeat (first|(with_reducible exact HR480.out)|(with_reducible refine Kd.C_alloc ?_ _)|(with_reducible refine Kd.C_drewN ?_ _)|(with_reducible refine Kd.C_drew ?_)|exact HR480.out)) hb);replace HR487:=Aside0.mk (Kd.C_below (by repeat (first|(with_reducible exact HR487.out)|(with_reducible refine Kd.C_alloc ?_ _)|(with_reducible refine Kd.C_drewN ?_ _)|(with_reducible refine Kd.C_drew ?_)|exact HR487.out)) hb);replace HK:=Aside0.mk (KeepBut.trans (h_HK HK.out) (KeepBut.of_below hb g none) (.inl rfl));replace HB:=s_HB HB.out hb
 clear hb ho65
 refine hK.out _ _ ⟨(blk_cell BK455.out 0).trans rfl,(blk_cell BK455.out 1).trans rfl⟩ (fun hHeld=>?_)
 clear hK K
 refine norm_ (a':=?_) ?_ ?_
 rotate_left
 ·show Act.put _ (some 38) _=_
  simp only [Act.put,List.setIfInBounds_toArray,List.set_cons_zero,List.set_cons_succ,i64_w,i32_w]
  rfl
 refine one_ (i:=5) (N:=some 43) (bm_ 14 2047) rfl rfl (one_of HT_.out krT_) (by decide) (fun K hK=>?_)
 refine Kd.R_append_rows_step (Kd.int .i64) w.heap.size (by rfl) (.tmp 38) (.tmp 42) 24 3 (.int .i64 0) 8 rfl Tryz.underlying24 info3 rfl (by decide) (by omega) v475 y474 y477 _ _ _ (fun k_=>some k_≠(.slice Ao57 t450.length co57:Value).ownBlock) (fun _=>False) rfl rfl ?aO ?aR (fun _ _ h=>h) (fun _ h=>h.elim) ?aF (Below.refl _ _) ?aS ?aL ?_
 (case aR=>repeat (first|exact (by repeat (first|(with_reducible exact HR480.out)|(with_reducible refine Kd.C_alloc ?_ _)|(with_reducible refine Kd.C_drewN ?_ _)|(with_reducible refine Kd.C_drew ?_)|exact HR480.out))|(with_reducible refine Kd.C_alloc ?_ _)|(with_reducible refine Kd.C_drewN ?_ _)|(with_reducible refine Kd.C_drew ?_)))
 (case aF=>exact (fun k_ hk=>Kd.fresh' (Kd.R_lt (kRC_ HO452.out)) k_ hk))
 (case aO=>exact (by (with_reducible repeat (first|apply Kd.R_alloc|apply Kd.R_drewN|apply Kd.R_drew));exact Kd.R_mono HO476.out (fun _ hk=>hk.2)))
 (case aS=>exact (keep_size (w:=w) (g:=g) (row:=none) (h_HK HK.out)))
 (case aL=>have:=LMc46.out;omega)
 intro v482 w66 ho hb hg hat
 rw [← Ny481.out] at ho
 replace HI0:=Aside0.mk (IsS68.grown (h_HI0 HI0.out) hg (IsS68.own_ne HI0.out HO476.out (by decide)));replace BK448:=Aside0.mk (blk_grown (bkC_ BK448.out) hg (Kd.R_ne HO476.out BK448.out (by decide)));replace BK455:=Aside0.mk (blk_grown (bkC_ BK455.out) hg (Kd.R_ne HO476.out BK455.out (by decide)));replace HB:=Aside0.mk (below_weaken (h_HB HB.out) HL.out hb);replace HK:=Aside0.mk (KeepBut.trans (h_HK HK.out) (KeepBut.of_grown hg g) (Kd.R_base2 HO476.out));replace HR480:=Aside0.mk ((show Kd.C (Kd.int .i64) w66 Ao57 y477.length y477 from by rw [Ny477.out];exact Kd.C_take (m:=(t471:Int).toNat) ((Kd.R_reads' (Kd.R_after (ok:=(fun _=>True)) (kRC_ HO452.out) hg hat)).2.2) KL62.out));replace HR487:=Aside0.mk ((show Kd.C (Kd.int .i64) w66 A63 y484.length y484 from by rw [Ny484.out,KA63.out];exact Kd.C_drop (m:=((ji47):Int).toNat) (c:=co57) ((Kd.R_reads' (Kd.R_after (ok:=(fun _=>True)) (kRC_ HO452.out) hg hat)).2.2) KL63.out ((Kd.R_reads' (Kd.R_after (ok:=(fun _=>True)) (kRC_ HO452.out) hg hat)).2.1)));replace HO452:=Aside0.mk (Kd.R_after (ok:=(fun _=>True)) (kRC_ HO452.out) hg hat);have HO483:=Aside0.mk (ho);clear HO476
 clear ho hb hg hat
 refine hK.out _ _ ⟨(blk_cell BK455.out 0).trans rfl,(blk_cell BK455.out 1).trans rfl⟩ (fun hHeld=>?_)
 clear hK K
 refine norm_ (a':=?_) ?_ ?_
 rotate_left
 ·show Act.put _ (some 43) _=_
  simp only [Act.put,List.setIfInBounds_toArray,List.set_cons_zero,List.set_cons_succ,i64_w,i32_w]
  rfl
 refine one_ (i:=11) (N:=some 49) (bm_ 14 4095) rfl rfl (one_of HT_.out krT_) (by decide) (fun K hK=>?_)
 refine Kd.R_append_rows_step (Kd.int .i64) w.heap.size (by rfl) (.tmp 43) (.tmp 48) 24 3 (.int .i64 0) 8 rfl Tryz.underlying24 info3 rfl (by decide) (by omega) v482 y481 y484 _ _ _ (fun k_=>some k_≠(.slice Ao57 t450.length co57:Value).ownBlock) (fun _=>False) rfl rfl ?aO ?aR (fun _ _ h=>h) (fun _ h=>h.elim) ?aF (Below.refl _ _) ?aS ?aL ?_
 (case aR=>repeat (first|exact (by repeat (first|(with_reducible exact HR487.out)|(with_reducible refine Kd.C_alloc ?_ _)|(with_reducible refine Kd.C_drewN ?_ _)|(with_reducible refine Kd.C_drew ?_)|exact HR487.out))|(with_reducible refine Kd.C_alloc ?_ _)|(with_reducible refine Kd.C_drewN ?_ _)|(with_reducible refine Kd.C_drew ?_)))
 (case aF=>exact (fun k_ hk=>Kd.fresh' (Kd.R_lt (kRC_ HO452.out)) k_ hk))
 (case aO=>exact (kRC_ HO483.out))
 (case aS=>exact (keep_size (w:=w) (g:=g) (row:=none) (h_HK HK.out)))
 (case aL=>have:=LMc50.out;omega)
 intro v489 w67 ho hb hg hat
 rw [← Ny488.out] at ho
 replace HI0:=Aside0.mk (IsS68.grown (h_HI0 HI0.out) hg (IsS68.own_ne HI0.out HO483.out (by decide)));replace BK448:=Aside0.mk (blk_grown (bkC_ BK448.out) hg (Kd.R_ne HO483.out BK448.out (by decide)));replace BK455:=Aside0.mk (blk_grown (bkC_ BK455.out) hg (Kd.R_ne HO483.out BK455.out (by decide)));replace HB:=Aside0.mk (below_weaken (h_HB HB.out) HL.out hb);replace HK:=Aside0.mk (KeepBut.trans (h_HK HK.out) (KeepBut.of_grown hg g) (Kd.R_base2 HO483.out));replace HR480:=Aside0.mk ((show Kd.C (Kd.int .i64) w67 Ao57 y477.length y477 from by rw [Ny477.out];exact Kd.C_take (m:=(t471:Int).toNat) ((Kd.R_reads' (Kd.R_after (ok:=(fun _=>True)) (kRC_ HO452.out) hg hat)).2.2) KL62.out));replace HR487:=Aside0.mk ((show Kd.C (Kd.int .i64) w67 A63 y484.length y484 from by rw [Ny484.out,KA63.out];exact Kd.C_drop (m:=((ji47):Int).toNat) (c:=co57) ((Kd.R_reads' (Kd.R_after (ok:=(fun _=>True)) (kRC_ HO452.out) hg hat)).2.2) KL63.out ((Kd.R_reads' (Kd.R_after (ok:=(fun _=>True)) (kRC_ HO452.out) hg hat)).2.1)));replace HO452:=Aside0.mk (Kd.R_after (ok:=(fun _=>True)) (kRC_ HO452.out) hg hat);have HO490:=Aside0.mk (ho);clear HO483
 clear ho hb hg hat
 obtain ⟨Ao68,co68,eo68⟩:=Kd.R_slice HO490.out
 (first|subst eo68|(injection eo68 with f1_ f2_ f3_;have f4_:=f1_.symm;have f5_:=f3_.symm;clear f1_ f2_ f3_;subst f4_;subst f5_))
 refine hK.out _ _ ⟨(blk_cell BK455.out 0).trans rfl,(blk_cell BK455.out 1).trans rfl⟩ (fun hHeld=>?_)
 clear hK K
 refine norm_ (a':=?_) ?_ ?_
 rotate_left
 ·show Act.put _ (some 49) _=_
  simp only [Act.put,List.setIfInBounds_toArray,List.set_cons_zero,List.set_cons_succ,i64_w,i32_w]
  rfl
 refine pu_ 12 (some 50) (bm_ 14 8191) rfl rfl HT_.out ?_
 refine last_ (i:=13) (N:=none) (bm_ 14 16383) rfl rfl (one_of HT_.out krT_) (by decide) (fun K hK=>?_)
 have hs69:w67.cell? ⟨gb455,1,none⟩=some (.slice Ao57 t450.length co57):=(blk_cell BK455.out 1).trans rfl
 have hfs69:=blk_frozen BK455.out 1
 have hns69_0:=NB448_455.out
 have hms69_0:=NB455_448.out
 refine skip_ (w1:=?_) (by rfl) rfl ?_ ?_
 rotate_left
 ·go_simp
  rfl
 refine hK.out _ _ ?_
 clear hK K
 refine done_ (done_of HT_.out krT_) ?_
 obtain ⟨hcz70_0,hcz70_1,hfz70_0,hfz70_1⟩:=bz2_ BK455.out
 have hnb71:=NB448_0.out
 have hnc71:=NB0_448.out
 obtain ⟨hcz72_0,hcz72_1,hfz72_0,hfz72_1⟩:=bz2_ BK448.out
 try go_wp2
 refine bodyPost_ret (results_cell_row rfl _ _ gb448 26 #[.int .i64 t449,.slice Ao68 y488.length co68] (0,0) _ rfl (by (with_reducible repeat (first|refine blk_drewN ?_ _|refine blk_drew ?_|refine blk_alloc ?_ _));refine blk_put (cs:=#[.int .i64 t449,.slice none 0 0]) ?_ 1 _ rfl;(with_reducible repeat (first|refine blk_drewN ?_ _|refine blk_drew ?_|refine blk_alloc ?_ _));refine blk_put (cs:=#[.int .i64 0,.slice none 0 0]) ?_ 0 _ rfl;exact bkC_ BK448.out) Tryz.underlying26 rfl krT_) rfl ?_
 exact ⟨_,by first|rfl|(simp [errW_none,errW_some]<;>rfl)|(simp only [← hji47];first|rfl|(simp [errW_none,errW_some]<;>rfl))|(simp [*,errW_none,errW_some]<;>rfl),by (with_reducible repeat (first|apply Kd.R_alloc|apply Kd.R_drewN|apply Kd.R_drew));exact Kd.R_mono (Kd.R_far (p:=⟨gb448,1,none⟩) (Kd.R_far (p:=⟨gb448,0,none⟩) (Kd.R_far (p:=⟨gb455,1,none⟩) (Kd.R_types (Kd.R_types HO490.out BK455.out (by decide)) BK448.out (by decide)) (fun _ hk=>hk.1.2) (.slice Ao68 y488.length co68)) (fun _ hk=>hk.2) (.int .i64 t449)) (fun _ hk=>hk.2) (.slice Ao68 y488.length co68)) (fun _ hk=>trivial),h_HI0 HI0.out,h_HB HB.out,h_HK HK.out⟩
end Go.Proofs.YtekegbacnagbcaaGreat.P
