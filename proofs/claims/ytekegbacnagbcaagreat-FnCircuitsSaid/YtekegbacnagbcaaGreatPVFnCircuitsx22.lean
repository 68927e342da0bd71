-- written by gprint (a program of this session's, round the kit's print), out of the translation and hand-written texts
import Derived.Test.YtekegbacnagbcaaGreatPVFnCircuitsx0
import Derived.Test.YtekegbacnagbcaaGreatPVFnCircuitsx12
import Derived.Test.YtekegbacnagbcaaGreatPVFnCircuitsx13
namespace Go.Proofs.YtekegbacnagbcaaGreat.P
open Go.RowKit Go.Proofs.YtekegbacnagbcaaGreatW.PrintWords Go.Proofs.YtekegbacnagbcaaGreatW.PrintLast Go.Proofs.YtekegbacnagbcaaGreatW.PrintMore
attribute [local go_sem] max2_int min2_int max_two min_two max_three min_three max_four min_four
set_option linter.unusedVariables false
set_option maxHeartbeats 8000000
set_option maxRecDepth 100000
set_option linter.unusedSimpArgs false
def impl_circuit.l0:Nat→Int→Int→Int→List Int→Int→Int→Int→List Int→Option (Int)
 | 0,_,_,_,_,_,_,_,_=>none
 | k+1,x1,x2,x7,x13,x14,x15,x818000,x818001=>if x15<x14 then (if 0≤x15 then (if x15<(x13.length:Int) then (if 0≤(rd x13 x15) then (if 0≤x2 then ((impl_HasSet.f k x818001 (Go.bits .or .i64 (Go.bits .andNot .i64 x1 (shl .i64 1 (rd x13 x15))) (shl .i64 1 x2))).bind fun t822=>(if t822=true then (impl_circuit.l0 k x1 x2 (Go.bits .or .i64 x7 (shl .i64 1 (rd x13 x15))) x13 x14 (wrap64 (x15+1)) x818000 x818001) else (impl_circuit.l0 k x1 x2 x7 x13 x14 (wrap64 (x15+1)) x818000 x818001))) else (none)) else (none)) else (none)) else (none)) else (some x7)
def impl_circuit.f (k:Nat) (a0_0:Int) (l0_1:List Int) (a1:Int) (a2:Int):Option (Int):=if 0≤a2 then ((impl_ElementsOf.f k a1).bind fun t818=>(impl_circuit.l0 k a1 a2 (shl .i64 1 a2) t818 (t818.length:Int) 0 a0_0 l0_1)) else (none)
theorem impl_circuit.calls (k:Nat) (a0_0:Int) (A0_1:Option Addr) (c0_1:Nat) (l0_1:List Int) (a1:Int) (a2:Int) (r:Int) (w:World) (hr0_1:Kd.C (Kd.int .i64) w A0_1 l0_1.length l0_1) (hc0_1:l0_1.length≤c0_1) (h:impl_circuit.f k a0_0 l0_1 a1 a2=some r) :
    Calls Tryz.prog 51 #[.agg #[.int .i64 a0_0,.slice A0_1 l0_1.length c0_1],.int .i64 a1,.int .i64 a2] w fun e w'=>e=.returned (.int .i64 r)∧Below w.heap.size w w':=by
 have hu26:=Tryz.underlying26
 have HR0_1:=Aside0.mk hr0_1
 have HC0_1:=Aside0.mk hc0_1
 clear hr0_1 hc0_1
 have HB:=Aside0.mk (Below.refl w.heap.size w)
 unfold impl_circuit.f at h
 have H:=h
 clear h
 replace H:=gsp_ H;obtain ⟨c4,H⟩:=H
 have c4b0:=eq_true c4
 have c4b1:decide (0≤a2)=true:=decide_eq_true c4
 clear c4
 obtain ⟨ji5,hji5⟩:∃ j_:Int,(shl .i64 1 a2)=j_:=⟨_,rfl⟩
 first |rw [hji5] at H|simp only [hji5] at H
 have hji5_:(IntKind.i64.wrap (1*2 ^ min a2.toNat 64))=ji5:=hji5
 have hji5z:a2≤64→(IntKind.i64.wrap (1*2 ^ a2.toNat))=ji5:=shl_small hji5
 have hji5u:(IntKind.i64.wrap (2 ^ min a2.toNat 64))=ji5:=by have h_:=hji5_;rw [Int.one_mul] at h_;exact h_
 have hji5v:a2≤64→(IntKind.i64.wrap (2 ^ a2.toNat))=ji5:=fun hle_=>by have h_:=hji5z hle_;rw [Int.one_mul] at h_;exact h_
 have hji5y:(wrap64 (1*2 ^ min a2.toNat 64))=ji5:=(i64_w _).symm.trans hji5_
 have hji5x:a2≤64→(wrap64 (1*2 ^ a2.toNat))=ji5:=fun h_=>(i64_w _).symm.trans (hji5z h_)
 replace H:=bnd_ H;obtain ⟨t818,A6,H⟩:=H
 have H':=Aside0.mk H
 clear H
 go_enter Tryz.func51,Tryz.ntmps51
 go_wp2_with (first|((with_reducible refine gate_dst (N:=3) rfl ?_);refine bx_ (N:=3) (cs:=#[.int .i64 a0_0,.slice A0_1 l0_1.length c0_1]) (t:=26) ?_;intro gb817 hg w7 hbox hb;have BK817:=Aside0.mk (hbox);have GW817:=Aside0.mk (gw_ hg (h_HB HB.out));have GE817:=GW817;replace HB:=s_HB HB.out hb;clear hb hbox hg)|(go_at_call 33;(with_reducible refine (impl_ElementsOf.calls k a1 t818 _ A6.out).mono ?_);rintro e w8 ⟨v819,rfl,ho0,hb⟩;have HO820:=Aside0.mk (Kd.R_lower ho0 (below_size (h_HB HB.out)));replace BK817:=sBK_ BK817.out hb;replace HB:=s_HB HB.out hb;(try clear hb);(try clear ho0);obtain ⟨Ao9,co9,eo9⟩:=Kd.R_slice HO820.out;subst eo9))
 repeat (go_quiet (first|((with_reducible refine gate_dst (N:=3) rfl ?_);refine bx_ (N:=3) (cs:=#[.int .i64 a0_0,.slice A0_1 l0_1.length c0_1]) (t:=26) ?_;intro gb817 hg w7 hbox hb;have BK817:=Aside0.mk (hbox);have GW817:=Aside0.mk (gw_ hg (h_HB HB.out));have GE817:=GW817;replace HB:=s_HB HB.out hb;clear hb hbox hg)|(go_at_call 33;(with_reducible refine (impl_ElementsOf.calls k a1 t818 _ A6.out).mono ?_);rintro e w8 ⟨v819,rfl,ho0,hb⟩;have HO820:=Aside0.mk (Kd.R_lower ho0 (below_size (h_HB HB.out)));replace BK817:=sBK_ BK817.out hb;replace HB:=s_HB HB.out hb;(try clear hb);(try clear ho0);obtain ⟨Ao9,co9,eo9⟩:=Kd.R_slice HO820.out;subst eo9));try go_wp2_with (first|((with_reducible refine gate_dst (N:=3) rfl ?_);refine bx_ (N:=3) (cs:=#[.int .i64 a0_0,.slice A0_1 l0_1.length c0_1]) (t:=26) ?_;intro gb817 hg w7 hbox hb;have BK817:=Aside0.mk (hbox);have GW817:=Aside0.mk (gw_ hg (h_HB HB.out));have GE817:=GW817;replace HB:=s_HB HB.out hb;clear hb hbox hg)|(go_at_call 33;(with_reducible refine (impl_ElementsOf.calls k a1 t818 _ A6.out).mono ?_);rintro e w8 ⟨v819,rfl,ho0,hb⟩;have HO820:=Aside0.mk (Kd.R_lower ho0 (below_size (h_HB HB.out)));replace BK817:=sBK_ BK817.out hb;replace HB:=s_HB HB.out hb;(try clear hb);(try clear ho0);obtain ⟨Ao9,co9,eo9⟩:=Kd.R_slice HO820.out;subst eo9)))
 go_loopg [7,15] k (fun kq v7 v15 w'=>∃ (x7_1:Int) (x15_1:Int),v7=.int .i64 x7_1∧v15=.int .i64 x15_1∧Aside0 (impl_circuit.l0 kq a1 a2 x7_1 t818 (t818.length:Int) x15_1 a0_0 l0_1=some r)∧Aside0 (kq≤k)∧Aside0 (Kd.R (Kd.int .i64) 3 w' w.heap.size (fun _=>True) (.slice Ao9 t818.length co9) t818)∧Aside0 (w'.heap[gb817]?=some (.cells #[.int .i64 a0_0,(.slice A0_1 l0_1.length c0_1)] 26 (0,0)))∧Aside0 (Below w.heap.size w w'))
 case atStart=>exact ⟨(ji5),(0),(by first|rfl|(simp;done)|(simp only [← hji5]<;>(first|rfl|simp))|(simp [*];done)),sT_,H',⟨Nat.le_refl _⟩,⟨kRC_ HO820.out⟩,⟨bkC_ BK817.out⟩,⟨h_HB HB.out⟩⟩
 case round =>
 clear H'
 try clear p2
 try clear c4
 try clear c4b0
 try clear c4b1
 try clear c5
 try clear p6
 obtain ⟨x7_1,x15_1,rfl,rfl,HA,HK1,HO_13,BK817,HB⟩:=hrel
 cases gk with
 | zero=>exact absurd HA.out (by simp [impl_circuit.l0])
 | succ k1 =>
 have H:=HA.out
 clear HA
 simp only [impl_circuit.l0] at H
 replace H:=gsn_ H;rcases H with ⟨c10b0,H⟩|⟨c10b0,H⟩
 ·obtain rfl:=Option.some.inj H
  go_wp2
  repeat (go_quiet (fail);try go_wp2)
  go_ret
  exact ⟨by first|rfl|(simp [errW_none,errW_some]<;>rfl)|(simp only [← hji5];first|rfl|(simp [errW_none,errW_some]<;>rfl))|(simp [*,errW_none,errW_some]<;>rfl),h_HB HB.out⟩
 replace H:=gsm_ H;obtain ⟨c11b0,H⟩:=H
 replace H:=gsm_ H;obtain ⟨c12b0,H⟩:=H
 replace H:=gsp_ H;obtain ⟨c13,H⟩:=H
 have c13b0:=eq_true c13
 have c13b1:decide (0≤(rd t818 x15_1))=true:=decide_eq_true c13
 clear c13
 obtain ⟨ji14,hji14⟩:∃ j_:Int,(shl .i64 1 (rd t818 x15_1))=j_:=⟨_,rfl⟩
 first |rw [hji14] at H|simp only [hji14] at H
 have hji14_:(IntKind.i64.wrap (1*2 ^ min (rd t818 x15_1).toNat 64))=ji14:=hji14
 have hji14z:(rd t818 x15_1)≤64→(IntKind.i64.wrap (1*2 ^ (rd t818 x15_1).toNat))=ji14:=shl_small hji14
 have hji14u:(IntKind.i64.wrap (2 ^ min (rd t818 x15_1).toNat 64))=ji14:=by have h_:=hji14_;rw [Int.one_mul] at h_;exact h_
 have hji14v:(rd t818 x15_1)≤64→(IntKind.i64.wrap (2 ^ (rd t818 x15_1).toNat))=ji14:=fun hle_=>by have h_:=hji14z hle_;rw [Int.one_mul] at h_;exact h_
 have hji14y:(wrap64 (1*2 ^ min (rd t818 x15_1).toNat 64))=ji14:=(i64_w _).symm.trans hji14_
 have hji14x:(rd t818 x15_1)≤64→(wrap64 (1*2 ^ (rd t818 x15_1).toNat))=ji14:=fun h_=>(i64_w _).symm.trans (hji14z h_)
 replace H:=gsp_ H;obtain ⟨c15,H⟩:=H
 have c15b0:=eq_true c15
 have c15b1:decide (0≤a2)=true:=decide_eq_true c15
 clear c15
 obtain ⟨ji16,hji16⟩:∃ j_:Int,(shl .i64 1 a2)=j_:=⟨_,rfl⟩
 first |rw [hji16] at H|simp only [hji16] at H
 have hji16_:(IntKind.i64.wrap (1*2 ^ min a2.toNat 64))=ji16:=hji16
 have hji16z:a2≤64→(IntKind.i64.wrap (1*2 ^ a2.toNat))=ji16:=shl_small hji16
 have hji16u:(IntKind.i64.wrap (2 ^ min a2.toNat 64))=ji16:=by have h_:=hji16_;rw [Int.one_mul] at h_;exact h_
 have hji16v:a2≤64→(IntKind.i64.wrap (2 ^ a2.toNat))=ji16:=fun hle_=>by have h_:=hji16z hle_;rw [Int.one_mul] at h_;exact h_
 have hji16y:(wrap64 (1*2 ^ min a2.toNat 64))=ji16:=(i64_w _).symm.trans hji16_
 have hji16x:a2≤64→(wrap64 (1*2 ^ a2.toNat))=ji16:=fun h_=>(i64_w _).symm.trans (hji16z h_)
 (try clear hji5)
 (try clear hji5w)
 (try clear hji5_)
 (try clear hji5z)
 (try clear hji5u)
 (try clear hji5v)
 (try clear hji5y)
 (try clear hji5x)
 replace H:=bnd_ H;obtain ⟨t822,A17,H⟩:=H
 replace H:=(gst_ H).symm;rcases H with ⟨rfl,H⟩|⟨rfl,H⟩
 ·have H':=Aside0.mk H
  clear H
  obtain ⟨ad821,e821,hx821_0,p821,q821⟩:=aiI_ (Kd.R_reads' HO_13.out).2.2 x15_1
  cases e821
  obtain ⟨hcz21_0,hcz21_1,hfz21_0,hfz21_1⟩:=bz2_ BK817.out
  go_wp2_with (first|(go_at_call 49;(with_reducible refine (impl_HasSet.calls k1 _ _ l0_1 (Go.bits .or .i64 (Go.bits .andNot .i64 a1 (ji14)) (ji16)) false _ ?side1 ?side2 A17.out).mono ?_);(case side1=>exact cC_ HR0_1.out);(case side2=>exact HC0_1.out);rintro e w' ⟨rfl,⟨nd,rfl⟩⟩;(try first|exact ⟨rfl,_,World.drewN_drewN _ _ _⟩|exact ⟨rfl,_,Eq.trans (World.drewN_drewN _ _ _) (congrArg (World.drewN _) (Nat.add_assoc _ _ _))⟩)))
  repeat (go_quiet (first|(go_at_call 49;(with_reducible refine (impl_HasSet.calls k1 _ _ l0_1 (Go.bits .or .i64 (Go.bits .andNot .i64 a1 (ji14)) (ji16)) false _ ?side1 ?side2 A17.out).mono ?_);(case side1=>exact cC_ HR0_1.out);(case side2=>exact HC0_1.out);rintro e w' ⟨rfl,⟨nd,rfl⟩⟩;(try first|exact ⟨rfl,_,World.drewN_drewN _ _ _⟩|exact ⟨rfl,_,Eq.trans (World.drewN_drewN _ _ _) (congrArg (World.drewN _) (Nat.add_assoc _ _ _))⟩)));try go_wp2_with (first|(go_at_call 49;(with_reducible refine (impl_HasSet.calls k1 _ _ l0_1 (Go.bits .or .i64 (Go.bits .andNot .i64 a1 (ji14)) (ji16)) false _ ?side1 ?side2 A17.out).mono ?_);(case side1=>exact cC_ HR0_1.out);(case side2=>exact HC0_1.out);rintro e w' ⟨rfl,⟨nd,rfl⟩⟩;(try first|exact ⟨rfl,_,World.drewN_drewN _ _ _⟩|exact ⟨rfl,_,Eq.trans (World.drewN_drewN _ _ _) (congrArg (World.drewN _) (Nat.add_assoc _ _ _))⟩))))
  go_roundg k1
  case measure=>have:=HK1.out;omega
  case rel=>exact ⟨(x7_1),(wrap64 (x15_1+1)),sT_,sT_,H',⟨by have:=HK1.out;omega⟩,⟨kRC_ HO_13.out⟩,⟨bkC_ BK817.out⟩,⟨h_HB HB.out⟩⟩
 have c19b0:=eq_true (odT_:0≤(rd t818 x15_1))
 have H':=Aside0.mk H
 clear H
 obtain ⟨ad821,e821,hx821_0,p821,q821⟩:=aiI_ (Kd.R_reads' HO_13.out).2.2 x15_1
 cases e821
 obtain ⟨hcz20_0,hcz20_1,hfz20_0,hfz20_1⟩:=bz2_ BK817.out
 go_wp2_with (first|(go_at_call 49;(with_reducible refine (impl_HasSet.calls k1 _ _ l0_1 (Go.bits .or .i64 (Go.bits .andNot .i64 a1 (ji14)) (ji16)) true _ ?side1 ?side2 A17.out).mono ?_);(case side1=>exact cC_ HR0_1.out);(case side2=>exact HC0_1.out);rintro e w' ⟨rfl,⟨nd,rfl⟩⟩;(try first|exact ⟨rfl,_,World.drewN_drewN _ _ _⟩|exact ⟨rfl,_,Eq.trans (World.drewN_drewN _ _ _) (congrArg (World.drewN _) (Nat.add_assoc _ _ _))⟩)))
 repeat (go_quiet (first|(go_at_call 49;(with_reducible refine (impl_HasSet.calls k1 _ _ l0_1 (Go.bits .or .i64 (Go.bits .andNot .i64 a1 (ji14)) (ji16)) true _ ?side1 ?side2 A17.out).mono ?_);(case side1=>exact cC_ HR0_1.out);(case side2=>exact HC0_1.out);rintro e w' ⟨rfl,⟨nd,rfl⟩⟩;(try first|exact ⟨rfl,_,World.drewN_drewN _ _ _⟩|exact ⟨rfl,_,Eq.trans (World.drewN_drewN _ _ _) (congrArg (World.drewN _) (Nat.add_assoc _ _ _))⟩)));try go_wp2_with (first|(go_at_call 49;(with_reducible refine (impl_HasSet.calls k1 _ _ l0_1 (Go.bits .or .i64 (Go.bits .andNot .i64 a1 (ji14)) (ji16)) true _ ?side1 ?side2 A17.out).mono ?_);(case side1=>exact cC_ HR0_1.out);(case side2=>exact HC0_1.out);rintro e w' ⟨rfl,⟨nd,rfl⟩⟩;(try first|exact ⟨rfl,_,World.drewN_drewN _ _ _⟩|exact ⟨rfl,_,Eq.trans (World.drewN_drewN _ _ _) (congrArg (World.drewN _) (Nat.add_assoc _ _ _))⟩))))
 go_roundg k1
 case measure=>have:=HK1.out;omega
 case rel=>exact ⟨(Go.bits .or .i64 x7_1 (ji14)),(wrap64 (x15_1+1)),(by first|rfl|(simp;done)|(simp only [← hji14]<;>(first|rfl|simp))|(simp [*];done)),sT_,H',⟨by have:=HK1.out;omega⟩,⟨kRC_ HO_13.out⟩,⟨bkC_ BK817.out⟩,⟨h_HB HB.out⟩⟩
def impl_CircuitOf.f (k:Nat) (a0_0:Int) (l0_1:List Int) (a1:Int) (a2:Int):Option (Int):=(impl_IsMatroid.f k a0_0 l0_1).bind fun t824=>(if t824=true then ((impl_HasSet.f k l0_1 a1).bind fun t825=>(if t825=true then (if a2<0 then (some 0) else (if a2≥a0_0 then (some 0) else ((impl_HasElement.f a1 a2).bind fun t826=>(if t826=true then (some 0) else ((impl_circuit.f k a0_0 l0_1 a1 a2).bind fun t827=>(some t827)))))) else (some 0))) else (some 0))
theorem impl_CircuitOf.calls (k:Nat) (a0_0:Int) (A0_1:Option Addr) (c0_1:Nat) (l0_1:List Int) (a1:Int) (a2:Int) (r:Int) (w:World) (hr0_1:Kd.C (Kd.int .i64) w A0_1 l0_1.length l0_1) (hc0_1:l0_1.length≤c0_1) (h:impl_CircuitOf.f k a0_0 l0_1 a1 a2=some r) :
    Calls Tryz.prog 13 #[.agg #[.int .i64 a0_0,.slice A0_1 l0_1.length c0_1],.int .i64 a1,.int .i64 a2] w fun e w'=>e=.returned (.int .i64 r)∧Below w.heap.size w w':=by
 have hu26:=Tryz.underlying26
 have HR0_1:=Aside0.mk hr0_1
 have HC0_1:=Aside0.mk hc0_1
 clear hr0_1 hc0_1
 have HB:=Aside0.mk (Below.refl w.heap.size w)
 unfold impl_CircuitOf.f at h
 have H:=h
 clear h
 replace H:=bnd_ H;obtain ⟨t824,A4,H⟩:=H
 replace H:=(gst_ H).symm;rcases H with ⟨rfl,H⟩|⟨rfl,H⟩
 ·obtain rfl:=Option.some.inj H
  go_enter Tryz.func13,Tryz.ntmps13
  go_wp2_with (first|((with_reducible refine gate_dst (N:=3) rfl ?_);refine bx_ (N:=3) (cs:=#[.int .i64 a0_0,.slice A0_1 l0_1.length c0_1]) (t:=26) ?_;intro gb823 hg w34 hbox hb;have BK823:=Aside0.mk (hbox);have GW823:=Aside0.mk (gw_ hg (h_HB HB.out));have GE823:=GW823;replace HB:=s_HB HB.out hb;clear hb hbox hg;obtain ⟨hcz35_0,hcz35_1,hfz35_0,hfz35_1⟩:=bz2_ BK823.out)|((with_reducible refine gate_callee (f:=25) rfl ?_);refine goesL_ (some 8) rfl rfl Tryz.func25 krT_ rfl #[.agg #[.int .i64 a0_0,.slice A0_1 l0_1.length c0_1]] rfl agT_ ?_;(with_reducible refine (impl_IsMatroid.calls k a0_0 _ _ l0_1 false _ ?side1 ?side2 A4.out).mono ?_);(case side1=>exact cC_ HR0_1.out);(case side2=>exact HC0_1.out);rintro e w36 ⟨rfl,hb⟩;refine ⟨_,rfl,?_⟩;replace BK823:=sBK_ BK823.out hb;replace HB:=s_HB HB.out hb;(try clear hb)))
  go_ret
  exact ⟨eT_,h_HB HB.out⟩
 replace H:=bnd_ H;obtain ⟨t825,A6,H⟩:=H
 replace H:=(gst_ H).symm;rcases H with ⟨rfl,H⟩|⟨rfl,H⟩
 ·obtain rfl:=Option.some.inj H
  go_enter Tryz.func13,Tryz.ntmps13
  go_wp2_with (first|((with_reducible refine gate_dst (N:=3) rfl ?_);refine bx_ (N:=3) (cs:=#[.int .i64 a0_0,.slice A0_1 l0_1.length c0_1]) (t:=26) ?_;intro gb823 hg w30 hbox hb;have BK823:=Aside0.mk (hbox);have GW823:=Aside0.mk (gw_ hg (h_HB HB.out));have GE823:=GW823;replace HB:=s_HB HB.out hb;clear hb hbox hg;obtain ⟨hcz31_0,hcz31_1,hfz31_0,hfz31_1⟩:=bz2_ BK823.out)|((with_reducible refine gate_callee (f:=25) rfl ?_);refine goesL_ (some 8) rfl rfl Tryz.func25 krT_ rfl #[.agg #[.int .i64 a0_0,.slice A0_1 l0_1.length c0_1]] rfl agT_ ?_;(with_reducible refine (impl_IsMatroid.calls k a0_0 _ _ l0_1 true _ ?side1 ?side2 A4.out).mono ?_);(case side1=>exact cC_ HR0_1.out);(case side2=>exact HC0_1.out);rintro e w32 ⟨rfl,hb⟩;refine ⟨_,rfl,?_⟩;replace BK823:=sBK_ BK823.out hb;replace HB:=s_HB HB.out hb;(try clear hb);obtain ⟨hcz33_0,hcz33_1,hfz33_0,hfz33_1⟩:=bz2_ BK823.out)|(go_at_call 49;(with_reducible refine (impl_HasSet.calls k _ _ l0_1 a1 false _ ?side1 ?side2 A6.out).mono ?_);(case side1=>exact cC_ HR0_1.out);(case side2=>exact HC0_1.out);rintro e w' ⟨rfl,⟨nd,rfl⟩⟩))
  go_ret
  exact ⟨eT_,h_HB HB.out⟩
 replace H:=gsb_ H;rcases H with ⟨c8b0,H⟩|⟨c8b0,H⟩
 ·obtain rfl:=Option.some.inj H
  go_enter Tryz.func13,Tryz.ntmps13
  go_wp2_with (first|((with_reducible refine gate_dst (N:=3) rfl ?_);refine bx_ (N:=3) (cs:=#[.int .i64 a0_0,.slice A0_1 l0_1.length c0_1]) (t:=26) ?_;intro gb823 hg w9 hbox hb;have BK823:=Aside0.mk (hbox);have GW823:=Aside0.mk (gw_ hg (h_HB HB.out));have GE823:=GW823;replace HB:=s_HB HB.out hb;clear hb hbox hg;obtain ⟨hcz10_0,hcz10_1,hfz10_0,hfz10_1⟩:=bz2_ BK823.out)|((with_reducible refine gate_callee (f:=25) rfl ?_);refine goesL_ (some 8) rfl rfl Tryz.func25 krT_ rfl #[.agg #[.int .i64 a0_0,.slice A0_1 l0_1.length c0_1]] rfl agT_ ?_;(with_reducible refine (impl_IsMatroid.calls k a0_0 _ _ l0_1 true _ ?side1 ?side2 A4.out).mono ?_);(case side1=>exact cC_ HR0_1.out);(case side2=>exact HC0_1.out);rintro e w11 ⟨rfl,hb⟩;refine ⟨_,rfl,?_⟩;replace BK823:=sBK_ BK823.out hb;replace HB:=s_HB HB.out hb;(try clear hb);obtain ⟨hcz12_0,hcz12_1,hfz12_0,hfz12_1⟩:=bz2_ BK823.out)|(go_at_call 49;(with_reducible refine (impl_HasSet.calls k _ _ l0_1 a1 true _ ?side1 ?side2 A6.out).mono ?_);(case side1=>exact cC_ HR0_1.out);(case side2=>exact HC0_1.out);rintro e w' ⟨rfl,⟨nd,rfl⟩⟩))
  go_ret
  exact ⟨eT_,h_HB HB.out⟩
 replace H:=gsq_ H;rcases H with ⟨c13,H⟩|⟨c13,H⟩
 ·have c13b0:decide (a0_0≤a2)=true:=decide_eq_true c13
  clear c13
  obtain rfl:=Option.some.inj H
  go_enter Tryz.func13,Tryz.ntmps13
  go_wp2_with (first|((with_reducible refine gate_dst (N:=3) rfl ?_);refine bx_ (N:=3) (cs:=#[.int .i64 a0_0,.slice A0_1 l0_1.length c0_1]) (t:=26) ?_;intro gb823 hg w14 hbox hb;have BK823:=Aside0.mk (hbox);have GW823:=Aside0.mk (gw_ hg (h_HB HB.out));have GE823:=GW823;replace HB:=s_HB HB.out hb;clear hb hbox hg;obtain ⟨hcz15_0,hcz15_1,hfz15_0,hfz15_1⟩:=bz2_ BK823.out)|((with_reducible refine gate_callee (f:=25) rfl ?_);refine goesL_ (some 8) rfl rfl Tryz.func25 krT_ rfl #[.agg #[.int .i64 a0_0,.slice A0_1 l0_1.length c0_1]] rfl agT_ ?_;(with_reducible refine (impl_IsMatroid.calls k a0_0 _ _ l0_1 true _ ?side1 ?side2 A4.out).mono ?_);(case side1=>exact cC_ HR0_1.out);(case side2=>exact HC0_1.out);rintro e w16 ⟨rfl,hb⟩;refine ⟨_,rfl,?_⟩;replace BK823:=sBK_ BK823.out hb;replace HB:=s_HB HB.out hb;(try clear hb);obtain ⟨hcz17_0,hcz17_1,hfz17_0,hfz17_1⟩:=bz2_ BK823.out)|(go_at_call 49;(with_reducible refine (impl_HasSet.calls k _ _ l0_1 a1 true _ ?side1 ?side2 A6.out).mono ?_);(case side1=>exact cC_ HR0_1.out);(case side2=>exact HC0_1.out);rintro e w' ⟨rfl,⟨nd,rfl⟩⟩))
  go_ret
  exact ⟨eT_,h_HB HB.out⟩
 have c13b0:decide (a0_0≤a2)=false:=decide_eq_false c13
 clear c13
 replace H:=bnd_ H;obtain ⟨t826,A18,H⟩:=H
 replace H:=gst_ H;rcases H with ⟨rfl,H⟩|⟨rfl,H⟩
 ·obtain rfl:=Option.some.inj H
  go_enter Tryz.func13,Tryz.ntmps13
  go_wp2_with (first|((with_reducible refine gate_dst (N:=3) rfl ?_);refine bx_ (N:=3) (cs:=#[.int .i64 a0_0,.slice A0_1 l0_1.length c0_1]) (t:=26) ?_;intro gb823 hg w20 hbox hb;have BK823:=Aside0.mk (hbox);have GW823:=Aside0.mk (gw_ hg (h_HB HB.out));have GE823:=GW823;replace HB:=s_HB HB.out hb;clear hb hbox hg;obtain ⟨hcz21_0,hcz21_1,hfz21_0,hfz21_1⟩:=bz2_ BK823.out)|((with_reducible refine gate_callee (f:=25) rfl ?_);refine goesL_ (some 8) rfl rfl Tryz.func25 krT_ rfl #[.agg #[.int .i64 a0_0,.slice A0_1 l0_1.length c0_1]] rfl agT_ ?_;(with_reducible refine (impl_IsMatroid.calls k a0_0 _ _ l0_1 true _ ?side1 ?side2 A4.out).mono ?_);(case side1=>exact cC_ HR0_1.out);(case side2=>exact HC0_1.out);rintro e w22 ⟨rfl,hb⟩;refine ⟨_,rfl,?_⟩;replace BK823:=sBK_ BK823.out hb;replace HB:=s_HB HB.out hb;(try clear hb);obtain ⟨hcz23_0,hcz23_1,hfz23_0,hfz23_1⟩:=bz2_ BK823.out)|(go_at_call 49;(with_reducible refine (impl_HasSet.calls k _ _ l0_1 a1 true _ ?side1 ?side2 A6.out).mono ?_);(case side1=>exact cC_ HR0_1.out);(case side2=>exact HC0_1.out);rintro e w' ⟨rfl,⟨nd,rfl⟩⟩)|(go_at_call 50;(with_reducible refine (impl_HasElement.calls a1 a2 true _ A18.out).mono ?_);rintro e w' ⟨rfl,⟨nd,rfl⟩⟩))
  go_ret
  exact ⟨eT_,h_HB HB.out⟩
 replace H:=bnd_ H;obtain ⟨t827,A24,H⟩:=H
 obtain rfl:=Option.some.inj H
 go_enter Tryz.func13,Tryz.ntmps13
 go_wp2_with (first|((with_reducible refine gate_dst (N:=3) rfl ?_);refine bx_ (N:=3) (cs:=#[.int .i64 a0_0,.slice A0_1 l0_1.length c0_1]) (t:=26) ?_;intro gb823 hg w25 hbox hb;have BK823:=Aside0.mk (hbox);have GW823:=Aside0.mk (gw_ hg (h_HB HB.out));have GE823:=GW823;replace HB:=s_HB HB.out hb;clear hb hbox hg;obtain ⟨hcz26_0,hcz26_1,hfz26_0,hfz26_1⟩:=bz2_ BK823.out)|((with_reducible refine gate_callee (f:=25) rfl ?_);refine goesL_ (some 8) rfl rfl Tryz.func25 krT_ rfl #[.agg #[.int .i64 a0_0,.slice A0_1 l0_1.length c0_1]] rfl agT_ ?_;(with_reducible refine (impl_IsMatroid.calls k a0_0 _ _ l0_1 true _ ?side1 ?side2 A4.out).mono ?_);(case side1=>exact cC_ HR0_1.out);(case side2=>exact HC0_1.out);rintro e w27 ⟨rfl,hb⟩;refine ⟨_,rfl,?_⟩;replace BK823:=sBK_ BK823.out hb;replace HB:=s_HB HB.out hb;(try clear hb);obtain ⟨hcz28_0,hcz28_1,hfz28_0,hfz28_1⟩:=bz2_ BK823.out)|(go_at_call 49;(with_reducible refine (impl_HasSet.calls k _ _ l0_1 a1 true _ ?side1 ?side2 A6.out).mono ?_);(case side1=>exact cC_ HR0_1.out);(case side2=>exact HC0_1.out);rintro e w' ⟨rfl,⟨nd,rfl⟩⟩)|(go_at_call 50;(with_reducible refine (impl_HasElement.calls a1 a2 false _ A18.out).mono ?_);rintro e w' ⟨rfl,⟨nd,rfl⟩⟩)|((with_reducible refine gate_callee (f:=51) rfl ?_);refine goesL_ (some 35) rfl rfl Tryz.func51 krT_ rfl #[.agg #[.int .i64 a0_0,.slice A0_1 l0_1.length c0_1],.int .i64 a1,.int .i64 a2] rfl agT_ ?_;(with_reducible refine (impl_circuit.calls k a0_0 _ _ l0_1 a1 a2 t827 _ ?side1 ?side2 A24.out).mono ?_);(case side1=>repeat (first|exact (Kd.C_below HR0_1.out (h_HB HB.out))|(with_reducible refine Kd.C_alloc ?_ _)|(with_reducible refine Kd.C_drewN ?_ _)|(with_reducible refine Kd.C_drew ?_)));(case side2=>exact HC0_1.out);rintro e w29 ⟨rfl,hb⟩;refine ⟨_,rfl,?_⟩;replace BK823:=sBK_ BK823.out hb;replace HB:=s_HB HB.out hb;(try clear hb)))
 go_ret
 exact ⟨eT_,h_HB HB.out⟩
def laws_sameInts.l0:Nat→List Int→List Int→Int→Option (Bool)
 | 0,_,_,_=>none
 | k+1,x0,x1,x5=>if x5<(x0.length:Int) then (if 0≤x5 then (if x5<(x1.length:Int) then (if (rd x0 x5)=(rd x1 x5) then (laws_sameInts.l0 k x0 x1 (wrap64 (x5+1))) else (some false)) else (none)) else (none)) else (some true)
def laws_sameInts.f (k:Nat) (l0:List Int) (l1:List Int):Option (Bool):=if (l0.length:Int)=(l1.length:Int) then (laws_sameInts.l0 k l0 l1 0) else (some false)
theorem laws_sameInts.calls (k:Nat) (A0:Option Addr) (c0:Nat) (l0:List Int) (A1:Option Addr) (c1:Nat) (l1:List Int) (r:Bool) (w:World) (hr0:Kd.C (Kd.int .i64) w A0 l0.length l0) (hc0:l0.length≤c0) (hr1:Kd.C (Kd.int .i64) w A1 l1.length l1) (hc1:l1.length≤c1) (h:laws_sameInts.f k l0 l1=some r) :
    Calls Tryz.prog 14 #[.slice A0 l0.length c0,.slice A1 l1.length c1] w fun e w'=>e=.returned (.bool r)∧Drawn0 w w':=by
 have HR0:=Aside0.mk hr0
 have HC0:=Aside0.mk hc0
 clear hr0 hc0
 have HR1:=Aside0.mk hr1
 have HC1:=Aside0.mk hc1
 clear hr1 hc1
 have H:(if (l0.length:Int)=(l1.length:Int) then (laws_sameInts.l0 k l0 l1 0) else (some false))=some r:=h
 clear h
 replace H:=(gsq_ H).symm;rcases H with ⟨c3,H⟩|⟨c3,H⟩
 ·have c3b0:((l0.length:Int)==(l1.length:Int))=false:=beq_eq_false_iff_ne.mpr c3
  have c3b1:((l0.length:Int) != (l1.length:Int))=true:=bne_iff_ne.mpr c3
  have c3b2:(l0.length==l1.length)=false:=by first|simpa using c3|(simp at c3 ⊢;omega)
  obtain rfl:=Option.some.inj H
  go_enter Tryz.func14,Tryz.ntmps14
  go_wp2
  repeat (go_quiet (fail);try go_wp2)
  go_ret
  exact ⟨sT_,dT_⟩
 have c3b0:((l0.length:Int)==(l1.length:Int))=true:=beq_iff_eq.mpr c3
 have c3b1:((l0.length:Int) != (l1.length:Int))=false:=bne_eq_false_iff_eq.mpr c3
 have c3b2:(l0.length==l1.length)=true:=by first|simpa using c3|(simp at c3 ⊢;omega)
 clear c3
 have H':=Aside0.mk H
 clear H
 go_enter Tryz.func14,Tryz.ntmps14
 go_wp2
 repeat (go_quiet (fail);try go_wp2)
 go_loopg [5] k (fun kq v5 w'=>∃ (x5_1:Int),v5=.int .i64 x5_1∧Aside0 (laws_sameInts.l0 kq l0 l1 x5_1=some r)∧Aside0 (kq≤k)∧Drawn0 w w')
 case atStart=>exact ⟨(0),sT_,H',⟨Nat.le_refl _⟩,dT_⟩
 case round =>
 clear H'
 try clear c1
 try clear p2
 try clear c3
 try clear c3b0
 try clear c3b1
 try clear c3b2
 obtain ⟨x5_1,rfl,HA,HK1,⟨m1,rfl⟩⟩:=hrel
 cases gk with
 | zero=>exact absurd HA.out (by simp [laws_sameInts.l0])
 | succ k1 =>
 have H:=HA.out
 clear HA
 simp only [laws_sameInts.l0] at H
 replace H:=gsn_ H;rcases H with ⟨c4b0,H⟩|⟨c4b0,H⟩
 ·obtain rfl:=Option.some.inj H
  go_wp2
  repeat (go_quiet (fail);try go_wp2)
  go_ret
  exact ⟨sT_,dT_⟩
 replace H:=gsm_ H;obtain ⟨c5b0,H⟩:=H
 replace H:=gsm_ H;obtain ⟨c6b0,H⟩:=H
 replace H:=(gse_ H).symm;rcases H with ⟨c7b0,c7b1,c7,H⟩|⟨c7b0,c7b1,H⟩
 ·obtain rfl:=Option.some.inj H
  obtain ⟨ad828,e828,hx828_0,p828,q828⟩:=aiI_ HR0.out x5_1
  cases e828
  obtain ⟨ad829,e829,hx829_0,p829,q829⟩:=aiI_ HR1.out x5_1
  cases e829
  go_wp2
  repeat (go_quiet (fail);try go_wp2)
  go_ret
  exact ⟨sT_,dT_⟩
 have H':=Aside0.mk H
 clear H
 obtain ⟨ad828,e828,hx828_0,p828,q828⟩:=aiI_ HR0.out x5_1
 cases e828
 obtain ⟨ad829,e829,hx829_0,p829,q829⟩:=aiI_ HR1.out x5_1
 cases e829
 go_wp2
 repeat (go_quiet (fail);try go_wp2)
 go_roundg k1
 case measure=>have:=HK1.out;omega
 case rel=>exact ⟨(wrap64 (x5_1+1)),sT_,H',⟨by have:=HK1.out;omega⟩,dT_⟩
mutual
def spec_EqualMatroid.j0:Nat→Bool→Int→List Int→Int→List Int→Option (Bool)
 | 0,_,_,_,_,_=>none
 | k+1,x19,x831000,x831001,x832000,x832001=>if x19=true then (some false) else (spec_EqualMatroid.l0 k 0 x831000 x831001 x832000 x832001)
def spec_EqualMatroid.l0:Nat→Int→Int→List Int→Int→List Int→Option (Bool)
 | 0,_,_,_,_,_=>none
 | k+1,x5,x831000,x831001,x832000,x832001=>if x5<(x831001.length:Int) then (if 0≤x5 then (if x5<(x832001.length:Int) then (if (rd x831001 x5)=(rd x832001 x5) then (spec_EqualMatroid.l0 k (wrap64 (x5+1)) x831000 x831001 x832000 x832001) else (some false)) else (none)) else (none)) else (some true)
end
def spec_EqualMatroid.f (k:Nat) (a0_0:Int) (l0_1:List Int) (a1_0:Int) (l1_1:List Int):Option (Bool):=if a0_0=a1_0 then (spec_EqualMatroid.j0 k ((l0_1.length:Int) != (l1_1.length:Int)) a0_0 l0_1 a1_0 l1_1) else (spec_EqualMatroid.j0 k true a0_0 l0_1 a1_0 l1_1)
theorem spec_EqualMatroid.calls (k:Nat) (a0_0:Int) (A0_1:Option Addr) (c0_1:Nat) (l0_1:List Int) (a1_0:Int) (A1_1:Option Addr) (c1_1:Nat) (l1_1:List Int) (r:Bool) (w:World) (hr0_1:Kd.C (Kd.int .i64) w A0_1 l0_1.length l0_1) (hc0_1:l0_1.length≤c0_1) (hr1_1:Kd.C (Kd.int .i64) w A1_1 l1_1.length l1_1) (hc1_1:l1_1.length≤c1_1) (h:spec_EqualMatroid.f k a0_0 l0_1 a1_0 l1_1=some r) :
    Calls Tryz.prog 16 #[.agg #[.int .i64 a0_0,.slice A0_1 l0_1.length c0_1],.agg #[.int .i64 a1_0,.slice A1_1 l1_1.length c1_1]] w fun e w'=>e=.returned (.bool r)∧Below w.heap.size w w':=by
 have hu26:=Tryz.underlying26
 have HR0_1:=Aside0.mk hr0_1
 have HC0_1:=Aside0.mk hc0_1
 clear hr0_1 hc0_1
 have HR1_1:=Aside0.mk hr1_1
 have HC1_1:=Aside0.mk hc1_1
 clear hr1_1 hc1_1
 have HB:=Aside0.mk (Below.refl w.heap.size w)
 unfold spec_EqualMatroid.f at h
 have H:=h
 clear h
 have HC3:=Aside0.mk H
 clear H
 go_enter Tryz.func16,Tryz.ntmps16
 go_upto_region 1 with (first|((with_reducible refine gate_dst (N:=2) rfl ?_);(try (refine gate_guard (by rfl) ?_;dsimp only));refine bx_ (N:=2) (cs:=#[.int .i64 a0_0,.slice A0_1 l0_1.length c0_1]) (t:=26) ?_;intro gb830 hg w4 hbox hb;have BK830:=Aside0.mk (hbox);have GW830:=Aside0.mk (gw_ hg (h_HB HB.out));have GE830:=GW830;replace HB:=s_HB HB.out hb;clear hb hbox hg)|((with_reducible refine gate_dst (N:=3) rfl ?_);(try (refine gate_guard (by rfl) ?_;dsimp only));refine bx_ (N:=3) (cs:=#[.int .i64 a1_0,.slice A1_1 l1_1.length c1_1]) (t:=26) ?_;intro gb831 hg w5 hbox hb;have BK831:=Aside0.mk (hbox);have GW831:=Aside0.mk (gw_ hg (h_HB HB.out));have GE831:=GW831;replace HB:=s_HB HB.out hb;have NB830_831:=Aside0.mk (nbl_ hg (bkC_ BK830.out));have NB831_830:=Aside0.mk NB830_831.out.symm;replace BK830:=sBK_ BK830.out hb;clear hb hbox hg))
 repeat (go_quiet (first|((with_reducible refine gate_dst (N:=2) rfl ?_);(try (refine gate_guard (by rfl) ?_;dsimp only));refine bx_ (N:=2) (cs:=#[.int .i64 a0_0,.slice A0_1 l0_1.length c0_1]) (t:=26) ?_;intro gb830 hg w4 hbox hb;have BK830:=Aside0.mk (hbox);have GW830:=Aside0.mk (gw_ hg (h_HB HB.out));have GE830:=GW830;replace HB:=s_HB HB.out hb;clear hb hbox hg)|((with_reducible refine gate_dst (N:=3) rfl ?_);(try (refine gate_guard (by rfl) ?_;dsimp only));refine bx_ (N:=3) (cs:=#[.int .i64 a1_0,.slice A1_1 l1_1.length c1_1]) (t:=26) ?_;intro gb831 hg w5 hbox hb;have BK831:=Aside0.mk (hbox);have GW831:=Aside0.mk (gw_ hg (h_HB HB.out));have GE831:=GW831;replace HB:=s_HB HB.out hb;have NB830_831:=Aside0.mk (nbl_ hg (bkC_ BK830.out));have NB831_830:=Aside0.mk NB830_831.out.symm;replace BK830:=sBK_ BK830.out hb;clear hb hbox hg));go_upto_region 1 with (first|((with_reducible refine gate_dst (N:=2) rfl ?_);(try (refine gate_guard (by rfl) ?_;dsimp only));refine bx_ (N:=2) (cs:=#[.int .i64 a0_0,.slice A0_1 l0_1.length c0_1]) (t:=26) ?_;intro gb830 hg w4 hbox hb;have BK830:=Aside0.mk (hbox);have GW830:=Aside0.mk (gw_ hg (h_HB HB.out));have GE830:=GW830;replace HB:=s_HB HB.out hb;clear hb hbox hg)|((with_reducible refine gate_dst (N:=3) rfl ?_);(try (refine gate_guard (by rfl) ?_;dsimp only));refine bx_ (N:=3) (cs:=#[.int .i64 a1_0,.slice A1_1 l1_1.length c1_1]) (t:=26) ?_;intro gb831 hg w5 hbox hb;have BK831:=Aside0.mk (hbox);have GW831:=Aside0.mk (gw_ hg (h_HB HB.out));have GE831:=GW831;replace HB:=s_HB HB.out hb;have NB830_831:=Aside0.mk (nbl_ hg (bkC_ BK830.out));have NB831_830:=Aside0.mk NB830_831.out.symm;replace BK830:=sBK_ BK830.out hb;clear hb hbox hg)))
 (try simp only [Act.put,List.setIfInBounds_toArray,List.set_cons_zero,List.set_cons_succ])
 go_cut [19] (fun v19 wc=>∃ (kq:Nat) (x19_2:Bool),v19=.bool x19_2∧Aside0 (spec_EqualMatroid.j0 kq x19_2 a0_0 l0_1 a1_0 l1_1=some r)∧Aside0 (kq≤k)∧Aside0 (wc.heap[gb830]?=some (.cells #[.int .i64 a0_0,(.slice A0_1 l0_1.length c0_1)] 26 (0,0)))∧Aside0 (wc.heap[gb831]?=some (.cells #[.int .i64 a1_0,(.slice A1_1 l1_1.length c1_1)] 26 (0,0)))∧Aside0 (Below w.heap.size w wc))
 case first =>
  have H:=HC3.out
  clear HC3
  replace H:=gse_ H;rcases H with ⟨c6b0,c6b1,H⟩|⟨c6b0,c6b1,c6,H⟩
  ·(first|rw [c6b0]|(simp only [i64_w,i32_w];rw [c6b0])|skip)
   have H':=Aside0.mk H
   clear H
   have hnb7:=NB830_831.out
   have hnc7:=NB831_830.out
   obtain ⟨hcz8_0,hcz8_1,hfz8_0,hfz8_1⟩:=bz2_ BK830.out
   obtain ⟨hcz9_0,hcz9_1,hfz9_0,hfz9_1⟩:=bz2_ BK831.out
   go_wp2
   repeat (go_quiet (fail);try go_wp2)
   go_meet
   case rel=>exact ⟨_,(((l0_1.length:Int) != (l1_1.length:Int))),sT_,H',⟨by first|omega|exact Nat.le_refl _⟩,⟨bkC_ BK830.out⟩,⟨bkC_ BK831.out⟩,⟨h_HB HB.out⟩⟩
  (first|rw [c6b0]|(simp only [i64_w,i32_w];rw [c6b0])|skip)
  have H':=Aside0.mk H
  clear H
  have hnb10:=NB830_831.out
  have hnc10:=NB831_830.out
  obtain ⟨hcz11_0,hcz11_1,hfz11_0,hfz11_1⟩:=bz2_ BK830.out
  obtain ⟨hcz12_0,hcz12_1,hfz12_0,hfz12_1⟩:=bz2_ BK831.out
  go_wp2
  repeat (go_quiet (fail);try go_wp2)
  go_meet
  case rel=>exact ⟨_,(true),sT_,H',⟨by first|omega|exact Nat.le_refl _⟩,⟨bkC_ BK830.out⟩,⟨bkC_ BK831.out⟩,⟨h_HB HB.out⟩⟩
 case rest =>
 clear HC3
 try clear c1
 try clear p2
 try clear c6
 try clear c6b0
 try clear c6b1
 try clear c7
 try clear c10
 try clear hcz11_0
 try clear hcz11_1
 try clear hcz12_0
 try clear hcz12_1
 try clear hcz8_0
 try clear hcz8_1
 try clear hcz9_0
 try clear hcz9_1
 try clear hfz11_0
 try clear hfz11_1
 try clear hfz12_0
 try clear hfz12_1
 try clear hfz8_0
 try clear hfz8_1
 try clear hfz9_0
 try clear hfz9_1
 obtain ⟨kq,x19_2,rfl,HA,HJ2,BK830,BK831,HB⟩:=hcut
 cases kq with
 | zero=>exact absurd HA.out (by simp [spec_EqualMatroid.j0])
 | succ kj2 =>
 have H:=HA.out
 clear HA
 simp only [spec_EqualMatroid.j0] at H
 replace H:=gst_ H;rcases H with ⟨rfl,H⟩|⟨rfl,H⟩
 ·obtain rfl:=Option.some.inj H
  go_wp2
  repeat (go_quiet (fail);try go_wp2)
  go_ret
  exact ⟨eT_,h_HB HB.out⟩
 have H':=Aside0.mk H
 clear H
 go_wp2
 repeat (go_quiet (fail);try go_wp2)
 go_loopg [5] kj2 (fun kq v5 w'=>∃ (x5_2:Int),v5=.int .i64 x5_2∧Aside0 (spec_EqualMatroid.l0 kq x5_2 a0_0 l0_1 a1_0 l1_1=some r)∧Aside0 (kq≤kj2)∧Aside0 (w'.heap[gb830]?=some (.cells #[.int .i64 a0_0,(.slice A0_1 l0_1.length c0_1)] 26 (0,0)))∧Aside0 (w'.heap[gb831]?=some (.cells #[.int .i64 a1_0,(.slice A1_1 l1_1.length c1_1)] 26 (0,0)))∧Aside0 (Below w.heap.size w w'))
 case atStart=>exact ⟨(0),sT_,H',⟨Nat.le_refl _⟩,⟨bkC_ BK830.out⟩,⟨bkC_ BK831.out⟩,⟨h_HB HB.out⟩⟩
 case round =>
 clear H'
 try clear c1
 try clear p2
 try clear c6
 try clear c6b0
 try clear c6b1
 try clear c7
 try clear c10
 try clear c13
 try clear hcz11_0
 try clear hcz11_1
 try clear hcz12_0
 try clear hcz12_1
 try clear hcz8_0
 try clear hcz8_1
 try clear hcz9_0
 try clear hcz9_1
 try clear hfz11_0
 try clear hfz11_1
 try clear hfz12_0
 try clear hfz12_1
 try clear hfz8_0
 try clear hfz8_1
 try clear hfz9_0
 try clear hfz9_1
 try clear p2
 obtain ⟨x5_2,rfl,HA,HK2,BK830,BK831,HB⟩:=hrel
 cases gk with
 | zero=>exact absurd HA.out (by simp [spec_EqualMatroid.l0])
 | succ k2 =>
 have H:=HA.out
 clear HA
 simp only [spec_EqualMatroid.l0] at H
 replace H:=gsn_ H;rcases H with ⟨c14b0,H⟩|⟨c14b0,H⟩
 ·obtain rfl:=Option.some.inj H
  have hnb24:=NB830_831.out
  have hnc24:=NB831_830.out
  obtain ⟨hcz25_0,hcz25_1,hfz25_0,hfz25_1⟩:=bz2_ BK830.out
  go_wp2
  repeat (go_quiet (fail);try go_wp2)
  go_ret
  exact ⟨eT_,h_HB HB.out⟩
 replace H:=gsm_ H;obtain ⟨c15b0,H⟩:=H
 replace H:=gsm_ H;obtain ⟨c16b0,H⟩:=H
 replace H:=(gse_ H).symm;rcases H with ⟨c17b0,c17b1,c17,H⟩|⟨c17b0,c17b1,H⟩
 ·obtain rfl:=Option.some.inj H
  have hnb21:=NB830_831.out
  have hnc21:=NB831_830.out
  obtain ⟨hcz22_0,hcz22_1,hfz22_0,hfz22_1⟩:=bz2_ BK830.out
  obtain ⟨ad832,e832,hx832_0,p832,q832⟩:=aiI_ HR0_1.out x5_2
  cases e832
  replace hx832_0:=(HB.out.cell (World.block_lt_of_cell? w _ hx832_0)).trans hx832_0
  obtain ⟨hcz23_0,hcz23_1,hfz23_0,hfz23_1⟩:=bz2_ BK831.out
  obtain ⟨ad833,e833,hx833_0,p833,q833⟩:=aiI_ HR1_1.out x5_2
  cases e833
  replace hx833_0:=(HB.out.cell (World.block_lt_of_cell? w _ hx833_0)).trans hx833_0
  go_wp2
  repeat (go_quiet (fail);try go_wp2)
  go_ret
  exact ⟨eT_,h_HB HB.out⟩
 have H':=Aside0.mk H
 clear H
 have hnb18:=NB830_831.out
 have hnc18:=NB831_830.out
 obtain ⟨hcz19_0,hcz19_1,hfz19_0,hfz19_1⟩:=bz2_ BK830.out
 obtain ⟨ad832,e832,hx832_0,p832,q832⟩:=aiI_ HR0_1.out x5_2
 cases e832
 replace hx832_0:=(HB.out.cell (World.block_lt_of_cell? w _ hx832_0)).trans hx832_0
 obtain ⟨hcz20_0,hcz20_1,hfz20_0,hfz20_1⟩:=bz2_ BK831.out
 obtain ⟨ad833,e833,hx833_0,p833,q833⟩:=aiI_ HR1_1.out x5_2
 cases e833
 replace hx833_0:=(HB.out.cell (World.block_lt_of_cell? w _ hx833_0)).trans hx833_0
 go_wp2
 repeat (go_quiet (fail);try go_wp2)
 go_roundg k2
 case measure=>have:=HJ2.out;have:=HK2.out;omega
 case rel=>exact ⟨(wrap64 (x5_2+1)),sT_,H',⟨by have:=HJ2.out;have:=HK2.out;omega⟩,⟨bkC_ BK830.out⟩,⟨bkC_ BK831.out⟩,⟨h_HB HB.out⟩⟩
end Go.Proofs.YtekegbacnagbcaaGreat.P
