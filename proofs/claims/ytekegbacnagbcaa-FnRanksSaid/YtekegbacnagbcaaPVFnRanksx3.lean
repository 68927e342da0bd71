-- written by gprint (a program of this session's, round the kit's print), out of the translation and hand-written texts
import Derived.Test.YtekegbacnagbcaaPVFnRanksx0
namespace Go.Proofs.Ytekegbacnagbcaa.P
open Go.RowKit Go.Proofs.YtekegbacnagbcaaW.PrintWords Go.Proofs.YtekegbacnagbcaaW.PrintLast Go.Proofs.YtekegbacnagbcaaW.PrintMore
attribute [local go_sem] max2_int min2_int max_two min_two max_three min_three max_four min_four   -- for this text's walks alone
set_option linter.unusedVariables false
set_option linter.unusedSimpArgs false
/-! ### spec_l1In: function 49 -/
def spec_l1In.f (a0:Int) (a1:Int) (a2:Int):Option (Bool):=if a0≥a1 then (some (decide (a0≤a2))) else (some false)
set_option maxHeartbeats 8000000 in
set_option maxRecDepth 100000 in
theorem spec_l1In.calls (a0:Int) (a1:Int) (a2:Int) (r:Bool) (w:World) (h:spec_l1In.f a0 a1 a2=some r) :
    Calls Try.prog 49 #[.int .i64 a0,.int .i64 a1,.int .i64 a2] w fun e w'=>e=.returned (.bool r)∧Drawn0 w w':=by
 have H:(if a0≥a1 then (some (decide (a0≤a2))) else (some false))=some r:=h
 clear h
 by_cases c4:a0≥a1
 ·rw [if_pos c4] at H
  have c4b0:decide (a1≤a0)=true:=decide_eq_true c4
  clear c4
  obtain rfl:=Option.some.inj H
  go_enter Try.func49,Try.ntmps49
  go_wp2
  go_ret
  exact ⟨sT_,dT_⟩
 rw [if_neg c4] at H
 have c4b0:decide (a1≤a0)=false:=decide_eq_false c4
 clear c4
 obtain rfl:=Option.some.inj H
 go_enter Try.func49,Try.ntmps49
 go_wp2
 go_ret
 exact ⟨sT_,dT_⟩
/-! ### spec_FullSet: function 25 -/
def spec_FullSet.f (a0:Int):Option (Int):=(spec_l1In.f a0 0 8).bind fun t189=>(if t189=true then (if 0≤(IntKind.u64.wrap (a0)) then (some (wrap64 ((shl .i64 1 (IntKind.u64.wrap (a0)))-1))) else (none)) else (some 0))
set_option maxHeartbeats 8000000 in
set_option maxRecDepth 100000 in
theorem spec_FullSet.calls (a0:Int) (r:Int) (w:World) (h:spec_FullSet.f a0=some r) :
    Calls Try.prog 25 #[.int .i64 a0] w fun e w'=>e=.returned (.int .i64 r)∧Drawn0 w w':=by
 unfold spec_FullSet.f at h
 have H:=h
 clear h
 replace H:=bnd_ H;obtain ⟨t189,A2,H⟩:=H
 by_cases c3:t189=true
 rotate_left
 ·replace c3:=Bool.eq_false_iff.mpr c3
  subst c3
  replace H:=bF_ H
  obtain rfl:=Option.some.inj H
  go_enter Try.func25,Try.ntmps25
  go_wp2_with (first|((with_reducible refine gate_callee (f:=49) rfl ?_);refine goesL_ (some 4) rfl rfl Try.func49 krT_ rfl #[.int .i64 a0,.int .i64 0,.int .i64 8] rfl agT_ ?_;(with_reducible refine (spec_l1In.calls a0 0 8 false _ A2.out).mono ?_);rintro e w' ⟨rfl,⟨nd,rfl⟩⟩;refine ⟨_,rfl,?_⟩))
  go_ret
  exact ⟨sT_,dT_⟩
 subst c3
 replace H:=bT_ H
 obtain ⟨ji4,hji4⟩:∃ j_:Int,(IntKind.u64.wrap (a0))=j_:=⟨_,rfl⟩
 replace H:(if 0≤(ji4) then (some (wrap64 ((shl .i64 1 (ji4))-1))) else (none))=some r:=by first|(rw [hji4] at H;exact H)|(simp only [hji4] at H ⊢;exact H)
 (try rw [hji4] at A2)
 by_cases c5:0≤(ji4)
 rotate_left
 ·rw [if_neg c5] at H
  exact absurd H (by simp)
 rw [if_pos c5] at H
 have c5b0:=eq_true c5
 have c5b1:decide (0≤(ji4))=true:=decide_eq_true c5
 clear c5
 obtain ⟨ji6,hji6⟩:∃ j_:Int,(shl .i64 1 (ji4))=j_:=⟨_,rfl⟩
 replace H:(some (wrap64 ((ji6)-1)))=some r:=by first|(rw [hji6] at H;exact H)|(simp only [hji6] at H ⊢;exact H)
 (try rw [hji6] at A2)
 have hji6_:(IntKind.i64.wrap (1*2 ^ min (ji4).toNat 64))=ji6:=hji6
 have hji6z:(ji4)≤64→(IntKind.i64.wrap (1*2 ^ (ji4).toNat))=ji6:=shl_small hji6
 have hji6u:(IntKind.i64.wrap (2 ^ min (ji4).toNat 64))=ji6:=by have h_:=hji6_;rw [Int.one_mul] at h_;exact h_
 have hji6v:(ji4)≤64→(IntKind.i64.wrap (2 ^ (ji4).toNat))=ji6:=fun hle_=>by have h_:=hji6z hle_;rw [Int.one_mul] at h_;exact h_
 have hji6y:(wrap64 (1*2 ^ min (ji4).toNat 64))=ji6:=(i64_w _).symm.trans hji6_
 have hji6x:(ji4)≤64→(wrap64 (1*2 ^ (ji4).toNat))=ji6:=fun h_=>(i64_w _).symm.trans (hji6z h_)
 obtain rfl:=Option.some.inj H
 go_enter Try.func25,Try.ntmps25
 go_wp2_with (first|((with_reducible refine gate_callee (f:=49) rfl ?_);refine goesL_ (some 4) rfl rfl Try.func49 krT_ rfl #[.int .i64 a0,.int .i64 0,.int .i64 8] rfl agT_ ?_;(with_reducible refine (spec_l1In.calls a0 0 8 true _ A2.out).mono ?_);rintro e w' ⟨rfl,⟨nd,rfl⟩⟩;refine ⟨_,rfl,?_⟩))
 go_ret
 exact ⟨by first|rfl|(simp;done)|(simp only [← hji4,← hji6]<;>(first|rfl|simp))|(simp [*];done),dT_⟩
/-! ### spec_IsSet: function 41 -/
def spec_IsSet.f (a0:Int) (a1:Int):Option (Bool):=(spec_l1In.f a0 0 8).bind fun t190=>(if t190=true then (if 0≤(IntKind.u64.wrap (a0)) then ((spec_l1In.f a1 0 (wrap64 ((shl .i64 1 (IntKind.u64.wrap (a0)))-1))).bind fun t191=>(some t191)) else (none)) else (some false))
set_option maxHeartbeats 8000000 in
set_option maxRecDepth 100000 in
theorem spec_IsSet.calls (a0:Int) (a1:Int) (r:Bool) (w:World) (h:spec_IsSet.f a0 a1=some r) :
    Calls Try.prog 41 #[.int .i64 a0,.int .i64 a1] w fun e w'=>e=.returned (.bool r)∧Drawn0 w w':=by
 unfold spec_IsSet.f at h
 have H:=h
 clear h
 replace H:=bnd_ H;obtain ⟨t190,A3,H⟩:=H
 by_cases c4:t190=true
 rotate_left
 ·replace c4:=Bool.eq_false_iff.mpr c4
  subst c4
  replace H:=bF_ H
  obtain rfl:=Option.some.inj H
  go_enter Try.func41,Try.ntmps41
  go_wp2_with (first|((with_reducible refine gate_callee (f:=49) rfl ?_);refine goesL_ (some 6) rfl rfl Try.func49 krT_ rfl #[.int .i64 a0,.int .i64 0,.int .i64 8] rfl agT_ ?_;(with_reducible refine (spec_l1In.calls a0 0 8 false _ A3.out).mono ?_);rintro e w' ⟨rfl,⟨nd,rfl⟩⟩;refine ⟨_,rfl,?_⟩))
  go_ret
  exact ⟨sT_,dT_⟩
 subst c4
 replace H:=bT_ H
 obtain ⟨ji5,hji5⟩:∃ j_:Int,(IntKind.u64.wrap (a0))=j_:=⟨_,rfl⟩
 replace H:(if 0≤(ji5) then ((spec_l1In.f a1 0 (wrap64 ((shl .i64 1 (ji5))-1))).bind fun t191=>(some t191)) else (none))=some r:=by first|(rw [hji5] at H;exact H)|(simp only [hji5] at H ⊢;exact H)
 (try rw [hji5] at A3)
 by_cases c6:0≤(ji5)
 rotate_left
 ·rw [if_neg c6] at H
  exact absurd H (by simp)
 rw [if_pos c6] at H
 have c6b0:=eq_true c6
 have c6b1:decide (0≤(ji5))=true:=decide_eq_true c6
 clear c6
 obtain ⟨ji7,hji7⟩:∃ j_:Int,(shl .i64 1 (ji5))=j_:=⟨_,rfl⟩
 replace H:((spec_l1In.f a1 0 (wrap64 ((ji7)-1))).bind fun t191=>(some t191))=some r:=by first|(rw [hji7] at H;exact H)|(simp only [hji7] at H ⊢;exact H)
 (try rw [hji7] at A3)
 have hji7_:(IntKind.i64.wrap (1*2 ^ min (ji5).toNat 64))=ji7:=hji7
 have hji7z:(ji5)≤64→(IntKind.i64.wrap (1*2 ^ (ji5).toNat))=ji7:=shl_small hji7
 have hji7u:(IntKind.i64.wrap (2 ^ min (ji5).toNat 64))=ji7:=by have h_:=hji7_;rw [Int.one_mul] at h_;exact h_
 have hji7v:(ji5)≤64→(IntKind.i64.wrap (2 ^ (ji5).toNat))=ji7:=fun hle_=>by have h_:=hji7z hle_;rw [Int.one_mul] at h_;exact h_
 have hji7y:(wrap64 (1*2 ^ min (ji5).toNat 64))=ji7:=(i64_w _).symm.trans hji7_
 have hji7x:(ji5)≤64→(wrap64 (1*2 ^ (ji5).toNat))=ji7:=fun h_=>(i64_w _).symm.trans (hji7z h_)
 replace H:=bnd_ H;obtain ⟨t191,A8,H⟩:=H
 obtain rfl:=Option.some.inj H
 go_enter Try.func41,Try.ntmps41
 go_wp2_with (first|((with_reducible refine gate_callee (f:=49) rfl ?_);refine goesL_ (some 6) rfl rfl Try.func49 krT_ rfl #[.int .i64 a0,.int .i64 0,.int .i64 8] rfl agT_ ?_;(with_reducible refine (spec_l1In.calls a0 0 8 true _ A3.out).mono ?_);rintro e w' ⟨rfl,⟨nd,rfl⟩⟩;refine ⟨_,rfl,?_⟩)|(go_at_call 49;(with_reducible refine (spec_l1In.calls a1 0 (wrap64 ((ji7)-1)) t191 _ A8.out).mono ?_);rintro e w' ⟨rfl,⟨nd,rfl⟩⟩))
 go_ret
 exact ⟨by first|rfl|(simp;done)|(simp only [← hji5,← hji7]<;>(first|rfl|simp))|(simp [*];done),dT_⟩
/-! ### spec_CountOf: function 26 -/
def spec_CountOf.l0:Nat→Int→Int→Option (Int)
 | 0,_,_=>none
 | k+1,x0,x3=>if x0>0 then (spec_CountOf.l0 k (x0 / 2) (wrap64 (x3+(Go.bits .and .i64 x0 1)))) else (some x3)
def spec_CountOf.f (k:Nat) (a0:Int):Option (Int):=(spec_IsSet.f 8 a0).bind fun t192=>(if t192=true then (spec_CountOf.l0 k a0 0) else (some 0))
set_option maxHeartbeats 8000000 in
set_option maxRecDepth 100000 in
theorem spec_CountOf.calls (k:Nat) (a0:Int) (r:Int) (w:World) (h:spec_CountOf.f k a0=some r) :
    Calls Try.prog 26 #[.int .i64 a0] w fun e w'=>e=.returned (.int .i64 r)∧Drawn0 w w':=by
 have H:((spec_IsSet.f 8 a0).bind fun t192=>(if t192=true then (spec_CountOf.l0 k a0 0) else (some 0)))=some r:=h
 clear h
 replace H:=bnd_ H;obtain ⟨t192,A2,H⟩:=H
 by_cases c3:t192=true
 rotate_left
 ·replace c3:=Bool.eq_false_iff.mpr c3
  subst c3
  replace H:=bF_ H
  obtain rfl:=Option.some.inj H
  go_enter Try.func26,Try.ntmps26
  go_wp2_with (first|((with_reducible refine gate_callee (f:=41) rfl ?_);refine goesL_ (some 5) rfl rfl Try.func41 krT_ rfl #[.int .i64 8,.int .i64 a0] rfl agT_ ?_;(with_reducible refine (spec_IsSet.calls 8 a0 false _ A2.out).mono ?_);rintro e w' ⟨rfl,⟨nd,rfl⟩⟩;refine ⟨_,rfl,?_⟩))
  go_ret
  exact ⟨sT_,dT_⟩
 subst c3
 replace H:=bT_ H
 have H':=Aside0.mk H
 clear H
 go_enter Try.func26,Try.ntmps26
 go_wp2_with (first|((with_reducible refine gate_callee (f:=41) rfl ?_);refine goesL_ (some 5) rfl rfl Try.func41 krT_ rfl #[.int .i64 8,.int .i64 a0] rfl agT_ ?_;(with_reducible refine (spec_IsSet.calls 8 a0 true _ A2.out).mono ?_);rintro e w' ⟨rfl,⟨nd,rfl⟩⟩;refine ⟨_,rfl,?_⟩))
 go_loopg [0,3] k (fun kq v0 v3 w'=>∃ (x0_1:Int) (x3_1:Int),v0=.int .i64 x0_1∧v3=.int .i64 x3_1∧Aside0 (spec_CountOf.l0 kq x0_1 x3_1=some r)∧Aside0 (kq≤k)∧Drawn0 w w')
 case atStart=>exact ⟨(a0),(0),sT_,sT_,H',⟨Nat.le_refl _⟩,dT_⟩
 case round =>
 clear H'
 try clear c2
 try clear p2
 try clear c3
 obtain ⟨x0_1,x3_1,rfl,rfl,HA,HK1,⟨m1,rfl⟩⟩:=hrel
 cases gk with
 | zero=>exact absurd HA.out (by simp [spec_CountOf.l0])
 | succ k1 =>
 have H:=HA.out
 clear HA
 simp only [spec_CountOf.l0] at H
 by_cases c4:x0_1>0
 ·rw [if_pos c4] at H
  have c4b0:decide (0<x0_1)=true:=decide_eq_true c4
  clear c4
  have H':=Aside0.mk H
  clear H
  go_wp2
  go_roundg k1
  case measure=>have:=HK1.out;omega
  case rel=>exact ⟨(x0_1 / 2),(wrap64 (x3_1+(Go.bits .and .i64 x0_1 1))),sT_,sT_,H',⟨by have:=HK1.out;omega⟩,dT_⟩
 ·rw [if_neg c4] at H
  have c4b0:decide (0<x0_1)=false:=decide_eq_false c4
  clear c4
  obtain rfl:=Option.some.inj H
  go_wp2
  go_ret
  exact ⟨sT_,dT_⟩
/-! ### spec_Uniform: function 66 -/
mutual
def spec_Uniform.j0:Nat→Int→Int→Bool→Option (Int × List Int)
 | 0,_,_,_=>none
 | k+1,x0,x1,x15=>if x15=true then (some (0,([]:List Int))) else (spec_Uniform.l0 k x0 x1 0 x1 ([]:List Int))
def spec_Uniform.l0:Nat→Int→Int→Int→Int→List Int→Option (Int × List Int)
 | 0,_,_,_,_,_=>none
 | k+1,x0,x1,x6,x197000,x197001=>(spec_FullSet.f x1).bind fun t197=>(if x6≤t197 then ((spec_CountOf.f k x6).bind fun t198=>(if t198=x0 then (if x197001.length<17592186044416 then (spec_Uniform.l0 k x0 x1 (wrap64 (x6+1)) x197000 (x197001++[x6])) else (none)) else (spec_Uniform.l0 k x0 x1 (wrap64 (x6+1)) x197000 x197001))) else (some (x197000,x197001)))
end
def spec_Uniform.f (k:Nat) (a0:Int) (a1:Int):Option (Int × List Int):=(spec_l1In.f a1 0 8).bind fun t194=>(if t194=true then ((spec_l1In.f a0 0 a1).bind fun t195=>(spec_Uniform.j0 k a0 a1 (!t195))) else (spec_Uniform.j0 k a0 a1 true))
set_option maxHeartbeats 8000000 in
set_option maxRecDepth 100000 in
theorem spec_Uniform.calls (k:Nat) (a0:Int) (a1:Int) (r1:Int) (r2:List Int) (w:World) (h:spec_Uniform.f k a0 a1=some (r1,r2)) :
    Calls Try.prog 66 #[.int .i64 a0,.int .i64 a1] w fun e w'=>∃ v1_:Value,e=.returned (.agg #[.int .i64 r1,v1_])∧Kd.R (Kd.int .i64) 3 w' w.heap.size (fun _=>True) v1_ r2∧Below w.heap.size w w':=by
 have hu26:=Try.underlying26
 have HB:=Aside0.mk (Below.refl w.heap.size w)
 unfold spec_Uniform.f at h
 have H:=h
 clear h
 have HC3:=Aside0.mk H
 clear H
 go_enter Try.func66,Try.ntmps66
 go_upto_region 1 with (first|((with_reducible refine gate_dst (N:=4) rfl ?_);refine bx_ (N:=4) (cs:=#[.int .i64 0,.slice none 0 0]) (t:=26) ?_;intro gb193 hg w4 hbox hb;have BK193:=Aside0.mk (hbox);have GW193:=Aside0.mk (gw_ hg (h_HB HB.out));have GE193:=Aside0.mk (gw_ hg (h_HB HB.out));replace HB:=Aside0.mk (below_step (h_HB HB.out) hb);clear hb hbox hg))
 (try simp only [Act.put,List.setIfInBounds_toArray,List.set_cons_zero,List.set_cons_succ])
 go_cut [15] (fun v15 wc=>∃ (kq:Nat) (x15_2:Bool),v15=.bool x15_2∧Aside0 (spec_Uniform.j0 kq a0 a1 x15_2=some (r1,r2))∧Aside0 (kq≤k)∧Aside0 (wc.heap[gb193]?=some (.cells #[.int .i64 0,(.slice none 0 0)] 26 (0,0)))∧Aside0 (Below w.heap.size w wc))
 case first =>
  have H:=HC3.out
  clear HC3
  replace H:=bnd_ H;obtain ⟨t194,A5,H⟩:=H
  by_cases c6:t194=true
  ·subst c6
   replace H:=bT_ H
   replace H:=bnd_ H;obtain ⟨t195,A7,H⟩:=H
   have H':=Aside0.mk H
   clear H
   go_wp2_with (first|((with_reducible refine gate_callee (f:=49) rfl ?_);refine goesL_ (some 8) rfl rfl Try.func49 krT_ rfl #[.int .i64 a1,.int .i64 0,.int .i64 8] rfl agT_ ?_;(with_reducible refine (spec_l1In.calls a1 0 8 true _ A5.out).mono ?_);rintro e w' ⟨rfl,⟨nd,rfl⟩⟩;refine ⟨_,rfl,?_⟩)|(go_at_call 49;(with_reducible refine (spec_l1In.calls a0 0 a1 t195 _ A7.out).mono ?_);rintro e w' ⟨rfl,⟨nd,rfl⟩⟩))
   go_meet
   case rel=>exact ⟨_,(!t195),sT_,H',⟨by first|omega|exact Nat.le_refl _⟩,⟨bkC_ BK193.out⟩,⟨h_HB HB.out⟩⟩
  replace c6:=Bool.eq_false_iff.mpr c6
  subst c6
  replace H:=bF_ H
  have H':=Aside0.mk H
  clear H
  go_wp2_with (first|((with_reducible refine gate_callee (f:=49) rfl ?_);refine goesL_ (some 8) rfl rfl Try.func49 krT_ rfl #[.int .i64 a1,.int .i64 0,.int .i64 8] rfl agT_ ?_;(with_reducible refine (spec_l1In.calls a1 0 8 false _ A5.out).mono ?_);rintro e w' ⟨rfl,⟨nd,rfl⟩⟩;refine ⟨_,rfl,?_⟩))
  go_meet
  case rel=>exact ⟨_,(true),sT_,H',⟨by first|omega|exact Nat.le_refl _⟩,⟨bkC_ BK193.out⟩,⟨h_HB HB.out⟩⟩
 case rest =>
 clear HC3
 try clear p2
 try clear c4
 try clear c6
 obtain ⟨kq,x15_2,rfl,HA,HJ2,BK193,HB⟩:=hcut
 cases kq with
 | zero=>exact absurd HA.out (by simp [spec_Uniform.j0])
 | succ kj2 =>
 have H:=HA.out
 clear HA
 simp only [spec_Uniform.j0] at H
 by_cases c8:x15_2=true
 ·subst c8
  replace H:=bT_ H
  simp only [Option.some.injEq,Prod.mk.injEq] at H
  obtain ⟨rfl,rfl⟩:=H
  obtain ⟨hcz9_0,hcz9_1,hfz9_0,hfz9_1⟩:=bz2_ BK193.out
  go_wp2
  refine bodyPost_ret (results_cell_row rfl _ _ gb193 26 #[.int .i64 0,.slice none 0 0] (0,0) _ rfl (by (with_reducible repeat (first|refine blk_drewN ?_ _|refine blk_drew ?_|refine blk_alloc ?_ _));refine blk_put (cs:=#[.int .i64 0,.slice none 0 0]) ?_ 1 _ rfl;(with_reducible repeat (first|refine blk_drewN ?_ _|refine blk_drew ?_|refine blk_alloc ?_ _));refine blk_put (cs:=#[.int .i64 0,.slice none 0 0]) ?_ 0 _ rfl;exact bkC_ BK193.out) Try.underlying26 rfl krT_) rfl ?_
  exact ⟨_,eT_,by first|exact Kd.R_nil _ _ _ _ _|exact Kd.N_nil _ _ _ _ _|exact Kd.V_nil _ _ _ _ _|exact Kd.Q_nil _ _ _ _ _|exact Kd.S_nil _ _ _ _ _,h_HB HB.out⟩
 replace c8:=Bool.eq_false_iff.mpr c8
 subst c8
 replace H:=bF_ H
 have H':=Aside0.mk H
 clear H
 go_wp2_with (first|((with_reducible refine gate_dst (N:=5) rfl ?_);refine bx_ (N:=5) (cs:=#[.int .i64 0,.slice none 0 0]) (t:=26) ?_;intro gb196 hg w10 hbox hb;have BK196:=Aside0.mk (hbox);have GW196:=Aside0.mk (gw_ hg (h_HB HB.out));have GE196:=Aside0.mk (gw_ hg (h_HB HB.out));replace HB:=Aside0.mk (below_step (h_HB HB.out) hb);have NB193_196:=Aside0.mk (nbl_ hg (bkC_ BK193.out));have NB196_193:=Aside0.mk (nbg_ hg (bkC_ BK193.out));replace BK193:=Aside0.mk (blkB_ BK193.out hb);clear hb hbox hg;have hnb11:=NB196_193.out;have hnc11:=NB193_196.out;obtain ⟨hcz12_0,hcz12_1,hfz12_0,hfz12_1⟩:=bz2_ BK196.out))
 go_loopg [6] kj2 (fun kq v6 w'=>∃ (x6_2:Int) (x197001_2:List Int) (u197001:Value),v6=.int .i64 x6_2∧Aside0 (spec_Uniform.l0 kq a0 a1 x6_2 a1 x197001_2=some (r1,r2))∧Aside0 (kq≤kj2)∧Aside0 (Kd.R (Kd.int .i64) 3 w' w.heap.size (fun _=>True) u197001 x197001_2)∧Aside0 (w'.heap[gb193]?=some (.cells #[.int .i64 0,(.slice none 0 0)] 26 (0,0)))∧Aside0 (w'.heap[gb196]?=some (.cells #[.int .i64 a1,u197001] 26 (0,0)))∧Aside0 (Below w.heap.size w w'))
 case atStart=>exact ⟨(0),(([]:List Int)),(.slice none 0 0),sT_,H',⟨Nat.le_refl _⟩,⟨by first|exact Kd.R_nil _ _ _ _ _|exact Kd.N_nil _ _ _ _ _|exact Kd.V_nil _ _ _ _ _|exact Kd.Q_nil _ _ _ _ _|exact Kd.S_nil _ _ _ _ _⟩,⟨bkC_ BK193.out⟩,⟨by (with_reducible repeat (first|refine blk_drewN ?_ _|refine blk_drew ?_|refine blk_alloc ?_ _));refine blk_put (cs:=#[.int .i64 a1,.slice none 0 0]) ?_ 1 _ rfl;(with_reducible repeat (first|refine blk_drewN ?_ _|refine blk_drew ?_|refine blk_alloc ?_ _));refine blk_put (cs:=#[.int .i64 0,.slice none 0 0]) ?_ 0 _ rfl;exact bkC_ BK196.out⟩,⟨h_HB HB.out⟩⟩
 case round =>
 clear H'
 try clear c1
 try clear p2
 try clear c4
 try clear c6
 try clear c8
 try clear c11
 try clear hcz12_0
 try clear hcz12_1
 try clear hcz9_0
 try clear hcz9_1
 try clear hfz12_0
 try clear hfz12_1
 try clear hfz9_0
 try clear hfz9_1
 try clear p2
 obtain ⟨x6_2,x197001_2,u197001,rfl,HA,HK2,HO_197001,BK193,BK196,HB⟩:=hrel
 cases gk with
 | zero=>exact absurd HA.out (by simp [spec_Uniform.l0])
 | succ k2 =>
 have H:=HA.out
 clear HA
 simp only [spec_Uniform.l0] at H
 replace H:=bnd_ H;obtain ⟨t197,A13,H⟩:=H
 rcases gsn_ H with ⟨c14b0,H⟩|⟨c14b0,H⟩
 ·simp only [Option.some.injEq,Prod.mk.injEq] at H
  obtain ⟨rfl,rfl⟩:=H
  go_wp2_with (first|((with_reducible refine gate_callee (f:=25) rfl ?_);refine goesL_ (some 21) rfl rfl Try.func25 krT_ rfl #[.int .i64 a1] rfl agT_ ?_;(with_reducible refine (spec_FullSet.calls a1 t197 _ A13.out).mono ?_);rintro e w' ⟨rfl,⟨nd,rfl⟩⟩;refine ⟨_,rfl,?_⟩;(try (rw [drewN_self wr];generalize hq_:World.drewN wr _=wr;replace HO_197001:Aside0 (Kd.R (Kd.int .i64) 3 wr w.heap.size (fun _=>True) u197001 x197001_2):=⟨by rw [← hq_];exact (kRC_ HO_197001.out)⟩;replace BK193:Aside0 (wr.heap[gb193]?=some (.cells #[.int .i64 0,.slice none 0 0] 26 (0,0))):=⟨by rw [← hq_];exact (bkC_ BK193.out)⟩;replace BK196:Aside0 (wr.heap[gb196]?=some (.cells #[.int .i64 a1,u197001] 26 (0,0))):=⟨by rw [← hq_];exact (bkC_ BK196.out)⟩;replace HB:Aside0 (Below w.heap.size w wr):=⟨by rw [← hq_];exact (h_HB HB.out)⟩;clear hq_;have hcuz25_gb193_0:wr.cell? ⟨gb193,0,none⟩=some (.int .i64 0):=(blk_cell BK193.out 0).trans rfl;have hfuz25_gb193_0:=blk_frozen BK193.out 0;have hcuz25_gb193_1:wr.cell? ⟨gb193,1,none⟩=some (.slice none 0 0):=(blk_cell BK193.out 1).trans rfl;have hfuz25_gb193_1:=blk_frozen BK193.out 1;have hcuz25_gb196_0:wr.cell? ⟨gb196,0,none⟩=some (.int .i64 a1):=(blk_cell BK196.out 0).trans rfl;have hfuz25_gb196_0:=blk_frozen BK196.out 0;have hcuz25_gb196_1:wr.cell? ⟨gb196,1,none⟩=some (u197001):=(blk_cell BK196.out 1).trans rfl;have hfuz25_gb196_1:=blk_frozen BK196.out 1));have hnb26:=NB196_193.out;have hnc26:=NB193_196.out;obtain ⟨hcz27_0,hcz27_1,hfz27_0,hfz27_1⟩:=bz2_ BK196.out;obtain ⟨hcz28_0,hcz28_1,hfz28_0,hfz28_1⟩:=bz2_ BK193.out;obtain ⟨Ao29,co29,eo29⟩:=Kd.R_slice HO_197001.out;subst eo29))
  refine bodyPost_ret (results_cell_row rfl _ _ gb193 26 #[.int .i64 a1,.slice Ao29 x197001_2.length co29] (0,0) _ rfl (by (with_reducible repeat (first|refine blk_drewN ?_ _|refine blk_drew ?_|refine blk_alloc ?_ _));refine blk_put (cs:=#[.int .i64 a1,.slice none 0 0]) ?_ 1 _ rfl;(with_reducible repeat (first|refine blk_drewN ?_ _|refine blk_drew ?_|refine blk_alloc ?_ _));refine blk_put (cs:=#[.int .i64 0,.slice none 0 0]) ?_ 0 _ rfl;exact bkC_ BK193.out) Try.underlying26 rfl krT_) rfl ?_
  exact ⟨_,eT_,by (with_reducible repeat (first|apply Kd.R_alloc|apply Kd.R_drewN|apply Kd.R_drew));exact Kd.R_mono (Kd.R_far (p:=⟨gb193,1,none⟩) (Kd.R_far (p:=⟨gb193,0,none⟩) (Kd.R_types HO_197001.out BK193.out (by decide)) (fun _ hk=>hk.2) (.int .i64 a1)) (fun _ hk=>hk.2) (.slice Ao29 x197001_2.length co29)) (fun _ hk=>trivial),h_HB HB.out⟩
 replace H:=bnd_ H;obtain ⟨t198,A15,H⟩:=H
 by_cases c16:t198=a0
 ·rw [if_pos c16] at H
  have c16b0:(t198==a0)=true:=beq_iff_eq.mpr c16
  have c16b1:(t198 != a0)=false:=bne_eq_false_iff_eq.mpr c16
  clear c16
  by_cases c17:x197001_2.length<17592186044416
  ·rw [if_pos c17] at H
   have LMc17:=Aside0.mk c17
   clear c17
   obtain ⟨y199,hy199⟩:∃ y_:List Int,y_=(x197001_2++[x6_2]):=⟨_,rfl⟩
   replace H:(spec_Uniform.l0 k2 a0 a1 (wrap64 (x6_2+1)) a1 y199)=some (r1,r2):=by first|(rw [hy199];with_reducible exact H)|(have H2_:=(Option.bind_some _ _).symm.trans H;rw [hy199];with_reducible exact H2_)|(have H2_:=(Option.bind_some _ _).symm.trans H;with_reducible exact H2_)|with_reducible exact H|(rw [hy199];exact H)|exact H
   have Ny199:=Aside0.mk hy199
   clear hy199
   have H':=Aside0.mk H
   clear H
   go_wp2_with (first|((with_reducible refine gate_callee (f:=25) rfl ?_);refine goesL_ (some 21) rfl rfl Try.func25 krT_ rfl #[.int .i64 a1] rfl agT_ ?_;(with_reducible refine (spec_FullSet.calls a1 t197 _ A13.out).mono ?_);rintro e w' ⟨rfl,⟨nd,rfl⟩⟩;refine ⟨_,rfl,?_⟩;(try (rw [drewN_self wr];generalize hq_:World.drewN wr _=wr;replace HO_197001:Aside0 (Kd.R (Kd.int .i64) 3 wr w.heap.size (fun _=>True) u197001 x197001_2):=⟨by rw [← hq_];exact (kRC_ HO_197001.out)⟩;replace BK193:Aside0 (wr.heap[gb193]?=some (.cells #[.int .i64 0,.slice none 0 0] 26 (0,0))):=⟨by rw [← hq_];exact (bkC_ BK193.out)⟩;replace BK196:Aside0 (wr.heap[gb196]?=some (.cells #[.int .i64 a1,u197001] 26 (0,0))):=⟨by rw [← hq_];exact (bkC_ BK196.out)⟩;replace HB:Aside0 (Below w.heap.size w wr):=⟨by rw [← hq_];exact (h_HB HB.out)⟩;clear hq_;have hcuz18_gb193_0:wr.cell? ⟨gb193,0,none⟩=some (.int .i64 0):=(blk_cell BK193.out 0).trans rfl;have hfuz18_gb193_0:=blk_frozen BK193.out 0;have hcuz18_gb193_1:wr.cell? ⟨gb193,1,none⟩=some (.slice none 0 0):=(blk_cell BK193.out 1).trans rfl;have hfuz18_gb193_1:=blk_frozen BK193.out 1;have hcuz18_gb196_0:wr.cell? ⟨gb196,0,none⟩=some (.int .i64 a1):=(blk_cell BK196.out 0).trans rfl;have hfuz18_gb196_0:=blk_frozen BK196.out 0;have hcuz18_gb196_1:wr.cell? ⟨gb196,1,none⟩=some (u197001):=(blk_cell BK196.out 1).trans rfl;have hfuz18_gb196_1:=blk_frozen BK196.out 1)))|((with_reducible refine gate_callee (f:=26) rfl ?_);refine goesL_ (some 26) rfl rfl Try.func26 krT_ rfl #[.int .i64 x6_2] rfl agT_ ?_;(with_reducible refine (spec_CountOf.calls k2 x6_2 t198 _ A15.out).mono ?_);rintro e w' ⟨rfl,⟨nd,rfl⟩⟩;refine ⟨_,rfl,?_⟩;(try (rw [drewN_self wr];generalize hq_:World.drewN wr _=wr;replace HO_197001:Aside0 (Kd.R (Kd.int .i64) 3 wr w.heap.size (fun _=>True) u197001 x197001_2):=⟨by rw [← hq_];exact (kRC_ HO_197001.out)⟩;replace BK193:Aside0 (wr.heap[gb193]?=some (.cells #[.int .i64 0,.slice none 0 0] 26 (0,0))):=⟨by rw [← hq_];exact (bkC_ BK193.out)⟩;replace BK196:Aside0 (wr.heap[gb196]?=some (.cells #[.int .i64 a1,u197001] 26 (0,0))):=⟨by rw [← hq_];exact (bkC_ BK196.out)⟩;replace HB:Aside0 (Below w.heap.size w wr):=⟨by rw [← hq_];exact (h_HB HB.out)⟩;clear hq_;have hcuz19_gb193_0:wr.cell? ⟨gb193,0,none⟩=some (.int .i64 0):=(blk_cell BK193.out 0).trans rfl;have hfuz19_gb193_0:=blk_frozen BK193.out 0;have hcuz19_gb193_1:wr.cell? ⟨gb193,1,none⟩=some (.slice none 0 0):=(blk_cell BK193.out 1).trans rfl;have hfuz19_gb193_1:=blk_frozen BK193.out 1;have hcuz19_gb196_0:wr.cell? ⟨gb196,0,none⟩=some (.int .i64 a1):=(blk_cell BK196.out 0).trans rfl;have hfuz19_gb196_0:=blk_frozen BK196.out 0;have hcuz19_gb196_1:wr.cell? ⟨gb196,1,none⟩=some (u197001):=(blk_cell BK196.out 1).trans rfl;have hfuz19_gb196_1:=blk_frozen BK196.out 1));have hnb20:=NB196_193.out;have hnc20:=NB193_196.out;obtain ⟨hcz21_0,hcz21_1,hfz21_0,hfz21_1⟩:=bz2_ BK196.out)|((with_reducible refine gate_builtin (b:=.append) (xs:=#[.tmp 30,.tmp 32]) rfl ?_);at_builtin;refine Kd.R_append (Kd.int .i64) (w0:=w) w.heap.size rfl (.tmp 30) (.tmp 32) 24 3 (.int .i64 0) 8 rfl Try.underlying24 info3 rfl (by decide) (by omega) u197001 x197001_2 x6_2 [.int .i64 x6_2] (fun _=>True) (fun _=>False) rfl rfl ?aP (fun _ hk=>hk.elim) ?aF ?aO ?aB ?aS ?aL ?_;(case aP=>exact rfl);(case aB=>exact (h_HB HB.out));(case aF=>exact (fun _ _=>trivial));(case aO=>exact (kRC_ HO_197001.out));(case aS=>exact (below_size (h_HB HB.out)));(case aL=>have:=LMc17.out;omega);intro v200 w22 ho hb hg hat;rw [← Ny199.out] at ho;replace BK193:=Aside0.mk (blk_grown (bkC_ BK193.out) hg (Kd.R_ne HO_197001.out BK193.out (by decide)));replace BK196:=Aside0.mk (blk_grown (bkC_ BK196.out) hg (Kd.R_ne HO_197001.out BK196.out (by decide)));replace HB:=Aside0.mk (hb);have HO201:=Aside0.mk (ho);clear HO_197001;clear ho hb hg hat;obtain ⟨Ao23,co23,eo23⟩:=Kd.R_slice HO201.out;subst eo23;obtain ⟨hcz24_0,hcz24_1,hfz24_0,hfz24_1⟩:=bz2_ BK196.out))
   go_roundg k2
   case measure=>have:=HJ2.out;have:=HK2.out;omega
   case rel=>exact ⟨(wrap64 (x6_2+1)),(y199),(.slice Ao23 y199.length co23),sT_,H',⟨by have:=HJ2.out;have:=HK2.out;omega⟩,⟨by (with_reducible repeat (first|apply Kd.R_alloc|apply Kd.R_drewN|apply Kd.R_drew));exact Kd.R_mono (Kd.R_far (p:=⟨gb196,1,none⟩) (Kd.R_types HO201.out BK196.out (by decide)) (fun _ hk=>hk.2) (.slice Ao23 y199.length co23)) (fun _ hk=>trivial)⟩,⟨bkC_ BK193.out⟩,⟨by (with_reducible repeat (first|refine blk_drewN ?_ _|refine blk_drew ?_|refine blk_alloc ?_ _));refine blk_put (cs:=#[.int .i64 a1,u197001]) ?_ 1 _ rfl;exact bkC_ BK196.out⟩,⟨h_HB HB.out⟩⟩
  ·rw [if_neg c17] at H
   exact absurd H (by simp)
 ·rw [if_neg c16] at H
  have c16b0:(t198==a0)=false:=beq_eq_false_iff_ne.mpr c16
  have c16b1:(t198 != a0)=true:=bne_iff_ne.mpr c16
  have H':=Aside0.mk H
  clear H
  go_wp2_with (first|((with_reducible refine gate_callee (f:=25) rfl ?_);refine goesL_ (some 21) rfl rfl Try.func25 krT_ rfl #[.int .i64 a1] rfl agT_ ?_;(with_reducible refine (spec_FullSet.calls a1 t197 _ A13.out).mono ?_);rintro e w' ⟨rfl,⟨nd,rfl⟩⟩;refine ⟨_,rfl,?_⟩)|((with_reducible refine gate_callee (f:=26) rfl ?_);refine goesL_ (some 26) rfl rfl Try.func26 krT_ rfl #[.int .i64 x6_2] rfl agT_ ?_;(with_reducible refine (spec_CountOf.calls k2 x6_2 t198 _ A15.out).mono ?_);rintro e w' ⟨rfl,⟨nd,rfl⟩⟩;refine ⟨_,rfl,?_⟩))
  go_roundg k2
  case measure=>have:=HJ2.out;have:=HK2.out;omega
  case rel=>exact ⟨(wrap64 (x6_2+1)),(x197001_2),(u197001),sT_,H',⟨by have:=HJ2.out;have:=HK2.out;omega⟩,⟨kRC_ HO_197001.out⟩,⟨bkC_ BK193.out⟩,⟨bkC_ BK196.out⟩,⟨h_HB HB.out⟩⟩
/-! ### spec_SplitByte: function 85 -/
def spec_SplitByte.l0:Nat→ByteArray→Int→List ByteArray→Int→Int→Option (List ByteArray)
 | 0,_,_,_,_,_=>none
 | k+1,x0,x1,x5,x6,x7=>if x7≤(x0.size:Int) then (if x7=(x0.size:Int) then (if 0≤x6 then (if x6≤x7 then (if x5.length<8796093022208 then (spec_SplitByte.l0 k x0 x1 (x5++[x0.extract (x6:Int).toNat (x7:Int).toNat]) (wrap64 (x7+1)) (wrap64 (x7+1))) else (none)) else (none)) else (none)) else (if 0≤x7 then (if x7<(x0.size:Int) then (if (bt x0 x7)=x1 then (if 0≤x6 then (if x6≤x7 then (if x5.length<8796093022208 then (spec_SplitByte.l0 k x0 x1 (x5++[x0.extract (x6:Int).toNat (x7:Int).toNat]) (wrap64 (x7+1)) (wrap64 (x7+1))) else (none)) else (none)) else (none)) else (spec_SplitByte.l0 k x0 x1 x5 x6 (wrap64 (x7+1)))) else (none)) else (none))) else (some x5)
def spec_SplitByte.f (k:Nat) (a0:ByteArray) (a1:Int):Option (List ByteArray):=spec_SplitByte.l0 k a0 a1 (([]:List ByteArray)) 0 0
set_option maxHeartbeats 8000000 in
set_option maxRecDepth 100000 in
theorem spec_SplitByte.calls (k:Nat) (a0:ByteArray) (a1:Int) (r:List ByteArray) (w:World) (h:spec_SplitByte.f k a0 a1=some r) :
    Calls Try.prog 85 #[.string a0,.int .u8 a1] w fun e w'=>∃ v0_:Value,e=.returned (v0_)∧Kd.R Kd.string 9 w' w.heap.size (fun _=>True) v0_ r∧Below w.heap.size w w':=by
 have HB:=Aside0.mk (Below.refl w.heap.size w)
 have H:(spec_SplitByte.l0 k a0 a1 (([]:List ByteArray)) 0 0)=some r:=h
 clear h
 obtain ⟨y202,hy202⟩:∃ y_:List ByteArray,y_=(([]:List ByteArray)):=⟨_,rfl⟩
 replace H:(spec_SplitByte.l0 k a0 a1 y202 0 0)=some r:=by first|(rw [hy202];with_reducible exact H)|(have H2_:=(Option.bind_some _ _).symm.trans H;rw [hy202];with_reducible exact H2_)|(have H2_:=(Option.bind_some _ _).symm.trans H;with_reducible exact H2_)|with_reducible exact H|(rw [hy202];exact H)|exact H
 have Ny202:=Aside0.mk hy202
 clear hy202
 have H':=Aside0.mk H
 clear H
 go_enter Try.func85,Try.ntmps85
 go_wp2_with (first|((with_reducible refine gate_dst (N:=8) rfl ?_);refine Kd.R_lit Kd.string _ 9 ?hg (N:=8) ?hd (xs:=([]:List ByteArray)) (inner:=[]) (ok:=fun _=>True) (okp:=fun _=>True) ?hr ?hp (fun _ hk=>hk) trivial (Below.refl _ _) (Nat.le_refl _) (by simp) ?_;(case hd=>rfl);(case hg=>rfl);(case hr=>exact hrT_);(case hp=>exact (Reps.none _ _));intro v203 w3 ho4 hb hg_ hnew_;clear hg_ hnew_;(first|rw [← Ny202.out] at ho4|(simp only [Int.reduceToNat] at ho4;rw [← Ny202.out] at ho4));have HO204:=Aside0.mk (Kd.R_lower ho4 (below_size (h_HB HB.out)));replace HB:=Aside0.mk (below_step (h_HB HB.out) hb);clear hb ho4))
 go_loopg [5,6,7] k (fun kq v5 v6 v7 w'=>∃ (x5_1:List ByteArray) (x6_1:Int) (x7_1:Int),v6=.int .i64 x6_1∧v7=.int .i64 x7_1∧Aside0 (spec_SplitByte.l0 kq a0 a1 x5_1 x6_1 x7_1=some r)∧Aside0 (kq≤k)∧Aside0 (Kd.R Kd.string 9 w' w.heap.size (fun _=>True) v5 x5_1)∧Aside0 (Below w.heap.size w w'))
 case atStart=>exact ⟨(y202),(0),(0),sT_,sT_,H',⟨Nat.le_refl _⟩,⟨kRC_ HO204.out⟩,⟨h_HB HB.out⟩⟩
 case round =>
 clear H'
 try clear p2
 obtain ⟨x5_1,x6_1,x7_1,rfl,rfl,HA,HK1,HO_5,HB⟩:=hrel
 cases gk with
 | zero=>exact absurd HA.out (by simp [spec_SplitByte.l0])
 | succ k1 =>
 have H:=HA.out
 clear HA
 simp only [spec_SplitByte.l0] at H
 rcases gsn_ H with ⟨c5b0,H⟩|⟨c5b0,H⟩
 ·obtain rfl:=Option.some.inj H
  go_wp2
  go_ret
  exact ⟨_,eT_,kRC_ HO_5.out,h_HB HB.out⟩
 by_cases c6:x7_1=(a0.size:Int)
 ·rw [if_pos c6] at H
  have c6b0:(x7_1==(a0.size:Int))=true:=beq_iff_eq.mpr c6
  have c6b1:(x7_1 != (a0.size:Int))=false:=bne_eq_false_iff_eq.mpr c6
  clear c6
  by_cases c7:0≤x6_1
  rotate_left
  ·rw [if_neg c7] at H
   exact absurd H (by simp)
  rw [if_pos c7] at H
  have c7b0:=eq_true c7
  have c7b1:decide (0≤x6_1)=true:=decide_eq_true c7
  clear c7
  by_cases c8:x6_1≤x7_1
  rotate_left
  ·rw [if_neg c8] at H
   exact absurd H (by simp)
  rw [if_pos c8] at H
  have c8b0:=eq_true c8
  have c8b1:decide (x6_1≤x7_1)=true:=decide_eq_true c8
  clear c8
  have c9b0:=eq_true (odT_:x7_1≤(a0.size:Int))
  by_cases c10:x5_1.length<8796093022208
  ·rw [if_pos c10] at H
   have LMc10:=Aside0.mk c10
   clear c10
   obtain ⟨y205,hy205⟩:∃ y_:List ByteArray,y_=(x5_1++[a0.extract (x6_1:Int).toNat (x7_1:Int).toNat]):=⟨_,rfl⟩
   replace H:(spec_SplitByte.l0 k1 a0 a1 y205 (wrap64 (x7_1+1)) (wrap64 (x7_1+1)))=some r:=by first|(rw [hy205];with_reducible exact H)|(have H2_:=(Option.bind_some _ _).symm.trans H;rw [hy205];with_reducible exact H2_)|(have H2_:=(Option.bind_some _ _).symm.trans H;with_reducible exact H2_)|with_reducible exact H|(rw [hy205];exact H)|exact H
   have Ny205:=Aside0.mk hy205
   clear hy205
   have H':=Aside0.mk H
   clear H
   go_wp2_with (first|((with_reducible refine gate_builtin (b:=.append) (xs:=#[.tmp 26,.tmp 31]) rfl ?_);at_builtin;refine Kd.R_append Kd.string (w0:=w) w.heap.size rfl (.tmp 26) (.tmp 31) 76 9 (.string ⟨#[]⟩) 16 rfl Try.underlying76 info9 rfl (by decide) (by omega) u5 x5_1 (a0.extract (x6_1:Int).toNat (x7_1:Int).toNat) [.string (a0.extract (x6_1:Int).toNat (x7_1:Int).toNat)] (fun _=>True) (fun _=>False) rfl rfl ?aP (fun _ hk=>hk.elim) ?aF ?aO ?aB ?aS ?aL ?_;(case aP=>exact rfl);(case aB=>exact (h_HB HB.out));(case aF=>exact (fun _ _=>trivial));(case aO=>exact (kRC_ HO_5.out));(case aS=>exact (below_size (h_HB HB.out)));(case aL=>have:=LMc10.out;omega);intro v206 w11 ho hb hg hat;rw [← Ny205.out] at ho;replace HB:=Aside0.mk (hb);have HO207:=Aside0.mk (ho);clear HO_5;clear ho hb hg hat))
   go_roundg k1
   case measure=>have:=HK1.out;omega
   case rel=>exact ⟨(y205),(wrap64 (x7_1+1)),(wrap64 (x7_1+1)),sT_,sT_,H',⟨by have:=HK1.out;omega⟩,⟨kRC_ HO207.out⟩,⟨h_HB HB.out⟩⟩
  ·rw [if_neg c10] at H
   exact absurd H (by simp)
 rw [if_neg c6] at H
 have c6b0:(x7_1==(a0.size:Int))=false:=beq_eq_false_iff_ne.mpr c6
 have c6b1:(x7_1 != (a0.size:Int))=true:=bne_iff_ne.mpr c6
 replace H:=gsm_ H;obtain ⟨c12b0,H⟩:=H
 replace H:=gsm_ H;obtain ⟨c13b0,H⟩:=H
 by_cases c15:(bt a0 x7_1)=a1
 rotate_left
 ·rw [if_neg c15] at H
  have c15b0:((bt a0 x7_1)==a1)=false:=beq_eq_false_iff_ne.mpr c15
  have c15b1:((bt a0 x7_1) != a1)=true:=bne_iff_ne.mpr c15
  have H':=Aside0.mk H
  clear H
  have p14:0≤(x7_1:Int):=odT_
  have q14:x7_1<(a0.size:Int):=odT_
  have hx14:=bt_at a0 x7_1
  replace p14:=eq_true p14
  replace q14:=eq_true q14
  go_wp2
  go_roundg k1
  case measure=>have:=HK1.out;omega
  case rel=>exact ⟨(x5_1),(x6_1),(wrap64 (x7_1+1)),sT_,sT_,H',⟨by have:=HK1.out;omega⟩,⟨kRC_ HO_5.out⟩,⟨h_HB HB.out⟩⟩
 rw [if_pos c15] at H
 have c15b0:((bt a0 x7_1)==a1)=true:=beq_iff_eq.mpr c15
 have c15b1:((bt a0 x7_1) != a1)=false:=bne_eq_false_iff_eq.mpr c15
 clear c15
 by_cases c16:0≤x6_1
 rotate_left
 ·rw [if_neg c16] at H
  exact absurd H (by simp)
 rw [if_pos c16] at H
 have c16b0:=eq_true c16
 have c16b1:decide (0≤x6_1)=true:=decide_eq_true c16
 clear c16
 by_cases c17:x6_1≤x7_1
 rotate_left
 ·rw [if_neg c17] at H
  exact absurd H (by simp)
 rw [if_pos c17] at H
 have c17b0:=eq_true c17
 have c17b1:decide (x6_1≤x7_1)=true:=decide_eq_true c17
 clear c17
 have c18b0:=eq_true (odT_:x7_1≤(a0.size:Int))
 by_cases c19:x5_1.length<8796093022208
 rotate_left
 ·rw [if_neg c19] at H
  exact absurd H (by simp)
 rw [if_pos c19] at H
 have LMc19:=Aside0.mk c19
 clear c19
 obtain ⟨y208,hy208⟩:∃ y_:List ByteArray,y_=(x5_1++[a0.extract (x6_1:Int).toNat (x7_1:Int).toNat]):=⟨_,rfl⟩
 replace H:(spec_SplitByte.l0 k1 a0 a1 y208 (wrap64 (x7_1+1)) (wrap64 (x7_1+1)))=some r:=by first|(rw [hy208];with_reducible exact H)|(have H2_:=(Option.bind_some _ _).symm.trans H;rw [hy208];with_reducible exact H2_)|(have H2_:=(Option.bind_some _ _).symm.trans H;with_reducible exact H2_)|with_reducible exact H|(rw [hy208];exact H)|exact H
 have Ny208:=Aside0.mk hy208
 clear hy208
 have H':=Aside0.mk H
 clear H
 have p14:0≤(x7_1:Int):=odT_
 have q14:x7_1<(a0.size:Int):=odT_
 have hx14:=bt_at a0 x7_1
 replace p14:=eq_true p14
 replace q14:=eq_true q14
 go_wp2_with (first|((with_reducible refine gate_builtin (b:=.append) (xs:=#[.tmp 26,.tmp 31]) rfl ?_);at_builtin;refine Kd.R_append Kd.string (w0:=w) w.heap.size rfl (.tmp 26) (.tmp 31) 76 9 (.string ⟨#[]⟩) 16 rfl Try.underlying76 info9 rfl (by decide) (by omega) u5 x5_1 (a0.extract (x6_1:Int).toNat (x7_1:Int).toNat) [.string (a0.extract (x6_1:Int).toNat (x7_1:Int).toNat)] (fun _=>True) (fun _=>False) rfl rfl ?aP (fun _ hk=>hk.elim) ?aF ?aO ?aB ?aS ?aL ?_;(case aP=>exact rfl);(case aB=>exact (h_HB HB.out));(case aF=>exact (fun _ _=>trivial));(case aO=>exact (kRC_ HO_5.out));(case aS=>exact (below_size (h_HB HB.out)));(case aL=>have:=LMc19.out;omega);intro v209 w20 ho hb hg hat;rw [← Ny208.out] at ho;replace HB:=Aside0.mk (hb);have HO210:=Aside0.mk (ho);clear HO_5;clear ho hb hg hat))
 go_roundg k1
 case measure=>have:=HK1.out;omega
 case rel=>exact ⟨(y208),(wrap64 (x7_1+1)),(wrap64 (x7_1+1)),sT_,sT_,H',⟨by have:=HK1.out;omega⟩,⟨kRC_ HO210.out⟩,⟨h_HB HB.out⟩⟩
/-! ### spec_FormatInt: function 94 -/
def spec_FormatInt.l0:Nat→Int→Bool→ByteArray→Option (ByteArray)
 | 0,_,_,_=>none
 | k+1,x0,x3,x4=>if x0=0 then (if x3=true then (if 1+x4.size≤9223372036854775807 then (some ((⟨#[45]⟩:ByteArray)++x4)) else (none)) else (some x4)) else (if (Int.tmod x0 10)<0 then ((some (([(wrap64 (48+(wrap64 (-(Int.tmod x0 10))))) % 256]:List Int):List Int)).bind fun y211=>(if (strOfNums y211).size+x4.size≤9223372036854775807 then (spec_FormatInt.l0 k (wrap64 (Int.tdiv x0 10)) x3 ((strOfNums y211)++x4)) else (none))) else ((some (([(wrap64 (48+(Int.tmod x0 10))) % 256]:List Int):List Int)).bind fun y214=>(if (strOfNums y214).size+x4.size≤9223372036854775807 then (spec_FormatInt.l0 k (wrap64 (Int.tdiv x0 10)) x3 ((strOfNums y214)++x4)) else (none))))
def spec_FormatInt.f (k:Nat) (a0:Int):Option (ByteArray):=if a0=0 then (some (⟨#[48]⟩:ByteArray)) else (spec_FormatInt.l0 k a0 (decide (a0<0)) (⟨#[]⟩:ByteArray))
set_option maxHeartbeats 8000000 in
set_option maxRecDepth 100000 in
theorem spec_FormatInt.calls (k:Nat) (a0:Int) (r:ByteArray) (w:World) (h:spec_FormatInt.f k a0=some r) :
    Calls Try.prog 94 #[.int .i64 a0] w fun e w'=>e=.returned (.string r)∧Below w.heap.size w w':=by
 have HB:=Aside0.mk (Below.refl w.heap.size w)
 have H:(if a0=0 then (some (⟨#[48]⟩:ByteArray)) else (spec_FormatInt.l0 k a0 (decide (a0<0)) (⟨#[]⟩:ByteArray)))=some r:=h
 clear h
 by_cases c2:a0=0
 ·rw [if_pos c2] at H
  have c2b0:(a0==0)=true:=beq_iff_eq.mpr c2
  have c2b1:(a0 != 0)=false:=bne_eq_false_iff_eq.mpr c2
  clear c2
  obtain rfl:=Option.some.inj H
  go_enter Try.func94,Try.ntmps94
  go_wp2
  go_ret
  exact ⟨eT_,h_HB HB.out⟩
 ·rw [if_neg c2] at H
  have c2b0:(a0==0)=false:=beq_eq_false_iff_ne.mpr c2
  have c2b1:(a0 != 0)=true:=bne_iff_ne.mpr c2
  have H':=Aside0.mk H
  clear H
  go_enter Try.func94,Try.ntmps94
  go_wp2
  go_loopg [0,4] k (fun kq v0 v4 w'=>∃ (x0_1:Int) (x4_1:ByteArray),v0=.int .i64 x0_1∧v4=.string x4_1∧Aside0 (spec_FormatInt.l0 kq x0_1 (decide (a0<0)) x4_1=some r)∧Aside0 (kq≤k)∧Aside0 (Below w.heap.size w w'))
  case atStart=>exact ⟨(a0),((⟨#[]⟩:ByteArray)),sT_,sT_,H',⟨Nat.le_refl _⟩,⟨h_HB HB.out⟩⟩
  case round =>
   clear H'
   try clear c2
   try clear c2b0
   try clear c2b1
   try clear p2
   obtain ⟨x0_1,x4_1,rfl,rfl,HA,HK1,HB⟩:=hrel
   cases gk with
   | zero=>exact absurd HA.out (by simp [spec_FormatInt.l0])
   | succ k1 =>
    have H:=HA.out
    clear HA
    simp only [spec_FormatInt.l0] at H
    by_cases c3:x0_1=0
    ·rw [if_pos c3] at H
     have c3b0:(x0_1==0)=true:=beq_iff_eq.mpr c3
     have c3b1:(x0_1 != 0)=false:=bne_eq_false_iff_eq.mpr c3
     clear c3
     by_cases c4:(decide (a0<0))=true
     ·rw [if_pos c4] at H
      have c4b0:(decide (a0<0))=true:=c4
      have c4n:a0<0:=of_decide_eq_true c4b0
      clear c4
      by_cases c5:1+x4_1.size≤9223372036854775807
      ·rw [if_pos c5] at H
       have c5b0:=eq_true c5
       have c5b1:decide (1+x4_1.size≤9223372036854775807)=true:=decide_eq_true c5
       try have c5b2:(9223372036854775807<1+x4_1.size)=False:=eq_false (Nat.not_lt.2 c5)
       obtain rfl:=Option.some.inj H
       (go_wp2)<;>try (exfalso;omega)
       go_ret
       exact ⟨eT_,h_HB HB.out⟩
      ·rw [if_neg c5] at H
       exact absurd H (by simp)
     ·rw [if_neg c4] at H
      have c4b0:(decide (a0<0))=false:=by simpa using c4
      have c4n:¬ (a0<0):=of_decide_eq_false c4b0
      clear c4
      obtain rfl:=Option.some.inj H
      (go_wp2)<;>try (exfalso;omega)
      go_ret
      exact ⟨eT_,h_HB HB.out⟩
    ·rw [if_neg c3] at H
     have c3b0:(x0_1==0)=false:=beq_eq_false_iff_ne.mpr c3
     have c3b1:(x0_1 != 0)=true:=bne_iff_ne.mpr c3
     rcases gsb_ H with ⟨c6b0,H⟩|⟨c6b0,H⟩
     ·obtain ⟨y211,hy211⟩:∃ y_:List Int,y_=(([(wrap64 (48+(wrap64 (-(Int.tmod x0_1 10))))) % 256]:List Int)):=⟨_,rfl⟩
      replace H:(if (strOfNums y211).size+x4_1.size≤9223372036854775807 then (spec_FormatInt.l0 k1 (wrap64 (Int.tdiv x0_1 10)) (decide (a0<0)) ((strOfNums y211)++x4_1)) else (none))=some r:=by first|(rw [hy211];with_reducible exact H)|(have H2_:=(Option.bind_some _ _).symm.trans H;rw [hy211];with_reducible exact H2_)|(have H2_:=(Option.bind_some _ _).symm.trans H;with_reducible exact H2_)|with_reducible exact H|(rw [hy211];exact H)|exact H
      have Ny211:=Aside0.mk hy211
      clear hy211
      by_cases c7:(strOfNums y211).size+x4_1.size≤9223372036854775807
      ·rw [if_pos c7] at H
       have c7b0:=eq_true c7
       have c7b1:decide ((strOfNums y211).size+x4_1.size≤9223372036854775807)=true:=decide_eq_true c7
       try have c7b2:(9223372036854775807<(strOfNums y211).size+x4_1.size)=False:=eq_false (Nat.not_lt.2 c7)
       have H':=Aside0.mk H
       clear H
       go_wp2_with (first|((with_reducible refine gate_dst (N:=21) rfl ?_);refine Kd.R_lit (Kd.int .u8) _ 5 ?hg (N:=21) ?hd (xs:=([(wrap64 (48+(wrap64 (-(Int.tmod x0_1 10))))) % 256]:List Int)) (inner:=[.int .u8 ((wrap64 (48+(wrap64 (-(Int.tmod x0_1 10))))) % 256)]) (ok:=fun _=>True) (okp:=fun _=>True) ?hr ?hp (fun _ hk=>hk) trivial (Below.refl _ _) (Nat.le_refl _) (by simp) ?_;(case hd=>rfl);(case hg=>rfl);(case hr=>exact hrT_);(case hp=>exact (Reps.one (show Kd.M (Kd.int .u8) _ _ _ ((wrap64 (48+(wrap64 (-(Int.tmod x0_1 10))))) % 256) [.int .u8 ((wrap64 (48+(wrap64 (-(Int.tmod x0_1 10))))) % 256)] from rfl) (Reps.none _ _)));intro v212 w8 ho9 hb hg_ hnew_;clear hg_ hnew_;(first|rw [← Ny211.out] at ho9|(simp only [Int.reduceToNat] at ho9;rw [← Ny211.out] at ho9));have HO213:=Aside0.mk (Kd.R_lower ho9 (below_size (h_HB HB.out)));replace HB:=Aside0.mk (below_step (h_HB HB.out) hb);clear hb ho9;have hcv10:=own_string (P:=Try.prog) Try.underlying22 Try.underlying5 Try.underlying9 (Kd.own_of_R HO213.out)))
       go_roundg k1
       case measure=>have:=HK1.out;omega
       case rel=>exact ⟨(wrap64 (Int.tdiv x0_1 10)),((strOfNums y211)++x4_1),sT_,sT_,H',⟨by have:=HK1.out;omega⟩,⟨h_HB HB.out⟩⟩
      ·rw [if_neg c7] at H
       exact absurd H (by simp)
     ·obtain ⟨y214,hy214⟩:∃ y_:List Int,y_=(([(wrap64 (48+(Int.tmod x0_1 10))) % 256]:List Int)):=⟨_,rfl⟩
      replace H:(if (strOfNums y214).size+x4_1.size≤9223372036854775807 then (spec_FormatInt.l0 k1 (wrap64 (Int.tdiv x0_1 10)) (decide (a0<0)) ((strOfNums y214)++x4_1)) else (none))=some r:=by first|(rw [hy214];with_reducible exact H)|(have H2_:=(Option.bind_some _ _).symm.trans H;rw [hy214];with_reducible exact H2_)|(have H2_:=(Option.bind_some _ _).symm.trans H;with_reducible exact H2_)|with_reducible exact H|(rw [hy214];exact H)|exact H
      have Ny214:=Aside0.mk hy214
      clear hy214
      by_cases c11:(strOfNums y214).size+x4_1.size≤9223372036854775807
      ·rw [if_pos c11] at H
       have c11b0:=eq_true c11
       have c11b1:decide ((strOfNums y214).size+x4_1.size≤9223372036854775807)=true:=decide_eq_true c11
       try have c11b2:(9223372036854775807<(strOfNums y214).size+x4_1.size)=False:=eq_false (Nat.not_lt.2 c11)
       have H':=Aside0.mk H
       clear H
       go_wp2_with (first|((with_reducible refine gate_dst (N:=21) rfl ?_);refine Kd.R_lit (Kd.int .u8) _ 5 ?hg (N:=21) ?hd (xs:=([(wrap64 (48+(Int.tmod x0_1 10))) % 256]:List Int)) (inner:=[.int .u8 ((wrap64 (48+(Int.tmod x0_1 10))) % 256)]) (ok:=fun _=>True) (okp:=fun _=>True) ?hr ?hp (fun _ hk=>hk) trivial (Below.refl _ _) (Nat.le_refl _) (by simp) ?_;(case hd=>rfl);(case hg=>rfl);(case hr=>exact hrT_);(case hp=>exact (Reps.one (show Kd.M (Kd.int .u8) _ _ _ ((wrap64 (48+(Int.tmod x0_1 10))) % 256) [.int .u8 ((wrap64 (48+(Int.tmod x0_1 10))) % 256)] from rfl) (Reps.none _ _)));intro v215 w12 ho13 hb hg_ hnew_;clear hg_ hnew_;(first|rw [← Ny214.out] at ho13|(simp only [Int.reduceToNat] at ho13;rw [← Ny214.out] at ho13));have HO216:=Aside0.mk (Kd.R_lower ho13 (below_size (h_HB HB.out)));replace HB:=Aside0.mk (below_step (h_HB HB.out) hb);clear hb ho13;have hcv14:=own_string (P:=Try.prog) Try.underlying22 Try.underlying5 Try.underlying9 (Kd.own_of_R HO216.out)))
       go_roundg k1
       case measure=>have:=HK1.out;omega
       case rel=>exact ⟨(wrap64 (Int.tdiv x0_1 10)),((strOfNums y214)++x4_1),sT_,sT_,H',⟨by have:=HK1.out;omega⟩,⟨h_HB HB.out⟩⟩
      ·rw [if_neg c11] at H
       exact absurd H (by simp)
end Go.Proofs.Ytekegbacnagbcaa.P
