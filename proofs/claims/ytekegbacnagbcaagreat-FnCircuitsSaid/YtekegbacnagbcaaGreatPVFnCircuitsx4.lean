-- written by gprint (a program of this session's, round the kit's print), out of the translation and hand-written texts
import Derived.Test.YtekegbacnagbcaaGreatPVFnCircuitsx0
import Derived.Test.YtekegbacnagbcaaGreatPVFnCircuitsx2
namespace Go.Proofs.YtekegbacnagbcaaGreat.P
open Go.RowKit Go.Proofs.YtekegbacnagbcaaGreatW.PrintWords Go.Proofs.YtekegbacnagbcaaGreatW.PrintLast Go.Proofs.YtekegbacnagbcaaGreatW.PrintMore
attribute [local go_sem] max2_int min2_int max_two min_two max_three min_three max_four min_four
set_option linter.unusedVariables false
set_option maxHeartbeats 8000000
set_option maxRecDepth 100000
set_option linter.unusedSimpArgs false
def spec_WithElement.f (a0:Int) (a1:Int):Option (Int):=(spec_IsSet.f 8 a0).bind fun t154=>(if t154=true then ((spec_l1In.f a1 0 7).bind fun t155=>(if t155=true then (if 0≤(IntKind.u64.wrap (a1)) then (some (Go.bits .or .i64 a0 (shl .i64 1 (IntKind.u64.wrap (a1))))) else (none)) else (some a0))) else (some a0))
theorem spec_WithElement.calls (a0:Int) (a1:Int) (r:Int) (w:World) (h:spec_WithElement.f a0 a1=some r) :
    Calls Tryz.prog 125 #[.int .i64 a0,.int .i64 a1] w fun e w'=>e=.returned (.int .i64 r)∧Drawn0 w w':=by
 unfold spec_WithElement.f at h
 have H:=h
 clear h
 replace H:=bnd_ H;obtain ⟨t154,A3,H⟩:=H
 replace H:=(gst_ H).symm;rcases H with ⟨rfl,H⟩|⟨rfl,H⟩
 ·obtain rfl:=Option.some.inj H
  go_enter Tryz.func125,Tryz.ntmps125
  go_wp2_with (first|((with_reducible refine gate_callee (f:=74) rfl ?_);refine goesL_ (some 6) rfl rfl Tryz.func74 krT_ rfl #[.int .i64 8,.int .i64 a0] rfl agT_ ?_;(with_reducible refine (spec_IsSet.calls 8 a0 false _ A3.out).mono ?_);rintro e w' ⟨rfl,⟨nd,rfl⟩⟩;refine ⟨_,rfl,?_⟩))
  go_ret
  exact ⟨sT_,dT_⟩
 replace H:=bnd_ H;obtain ⟨t155,A5,H⟩:=H
 replace H:=(gst_ H).symm;rcases H with ⟨rfl,H⟩|⟨rfl,H⟩
 ·obtain rfl:=Option.some.inj H
  go_enter Tryz.func125,Tryz.ntmps125
  go_wp2_with (first|((with_reducible refine gate_callee (f:=74) rfl ?_);refine goesL_ (some 6) rfl rfl Tryz.func74 krT_ rfl #[.int .i64 8,.int .i64 a0] rfl agT_ ?_;(with_reducible refine (spec_IsSet.calls 8 a0 true _ A3.out).mono ?_);rintro e w' ⟨rfl,⟨nd,rfl⟩⟩;refine ⟨_,rfl,?_⟩)|(go_at_call 53;(with_reducible refine (spec_l1In.calls a1 0 7 false _ A5.out).mono ?_);rintro e w' ⟨rfl,⟨nd,rfl⟩⟩))
  go_ret
  exact ⟨sT_,dT_⟩
 obtain ⟨ji7,hji7⟩:∃ j_:Int,(IntKind.u64.wrap (a1))=j_:=⟨_,rfl⟩
 first |rw [hji7] at H|simp only [hji7] at H
 (try rw [hji7] at A3)
 (try rw [hji7] at A5)
 replace H:=gsp_ H;obtain ⟨c8,H⟩:=H
 have c8b0:=eq_true c8
 have c8b1:decide (0≤(ji7))=true:=decide_eq_true c8
 clear c8
 obtain ⟨ji9,hji9⟩:∃ j_:Int,(shl .i64 1 (ji7))=j_:=⟨_,rfl⟩
 first |rw [hji9] at H|simp only [hji9] at H
 (try rw [hji9] at A3)
 (try rw [hji9] at A5)
 have hji9_:(IntKind.i64.wrap (1*2 ^ min (ji7).toNat 64))=ji9:=hji9
 have hji9z:(ji7)≤64→(IntKind.i64.wrap (1*2 ^ (ji7).toNat))=ji9:=shl_small hji9
 have hji9u:(IntKind.i64.wrap (2 ^ min (ji7).toNat 64))=ji9:=by have h_:=hji9_;rw [Int.one_mul] at h_;exact h_
 have hji9v:(ji7)≤64→(IntKind.i64.wrap (2 ^ (ji7).toNat))=ji9:=fun hle_=>by have h_:=hji9z hle_;rw [Int.one_mul] at h_;exact h_
 have hji9y:(wrap64 (1*2 ^ min (ji7).toNat 64))=ji9:=(i64_w _).symm.trans hji9_
 have hji9x:(ji7)≤64→(wrap64 (1*2 ^ (ji7).toNat))=ji9:=fun h_=>(i64_w _).symm.trans (hji9z h_)
 obtain rfl:=Option.some.inj H
 go_enter Tryz.func125,Tryz.ntmps125
 go_wp2_with (first|((with_reducible refine gate_callee (f:=74) rfl ?_);refine goesL_ (some 6) rfl rfl Tryz.func74 krT_ rfl #[.int .i64 8,.int .i64 a0] rfl agT_ ?_;(with_reducible refine (spec_IsSet.calls 8 a0 true _ A3.out).mono ?_);rintro e w' ⟨rfl,⟨nd,rfl⟩⟩;refine ⟨_,rfl,?_⟩)|(go_at_call 53;(with_reducible refine (spec_l1In.calls a1 0 7 true _ A5.out).mono ?_);rintro e w' ⟨rfl,⟨nd,rfl⟩⟩))
 go_ret
 exact ⟨by first|rfl|(simp;done)|(simp only [← hji7,← hji9]<;>(first|rfl|simp))|(simp [*];done),dT_⟩
def spec_l2Has.f (a0:Int) (a1:Int):Option (Bool):=if 0≤(IntKind.u64.wrap (a1)) then (some ((Go.bits .and .i64 (shr .i64 a0 (IntKind.u64.wrap (a1))) 1)==1)) else (none)
theorem spec_l2Has.calls (a0:Int) (a1:Int) (r:Bool) (w:World) (h:spec_l2Has.f a0 a1=some r) :
    Calls Tryz.prog 54 #[.int .i64 a0,.int .i64 a1] w fun e w'=>e=.returned (.bool r)∧Drawn0 w w':=by
 unfold spec_l2Has.f at h
 have H:=h
 clear h
 obtain ⟨ji3,hji3⟩:∃ j_:Int,(IntKind.u64.wrap (a1))=j_:=⟨_,rfl⟩
 first |rw [hji3] at H|simp only [hji3] at H
 replace H:=gsp_ H;obtain ⟨c4,H⟩:=H
 have c4b0:=eq_true c4
 have c4b1:decide (0≤(ji3))=true:=decide_eq_true c4
 clear c4
 obtain ⟨ji5,hji5⟩:∃ j_:Int,(shr .i64 a0 (ji3))=j_:=⟨_,rfl⟩
 first |rw [hji5] at H|simp only [hji5] at H
 have hji5_:(a0 / 2 ^ min (ji3).toNat 64)=ji5:=hji5
 have hji5z:(ji3)≤64→(a0 / 2 ^ (ji3).toNat)=ji5:=shr_small hji5
 obtain rfl:=Option.some.inj H
 go_enter Tryz.func54,Tryz.ntmps54
 go_wp2
 go_ret
 exact ⟨by first|rfl|(simp;done)|(simp only [← hji3,← hji5]<;>(first|rfl|simp))|(simp [*];done),dT_⟩
def spec_HasElement.f (a0:Int) (a1:Int):Option (Bool):=(spec_IsSet.f 8 a0).bind fun t156=>(if t156=true then ((spec_l1In.f a1 0 7).bind fun t157=>(if t157=true then ((spec_l2Has.f a0 a1).bind fun t158=>(some t158)) else (some false))) else (some false))
theorem spec_HasElement.calls (a0:Int) (a1:Int) (r:Bool) (w:World) (h:spec_HasElement.f a0 a1=some r) :
    Calls Tryz.prog 58 #[.int .i64 a0,.int .i64 a1] w fun e w'=>e=.returned (.bool r)∧Drawn0 w w':=by
 unfold spec_HasElement.f at h
 have H:=h
 clear h
 replace H:=bnd_ H;obtain ⟨t156,A3,H⟩:=H
 replace H:=(gst_ H).symm;rcases H with ⟨rfl,H⟩|⟨rfl,H⟩
 ·obtain rfl:=Option.some.inj H
  go_enter Tryz.func58,Tryz.ntmps58
  go_wp2_with (first|((with_reducible refine gate_callee (f:=74) rfl ?_);refine goesL_ (some 6) rfl rfl Tryz.func74 krT_ rfl #[.int .i64 8,.int .i64 a0] rfl agT_ ?_;(with_reducible refine (spec_IsSet.calls 8 a0 false _ A3.out).mono ?_);rintro e w' ⟨rfl,⟨nd,rfl⟩⟩;refine ⟨_,rfl,?_⟩))
  go_ret
  exact ⟨sT_,dT_⟩
 replace H:=bnd_ H;obtain ⟨t157,A5,H⟩:=H
 replace H:=(gst_ H).symm;rcases H with ⟨rfl,H⟩|⟨rfl,H⟩
 ·obtain rfl:=Option.some.inj H
  go_enter Tryz.func58,Tryz.ntmps58
  go_wp2_with (first|((with_reducible refine gate_callee (f:=74) rfl ?_);refine goesL_ (some 6) rfl rfl Tryz.func74 krT_ rfl #[.int .i64 8,.int .i64 a0] rfl agT_ ?_;(with_reducible refine (spec_IsSet.calls 8 a0 true _ A3.out).mono ?_);rintro e w' ⟨rfl,⟨nd,rfl⟩⟩;refine ⟨_,rfl,?_⟩)|(go_at_call 53;(with_reducible refine (spec_l1In.calls a1 0 7 false _ A5.out).mono ?_);rintro e w' ⟨rfl,⟨nd,rfl⟩⟩))
  go_ret
  exact ⟨sT_,dT_⟩
 replace H:=bnd_ H;obtain ⟨t158,A7,H⟩:=H
 obtain rfl:=Option.some.inj H
 go_enter Tryz.func58,Tryz.ntmps58
 go_wp2_with (first|((with_reducible refine gate_callee (f:=74) rfl ?_);refine goesL_ (some 6) rfl rfl Tryz.func74 krT_ rfl #[.int .i64 8,.int .i64 a0] rfl agT_ ?_;(with_reducible refine (spec_IsSet.calls 8 a0 true _ A3.out).mono ?_);rintro e w' ⟨rfl,⟨nd,rfl⟩⟩;refine ⟨_,rfl,?_⟩)|(go_at_call 53;(with_reducible refine (spec_l1In.calls a1 0 7 true _ A5.out).mono ?_);rintro e w' ⟨rfl,⟨nd,rfl⟩⟩)|(go_at_call 54;(with_reducible refine (spec_l2Has.calls a0 a1 t158 _ A7.out).mono ?_);rintro e w' ⟨rfl,⟨nd,rfl⟩⟩))
 go_ret
 exact ⟨sT_,dT_⟩
def spec_ElementsOf.l0:Nat→Int→List Int→Int→Option (List Int)
 | 0,_,_,_=>none
 | k+1,x0,x3,x4=>if x4<8 then ((spec_HasElement.f x0 x4).bind fun t162=>(if t162=true then (if x3.length<17592186044416 then (spec_ElementsOf.l0 k x0 (x3++[x4]) (wrap64 (x4+1))) else (none)) else (spec_ElementsOf.l0 k x0 x3 (wrap64 (x4+1))))) else (some x3)
def spec_ElementsOf.f (k:Nat) (a0:Int):Option (List Int):=spec_ElementsOf.l0 k a0 (([]:List Int)) 0
theorem spec_ElementsOf.calls (k:Nat) (a0:Int) (r:List Int) (w:World) (h:spec_ElementsOf.f k a0=some r) :
    Calls Tryz.prog 129 #[.int .i64 a0] w fun e w'=>∃ v0_:Value,e=.returned (v0_)∧Kd.R (Kd.int .i64) 3 w' w.heap.size (fun _=>True) v0_ r∧Below w.heap.size w w':=by
 have HB:=Aside0.mk (Below.refl w.heap.size w)
 have H:(spec_ElementsOf.l0 k a0 (([]:List Int)) 0)=some r:=h
 clear h
 obtain ⟨y159,hy159⟩:∃ y_:List Int,y_=(([]:List Int)):=⟨_,rfl⟩
 rw [← hy159] at H
 have Ny159:=Aside0.mk hy159
 clear hy159
 have H':=Aside0.mk H
 clear H
 go_enter Tryz.func129,Tryz.ntmps129
 go_wp2_with (first|((with_reducible refine gate_dst (N:=5) rfl ?_);refine Kd.R_lit (Kd.int .i64) _ 3 ?hg (N:=5) ?hd (xs:=([]:List Int)) (inner:=[]) (ok:=fun _=>True) (okp:=fun _=>True) ?hr ?hp (fun _ hk=>hk) trivial (Below.refl _ _) (Nat.le_refl _) (by simp) ?_;(case hd=>rfl);(case hg=>rfl);(case hr=>exact hrT_);(case hp=>exact (Reps.none _ _));intro v160 w2 ho3 hb hg_ hnew_;clear hg_ hnew_;(first|rw [← Ny159.out] at ho3|(simp only [Int.reduceToNat] at ho3;rw [← Ny159.out] at ho3));have HO161:=Aside0.mk (Kd.R_lower ho3 (below_size (h_HB HB.out)));replace HB:=s_HB HB.out hb;clear hb ho3))
 go_loopg [3,4] k (fun kq v3 v4 w'=>∃ (x3_1:List Int) (x4_1:Int),v4=.int .i64 x4_1∧Aside0 (spec_ElementsOf.l0 kq a0 x3_1 x4_1=some r)∧Aside0 (kq≤k)∧Aside0 (Kd.R (Kd.int .i64) 3 w' w.heap.size (fun _=>True) v3 x3_1)∧Aside0 (Below w.heap.size w w'))
 case atStart=>exact ⟨(y159),(0),sT_,H',⟨Nat.le_refl _⟩,⟨kRC_ HO161.out⟩,⟨h_HB HB.out⟩⟩
 case round =>
 clear H'
 try clear c1
 try clear p2
 obtain ⟨x3_1,x4_1,rfl,HA,HK1,HO_3,HB⟩:=hrel
 cases gk with
 | zero=>exact absurd HA.out (by simp [spec_ElementsOf.l0])
 | succ k1 =>
 have H:=HA.out
 clear HA
 simp only [spec_ElementsOf.l0] at H
 replace H:=gsn_ H;rcases H with ⟨c4b0,H⟩|⟨c4b0,H⟩
 ·obtain rfl:=Option.some.inj H
  go_wp2
  go_ret
  exact ⟨_,eT_,kRC_ HO_3.out,h_HB HB.out⟩
 replace H:=bnd_ H;obtain ⟨t162,A5,H⟩:=H
 replace H:=(gst_ H).symm;rcases H with ⟨rfl,H⟩|⟨rfl,H⟩
 ·have H':=Aside0.mk H
  clear H
  go_wp2_with (first|((with_reducible refine gate_callee (f:=58) rfl ?_);refine goesL_ (some 12) rfl rfl Tryz.func58 krT_ rfl #[.int .i64 a0,.int .i64 x4_1] rfl agT_ ?_;(with_reducible refine (spec_HasElement.calls a0 x4_1 false _ A5.out).mono ?_);rintro e w' ⟨rfl,⟨nd,rfl⟩⟩;refine ⟨_,rfl,?_⟩))
  go_roundg k1
  case measure=>have:=HK1.out;omega
  case rel=>exact ⟨(x3_1),(wrap64 (x4_1+1)),sT_,H',⟨by have:=HK1.out;omega⟩,⟨kRC_ HO_3.out⟩,⟨h_HB HB.out⟩⟩
 replace H:=gsl_ H;obtain ⟨LMc7,H⟩:=H
 obtain ⟨y163,hy163⟩:∃ y_:List Int,y_=(x3_1++[x4_1]):=⟨_,rfl⟩
 rw [← hy163] at H
 have Ny163:=Aside0.mk hy163
 clear hy163
 have H':=Aside0.mk H
 clear H
 go_wp2_with (first|((with_reducible refine gate_callee (f:=58) rfl ?_);refine goesL_ (some 12) rfl rfl Tryz.func58 krT_ rfl #[.int .i64 a0,.int .i64 x4_1] rfl agT_ ?_;(with_reducible refine (spec_HasElement.calls a0 x4_1 true _ A5.out).mono ?_);rintro e w' ⟨rfl,⟨nd,rfl⟩⟩;refine ⟨_,rfl,?_⟩)|((with_reducible refine gate_builtin (b:=.append) (xs:=#[.tmp 13,.tmp 15]) rfl ?_);at_builtin;refine Kd.R_append (Kd.int .i64) (w0:=w) w.heap.size rfl (.tmp 13) (.tmp 15) 24 3 (.int .i64 0) 8 rfl Tryz.underlying24 info3 rfl (by decide) (by omega) u3 x3_1 x4_1 [.int .i64 x4_1] (fun _=>True) (fun _=>False) rfl rfl ?aP (fun _ hk=>hk.elim) ?aF ?aO ?aB ?aS ?aL ?_;(case aP=>exact rfl);(case aB=>exact (h_HB HB.out));(case aF=>exact (fun _ _=>trivial));(case aO=>exact (kRC_ HO_3.out));(case aS=>exact (below_size (h_HB HB.out)));(case aL=>have:=LMc7.out;omega);intro v164 w8 ho hb hg hat;rw [← Ny163.out] at ho;replace HB:=Aside0.mk (hb);have HO165:=Aside0.mk (ho);clear HO_3;clear ho hb hg hat))
 go_roundg k1
 case measure=>have:=HK1.out;omega
 case rel=>exact ⟨(y163),(wrap64 (x4_1+1)),sT_,H',⟨by have:=HK1.out;omega⟩,⟨kRC_ HO165.out⟩,⟨h_HB HB.out⟩⟩
def spec_SetText.l0:Nat→ByteArray→List Int→Int→Option (ByteArray)
 | 0,_,_,_=>none
 | k+1,x3,x4,x5=>if x5<(x4.length:Int) then (if 0≤x5 then (if 0≤(rd x4 x5) then (if (rd x4 x5)≤(wrap64 ((rd x4 x5)+1)) then (if (wrap64 ((rd x4 x5)+1))≤8 then (if x3.size+((⟨#[97,98,99,100,101,102,103,104]⟩:ByteArray).extract ((rd x4 x5):Int).toNat ((wrap64 ((rd x4 x5)+1)):Int).toNat).size≤9223372036854775807 then (spec_SetText.l0 k (x3++((⟨#[97,98,99,100,101,102,103,104]⟩:ByteArray).extract ((rd x4 x5):Int).toNat ((wrap64 ((rd x4 x5)+1)):Int).toNat)) x4 (wrap64 (x5+1))) else (none)) else (none)) else (none)) else (none)) else (none)) else (some x3)
def spec_SetText.f (k:Nat) (a0:Int):Option (ByteArray):=(spec_IsSet.f 8 a0).bind fun t166=>(if t166=true then (if a0=0 then (some (⟨#[45]⟩:ByteArray)) else ((spec_ElementsOf.f k a0).bind fun t167=>(spec_SetText.l0 k (⟨#[]⟩:ByteArray) t167 0))) else (some (⟨#[]⟩:ByteArray)))
theorem spec_SetText.calls (k:Nat) (a0:Int) (r:ByteArray) (w:World) (h:spec_SetText.f k a0=some r) :
    Calls Tryz.prog 126 #[.int .i64 a0] w fun e w'=>e=.returned (.string r)∧Below w.heap.size w w':=by
 have HB:=Aside0.mk (Below.refl w.heap.size w)
 unfold spec_SetText.f at h
 have H:=h
 clear h
 replace H:=bnd_ H;obtain ⟨t166,A2,H⟩:=H
 replace H:=(gst_ H).symm;rcases H with ⟨rfl,H⟩|⟨rfl,H⟩
 ·obtain rfl:=Option.some.inj H
  go_enter Tryz.func126,Tryz.ntmps126
  go_wp2_with (first|(go_at_call 74;(with_reducible refine (spec_IsSet.calls 8 a0 false _ A2.out).mono ?_);rintro e w' ⟨rfl,⟨nd,rfl⟩⟩;(try first|exact ⟨rfl,_,World.drewN_drewN _ _ _⟩|exact ⟨rfl,_,Eq.trans (World.drewN_drewN _ _ _) (congrArg (World.drewN _) (Nat.add_assoc _ _ _))⟩)))
  repeat (go_quiet (first|(go_at_call 74;(with_reducible refine (spec_IsSet.calls 8 a0 false _ A2.out).mono ?_);rintro e w' ⟨rfl,⟨nd,rfl⟩⟩;(try first|exact ⟨rfl,_,World.drewN_drewN _ _ _⟩|exact ⟨rfl,_,Eq.trans (World.drewN_drewN _ _ _) (congrArg (World.drewN _) (Nat.add_assoc _ _ _))⟩)));try go_wp2_with (first|(go_at_call 74;(with_reducible refine (spec_IsSet.calls 8 a0 false _ A2.out).mono ?_);rintro e w' ⟨rfl,⟨nd,rfl⟩⟩;(try first|exact ⟨rfl,_,World.drewN_drewN _ _ _⟩|exact ⟨rfl,_,Eq.trans (World.drewN_drewN _ _ _) (congrArg (World.drewN _) (Nat.add_assoc _ _ _))⟩))))
  go_ret
  exact ⟨eT_,h_HB HB.out⟩
 replace H:=gse_ H;rcases H with ⟨c4b0,c4b1,H⟩|⟨c4b0,c4b1,c4,H⟩
 ·obtain rfl:=Option.some.inj H
  go_enter Tryz.func126,Tryz.ntmps126
  go_wp2_with (first|(go_at_call 74;(with_reducible refine (spec_IsSet.calls 8 a0 true _ A2.out).mono ?_);rintro e w' ⟨rfl,⟨nd,rfl⟩⟩;(try first|exact ⟨rfl,_,World.drewN_drewN _ _ _⟩|exact ⟨rfl,_,Eq.trans (World.drewN_drewN _ _ _) (congrArg (World.drewN _) (Nat.add_assoc _ _ _))⟩)))
  repeat (go_quiet (first|(go_at_call 74;(with_reducible refine (spec_IsSet.calls 8 a0 true _ A2.out).mono ?_);rintro e w' ⟨rfl,⟨nd,rfl⟩⟩;(try first|exact ⟨rfl,_,World.drewN_drewN _ _ _⟩|exact ⟨rfl,_,Eq.trans (World.drewN_drewN _ _ _) (congrArg (World.drewN _) (Nat.add_assoc _ _ _))⟩)));try go_wp2_with (first|(go_at_call 74;(with_reducible refine (spec_IsSet.calls 8 a0 true _ A2.out).mono ?_);rintro e w' ⟨rfl,⟨nd,rfl⟩⟩;(try first|exact ⟨rfl,_,World.drewN_drewN _ _ _⟩|exact ⟨rfl,_,Eq.trans (World.drewN_drewN _ _ _) (congrArg (World.drewN _) (Nat.add_assoc _ _ _))⟩))))
  go_ret
  exact ⟨eT_,h_HB HB.out⟩
 replace H:=bnd_ H;obtain ⟨t167,A5,H⟩:=H
 have H':=Aside0.mk H
 clear H
 go_enter Tryz.func126,Tryz.ntmps126
 go_wp2_with (first|(go_at_call 74;(with_reducible refine (spec_IsSet.calls 8 a0 true _ A2.out).mono ?_);rintro e w' ⟨rfl,⟨nd,rfl⟩⟩;(try first|exact ⟨rfl,_,World.drewN_drewN _ _ _⟩|exact ⟨rfl,_,Eq.trans (World.drewN_drewN _ _ _) (congrArg (World.drewN _) (Nat.add_assoc _ _ _))⟩))|(go_at_call 129;(with_reducible refine (spec_ElementsOf.calls k a0 t167 _ A5.out).mono ?_);rintro e w6 ⟨v168,rfl,ho0,hb⟩;have HO169:=Aside0.mk (Kd.R_lower ho0 (below_size (h_HB HB.out)));replace HB:=s_HB HB.out hb;(try clear hb);(try clear ho0)))
 repeat (go_quiet (first|(go_at_call 74;(with_reducible refine (spec_IsSet.calls 8 a0 true _ A2.out).mono ?_);rintro e w' ⟨rfl,⟨nd,rfl⟩⟩;(try first|exact ⟨rfl,_,World.drewN_drewN _ _ _⟩|exact ⟨rfl,_,Eq.trans (World.drewN_drewN _ _ _) (congrArg (World.drewN _) (Nat.add_assoc _ _ _))⟩))|(go_at_call 129;(with_reducible refine (spec_ElementsOf.calls k a0 t167 _ A5.out).mono ?_);rintro e w6 ⟨v168,rfl,ho0,hb⟩;have HO169:=Aside0.mk (Kd.R_lower ho0 (below_size (h_HB HB.out)));replace HB:=s_HB HB.out hb;(try clear hb);(try clear ho0)));try go_wp2_with (first|(go_at_call 74;(with_reducible refine (spec_IsSet.calls 8 a0 true _ A2.out).mono ?_);rintro e w' ⟨rfl,⟨nd,rfl⟩⟩;(try first|exact ⟨rfl,_,World.drewN_drewN _ _ _⟩|exact ⟨rfl,_,Eq.trans (World.drewN_drewN _ _ _) (congrArg (World.drewN _) (Nat.add_assoc _ _ _))⟩))|(go_at_call 129;(with_reducible refine (spec_ElementsOf.calls k a0 t167 _ A5.out).mono ?_);rintro e w6 ⟨v168,rfl,ho0,hb⟩;have HO169:=Aside0.mk (Kd.R_lower ho0 (below_size (h_HB HB.out)));replace HB:=s_HB HB.out hb;(try clear hb);(try clear ho0))))
 go_loopg [3,5] k (fun kq v3 v5 w'=>∃ (x3_1:ByteArray) (x5_1:Int),v3=.string x3_1∧v5=.int .i64 x5_1∧Aside0 (spec_SetText.l0 kq x3_1 t167 x5_1=some r)∧Aside0 (kq≤k)∧Aside0 (Kd.R (Kd.int .i64) 3 w' w.heap.size (fun _=>True) v168 t167)∧Aside0 (Below w.heap.size w w'))
 case atStart=>exact ⟨((⟨#[]⟩:ByteArray)),(0),sT_,sT_,H',⟨Nat.le_refl _⟩,⟨kRC_ HO169.out⟩,⟨h_HB HB.out⟩⟩
 case round =>
 clear H'
 try clear c1
 try clear p2
 try clear c3
 try clear c4
 try clear c4b0
 try clear c4b1
 obtain ⟨x3_1,x5_1,rfl,rfl,HA,HK1,HO_4,HB⟩:=hrel
 cases gk with
 | zero=>exact absurd HA.out (by simp [spec_SetText.l0])
 | succ k1 =>
 have H:=HA.out
 clear HA
 simp only [spec_SetText.l0] at H
 replace H:=gsn_ H;rcases H with ⟨c7b0,H⟩|⟨c7b0,H⟩
 ·obtain rfl:=Option.some.inj H
  obtain ⟨Ao14,co14,eo14⟩:=Kd.R_slice HO_4.out
  subst eo14
  go_wp2
  repeat (go_quiet (fail);try go_wp2)
  go_ret
  exact ⟨eT_,h_HB HB.out⟩
 replace H:=gsm_ H;obtain ⟨c8b0,H⟩:=H
 replace H:=gsp_ H;obtain ⟨c9,H⟩:=H
 have c9b0:=eq_true c9
 have c9b1:decide (0≤(rd t167 x5_1))=true:=decide_eq_true c9
 clear c9
 replace H:=gsp_ H;obtain ⟨c10,H⟩:=H
 have c10b0:=eq_true c10
 have c10b1:decide ((rd t167 x5_1)≤(wrap64 ((rd t167 x5_1)+1)))=true:=decide_eq_true c10
 replace H:=gsp_ H;obtain ⟨c11,H⟩:=H
 have c11b0:=eq_true c11
 have c11b1:decide ((wrap64 ((rd t167 x5_1)+1))≤8)=true:=decide_eq_true c11
 replace H:=gsp_ H;obtain ⟨c12,H⟩:=H
 have c12b0:=eq_true c12
 have c12b1:decide (x3_1.size+((⟨#[97,98,99,100,101,102,103,104]⟩:ByteArray).extract ((rd t167 x5_1):Int).toNat ((wrap64 ((rd t167 x5_1)+1)):Int).toNat).size≤9223372036854775807)=true:=decide_eq_true c12
 try have c12b2:(9223372036854775807<x3_1.size+((⟨#[97,98,99,100,101,102,103,104]⟩:ByteArray).extract ((rd t167 x5_1):Int).toNat ((wrap64 ((rd t167 x5_1)+1)):Int).toNat).size)=False:=eq_false (Nat.not_lt.2 c12)
 have H':=Aside0.mk H
 clear H
 obtain ⟨Ao13,co13,eo13⟩:=Kd.R_slice HO_4.out
 subst eo13
 obtain ⟨ad170,e170,hx170_0,p170,q170⟩:=aiI_ (Kd.R_reads' HO_4.out).2.2 x5_1
 cases e170
 obtain ⟨ad171,e171,hx171_0,p171,q171⟩:=aiI_ (Kd.R_reads' HO_4.out).2.2 x5_1
 obtain rfl:ad170=ad171:=(by injection e171)
 go_wp2
 repeat (go_quiet (fail);try go_wp2)
 go_roundg k1
 case measure=>have:=HK1.out;omega
 case rel=>exact ⟨(x3_1++((⟨#[97,98,99,100,101,102,103,104]⟩:ByteArray).extract ((rd t167 x5_1):Int).toNat ((wrap64 ((rd t167 x5_1)+1)):Int).toNat)),(wrap64 (x5_1+1)),sT_,sT_,H',⟨by have:=HK1.out;omega⟩,⟨kRC_ HO_4.out⟩,⟨h_HB HB.out⟩⟩
mutual
def spec_ParseSet.l0:Nat→ByteArray→Int→Int→Option (Int × Bool)
 | 0,_,_,_=>none
 | k+1,x0,x4,x5=>if x5<(x0.size:Int) then (spec_ParseSet.j1 k x0 x4 x5 (x0.toList != ([45]:List UInt8))) else (spec_ParseSet.j1 k x0 x4 x5 false)
def spec_ParseSet.j1:Nat→ByteArray→Int→Int→Bool→Option (Int × Bool)
 | 0,_,_,_,_=>none
 | k+1,x0,x4,x5,x13=>if x13=true then (if 0≤x5 then (if x5<(x0.size:Int) then (if (bt x0 x5)<97 then (some (0,false)) else (if (bt x0 x5)>104 then (some (0,false)) else ((spec_WithElement.f x4 (((bt x0 x5)-97) % 256)).bind fun t172=>(spec_ParseSet.l0 k x0 t172 (wrap64 (x5+1)))))) else (none)) else (none)) else ((spec_SetText.f k x4).bind fun t173=>(if t173.toList=x0.toList then (some (x4,true)) else (some (0,false))))
end
def spec_ParseSet.f (k:Nat) (a0:ByteArray):Option (Int × Bool):=spec_ParseSet.l0 k a0 0 0
theorem spec_ParseSet.calls (k:Nat) (a0:ByteArray) (r1:Int) (r2:Bool) (w:World) (h:spec_ParseSet.f k a0=some (r1,r2)) :
    Calls Tryz.prog 116 #[.string a0] w fun e w'=>e=.returned (.tuple #[.int .i64 r1,.bool r2])∧Below w.heap.size w w':=by
 have HB:=Aside0.mk (Below.refl w.heap.size w)
 have H:(spec_ParseSet.l0 k a0 0 0)=some (r1,r2):=h
 clear h
 have H':=Aside0.mk H
 clear H
 go_enter Tryz.func116,Tryz.ntmps116
 go_wp2
 go_loopg [4,5] k (fun kq v4 v5 w'=>∃ (x4_1:Int) (x5_1:Int),v4=.int .i64 x4_1∧v5=.int .i64 x5_1∧Aside0 (spec_ParseSet.l0 kq a0 x4_1 x5_1=some (r1,r2))∧Aside0 (kq≤k)∧Aside0 (Below w.heap.size w w'))
 case atStart=>exact ⟨(0),(0),sT_,sT_,H',⟨Nat.le_refl _⟩,⟨h_HB HB.out⟩⟩
 case round =>
 clear H'
 try clear c1
 obtain ⟨x4_1,x5_1,rfl,rfl,HA,HK1,HB⟩:=hrel
 cases gk with
 | zero=>exact absurd HA.out (by simp [spec_ParseSet.l0])
 | succ k1 =>
 have H:=HA.out
 clear HA
 simp only [spec_ParseSet.l0] at H
 have HC2:=Aside0.mk H
 clear H
 go_upto_region 3 with (fail)
 go_cut [13] (fun v13 wc=>∃ (kq:Nat) (x13_1:Bool),v13=.bool x13_1∧Aside0 (spec_ParseSet.j1 kq a0 x4_1 x5_1 x13_1=some (r1,r2))∧Aside0 (kq≤k1)∧Aside0 (Below w.heap.size w wc))
 case first =>
  have H:=HC2.out
  clear HC2
  replace H:=gsb_ H;rcases H with ⟨c3b0,H⟩|⟨c3b0,H⟩
  ·(first|rw [c3b0]|(simp only [i64_w,i32_w];rw [c3b0])|skip)
   have H':=Aside0.mk H
   clear H
   go_wp2
   go_meet
   case rel=>exact ⟨_,((a0.toList != ([45]:List UInt8))),sT_,H',⟨by have:=HK1.out;first|omega|exact Nat.le_refl _⟩,⟨h_HB HB.out⟩⟩
  (first|rw [c3b0]|(simp only [i64_w,i32_w];rw [c3b0])|skip)
  have H':=Aside0.mk H
  clear H
  go_wp2
  go_meet
  case rel=>exact ⟨_,(false),sT_,H',⟨by have:=HK1.out;first|omega|exact Nat.le_refl _⟩,⟨h_HB HB.out⟩⟩
 case rest =>
 clear HC2
 try clear c1
 try clear p2
 try clear c3
 try clear c3b0
 obtain ⟨kq,x13_1,rfl,HA,HJ1,HB⟩:=hcut
 cases kq with
 | zero=>exact absurd HA.out (by simp [spec_ParseSet.j1])
 | succ kj1 =>
 have H:=HA.out
 clear HA
 simp only [spec_ParseSet.j1] at H
 replace H:=(gst_ H).symm;rcases H with ⟨rfl,H⟩|⟨rfl,H⟩
 ·replace H:=bnd_ H;obtain ⟨t173,A13,H⟩:=H
  replace H:=gse_ H;rcases H with ⟨c14b0,c14b1,H⟩|⟨c14b0,c14b1,c14,H⟩
  ·simp only [Option.some.injEq,Prod.mk.injEq] at H
   obtain ⟨rfl,rfl⟩:=H
   go_wp2_with (first|((with_reducible refine gate_callee (f:=126) rfl ?_);refine goesL_ (some 34) rfl rfl Tryz.func126 krT_ rfl #[.int .i64 x4_1] rfl agT_ ?_;(with_reducible refine (spec_SetText.calls kj1 x4_1 t173 _ A13.out).mono ?_);rintro e w15 ⟨rfl,hb⟩;refine ⟨_,rfl,?_⟩;replace HB:=s_HB HB.out hb;(try clear hb)))
   go_ret2
   exact ⟨eT_,h_HB HB.out⟩
  simp only [Option.some.injEq,Prod.mk.injEq] at H
  obtain ⟨rfl,rfl⟩:=H
  go_wp2_with (first|((with_reducible refine gate_callee (f:=126) rfl ?_);refine goesL_ (some 34) rfl rfl Tryz.func126 krT_ rfl #[.int .i64 x4_1] rfl agT_ ?_;(with_reducible refine (spec_SetText.calls kj1 x4_1 t173 _ A13.out).mono ?_);rintro e w16 ⟨rfl,hb⟩;refine ⟨_,rfl,?_⟩;replace HB:=s_HB HB.out hb;(try clear hb)))
  go_ret2
  exact ⟨eT_,h_HB HB.out⟩
 replace H:=gsm_ H;obtain ⟨c5b0,H⟩:=H
 replace H:=gsm_ H;obtain ⟨c6b0,H⟩:=H
 replace H:=gsb_ H;rcases H with ⟨c8b0,H⟩|⟨c8b0,H⟩
 ·simp only [Option.some.injEq,Prod.mk.injEq] at H
  obtain ⟨rfl,rfl⟩:=H
  have p7:0≤(x5_1:Int):=odT_
  have q7:x5_1<(a0.size:Int):=odT_
  have hx7:=bt_at a0 x5_1
  replace p7:=eq_true p7
  replace q7:=eq_true q7
  go_wp2
  go_ret2
  exact ⟨eT_,h_HB HB.out⟩
 replace H:=gsq_ H;rcases H with ⟨c10,H⟩|⟨c10,H⟩
 ·have c10b0:decide (104<(bt a0 x5_1))=true:=decide_eq_true c10
  clear c10
  simp only [Option.some.injEq,Prod.mk.injEq] at H
  obtain ⟨rfl,rfl⟩:=H
  have p7:0≤(x5_1:Int):=odT_
  have q7:x5_1<(a0.size:Int):=odT_
  have hx7:=bt_at a0 x5_1
  replace p7:=eq_true p7
  replace q7:=eq_true q7
  have p9:0≤(x5_1:Int):=odT_
  have q9:x5_1<(a0.size:Int):=odT_
  have hx9:=bt_at a0 x5_1
  replace p9:=eq_true p9
  replace q9:=eq_true q9
  go_wp2
  go_ret2
  exact ⟨eT_,h_HB HB.out⟩
 have c10b0:decide (104<(bt a0 x5_1))=false:=decide_eq_false c10
 clear c10
 replace H:=bnd_ H;obtain ⟨t172,A12,H⟩:=H
 have H':=Aside0.mk H
 clear H
 have p7:0≤(x5_1:Int):=odT_
 have q7:x5_1<(a0.size:Int):=odT_
 have hx7:=bt_at a0 x5_1
 replace p7:=eq_true p7
 replace q7:=eq_true q7
 have p9:0≤(x5_1:Int):=odT_
 have q9:x5_1<(a0.size:Int):=odT_
 have hx9:=bt_at a0 x5_1
 replace p9:=eq_true p9
 replace q9:=eq_true q9
 have p11:0≤(x5_1:Int):=odT_
 have q11:x5_1<(a0.size:Int):=odT_
 have hx11:=bt_at a0 x5_1
 replace p11:=eq_true p11
 replace q11:=eq_true q11
 go_wp2_with (first|((with_reducible refine gate_callee (f:=125) rfl ?_);refine goesL_ (some 32) rfl rfl Tryz.func125 krT_ rfl #[.int .i64 x4_1,.int .i64 (((bt a0 x5_1)-97) % 256)] rfl agT_ ?_;(with_reducible refine (spec_WithElement.calls x4_1 (((bt a0 x5_1)-97) % 256) t172 _ A12.out).mono ?_);rintro e w' ⟨rfl,⟨nd,rfl⟩⟩;refine ⟨_,rfl,?_⟩))
 go_roundg kj1
 case measure=>have:=HK1.out;have:=HJ1.out;omega
 case rel=>exact ⟨(t172),(wrap64 (x5_1+1)),sT_,sT_,H',⟨by have:=HK1.out;have:=HJ1.out;omega⟩,⟨h_HB HB.out⟩⟩
def spec_l3Sets.l0:Nat→Int→List Int→Int→Option (Bool)
 | 0,_,_,_=>none
 | k+1,x0,x1,x5=>if x5<(x1.length:Int) then (if 0≤x5 then ((spec_IsSet.f x0 (rd x1 x5)).bind fun t175=>(if t175=true then (spec_l3Sets.l0 k x0 x1 (wrap64 (x5+1))) else (some false))) else (none)) else (some true)
def spec_l3Sets.f (k:Nat) (a0:Int) (l1:List Int):Option (Bool):=spec_l3Sets.l0 k a0 l1 0
theorem spec_l3Sets.calls (k:Nat) (a0:Int) (A1:Option Addr) (c1:Nat) (l1:List Int) (r:Bool) (w:World) (hr1:Kd.C (Kd.int .i64) w A1 l1.length l1) (hc1:l1.length≤c1) (h:spec_l3Sets.f k a0 l1=some r) :
    Calls Tryz.prog 76 #[.int .i64 a0,.slice A1 l1.length c1] w fun e w'=>e=.returned (.bool r)∧Drawn0 w w':=by
 have HR1:=Aside0.mk hr1
 have HC1:=Aside0.mk hc1
 clear hr1 hc1
 have H:(spec_l3Sets.l0 k a0 l1 0)=some r:=h
 clear h
 have H':=Aside0.mk H
 clear H
 go_enter Tryz.func76,Tryz.ntmps76
 go_wp2
 go_loopg [5] k (fun kq v5 w'=>∃ (x5_1:Int),v5=.int .i64 x5_1∧Aside0 (spec_l3Sets.l0 kq a0 l1 x5_1=some r)∧Aside0 (kq≤k)∧Drawn0 w w')
 case atStart=>exact ⟨(0),sT_,H',⟨Nat.le_refl _⟩,dT_⟩
 case round =>
 clear H'
 try clear c1
 try clear p2
 obtain ⟨x5_1,rfl,HA,HK1,⟨m1,rfl⟩⟩:=hrel
 cases gk with
 | zero=>exact absurd HA.out (by simp [spec_l3Sets.l0])
 | succ k1 =>
 have H:=HA.out
 clear HA
 simp only [spec_l3Sets.l0] at H
 replace H:=gsn_ H;rcases H with ⟨c3b0,H⟩|⟨c3b0,H⟩
 ·obtain rfl:=Option.some.inj H
  go_wp2
  go_ret
  exact ⟨sT_,dT_⟩
 replace H:=gsm_ H;obtain ⟨c4b0,H⟩:=H
 replace H:=bnd_ H;obtain ⟨t175,A5,H⟩:=H
 replace H:=(gst_ H).symm;rcases H with ⟨rfl,H⟩|⟨rfl,H⟩
 ·obtain rfl:=Option.some.inj H
  obtain ⟨ad174,e174,hx174_0,p174,q174⟩:=aiI_ HR1.out x5_1
  cases e174
  go_wp2_with (first|((with_reducible refine gate_callee (f:=74) rfl ?_);refine goesL_ (some 17) rfl rfl Tryz.func74 krT_ rfl #[.int .i64 a0,.int .i64 (rd l1 x5_1)] rfl agT_ ?_;(with_reducible refine (spec_IsSet.calls a0 (rd l1 x5_1) false _ A5.out).mono ?_);rintro e w' ⟨rfl,⟨nd,rfl⟩⟩;refine ⟨_,rfl,?_⟩))
  go_ret
  exact ⟨sT_,dT_⟩
 have H':=Aside0.mk H
 clear H
 obtain ⟨ad174,e174,hx174_0,p174,q174⟩:=aiI_ HR1.out x5_1
 cases e174
 go_wp2_with (first|((with_reducible refine gate_callee (f:=74) rfl ?_);refine goesL_ (some 17) rfl rfl Tryz.func74 krT_ rfl #[.int .i64 a0,.int .i64 (rd l1 x5_1)] rfl agT_ ?_;(with_reducible refine (spec_IsSet.calls a0 (rd l1 x5_1) true _ A5.out).mono ?_);rintro e w' ⟨rfl,⟨nd,rfl⟩⟩;refine ⟨_,rfl,?_⟩))
 go_roundg k1
 case measure=>have:=HK1.out;omega
 case rel=>exact ⟨(wrap64 (x5_1+1)),sT_,H',⟨by have:=HK1.out;omega⟩,dT_⟩
end Go.Proofs.YtekegbacnagbcaaGreat.P
