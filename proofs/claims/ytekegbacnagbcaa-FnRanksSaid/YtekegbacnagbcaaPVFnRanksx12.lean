-- written by gprint (a program of this session's, round the kit's print), out of the translation and hand-written texts
import Derived.Test.YtekegbacnagbcaaPVFnRanksx0
namespace Go.Proofs.Ytekegbacnagbcaa.P
open Go.RowKit Go.Proofs.YtekegbacnagbcaaW.PrintWords Go.Proofs.YtekegbacnagbcaaW.PrintLast Go.Proofs.YtekegbacnagbcaaW.PrintMore
attribute [local go_sem] max2_int min2_int max_two min_two max_three min_three max_four min_four   -- for this text's walks alone
set_option linter.unusedVariables false
set_option linter.unusedSimpArgs false
/-! ### impl_isSize: function 65 -/
def impl_isSize.f (a0:Int):Option (Bool):=if a0≥0 then (some (decide (a0≤8))) else (some false)
set_option maxHeartbeats 8000000 in
set_option maxRecDepth 100000 in
theorem impl_isSize.calls (a0:Int) (r:Bool) (w:World) (h:impl_isSize.f a0=some r) :
    Calls Try.prog 65 #[.int .i64 a0] w fun e w'=>e=.returned (.bool r)∧Drawn0 w w':=by
 have H:(if a0≥0 then (some (decide (a0≤8))) else (some false))=some r:=h
 clear h
 by_cases c2:a0≥0
 ·rw [if_pos c2] at H
  have c2b0:decide (0≤a0)=true:=decide_eq_true c2
  clear c2
  obtain rfl:=Option.some.inj H
  go_enter Try.func65,Try.ntmps65
  go_wp2
  go_ret
  exact ⟨sT_,dT_⟩
 rw [if_neg c2] at H
 have c2b0:decide (0≤a0)=false:=decide_eq_false c2
 clear c2
 obtain rfl:=Option.some.inj H
 go_enter Try.func65,Try.ntmps65
 go_wp2
 go_ret
 exact ⟨sT_,dT_⟩
/-! ### impl_IsSet: function 55 -/
def impl_IsSet.f (a0:Int) (a1:Int):Option (Bool):=(impl_isSize.f a0).bind fun t548=>(if t548=true then (if a1≥0 then (if 0≤a0 then (some (decide (a1<(shl .i64 1 a0)))) else (none)) else (some false)) else (some false))
set_option maxHeartbeats 8000000 in
set_option maxRecDepth 100000 in
theorem impl_IsSet.calls (a0:Int) (a1:Int) (r:Bool) (w:World) (h:impl_IsSet.f a0 a1=some r) :
    Calls Try.prog 55 #[.int .i64 a0,.int .i64 a1] w fun e w'=>e=.returned (.bool r)∧Drawn0 w w':=by
 unfold impl_IsSet.f at h
 have H:=h
 clear h
 replace H:=bnd_ H;obtain ⟨t548,A3,H⟩:=H
 by_cases c4:t548=true
 rotate_left
 ·replace c4:=Bool.eq_false_iff.mpr c4
  subst c4
  replace H:=bF_ H
  obtain rfl:=Option.some.inj H
  go_enter Try.func55,Try.ntmps55
  go_wp2_with (first|((with_reducible refine gate_callee (f:=65) rfl ?_);refine goesL_ (some 6) rfl rfl Try.func65 krT_ rfl #[.int .i64 a0] rfl agT_ ?_;(with_reducible refine (impl_isSize.calls a0 false _ A3.out).mono ?_);rintro e w' ⟨rfl,⟨nd,rfl⟩⟩;refine ⟨_,rfl,?_⟩))
  go_ret
  exact ⟨sT_,dT_⟩
 subst c4
 replace H:=bT_ H
 by_cases c5:a1≥0
 rotate_left
 ·rw [if_neg c5] at H
  have c5b0:decide (0≤a1)=false:=decide_eq_false c5
  clear c5
  obtain rfl:=Option.some.inj H
  go_enter Try.func55,Try.ntmps55
  go_wp2_with (first|((with_reducible refine gate_callee (f:=65) rfl ?_);refine goesL_ (some 6) rfl rfl Try.func65 krT_ rfl #[.int .i64 a0] rfl agT_ ?_;(with_reducible refine (impl_isSize.calls a0 true _ A3.out).mono ?_);rintro e w' ⟨rfl,⟨nd,rfl⟩⟩;refine ⟨_,rfl,?_⟩))
  go_ret
  exact ⟨sT_,dT_⟩
 rw [if_pos c5] at H
 have c5b0:decide (0≤a1)=true:=decide_eq_true c5
 clear c5
 by_cases c6:0≤a0
 rotate_left
 ·rw [if_neg c6] at H
  exact absurd H (by simp)
 rw [if_pos c6] at H
 have c6b0:=eq_true c6
 have c6b1:decide (0≤a0)=true:=decide_eq_true c6
 clear c6
 obtain ⟨ji7,hji7⟩:∃ j_:Int,(shl .i64 1 a0)=j_:=⟨_,rfl⟩
 replace H:(some (decide (a1<(ji7))))=some r:=by first|(rw [hji7] at H;exact H)|(simp only [hji7] at H ⊢;exact H)
 (try rw [hji7] at A3)
 have hji7_:(IntKind.i64.wrap (1*2 ^ min a0.toNat 64))=ji7:=hji7
 have hji7z:a0≤64→(IntKind.i64.wrap (1*2 ^ a0.toNat))=ji7:=shl_small hji7
 have hji7u:(IntKind.i64.wrap (2 ^ min a0.toNat 64))=ji7:=by have h_:=hji7_;rw [Int.one_mul] at h_;exact h_
 have hji7v:a0≤64→(IntKind.i64.wrap (2 ^ a0.toNat))=ji7:=fun hle_=>by have h_:=hji7z hle_;rw [Int.one_mul] at h_;exact h_
 have hji7y:(wrap64 (1*2 ^ min a0.toNat 64))=ji7:=(i64_w _).symm.trans hji7_
 have hji7x:a0≤64→(wrap64 (1*2 ^ a0.toNat))=ji7:=fun h_=>(i64_w _).symm.trans (hji7z h_)
 obtain rfl:=Option.some.inj H
 go_enter Try.func55,Try.ntmps55
 go_wp2_with (first|((with_reducible refine gate_callee (f:=65) rfl ?_);refine goesL_ (some 6) rfl rfl Try.func65 krT_ rfl #[.int .i64 a0] rfl agT_ ?_;(with_reducible refine (impl_isSize.calls a0 true _ A3.out).mono ?_);rintro e w' ⟨rfl,⟨nd,rfl⟩⟩;refine ⟨_,rfl,?_⟩))
 go_ret
 exact ⟨by first|rfl|(simp;done)|(simp only [← hji7]<;>(first|rfl|simp))|(simp [*];done),dT_⟩
/-! ### impl_IsFamily: function 64 -/
def impl_IsFamily.l0:Nat→Int→List Int→List Int→Int→Int→Option (Bool)
 | 0,_,_,_,_,_=>none
 | k+1,x0,x1,x7,x8,x9=>if x9<x8 then (if 0≤x9 then (if x9<(x7.length:Int) then ((impl_IsSet.f x0 (rd x7 x9)).bind fun t550=>(if t550=true then (if x9>0 then (if 0≤(wrap64 (x9-1)) then (if (wrap64 (x9-1))<(x1.length:Int) then (if (rd x7 x9)≤(rd x1 (wrap64 (x9-1))) then (some false) else (impl_IsFamily.l0 k x0 x1 x7 x8 (wrap64 (x9+1)))) else (none)) else (none)) else (impl_IsFamily.l0 k x0 x1 x7 x8 (wrap64 (x9+1)))) else (some false))) else (none)) else (none)) else ((impl_isSize.f x0).bind fun t552=>(some t552))
def impl_IsFamily.f (k:Nat) (a0:Int) (l1:List Int):Option (Bool):=impl_IsFamily.l0 k a0 l1 l1 (l1.length:Int) 0
set_option maxHeartbeats 8000000 in
set_option maxRecDepth 100000 in
theorem impl_IsFamily.calls (k:Nat) (a0:Int) (A1:Option Addr) (c1:Nat) (l1:List Int) (r:Bool) (w:World) (hr1:Kd.C (Kd.int .i64) w A1 l1.length l1) (hc1:l1.length≤c1) (h:impl_IsFamily.f k a0 l1=some r) :
    Calls Try.prog 64 #[.int .i64 a0,.slice A1 l1.length c1] w fun e w'=>e=.returned (.bool r)∧Drawn0 w w':=by
 have HR1:=Aside0.mk hr1
 have HC1:=Aside0.mk hc1
 clear hr1 hc1
 have H:(impl_IsFamily.l0 k a0 l1 l1 (l1.length:Int) 0)=some r:=h
 clear h
 have H':=Aside0.mk H
 clear H
 go_enter Try.func64,Try.ntmps64
 go_wp2
 go_loopg [9] k (fun kq v9 w'=>∃ (x9_1:Int),v9=.int .i64 x9_1∧Aside0 (impl_IsFamily.l0 kq a0 l1 l1 (l1.length:Int) x9_1=some r)∧Aside0 (kq≤k)∧Drawn0 w w')
 case atStart=>exact ⟨(0),sT_,H',⟨Nat.le_refl _⟩,dT_⟩
 case round =>
 clear H'
 try clear c1
 try clear p2
 obtain ⟨x9_1,rfl,HA,HK1,⟨m1,rfl⟩⟩:=hrel
 cases gk with
 | zero=>exact absurd HA.out (by simp [impl_IsFamily.l0])
 | succ k1 =>
 have H:=HA.out
 clear HA
 simp only [impl_IsFamily.l0] at H
 rcases gsn_ H with ⟨c3b0,H⟩|⟨c3b0,H⟩
 ·replace H:=bnd_ H;obtain ⟨t552,A13,H⟩:=H
  obtain rfl:=Option.some.inj H
  go_wp2_with (first|((with_reducible refine gate_callee (f:=65) rfl ?_);refine goesL_ (some 33) rfl rfl Try.func65 krT_ rfl #[.int .i64 a0] rfl agT_ ?_;(with_reducible refine (impl_isSize.calls a0 t552 _ A13.out).mono ?_);rintro e w' ⟨rfl,⟨nd,rfl⟩⟩;refine ⟨_,rfl,?_⟩))
  go_ret
  exact ⟨sT_,dT_⟩
 replace H:=gsm_ H;obtain ⟨c4b0,H⟩:=H
 replace H:=gsm_ H;obtain ⟨c5b0,H⟩:=H
 replace H:=bnd_ H;obtain ⟨t550,A6,H⟩:=H
 by_cases c7:t550=true
 rotate_left
 ·replace c7:=Bool.eq_false_iff.mpr c7
  subst c7
  replace H:=bF_ H
  obtain rfl:=Option.some.inj H
  obtain ⟨ad549,e549,hx549_0,p549,q549⟩:=aiI_ HR1.out x9_1
  cases e549
  go_wp2_with (first|((with_reducible refine gate_callee (f:=55) rfl ?_);refine goesL_ (some 16) rfl rfl Try.func55 krT_ rfl #[.int .i64 a0,.int .i64 (rd l1 x9_1)] rfl agT_ ?_;(with_reducible refine (impl_IsSet.calls a0 (rd l1 x9_1) false _ A6.out).mono ?_);rintro e w' ⟨rfl,⟨nd,rfl⟩⟩;refine ⟨_,rfl,?_⟩))
  go_ret
  exact ⟨sT_,dT_⟩
 subst c7
 replace H:=bT_ H
 by_cases c8:x9_1>0
 ·rw [if_pos c8] at H
  have c8b0:decide (0<x9_1)=true:=decide_eq_true c8
  clear c8
  obtain ⟨ji9,hji9⟩:∃ j_:Int,(wrap64 (x9_1-1))=j_:=⟨_,rfl⟩
  replace H:(if 0≤(ji9) then (if (ji9)<(l1.length:Int) then (if (rd l1 x9_1)≤(rd l1 (ji9)) then (some false) else (impl_IsFamily.l0 k1 a0 l1 l1 (l1.length:Int) (wrap64 (x9_1+1)))) else (none)) else (none))=some r:=by first|(rw [hji9] at H;exact H)|(simp only [hji9] at H ⊢;exact H)
  (try rw [hji9] at A6)
  have hji9w:(IntKind.i64.wrap (x9_1-1))=ji9:=(i64_w _).trans hji9
  replace H:=gsm_ H;obtain ⟨c10b0,H⟩:=H
  replace H:=gsm_ H;obtain ⟨c11b0,H⟩:=H
  rcases gsb_ H with ⟨c12b0,H⟩|⟨c12b0,H⟩
  ·obtain rfl:=Option.some.inj H
   obtain ⟨ad549,e549,hx549_0,p549,q549⟩:=aiI_ HR1.out x9_1
   cases e549
   go_wp2_with (first|((with_reducible refine gate_callee (f:=55) rfl ?_);refine goesL_ (some 16) rfl rfl Try.func55 krT_ rfl #[.int .i64 a0,.int .i64 (rd l1 x9_1)] rfl agT_ ?_;(with_reducible refine (impl_IsSet.calls a0 (rd l1 x9_1) true _ A6.out).mono ?_);rintro e w' ⟨rfl,⟨nd,rfl⟩⟩;refine ⟨_,rfl,?_⟩;obtain ⟨ad551,e551,hx551_0,p551,q551⟩:=aiI_ HR1.out (ji9);obtain rfl:ad549=ad551:=(by injection e551)))
   go_ret
   exact ⟨by first|rfl|(simp;done)|(simp only [← hji9]<;>(first|rfl|simp))|(simp [*];done),dT_⟩
  have H':=Aside0.mk H
  clear H
  obtain ⟨ad549,e549,hx549_0,p549,q549⟩:=aiI_ HR1.out x9_1
  cases e549
  go_wp2_with (first|((with_reducible refine gate_callee (f:=55) rfl ?_);refine goesL_ (some 16) rfl rfl Try.func55 krT_ rfl #[.int .i64 a0,.int .i64 (rd l1 x9_1)] rfl agT_ ?_;(with_reducible refine (impl_IsSet.calls a0 (rd l1 x9_1) true _ A6.out).mono ?_);rintro e w' ⟨rfl,⟨nd,rfl⟩⟩;refine ⟨_,rfl,?_⟩;obtain ⟨ad551,e551,hx551_0,p551,q551⟩:=aiI_ HR1.out (ji9);obtain rfl:ad549=ad551:=(by injection e551)))
  go_roundg k1
  case measure=>have:=HK1.out;omega
  case rel=>exact ⟨(wrap64 (x9_1+1)),sT_,H',⟨by have:=HK1.out;omega⟩,dT_⟩
 ·rw [if_neg c8] at H
  have c8b0:decide (0<x9_1)=false:=decide_eq_false c8
  clear c8
  have H':=Aside0.mk H
  clear H
  obtain ⟨ad549,e549,hx549_0,p549,q549⟩:=aiI_ HR1.out x9_1
  cases e549
  go_wp2_with (first|((with_reducible refine gate_callee (f:=55) rfl ?_);refine goesL_ (some 16) rfl rfl Try.func55 krT_ rfl #[.int .i64 a0,.int .i64 (rd l1 x9_1)] rfl agT_ ?_;(with_reducible refine (impl_IsSet.calls a0 (rd l1 x9_1) true _ A6.out).mono ?_);rintro e w' ⟨rfl,⟨nd,rfl⟩⟩;refine ⟨_,rfl,?_⟩))
  go_roundg k1
  case measure=>have:=HK1.out;omega
  case rel=>exact ⟨(wrap64 (x9_1+1)),sT_,H',⟨by have:=HK1.out;omega⟩,dT_⟩
/-! ### impl_isAny: function 59 -/
def impl_isAny.f (a0:Int):Option (Bool):=if a0≥0 then (some (decide (a0<256))) else (some false)
set_option maxHeartbeats 8000000 in
set_option maxRecDepth 100000 in
theorem impl_isAny.calls (a0:Int) (r:Bool) (w:World) (h:impl_isAny.f a0=some r) :
    Calls Try.prog 59 #[.int .i64 a0] w fun e w'=>e=.returned (.bool r)∧Drawn0 w w':=by
 have H:(if a0≥0 then (some (decide (a0<256))) else (some false))=some r:=h
 clear h
 by_cases c2:a0≥0
 ·rw [if_pos c2] at H
  have c2b0:decide (0≤a0)=true:=decide_eq_true c2
  clear c2
  obtain rfl:=Option.some.inj H
  go_enter Try.func59,Try.ntmps59
  go_wp2
  go_ret
  exact ⟨sT_,dT_⟩
 rw [if_neg c2] at H
 have c2b0:decide (0≤a0)=false:=decide_eq_false c2
 clear c2
 obtain rfl:=Option.some.inj H
 go_enter Try.func59,Try.ntmps59
 go_wp2
 go_ret
 exact ⟨sT_,dT_⟩
/-! ### impl_HasElement: function 82 -/
def impl_HasElement.f (a0:Int) (a1:Int):Option (Bool):=(impl_isAny.f a0).bind fun t553=>(if t553=true then (if a1≥0 then (if a1<8 then (if 0≤a1 then (some ((Go.bits .and .i64 (shr .i64 a0 a1) 1)==1)) else (none)) else (some false)) else (some false)) else (some false))
set_option maxHeartbeats 8000000 in
set_option maxRecDepth 100000 in
theorem impl_HasElement.calls (a0:Int) (a1:Int) (r:Bool) (w:World) (h:impl_HasElement.f a0 a1=some r) :
    Calls Try.prog 82 #[.int .i64 a0,.int .i64 a1] w fun e w'=>e=.returned (.bool r)∧Drawn0 w w':=by
 unfold impl_HasElement.f at h
 have H:=h
 clear h
 replace H:=bnd_ H;obtain ⟨t553,A3,H⟩:=H
 by_cases c4:t553=true
 rotate_left
 ·replace c4:=Bool.eq_false_iff.mpr c4
  subst c4
  replace H:=bF_ H
  obtain rfl:=Option.some.inj H
  go_enter Try.func82,Try.ntmps82
  go_wp2_with (first|((with_reducible refine gate_callee (f:=59) rfl ?_);refine goesL_ (some 6) rfl rfl Try.func59 krT_ rfl #[.int .i64 a0] rfl agT_ ?_;(with_reducible refine (impl_isAny.calls a0 false _ A3.out).mono ?_);rintro e w' ⟨rfl,⟨nd,rfl⟩⟩;refine ⟨_,rfl,?_⟩))
  go_ret
  exact ⟨sT_,dT_⟩
 subst c4
 replace H:=bT_ H
 by_cases c5:a1≥0
 rotate_left
 ·rw [if_neg c5] at H
  have c5b0:decide (0≤a1)=false:=decide_eq_false c5
  clear c5
  obtain rfl:=Option.some.inj H
  go_enter Try.func82,Try.ntmps82
  go_wp2_with (first|((with_reducible refine gate_callee (f:=59) rfl ?_);refine goesL_ (some 6) rfl rfl Try.func59 krT_ rfl #[.int .i64 a0] rfl agT_ ?_;(with_reducible refine (impl_isAny.calls a0 true _ A3.out).mono ?_);rintro e w' ⟨rfl,⟨nd,rfl⟩⟩;refine ⟨_,rfl,?_⟩))
  go_ret
  exact ⟨sT_,dT_⟩
 rw [if_pos c5] at H
 have c5b0:decide (0≤a1)=true:=decide_eq_true c5
 clear c5
 rcases gsn_ H with ⟨c6b0,H⟩|⟨c6b0,H⟩
 ·obtain rfl:=Option.some.inj H
  go_enter Try.func82,Try.ntmps82
  go_wp2_with (first|((with_reducible refine gate_callee (f:=59) rfl ?_);refine goesL_ (some 6) rfl rfl Try.func59 krT_ rfl #[.int .i64 a0] rfl agT_ ?_;(with_reducible refine (impl_isAny.calls a0 true _ A3.out).mono ?_);rintro e w' ⟨rfl,⟨nd,rfl⟩⟩;refine ⟨_,rfl,?_⟩))
  go_ret
  exact ⟨sT_,dT_⟩
 by_cases c7:0≤a1
 ·rw [if_pos c7] at H
  have c7b0:=eq_true c7
  have c7b1:decide (0≤a1)=true:=decide_eq_true c7
  clear c7
  obtain ⟨ji8,hji8⟩:∃ j_:Int,(shr .i64 a0 a1)=j_:=⟨_,rfl⟩
  replace H:(some ((Go.bits .and .i64 (ji8) 1)==1))=some r:=by first|(rw [hji8] at H;exact H)|(simp only [hji8] at H ⊢;exact H)
  (try rw [hji8] at A3)
  have hji8_:(a0 / 2 ^ min a1.toNat 64)=ji8:=hji8
  have hji8z:a1≤64→(a0 / 2 ^ a1.toNat)=ji8:=shr_small hji8
  obtain rfl:=Option.some.inj H
  go_enter Try.func82,Try.ntmps82
  go_wp2_with (first|((with_reducible refine gate_callee (f:=59) rfl ?_);refine goesL_ (some 6) rfl rfl Try.func59 krT_ rfl #[.int .i64 a0] rfl agT_ ?_;(with_reducible refine (impl_isAny.calls a0 true _ A3.out).mono ?_);rintro e w' ⟨rfl,⟨nd,rfl⟩⟩;refine ⟨_,rfl,?_⟩))
  go_ret
  exact ⟨by first|rfl|(simp;done)|(simp only [← hji8]<;>(first|rfl|simp))|(simp [*];done),dT_⟩
 ·rw [if_neg c7] at H
  exact absurd H (by simp)
/-! ### impl_ElementsOf: function 74 -/
def impl_ElementsOf.l0:Nat→Int→List Int→Int→Option (List Int)
 | 0,_,_,_=>none
 | k+1,x0,x3,x4=>if x4<8 then ((impl_HasElement.f x0 x4).bind fun t557=>(if t557=true then (if x3.length<17592186044416 then (impl_ElementsOf.l0 k x0 (x3++[x4]) (wrap64 (x4+1))) else (none)) else (impl_ElementsOf.l0 k x0 x3 (wrap64 (x4+1))))) else (some x3)
def impl_ElementsOf.f (k:Nat) (a0:Int):Option (List Int):=impl_ElementsOf.l0 k a0 (([]:List Int)) 0
set_option maxHeartbeats 8000000 in
set_option maxRecDepth 100000 in
theorem impl_ElementsOf.calls (k:Nat) (a0:Int) (r:List Int) (w:World) (h:impl_ElementsOf.f k a0=some r) :
    Calls Try.prog 74 #[.int .i64 a0] w fun e w'=>∃ v0_:Value,e=.returned (v0_)∧Kd.R (Kd.int .i64) 3 w' w.heap.size (fun _=>True) v0_ r∧Below w.heap.size w w':=by
 have HB:=Aside0.mk (Below.refl w.heap.size w)
 have H:(impl_ElementsOf.l0 k a0 (([]:List Int)) 0)=some r:=h
 clear h
 obtain ⟨y554,hy554⟩:∃ y_:List Int,y_=(([]:List Int)):=⟨_,rfl⟩
 replace H:(impl_ElementsOf.l0 k a0 y554 0)=some r:=by first|(rw [hy554];with_reducible exact H)|(have H2_:=(Option.bind_some _ _).symm.trans H;rw [hy554];with_reducible exact H2_)|(have H2_:=(Option.bind_some _ _).symm.trans H;with_reducible exact H2_)|with_reducible exact H|(rw [hy554];exact H)|exact H
 have Ny554:=Aside0.mk hy554
 clear hy554
 have H':=Aside0.mk H
 clear H
 go_enter Try.func74,Try.ntmps74
 go_wp2_with (first|((with_reducible refine gate_dst (N:=5) rfl ?_);refine Kd.R_lit (Kd.int .i64) _ 3 ?hg (N:=5) ?hd (xs:=([]:List Int)) (inner:=[]) (ok:=fun _=>True) (okp:=fun _=>True) ?hr ?hp (fun _ hk=>hk) trivial (Below.refl _ _) (Nat.le_refl _) (by simp) ?_;(case hd=>rfl);(case hg=>rfl);(case hr=>exact hrT_);(case hp=>exact (Reps.none _ _));intro v555 w2 ho3 hb hg_ hnew_;clear hg_ hnew_;(first|rw [← Ny554.out] at ho3|(simp only [Int.reduceToNat] at ho3;rw [← Ny554.out] at ho3));have HO556:=Aside0.mk (Kd.R_lower ho3 (below_size (h_HB HB.out)));replace HB:=Aside0.mk (below_step (h_HB HB.out) hb);clear hb ho3))
 go_loopg [3,4] k (fun kq v3 v4 w'=>∃ (x3_1:List Int) (x4_1:Int),v4=.int .i64 x4_1∧Aside0 (impl_ElementsOf.l0 kq a0 x3_1 x4_1=some r)∧Aside0 (kq≤k)∧Aside0 (Kd.R (Kd.int .i64) 3 w' w.heap.size (fun _=>True) v3 x3_1)∧Aside0 (Below w.heap.size w w'))
 case atStart=>exact ⟨(y554),(0),sT_,H',⟨Nat.le_refl _⟩,⟨kRC_ HO556.out⟩,⟨h_HB HB.out⟩⟩
 case round =>
 clear H'
 try clear p2
 obtain ⟨x3_1,x4_1,rfl,HA,HK1,HO_3,HB⟩:=hrel
 cases gk with
 | zero=>exact absurd HA.out (by simp [impl_ElementsOf.l0])
 | succ k1 =>
 have H:=HA.out
 clear HA
 simp only [impl_ElementsOf.l0] at H
 rcases gsn_ H with ⟨c4b0,H⟩|⟨c4b0,H⟩
 ·obtain rfl:=Option.some.inj H
  go_wp2
  go_ret
  exact ⟨_,eT_,kRC_ HO_3.out,h_HB HB.out⟩
 replace H:=bnd_ H;obtain ⟨t557,A5,H⟩:=H
 by_cases c6:t557=true
 ·subst c6
  replace H:=bT_ H
  by_cases c7:x3_1.length<17592186044416
  ·rw [if_pos c7] at H
   have LMc7:=Aside0.mk c7
   clear c7
   obtain ⟨y558,hy558⟩:∃ y_:List Int,y_=(x3_1++[x4_1]):=⟨_,rfl⟩
   replace H:(impl_ElementsOf.l0 k1 a0 y558 (wrap64 (x4_1+1)))=some r:=by first|(rw [hy558];with_reducible exact H)|(have H2_:=(Option.bind_some _ _).symm.trans H;rw [hy558];with_reducible exact H2_)|(have H2_:=(Option.bind_some _ _).symm.trans H;with_reducible exact H2_)|with_reducible exact H|(rw [hy558];exact H)|exact H
   have Ny558:=Aside0.mk hy558
   clear hy558
   have H':=Aside0.mk H
   clear H
   go_wp2_with (first|((with_reducible refine gate_callee (f:=82) rfl ?_);refine goesL_ (some 12) rfl rfl Try.func82 krT_ rfl #[.int .i64 a0,.int .i64 x4_1] rfl agT_ ?_;(with_reducible refine (impl_HasElement.calls a0 x4_1 true _ A5.out).mono ?_);rintro e w' ⟨rfl,⟨nd,rfl⟩⟩;refine ⟨_,rfl,?_⟩)|((with_reducible refine gate_builtin (b:=.append) (xs:=#[.tmp 13,.tmp 15]) rfl ?_);at_builtin;refine Kd.R_append (Kd.int .i64) (w0:=w) w.heap.size rfl (.tmp 13) (.tmp 15) 24 3 (.int .i64 0) 8 rfl Try.underlying24 info3 rfl (by decide) (by omega) u3 x3_1 x4_1 [.int .i64 x4_1] (fun _=>True) (fun _=>False) rfl rfl ?aP (fun _ hk=>hk.elim) ?aF ?aO ?aB ?aS ?aL ?_;(case aP=>exact rfl);(case aB=>exact (h_HB HB.out));(case aF=>exact (fun _ _=>trivial));(case aO=>exact (kRC_ HO_3.out));(case aS=>exact (below_size (h_HB HB.out)));(case aL=>have:=LMc7.out;omega);intro v559 w8 ho hb hg hat;rw [← Ny558.out] at ho;replace HB:=Aside0.mk (hb);have HO560:=Aside0.mk (ho);clear HO_3;clear ho hb hg hat))
   go_roundg k1
   case measure=>have:=HK1.out;omega
   case rel=>exact ⟨(y558),(wrap64 (x4_1+1)),sT_,H',⟨by have:=HK1.out;omega⟩,⟨kRC_ HO560.out⟩,⟨h_HB HB.out⟩⟩
  ·rw [if_neg c7] at H
   exact absurd H (by simp)
 ·replace c6:=Bool.eq_false_iff.mpr c6
  subst c6
  replace H:=bF_ H
  have H':=Aside0.mk H
  clear H
  go_wp2_with (first|((with_reducible refine gate_callee (f:=82) rfl ?_);refine goesL_ (some 12) rfl rfl Try.func82 krT_ rfl #[.int .i64 a0,.int .i64 x4_1] rfl agT_ ?_;(with_reducible refine (impl_HasElement.calls a0 x4_1 false _ A5.out).mono ?_);rintro e w' ⟨rfl,⟨nd,rfl⟩⟩;refine ⟨_,rfl,?_⟩))
  go_roundg k1
  case measure=>have:=HK1.out;omega
  case rel=>exact ⟨(x3_1),(wrap64 (x4_1+1)),sT_,H',⟨by have:=HK1.out;omega⟩,⟨kRC_ HO_3.out⟩,⟨h_HB HB.out⟩⟩
/-! ### slices_IndexFunc_int_int: function 83 -/
/-- The first hit of a predicate in a list, from index x on, as Go's loop looks for it (k: its rounds). -/
def anyL (p:Int→Option Bool) (l:List Int):Nat→Int→Option Bool
 | 0,_=>none
 | k+1,x=>if x<(l.length:Int) then (if 0≤x then ((p (rd l x)).bind fun b=>(if b=true then (some true) else (anyL p l k (wrap64 (x+1))))) else (none)) else (some false)
theorem anyL_mono {p q:Int→Option Bool} (l:List Int) (h:∀ x,LeO (p x) (q x)):∀ k x,LeO (anyL p l k x) (anyL q l (k+1) x)
 | 0,_=>fun r hr=>by simp [anyL] at hr
 | k+1,x=>by
  unfold anyL
  refine LeO.ite ?_ (LeO.refl _)
  refine LeO.ite ?_ (LeO.refl _)
  refine LeO.bind (h _) (fun b=>?_)
  exact LeO.ite (LeO.refl _) (anyL_mono l h k _)
/-- A function value that takes a whole number, answers as p does, and leaves memory alone. -/
def Quiet1 (g:Nat) (lb:Array Value) (w:World) (p:Int→Option Bool):Prop :=
 ∀ (x:Int) (b:Bool) (n:Nat),p x=some b→Calls Try.prog g (#[.int .i64 x]++lb) (w.drewN n) fun e w'=>e=.returned (.bool b)∧Drawn0 (w.drewN n) w'
theorem g_enters {f : FuncId} {fn : Func} {c : Code} (hf : Try.prog.funcs[f]? = some fn) (hname : (fn.name == "runtime.NumGoroutine") = false) (hb : fn.body = some c) : ∀ args w, (callFunc f args).run Try.prog w = .ok (.enter f args) w := by
 intro args w
 have h1 : fn.name ≠ "runtime.NumGoroutine" := by simpa using hname
 simp [callFunc,hf,h1,hb,mark]
theorem drawn_quiet {f:Nat} {args:Array Value} {w:World} {n:Nat} {v:Value} (h:Calls Try.prog f args (w.drewN n) fun e w'=>e=.returned v∧Drawn0 (w.drewN n) w') :
    Calls Try.prog f args (w.drewN n) fun e w''=>e=.returned v∧∃ m,w''=w.drewN m:=Calls.quiet_of (h.mono fun _ _ ⟨he,⟨m,hm⟩⟩=>⟨he,m,hm⟩)
/-- What IndexFunc answers, of which ContainsFunc asks only whether it is no less than nought. -/
def IdxIs (r:Bool) (w:World) (e:Ending) (w':World):Prop:=(∃ i:Int,e=.returned (.int .i64 i)∧decide (0≤i)=r)∧Drawn0 w w'
set_option maxHeartbeats 4000000 in
set_option maxRecDepth 100000 in
theorem indexFunc_calls (g:Nat) (lb:Array Value) (eg:∀ args w,(callFunc g args).run Try.prog w=.ok (.enter g args) w) (p:Int→Option Bool) (k:Nat) (A0:Option Addr) (c0:Nat) (l0:List Int) (r:Bool) (w:World)
  (hr0:Kd.C (Kd.int .i64) w A0 l0.length l0) (hp:Quiet1 g lb w p) (h:anyL p l0 k 0=some r) :
    Calls Try.prog 83 #[.slice A0 l0.length c0,.func (.func g) #[] lb] w (IdxIs r w):=by
 have HR0:=Aside0.mk hr0
 clear hr0
 have HP:=Aside0.mk hp
 clear hp
 have H':=Aside0.mk h
 clear h
 go_enter Try.func83,Try.ntmps83
 go_wp2
 go_loopg [5,8] k (fun kq v5 v8 w'=>∃ (x:Int),v8=.int .i64 x∧Aside0 (anyL p l0 kq x=some r)∧Drawn0 w w')
 case atStart=>exact ⟨0,rfl,H',Drawn0.refl _⟩
 case round =>
  clear H'
  obtain ⟨x,rfl,HA,⟨m,rfl⟩⟩:=hrel
  cases gk with
  | zero=>exact absurd HA.out (by simp [anyL])
  | succ k1 =>
   have H:=HA.out
   clear HA
   simp only [anyL] at H
   by_cases c3:x<(l0.length:Int)
   ·rw [if_pos c3] at H
    have c3b0:decide (x<(l0.length:Int))=true:=decide_eq_true c3
    by_cases p0:0≤x
    ·rw [if_pos p0] at H
     replace H:=Option.bind_eq_some_iff.mp H
     obtain ⟨b,hb,H⟩:=H
     have HC:=Aside0.mk (fun n=>HP.out (rd l0 x) b n hb)
     clear hb
     obtain ⟨ad,e0,hx0⟩:=Kd.at_int HR0.out x p0 c3
     cases e0
     have P0:=Aside0.mk p0
     replace p0:=eq_true p0
     replace c3:=eq_true c3
     cases b with
     | true =>
      rw [if_pos rfl] at H
      obtain rfl:=Option.some.inj H
      go_wp2_with ((with_reducible refine (HC.out _).mono ?_);rintro e w' ⟨rfl,⟨q,rfl⟩⟩)
      go_ret
      exact ⟨⟨_,rfl,decide_eq_true P0.out⟩,dT_⟩
     | false =>
      rw [if_neg (by decide)] at H
      have H':=Aside0.mk H
      clear H
      go_wp2_with ((with_reducible refine (HC.out _).mono ?_);rintro e w' ⟨rfl,⟨q,rfl⟩⟩)
      go_roundg k1
      case measure=>omega
      case rel=>exact ⟨wrap64 (x+1),rfl,H',dT_⟩
    ·rw [if_neg p0] at H
     exact absurd H (by simp)
   ·rw [if_neg c3] at H
    have c3b0:decide (x<(l0.length:Int))=false:=decide_eq_false c3
    obtain rfl:=Option.some.inj H
    go_wp2
    go_ret
    exact ⟨⟨_,rfl,rfl⟩,dT_⟩
/-! ### slices_ContainsFunc_int_int: function 75 -/
-- needs slices.IndexFunc[[]int,int]
set_option maxHeartbeats 4000000 in
set_option maxRecDepth 100000 in
theorem containsFunc_calls (g:Nat) (lb:Array Value) (eg:∀ args w,(callFunc g args).run Try.prog w=.ok (.enter g args) w) (p:Int→Option Bool) (k:Nat) (A0:Option Addr) (c0:Nat) (l0:List Int) (r:Bool) (w:World)
  (hr0:Kd.C (Kd.int .i64) w A0 l0.length l0) (hp:Quiet1 g lb w p) (h:anyL p l0 k 0=some r) :
    Calls Try.prog 75 #[.slice A0 l0.length c0,.func (.func g) #[] lb] w fun e w'=>e=.returned (.bool r)∧Drawn0 w w':=by
 have HC:=Aside0.mk (indexFunc_calls g lb eg p k A0 c0 l0 r w hr0 hp h)
 clear eg hr0 hp h
 go_enter Try.func75,Try.ntmps75
 go_wp2_with ((with_reducible refine HC.out.mono ?_);rintro e w' ⟨⟨i,rfl,hi⟩,⟨q,rfl⟩⟩;have HI:=Aside0.mk hi;clear hi)
 go_ret
 exact ⟨by rw [← HI.out];first|rfl|(simp;done),dT_⟩
/-! ### slices_Index_int_int: function 90 -/
def slices_Index_int_int.l0:Nat→List Int→Int→Int→Int→Option (Int)
 | 0,_,_,_,_=>none
 | k+1,x0,x1,x7,x8=>if x8<x7 then (if 0≤x8 then (if x8<(x0.length:Int) then (if x1=(rd x0 x8) then (some x8) else (slices_Index_int_int.l0 k x0 x1 x7 (wrap64 (x8+1)))) else (none)) else (none)) else (some (-1))
def slices_Index_int_int.f (k:Nat) (l0:List Int) (a1:Int):Option (Int):=slices_Index_int_int.l0 k l0 a1 (l0.length:Int) 0
set_option maxHeartbeats 8000000 in
set_option maxRecDepth 100000 in
theorem slices_Index_int_int.calls (k:Nat) (A0:Option Addr) (c0:Nat) (l0:List Int) (a1:Int) (r:Int) (w:World) (hr0:Kd.C (Kd.int .i64) w A0 l0.length l0) (hc0:l0.length≤c0) (h:slices_Index_int_int.f k l0 a1=some r) :
    Calls Try.prog 90 #[.slice A0 l0.length c0,.int .i64 a1] w fun e w'=>e=.returned (.int .i64 r)∧Drawn0 w w':=by
 have HR0:=Aside0.mk hr0
 have HC0:=Aside0.mk hc0
 clear hr0 hc0
 have H:(slices_Index_int_int.l0 k l0 a1 (l0.length:Int) 0)=some r:=h
 clear h
 have H':=Aside0.mk H
 clear H
 go_enter Try.func90,Try.ntmps90
 go_wp2
 go_loopg [8] k (fun kq v8 w'=>∃ (x8_1:Int),v8=.int .i64 x8_1∧Aside0 (slices_Index_int_int.l0 kq l0 a1 (l0.length:Int) x8_1=some r)∧Aside0 (kq≤k)∧Drawn0 w w')
 case atStart=>exact ⟨(0),sT_,H',⟨Nat.le_refl _⟩,dT_⟩
 case round =>
 clear H'
 try clear p2
 obtain ⟨x8_1,rfl,HA,HK1,⟨m1,rfl⟩⟩:=hrel
 cases gk with
 | zero=>exact absurd HA.out (by simp [slices_Index_int_int.l0])
 | succ k1 =>
 have H:=HA.out
 clear HA
 simp only [slices_Index_int_int.l0] at H
 rcases gsn_ H with ⟨c3b0,H⟩|⟨c3b0,H⟩
 ·obtain rfl:=Option.some.inj H
  go_wp2
  go_ret
  exact ⟨sT_,dT_⟩
 replace H:=gsm_ H;obtain ⟨c4b0,H⟩:=H
 replace H:=gsm_ H;obtain ⟨c5b0,H⟩:=H
 by_cases c6:a1=(rd l0 x8_1)
 ·rw [if_pos c6] at H
  have c6b0:(a1==(rd l0 x8_1))=true:=beq_iff_eq.mpr c6
  have c6b1:(a1 != (rd l0 x8_1))=false:=bne_eq_false_iff_eq.mpr c6
  clear c6
  obtain rfl:=Option.some.inj H
  obtain ⟨ad561,e561,hx561_0,p561,q561⟩:=aiI_ HR0.out x8_1
  cases e561
  go_wp2
  go_ret
  exact ⟨sT_,dT_⟩
 rw [if_neg c6] at H
 have c6b0:(a1==(rd l0 x8_1))=false:=beq_eq_false_iff_ne.mpr c6
 have c6b1:(a1 != (rd l0 x8_1))=true:=bne_iff_ne.mpr c6
 have H':=Aside0.mk H
 clear H
 obtain ⟨ad561,e561,hx561_0,p561,q561⟩:=aiI_ HR0.out x8_1
 cases e561
 go_wp2
 go_roundg k1
 case measure=>have:=HK1.out;omega
 case rel=>exact ⟨(wrap64 (x8_1+1)),sT_,H',⟨by have:=HK1.out;omega⟩,dT_⟩
/-! ### slices_Contains_int_int: function 84 -/
def slices_Contains_int_int.f (k:Nat) (l0:List Int) (a1:Int):Option (Bool):=(slices_Index_int_int.f k l0 a1).bind fun t562=>(some (decide (t562≥0)))
set_option maxHeartbeats 8000000 in
set_option maxRecDepth 100000 in
theorem slices_Contains_int_int.calls (k:Nat) (A0:Option Addr) (c0:Nat) (l0:List Int) (a1:Int) (r:Bool) (w:World) (hr0:Kd.C (Kd.int .i64) w A0 l0.length l0) (hc0:l0.length≤c0) (h:slices_Contains_int_int.f k l0 a1=some r) :
    Calls Try.prog 84 #[.slice A0 l0.length c0,.int .i64 a1] w fun e w'=>e=.returned (.bool r)∧Drawn0 w w':=by
 have HR0:=Aside0.mk hr0
 have HC0:=Aside0.mk hc0
 clear hr0 hc0
 have H:((slices_Index_int_int.f k l0 a1).bind fun t562=>(some (decide (t562≥0))))=some r:=h
 clear h
 replace H:=bnd_ H;obtain ⟨t562,A3,H⟩:=H
 obtain rfl:=Option.some.inj H
 go_enter Try.func84,Try.ntmps84
 go_wp2_with (first|((with_reducible refine gate_callee (f:=90) rfl ?_);refine goesL_ (some 7) rfl rfl Try.func90 krT_ rfl #[.slice A0 l0.length c0,.int .i64 a1] rfl agT_ ?_;(with_reducible refine (slices_Index_int_int.calls k _ _ l0 a1 t562 _ ?side1 ?side2 A3.out).mono ?_);(case side1=>repeat (first|exact HR0.out|(with_reducible refine Kd.C_alloc ?_ _)|(with_reducible refine Kd.C_drewN ?_ _)|(with_reducible refine Kd.C_drew ?_)));(case side2=>exact HC0.out);rintro e w' ⟨rfl,⟨nd,rfl⟩⟩;refine ⟨_,rfl,?_⟩))
 go_ret
 exact ⟨sT_,dT_⟩
/-! ### impl_HasSet: function 77 -/
def impl_HasSet.f (k:Nat) (l0:List Int) (a1:Int):Option (Bool):=(slices_Contains_int_int.f k l0 a1).bind fun t563=>(some t563)
set_option maxHeartbeats 8000000 in
set_option maxRecDepth 100000 in
theorem impl_HasSet.calls (k:Nat) (A0:Option Addr) (c0:Nat) (l0:List Int) (a1:Int) (r:Bool) (w:World) (hr0:Kd.C (Kd.int .i64) w A0 l0.length l0) (hc0:l0.length≤c0) (h:impl_HasSet.f k l0 a1=some r) :
    Calls Try.prog 77 #[.slice A0 l0.length c0,.int .i64 a1] w fun e w'=>e=.returned (.bool r)∧Drawn0 w w':=by
 have HR0:=Aside0.mk hr0
 have HC0:=Aside0.mk hc0
 clear hr0 hc0
 have H:((slices_Contains_int_int.f k l0 a1).bind fun t563=>(some t563))=some r:=h
 clear h
 replace H:=bnd_ H;obtain ⟨t563,A3,H⟩:=H
 obtain rfl:=Option.some.inj H
 go_enter Try.func77,Try.ntmps77
 go_wp2_with (first|((with_reducible refine gate_callee (f:=84) rfl ?_);refine goesL_ (some 7) rfl rfl Try.func84 krT_ rfl #[.slice A0 l0.length c0,.int .i64 a1] rfl agT_ ?_;(with_reducible refine (slices_Contains_int_int.calls k _ _ l0 a1 t563 _ ?side1 ?side2 A3.out).mono ?_);(case side1=>repeat (first|exact HR0.out|(with_reducible refine Kd.C_alloc ?_ _)|(with_reducible refine Kd.C_drewN ?_ _)|(with_reducible refine Kd.C_drew ?_)));(case side2=>exact HC0.out);rintro e w' ⟨rfl,⟨nd,rfl⟩⟩;refine ⟨_,rfl,?_⟩))
 go_ret
 exact ⟨sT_,dT_⟩
/-! ### impl_FirstFailure_1: function 76 -/
-- needs impl.HasSet
-- needs slices.ContainsFunc[[]int,int]
def impl_FirstFailure_1.f (k:Nat) (m0:Int) (m1:List Int) (a e x:Int):Option Bool :=
 if 0≤e then (if 0≤x then (impl_HasSet.f k m1 (Go.bits .or .i64 (Go.bits .andNot .i64 a (shl .i64 1 e)) (shl .i64 1 x))) else none) else none
set_option maxHeartbeats 4000000 in
set_option maxRecDepth 100000 in
theorem impl_FirstFailure_1.quiet (k:Nat) (m0:Int) (A1:Option Addr) (c1:Nat) (m1:List Int) (a e:Int) (w:World) (hr1:Kd.C (Kd.int .i64) w A1 m1.length m1) (hc1:m1.length≤c1) (g1 g2 g3:Nat)
  (b1:w.heap[g1]?=some (.cells #[.int .i64 m0,.slice A1 m1.length c1] 26 (0,0))) (b2:w.heap[g2]?=some (.cells #[.int .i64 a] 3 (0,0))) (b3:w.heap[g3]?=some (.cells #[.int .i64 e] 3 (0,0))) :
  Quiet1 76 #[.pointer (some ⟨g1,0,none⟩),.pointer (some ⟨g2,0,none⟩),.pointer (some ⟨g3,0,none⟩)] w (impl_FirstFailure_1.f k m0 m1 a e):=by
 intro x b n h
 unfold impl_FirstFailure_1.f at h
 by_cases he:0≤e
 ·rw [if_pos he] at h
  by_cases hx:0≤x
  ·rw [if_pos hx] at h
   have q1:(w.drewN n).cell? ⟨g1,1,none⟩=some (.slice A1 m1.length c1):=(blk_cell b1 1).trans rfl
   have q2:(w.drewN n).cell? ⟨g2,0,none⟩=some (.int .i64 a):=(blk_cell b2 0).trans rfl
   have q3:(w.drewN n).cell? ⟨g3,0,none⟩=some (.int .i64 e):=(blk_cell b3 0).trans rfl
   clear b1 b2 b3
   have he':=eq_true he
   have hx':=eq_true hx
   have HS:=Aside0.mk (fun n'=>impl_HasSet.calls k A1 c1 m1 _ b ((w.drewN n).drewN n') (Kd.C_drewN (Kd.C_drewN hr1 n) n') hc1 h)
   clear h hr1 hc1
   show Calls Try.prog 76 #[.int .i64 x,.pointer (some ⟨g1,0,none⟩),.pointer (some ⟨g2,0,none⟩),.pointer (some ⟨g3,0,none⟩)] (w.drewN n) _
   generalize w.drewN n=W at q1 q2 q3 HS ⊢
   generalize hj1:shl .i64 1 e=j1 at HS
   generalize hj2:shl .i64 1 x=j2 at HS
   have hj1u:(IntKind.i64.wrap (2 ^ min e.toNat 64))=j1:=by have h_:=hj1;unfold shl at h_;rw [Int.one_mul] at h_;exact h_
   have hj2u:(IntKind.i64.wrap (2 ^ min x.toNat 64))=j2:=by have h_:=hj2;unfold shl at h_;rw [Int.one_mul] at h_;exact h_
   go_enter Try.func76,Try.ntmps76
   go_wp2
   go_quiet ((go_at_call 77;exact drawn_quiet (HS.out _)))
   go_wp2
   go_ret
   exact ⟨by first|rfl|(simp;done),dT_⟩
  ·rw [if_neg hx] at h;exact absurd h (by simp)
 ·rw [if_neg he] at h;exact absurd h (by simp)
def on_impl_FirstFailure_1.f (k:Nat) (l0:List Int) (m0:Int) (m1:List Int) (a e:Int):Option Bool:=anyL (impl_FirstFailure_1.f k m0 m1 a e) l0 k 0
theorem on_impl_FirstFailure_1.calls (k:Nat) (A0:Option Addr) (c0:Nat) (l0:List Int) (m0:Int) (A1:Option Addr) (c1:Nat) (m1:List Int) (a e:Int) (r:Bool) (w:World) (hr0:Kd.C (Kd.int .i64) w A0 l0.length l0) (hc0:l0.length≤c0)
  (hr1:Kd.C (Kd.int .i64) w A1 m1.length m1) (hc1:m1.length≤c1) (h:on_impl_FirstFailure_1.f k l0 m0 m1 a e=some r) (g1 g2 g3:Nat)
  (b1:w.heap[g1]?=some (.cells #[.int .i64 m0,.slice A1 m1.length c1] 26 (0,0))) (b2:w.heap[g2]?=some (.cells #[.int .i64 a] 3 (0,0))) (b3:w.heap[g3]?=some (.cells #[.int .i64 e] 3 (0,0))) :
    Calls Try.prog 75 #[.slice A0 l0.length c0,.func (.func 76) #[] #[.pointer (some ⟨g1,0,none⟩),.pointer (some ⟨g2,0,none⟩),.pointer (some ⟨g3,0,none⟩)]] w fun e w'=>e=.returned (.bool r)∧Drawn0 w w' :=
 containsFunc_calls _ _ (g_enters Try.func76 krT_ rfl) _ k A0 c0 l0 r w hr0 (impl_FirstFailure_1.quiet k m0 A1 c1 m1 a e w hr1 hc1 g1 g2 g3 b1 b2 b3) h
end Go.Proofs.Ytekegbacnagbcaa.P
