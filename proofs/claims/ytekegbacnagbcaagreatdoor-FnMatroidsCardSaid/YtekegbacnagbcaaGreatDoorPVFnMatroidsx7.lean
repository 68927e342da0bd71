-- written by gprint (a program of this session's, round the kit's print), out of the translation and hand-written texts
import Derived.Test.YtekegbacnagbcaaGreatDoorPVFnMatroidsx0
import Derived.Test.YtekegbacnagbcaaGreatDoorPVFnMatroidsx6
namespace Go.Proofs.YtekegbacnagbcaaGreatDoor.P
open Go.RowKit Go.Proofs.YtekegbacnagbcaaGreatDoorW.PrintWords Go.Proofs.YtekegbacnagbcaaGreatDoorW.PrintLast Go.Proofs.YtekegbacnagbcaaGreatDoorW.PrintMore
attribute [local go_sem] max2_int min2_int max_two min_two max_three min_three max_four min_four   -- for this text's walks alone
set_option linter.unusedVariables false
set_option linter.unusedSimpArgs false
/-! ### impl_IsSet: function 78 -/
def impl_IsSet.f (a0:Int) (a1:Int):Option (Bool):=(impl_isSize.f a0).bind fun t234=>(if t234=true then (if a1≥0 then (if 0≤a0 then (some (decide (a1<(shl .i64 1 a0)))) else (none)) else (some false)) else (some false))
set_option maxHeartbeats 8000000 in
set_option maxRecDepth 100000 in
theorem impl_IsSet.calls (a0:Int) (a1:Int) (r:Bool) (w:World) (h:impl_IsSet.f a0 a1=some r) :
    Calls Tryz.prog 78 #[.int .i64 a0,.int .i64 a1] w fun e w'=>e=.returned (.bool r)∧Drawn0 w w':=by
 unfold impl_IsSet.f at h
 have H:=h
 clear h
 replace H:=bnd_ H;obtain ⟨t234,A3,H⟩:=H
 by_cases c4:t234=true
 rotate_left
 ·replace c4:=Bool.eq_false_iff.mpr c4
  subst c4
  replace H:=bF_ H
  obtain rfl:=Option.some.inj H
  go_enter Tryz.func78,Tryz.ntmps78
  go_wp2_with (first|((with_reducible refine gate_callee (f:=79) rfl ?_);refine goesL_ (some 6) rfl rfl Tryz.func79 krT_ rfl #[.int .i64 a0] rfl agT_ ?_;(with_reducible refine (impl_isSize.calls a0 false _ A3.out).mono ?_);rintro e w' ⟨rfl,⟨nd,rfl⟩⟩;refine ⟨_,rfl,?_⟩))
  go_ret
  exact ⟨sT_,dT_⟩
 subst c4
 replace H:=bT_ H
 by_cases c5:a1≥0
 rotate_left
 ·rw [if_neg c5] at H
  have c5b0:decide (0≤a1)=false:=decide_eq_false c5
  clear c5
  obtain rfl:=Option.some.inj H
  go_enter Tryz.func78,Tryz.ntmps78
  go_wp2_with (first|((with_reducible refine gate_callee (f:=79) rfl ?_);refine goesL_ (some 6) rfl rfl Tryz.func79 krT_ rfl #[.int .i64 a0] rfl agT_ ?_;(with_reducible refine (impl_isSize.calls a0 true _ A3.out).mono ?_);rintro e w' ⟨rfl,⟨nd,rfl⟩⟩;refine ⟨_,rfl,?_⟩))
  go_ret
  exact ⟨sT_,dT_⟩
 rw [if_pos c5] at H
 have c5b0:decide (0≤a1)=true:=decide_eq_true c5
 clear c5
 by_cases c6:0≤a0
 rotate_left
 ·rw [if_neg c6] at H
  exact absurd H (by simp)
 rw [if_pos c6] at H
 have c6b0:=eq_true c6
 have c6b1:decide (0≤a0)=true:=decide_eq_true c6
 clear c6
 obtain ⟨ji7,hji7⟩:∃ j_:Int,(shl .i64 1 a0)=j_:=⟨_,rfl⟩
 first |rw [hji7] at H|simp only [hji7] at H
 (try rw [hji7] at A3)
 have hji7_:(IntKind.i64.wrap (1*2 ^ min a0.toNat 64))=ji7:=hji7
 have hji7z:a0≤64→(IntKind.i64.wrap (1*2 ^ a0.toNat))=ji7:=shl_small hji7
 have hji7u:(IntKind.i64.wrap (2 ^ min a0.toNat 64))=ji7:=by have h_:=hji7_;rw [Int.one_mul] at h_;exact h_
 have hji7v:a0≤64→(IntKind.i64.wrap (2 ^ a0.toNat))=ji7:=fun hle_=>by have h_:=hji7z hle_;rw [Int.one_mul] at h_;exact h_
 have hji7y:(wrap64 (1*2 ^ min a0.toNat 64))=ji7:=(i64_w _).symm.trans hji7_
 have hji7x:a0≤64→(wrap64 (1*2 ^ a0.toNat))=ji7:=fun h_=>(i64_w _).symm.trans (hji7z h_)
 obtain rfl:=Option.some.inj H
 go_enter Tryz.func78,Tryz.ntmps78
 go_wp2_with (first|((with_reducible refine gate_callee (f:=79) rfl ?_);refine goesL_ (some 6) rfl rfl Tryz.func79 krT_ rfl #[.int .i64 a0] rfl agT_ ?_;(with_reducible refine (impl_isSize.calls a0 true _ A3.out).mono ?_);rintro e w' ⟨rfl,⟨nd,rfl⟩⟩;refine ⟨_,rfl,?_⟩))
 go_ret
 exact ⟨by first|rfl|(simp;done)|(simp only [← hji7]<;>(first|rfl|simp))|(simp [*];done),dT_⟩
/-! ### impl_IsFamily: function 21 -/
def impl_IsFamily.l0:Nat→Int→List Int→List Int→Int→Int→Option (Bool)
 | 0,_,_,_,_,_=>none
 | k+1,x0,x1,x7,x8,x9=>if x9<x8 then (if 0≤x9 then (if x9<(x7.length:Int) then ((impl_IsSet.f x0 (rd x7 x9)).bind fun t236=>(if t236=true then (if x9>0 then (if 0≤(wrap64 (x9-1)) then (if (wrap64 (x9-1))<(x1.length:Int) then (if (rd x7 x9)≤(rd x1 (wrap64 (x9-1))) then (some false) else (impl_IsFamily.l0 k x0 x1 x7 x8 (wrap64 (x9+1)))) else (none)) else (none)) else (impl_IsFamily.l0 k x0 x1 x7 x8 (wrap64 (x9+1)))) else (some false))) else (none)) else (none)) else ((impl_isSize.f x0).bind fun t238=>(some t238))
def impl_IsFamily.f (k:Nat) (a0:Int) (l1:List Int):Option (Bool):=impl_IsFamily.l0 k a0 l1 l1 (l1.length:Int) 0
set_option maxHeartbeats 8000000 in
set_option maxRecDepth 100000 in
theorem impl_IsFamily.calls (k:Nat) (a0:Int) (A1:Option Addr) (c1:Nat) (l1:List Int) (r:Bool) (w:World) (hr1:Kd.C (Kd.int .i64) w A1 l1.length l1) (hc1:l1.length≤c1) (h:impl_IsFamily.f k a0 l1=some r) :
    Calls Tryz.prog 21 #[.int .i64 a0,.slice A1 l1.length c1] w fun e w'=>e=.returned (.bool r)∧Drawn0 w w':=by
 have HR1:=Aside0.mk hr1
 have HC1:=Aside0.mk hc1
 clear hr1 hc1
 have H:(impl_IsFamily.l0 k a0 l1 l1 (l1.length:Int) 0)=some r:=h
 clear h
 have H':=Aside0.mk H
 clear H
 go_enter Tryz.func21,Tryz.ntmps21
 go_wp2
 go_loopg [9] k (fun kq v9 w'=>∃ (x9_1:Int),v9=.int .i64 x9_1∧Aside0 (impl_IsFamily.l0 kq a0 l1 l1 (l1.length:Int) x9_1=some r)∧Aside0 (kq≤k)∧Drawn0 w w')
 case atStart=>exact ⟨(0),sT_,H',⟨Nat.le_refl _⟩,dT_⟩
 case round =>
 clear H'
 try clear c1
 try clear c2
 try clear p2
 obtain ⟨x9_1,rfl,HA,HK1,⟨m1,rfl⟩⟩:=hrel
 cases gk with
 | zero=>exact absurd HA.out (by simp [impl_IsFamily.l0])
 | succ k1 =>
 have H:=HA.out
 clear HA
 simp only [impl_IsFamily.l0] at H
 rcases gsn_ H with ⟨c3b0,H⟩|⟨c3b0,H⟩
 ·replace H:=bnd_ H;obtain ⟨t238,A13,H⟩:=H
  obtain rfl:=Option.some.inj H
  go_wp2_with (first|((with_reducible refine gate_callee (f:=79) rfl ?_);refine goesL_ (some 33) rfl rfl Tryz.func79 krT_ rfl #[.int .i64 a0] rfl agT_ ?_;(with_reducible refine (impl_isSize.calls a0 t238 _ A13.out).mono ?_);rintro e w' ⟨rfl,⟨nd,rfl⟩⟩;refine ⟨_,rfl,?_⟩))
  go_ret
  exact ⟨sT_,dT_⟩
 replace H:=gsm_ H;obtain ⟨c4b0,H⟩:=H
 replace H:=gsm_ H;obtain ⟨c5b0,H⟩:=H
 replace H:=bnd_ H;obtain ⟨t236,A6,H⟩:=H
 by_cases c7:t236=true
 rotate_left
 ·replace c7:=Bool.eq_false_iff.mpr c7
  subst c7
  replace H:=bF_ H
  obtain rfl:=Option.some.inj H
  obtain ⟨ad235,e235,hx235_0,p235,q235⟩:=aiI_ HR1.out x9_1
  cases e235
  go_wp2_with (first|((with_reducible refine gate_callee (f:=78) rfl ?_);refine goesL_ (some 16) rfl rfl Tryz.func78 krT_ rfl #[.int .i64 a0,.int .i64 (rd l1 x9_1)] rfl agT_ ?_;(with_reducible refine (impl_IsSet.calls a0 (rd l1 x9_1) false _ A6.out).mono ?_);rintro e w' ⟨rfl,⟨nd,rfl⟩⟩;refine ⟨_,rfl,?_⟩))
  go_ret
  exact ⟨sT_,dT_⟩
 subst c7
 replace H:=bT_ H
 by_cases c8:x9_1>0
 ·rw [if_pos c8] at H
  have c8b0:decide (0<x9_1)=true:=decide_eq_true c8
  clear c8
  obtain ⟨ji9,hji9⟩:∃ j_:Int,(wrap64 (x9_1-1))=j_:=⟨_,rfl⟩
  first |rw [hji9] at H|simp only [hji9] at H
  (try rw [hji9] at A6)
  have hji9w:(IntKind.i64.wrap (x9_1-1))=ji9:=(i64_w _).trans hji9
  replace H:=gsm_ H;obtain ⟨c10b0,H⟩:=H
  replace H:=gsm_ H;obtain ⟨c11b0,H⟩:=H
  rcases gsb_ H with ⟨c12b0,H⟩|⟨c12b0,H⟩
  ·obtain rfl:=Option.some.inj H
   obtain ⟨ad235,e235,hx235_0,p235,q235⟩:=aiI_ HR1.out x9_1
   cases e235
   go_wp2_with (first|((with_reducible refine gate_callee (f:=78) rfl ?_);refine goesL_ (some 16) rfl rfl Tryz.func78 krT_ rfl #[.int .i64 a0,.int .i64 (rd l1 x9_1)] rfl agT_ ?_;(with_reducible refine (impl_IsSet.calls a0 (rd l1 x9_1) true _ A6.out).mono ?_);rintro e w' ⟨rfl,⟨nd,rfl⟩⟩;refine ⟨_,rfl,?_⟩;obtain ⟨ad237,e237,hx237_0,p237,q237⟩:=aiI_ HR1.out (ji9);obtain rfl:ad235=ad237:=(by injection e237)))
   go_ret
   exact ⟨by first|rfl|(simp;done)|(simp only [← hji9]<;>(first|rfl|simp))|(simp [*];done),dT_⟩
  have H':=Aside0.mk H
  clear H
  obtain ⟨ad235,e235,hx235_0,p235,q235⟩:=aiI_ HR1.out x9_1
  cases e235
  go_wp2_with (first|((with_reducible refine gate_callee (f:=78) rfl ?_);refine goesL_ (some 16) rfl rfl Tryz.func78 krT_ rfl #[.int .i64 a0,.int .i64 (rd l1 x9_1)] rfl agT_ ?_;(with_reducible refine (impl_IsSet.calls a0 (rd l1 x9_1) true _ A6.out).mono ?_);rintro e w' ⟨rfl,⟨nd,rfl⟩⟩;refine ⟨_,rfl,?_⟩;obtain ⟨ad237,e237,hx237_0,p237,q237⟩:=aiI_ HR1.out (ji9);obtain rfl:ad235=ad237:=(by injection e237)))
  go_roundg k1
  case measure=>have:=HK1.out;omega
  case rel=>exact ⟨(wrap64 (x9_1+1)),sT_,H',⟨by have:=HK1.out;omega⟩,dT_⟩
 ·rw [if_neg c8] at H
  have c8b0:decide (0<x9_1)=false:=decide_eq_false c8
  clear c8
  have H':=Aside0.mk H
  clear H
  obtain ⟨ad235,e235,hx235_0,p235,q235⟩:=aiI_ HR1.out x9_1
  cases e235
  go_wp2_with (first|((with_reducible refine gate_callee (f:=78) rfl ?_);refine goesL_ (some 16) rfl rfl Tryz.func78 krT_ rfl #[.int .i64 a0,.int .i64 (rd l1 x9_1)] rfl agT_ ?_;(with_reducible refine (impl_IsSet.calls a0 (rd l1 x9_1) true _ A6.out).mono ?_);rintro e w' ⟨rfl,⟨nd,rfl⟩⟩;refine ⟨_,rfl,?_⟩))
  go_roundg k1
  case measure=>have:=HK1.out;omega
  case rel=>exact ⟨(wrap64 (x9_1+1)),sT_,H',⟨by have:=HK1.out;omega⟩,dT_⟩
/-! ### impl_isAny: function 118 -/
def impl_isAny.f (a0:Int):Option (Bool):=if a0≥0 then (some (decide (a0<256))) else (some false)
set_option maxHeartbeats 8000000 in
set_option maxRecDepth 100000 in
theorem impl_isAny.calls (a0:Int) (r:Bool) (w:World) (h:impl_isAny.f a0=some r) :
    Calls Tryz.prog 118 #[.int .i64 a0] w fun e w'=>e=.returned (.bool r)∧Drawn0 w w':=by
 have H:(if a0≥0 then (some (decide (a0<256))) else (some false))=some r:=h
 clear h
 by_cases c2:a0≥0
 ·rw [if_pos c2] at H
  have c2b0:decide (0≤a0)=true:=decide_eq_true c2
  clear c2
  obtain rfl:=Option.some.inj H
  go_enter Tryz.func118,Tryz.ntmps118
  go_wp2
  go_ret
  exact ⟨sT_,dT_⟩
 rw [if_neg c2] at H
 have c2b0:decide (0≤a0)=false:=decide_eq_false c2
 clear c2
 obtain rfl:=Option.some.inj H
 go_enter Tryz.func118,Tryz.ntmps118
 go_wp2
 go_ret
 exact ⟨sT_,dT_⟩
/-! ### impl_areSets: function 83 -/
def impl_areSets.l0:Nat→List Int→Int→Int→Option (Bool)
 | 0,_,_,_=>none
 | k+1,x5,x6,x7=>if x7<x6 then (if 0≤x7 then (if x7<(x5.length:Int) then ((impl_isAny.f (rd x5 x7)).bind fun t240=>(if t240=true then (impl_areSets.l0 k x5 x6 (wrap64 (x7+1))) else (some false))) else (none)) else (none)) else (some true)
def impl_areSets.f (k:Nat) (l0:List Int):Option (Bool):=impl_areSets.l0 k l0 (l0.length:Int) 0
set_option maxHeartbeats 8000000 in
set_option maxRecDepth 100000 in
theorem impl_areSets.calls (k:Nat) (A0:Option Addr) (c0:Nat) (l0:List Int) (r:Bool) (w:World) (hr0:Kd.C (Kd.int .i64) w A0 l0.length l0) (hc0:l0.length≤c0) (h:impl_areSets.f k l0=some r) :
    Calls Tryz.prog 83 #[.slice A0 l0.length c0] w fun e w'=>e=.returned (.bool r)∧Drawn0 w w':=by
 have HR0:=Aside0.mk hr0
 have HC0:=Aside0.mk hc0
 clear hr0 hc0
 have H:(impl_areSets.l0 k l0 (l0.length:Int) 0)=some r:=h
 clear h
 have H':=Aside0.mk H
 clear H
 go_enter Tryz.func83,Tryz.ntmps83
 go_wp2
 go_loopg [7] k (fun kq v7 w'=>∃ (x7_1:Int),v7=.int .i64 x7_1∧Aside0 (impl_areSets.l0 kq l0 (l0.length:Int) x7_1=some r)∧Aside0 (kq≤k)∧Drawn0 w w')
 case atStart=>exact ⟨(0),sT_,H',⟨Nat.le_refl _⟩,dT_⟩
 case round =>
 clear H'
 obtain ⟨x7_1,rfl,HA,HK1,⟨m1,rfl⟩⟩:=hrel
 cases gk with
 | zero=>exact absurd HA.out (by simp [impl_areSets.l0])
 | succ k1 =>
 have H:=HA.out
 clear HA
 simp only [impl_areSets.l0] at H
 rcases gsn_ H with ⟨c2b0,H⟩|⟨c2b0,H⟩
 ·obtain rfl:=Option.some.inj H
  go_wp2
  go_ret
  exact ⟨sT_,dT_⟩
 replace H:=gsm_ H;obtain ⟨c3b0,H⟩:=H
 replace H:=gsm_ H;obtain ⟨c4b0,H⟩:=H
 replace H:=bnd_ H;obtain ⟨t240,A5,H⟩:=H
 by_cases c6:t240=true
 ·subst c6
  replace H:=bT_ H
  have H':=Aside0.mk H
  clear H
  obtain ⟨ad239,e239,hx239_0,p239,q239⟩:=aiI_ HR0.out x7_1
  cases e239
  go_wp2_with (first|((with_reducible refine gate_callee (f:=118) rfl ?_);refine goesL_ (some 12) rfl rfl Tryz.func118 krT_ rfl #[.int .i64 (rd l0 x7_1)] rfl agT_ ?_;(with_reducible refine (impl_isAny.calls (rd l0 x7_1) true _ A5.out).mono ?_);rintro e w' ⟨rfl,⟨nd,rfl⟩⟩;refine ⟨_,rfl,?_⟩))
  go_roundg k1
  case measure=>have:=HK1.out;omega
  case rel=>exact ⟨(wrap64 (x7_1+1)),sT_,H',⟨by have:=HK1.out;omega⟩,dT_⟩
 ·replace c6:=Bool.eq_false_iff.mpr c6
  subst c6
  replace H:=bF_ H
  obtain rfl:=Option.some.inj H
  obtain ⟨ad239,e239,hx239_0,p239,q239⟩:=aiI_ HR0.out x7_1
  cases e239
  go_wp2_with (first|((with_reducible refine gate_callee (f:=118) rfl ?_);refine goesL_ (some 12) rfl rfl Tryz.func118 krT_ rfl #[.int .i64 (rd l0 x7_1)] rfl agT_ ?_;(with_reducible refine (impl_isAny.calls (rd l0 x7_1) false _ A5.out).mono ?_);rintro e w' ⟨rfl,⟨nd,rfl⟩⟩;refine ⟨_,rfl,?_⟩))
  go_ret
  exact ⟨sT_,dT_⟩
/-! ### impl_HasElement: function 124 -/
def impl_HasElement.f (a0:Int) (a1:Int):Option (Bool):=(impl_isAny.f a0).bind fun t241=>(if t241=true then (if a1≥0 then (if a1<8 then (if 0≤a1 then (some ((Go.bits .and .i64 (shr .i64 a0 a1) 1)==1)) else (none)) else (some false)) else (some false)) else (some false))
set_option maxHeartbeats 8000000 in
set_option maxRecDepth 100000 in
theorem impl_HasElement.calls (a0:Int) (a1:Int) (r:Bool) (w:World) (h:impl_HasElement.f a0 a1=some r) :
    Calls Tryz.prog 124 #[.int .i64 a0,.int .i64 a1] w fun e w'=>e=.returned (.bool r)∧Drawn0 w w':=by
 unfold impl_HasElement.f at h
 have H:=h
 clear h
 replace H:=bnd_ H;obtain ⟨t241,A3,H⟩:=H
 by_cases c4:t241=true
 rotate_left
 ·replace c4:=Bool.eq_false_iff.mpr c4
  subst c4
  replace H:=bF_ H
  obtain rfl:=Option.some.inj H
  go_enter Tryz.func124,Tryz.ntmps124
  go_wp2_with (first|((with_reducible refine gate_callee (f:=118) rfl ?_);refine goesL_ (some 6) rfl rfl Tryz.func118 krT_ rfl #[.int .i64 a0] rfl agT_ ?_;(with_reducible refine (impl_isAny.calls a0 false _ A3.out).mono ?_);rintro e w' ⟨rfl,⟨nd,rfl⟩⟩;refine ⟨_,rfl,?_⟩))
  go_ret
  exact ⟨sT_,dT_⟩
 subst c4
 replace H:=bT_ H
 by_cases c5:a1≥0
 rotate_left
 ·rw [if_neg c5] at H
  have c5b0:decide (0≤a1)=false:=decide_eq_false c5
  clear c5
  obtain rfl:=Option.some.inj H
  go_enter Tryz.func124,Tryz.ntmps124
  go_wp2_with (first|((with_reducible refine gate_callee (f:=118) rfl ?_);refine goesL_ (some 6) rfl rfl Tryz.func118 krT_ rfl #[.int .i64 a0] rfl agT_ ?_;(with_reducible refine (impl_isAny.calls a0 true _ A3.out).mono ?_);rintro e w' ⟨rfl,⟨nd,rfl⟩⟩;refine ⟨_,rfl,?_⟩))
  go_ret
  exact ⟨sT_,dT_⟩
 rw [if_pos c5] at H
 have c5b0:decide (0≤a1)=true:=decide_eq_true c5
 clear c5
 rcases gsn_ H with ⟨c6b0,H⟩|⟨c6b0,H⟩
 ·obtain rfl:=Option.some.inj H
  go_enter Tryz.func124,Tryz.ntmps124
  go_wp2_with (first|((with_reducible refine gate_callee (f:=118) rfl ?_);refine goesL_ (some 6) rfl rfl Tryz.func118 krT_ rfl #[.int .i64 a0] rfl agT_ ?_;(with_reducible refine (impl_isAny.calls a0 true _ A3.out).mono ?_);rintro e w' ⟨rfl,⟨nd,rfl⟩⟩;refine ⟨_,rfl,?_⟩))
  go_ret
  exact ⟨sT_,dT_⟩
 by_cases c7:0≤a1
 ·rw [if_pos c7] at H
  have c7b0:=eq_true c7
  have c7b1:decide (0≤a1)=true:=decide_eq_true c7
  clear c7
  obtain ⟨ji8,hji8⟩:∃ j_:Int,(shr .i64 a0 a1)=j_:=⟨_,rfl⟩
  first |rw [hji8] at H|simp only [hji8] at H
  (try rw [hji8] at A3)
  have hji8_:(a0 / 2 ^ min a1.toNat 64)=ji8:=hji8
  have hji8z:a1≤64→(a0 / 2 ^ a1.toNat)=ji8:=shr_small hji8
  obtain rfl:=Option.some.inj H
  go_enter Tryz.func124,Tryz.ntmps124
  go_wp2_with (first|((with_reducible refine gate_callee (f:=118) rfl ?_);refine goesL_ (some 6) rfl rfl Tryz.func118 krT_ rfl #[.int .i64 a0] rfl agT_ ?_;(with_reducible refine (impl_isAny.calls a0 true _ A3.out).mono ?_);rintro e w' ⟨rfl,⟨nd,rfl⟩⟩;refine ⟨_,rfl,?_⟩))
  go_ret
  exact ⟨by first|rfl|(simp;done)|(simp only [← hji8]<;>(first|rfl|simp))|(simp [*];done),dT_⟩
 ·rw [if_neg c7] at H
  exact absurd H (by simp)
/-! ### impl_ElementsOf: function 98 -/
def impl_ElementsOf.l0:Nat→Int→List Int→Int→Option (List Int)
 | 0,_,_,_=>none
 | k+1,x0,x3,x4=>if x4<8 then ((impl_HasElement.f x0 x4).bind fun t245=>(if t245=true then (if x3.length<17592186044416 then (impl_ElementsOf.l0 k x0 (x3++[x4]) (wrap64 (x4+1))) else (none)) else (impl_ElementsOf.l0 k x0 x3 (wrap64 (x4+1))))) else (some x3)
def impl_ElementsOf.f (k:Nat) (a0:Int):Option (List Int):=impl_ElementsOf.l0 k a0 (([]:List Int)) 0
set_option maxHeartbeats 8000000 in
set_option maxRecDepth 100000 in
theorem impl_ElementsOf.calls (k:Nat) (a0:Int) (r:List Int) (w:World) (h:impl_ElementsOf.f k a0=some r) :
    Calls Tryz.prog 98 #[.int .i64 a0] w fun e w'=>∃ v0_:Value,e=.returned (v0_)∧Kd.R (Kd.int .i64) 3 w' w.heap.size (fun _=>True) v0_ r∧Below w.heap.size w w':=by
 have HB:=Aside0.mk (Below.refl w.heap.size w)
 have H:(impl_ElementsOf.l0 k a0 (([]:List Int)) 0)=some r:=h
 clear h
 obtain ⟨y242,hy242⟩:∃ y_:List Int,y_=(([]:List Int)):=⟨_,rfl⟩
 rw [← hy242] at H
 have Ny242:=Aside0.mk hy242
 clear hy242
 have H':=Aside0.mk H
 clear H
 go_enter Tryz.func98,Tryz.ntmps98
 go_wp2_with (first|((with_reducible refine gate_dst (N:=5) rfl ?_);refine Kd.R_lit (Kd.int .i64) _ 3 ?hg (N:=5) ?hd (xs:=([]:List Int)) (inner:=[]) (ok:=fun _=>True) (okp:=fun _=>True) ?hr ?hp (fun _ hk=>hk) trivial (Below.refl _ _) (Nat.le_refl _) (by simp) ?_;(case hd=>rfl);(case hg=>rfl);(case hr=>exact hrT_);(case hp=>exact (Reps.none _ _));intro v243 w2 ho3 hb hg_ hnew_;clear hg_ hnew_;(first|rw [← Ny242.out] at ho3|(simp only [Int.reduceToNat] at ho3;rw [← Ny242.out] at ho3));have HO244:=Aside0.mk (Kd.R_lower ho3 (below_size (h_HB HB.out)));replace HB:=Aside0.mk (below_step (h_HB HB.out) hb);clear hb ho3))
 go_loopg [3,4] k (fun kq v3 v4 w'=>∃ (x3_1:List Int) (x4_1:Int),v4=.int .i64 x4_1∧Aside0 (impl_ElementsOf.l0 kq a0 x3_1 x4_1=some r)∧Aside0 (kq≤k)∧Aside0 (Kd.R (Kd.int .i64) 3 w' w.heap.size (fun _=>True) v3 x3_1)∧Aside0 (Below w.heap.size w w'))
 case atStart=>exact ⟨(y242),(0),sT_,H',⟨Nat.le_refl _⟩,⟨kRC_ HO244.out⟩,⟨h_HB HB.out⟩⟩
 case round =>
 clear H'
 try clear p2
 obtain ⟨x3_1,x4_1,rfl,HA,HK1,HO_3,HB⟩:=hrel
 cases gk with
 | zero=>exact absurd HA.out (by simp [impl_ElementsOf.l0])
 | succ k1 =>
 have H:=HA.out
 clear HA
 simp only [impl_ElementsOf.l0] at H
 rcases gsn_ H with ⟨c4b0,H⟩|⟨c4b0,H⟩
 ·obtain rfl:=Option.some.inj H
  go_wp2
  go_ret
  exact ⟨_,eT_,kRC_ HO_3.out,h_HB HB.out⟩
 replace H:=bnd_ H;obtain ⟨t245,A5,H⟩:=H
 by_cases c6:t245=true
 ·subst c6
  replace H:=bT_ H
  by_cases c7:x3_1.length<17592186044416
  ·rw [if_pos c7] at H
   have LMc7:=Aside0.mk c7
   clear c7
   obtain ⟨y246,hy246⟩:∃ y_:List Int,y_=(x3_1++[x4_1]):=⟨_,rfl⟩
   rw [← hy246] at H
   have Ny246:=Aside0.mk hy246
   clear hy246
   have H':=Aside0.mk H
   clear H
   go_wp2_with (first|((with_reducible refine gate_callee (f:=124) rfl ?_);refine goesL_ (some 12) rfl rfl Tryz.func124 krT_ rfl #[.int .i64 a0,.int .i64 x4_1] rfl agT_ ?_;(with_reducible refine (impl_HasElement.calls a0 x4_1 true _ A5.out).mono ?_);rintro e w' ⟨rfl,⟨nd,rfl⟩⟩;refine ⟨_,rfl,?_⟩)|((with_reducible refine gate_builtin (b:=.append) (xs:=#[.tmp 13,.tmp 15]) rfl ?_);at_builtin;refine Kd.R_append (Kd.int .i64) (w0:=w) w.heap.size rfl (.tmp 13) (.tmp 15) 22 3 (.int .i64 0) 8 rfl Tryz.underlying22 info3 rfl (by decide) (by omega) u3 x3_1 x4_1 [.int .i64 x4_1] (fun _=>True) (fun _=>False) rfl rfl ?aP (fun _ hk=>hk.elim) ?aF ?aO ?aB ?aS ?aL ?_;(case aP=>exact rfl);(case aB=>exact (h_HB HB.out));(case aF=>exact (fun _ _=>trivial));(case aO=>exact (kRC_ HO_3.out));(case aS=>exact (below_size (h_HB HB.out)));(case aL=>have:=LMc7.out;omega);intro v247 w8 ho hb hg hat;rw [← Ny246.out] at ho;replace HB:=Aside0.mk (hb);have HO248:=Aside0.mk (ho);clear HO_3;clear ho hb hg hat))
   go_roundg k1
   case measure=>have:=HK1.out;omega
   case rel=>exact ⟨(y246),(wrap64 (x4_1+1)),sT_,H',⟨by have:=HK1.out;omega⟩,⟨kRC_ HO248.out⟩,⟨h_HB HB.out⟩⟩
  ·rw [if_neg c7] at H
   exact absurd H (by simp)
 ·replace c6:=Bool.eq_false_iff.mpr c6
  subst c6
  replace H:=bF_ H
  have H':=Aside0.mk H
  clear H
  go_wp2_with (first|((with_reducible refine gate_callee (f:=124) rfl ?_);refine goesL_ (some 12) rfl rfl Tryz.func124 krT_ rfl #[.int .i64 a0,.int .i64 x4_1] rfl agT_ ?_;(with_reducible refine (impl_HasElement.calls a0 x4_1 false _ A5.out).mono ?_);rintro e w' ⟨rfl,⟨nd,rfl⟩⟩;refine ⟨_,rfl,?_⟩))
  go_roundg k1
  case measure=>have:=HK1.out;omega
  case rel=>exact ⟨(x3_1),(wrap64 (x4_1+1)),sT_,H',⟨by have:=HK1.out;omega⟩,⟨kRC_ HO_3.out⟩,⟨h_HB HB.out⟩⟩
/-! ### impl_SetText: function 89 -/
def impl_SetText.l0:Nat→List Int→List Int→Int→Int→Option (ByteArray)
 | 0,_,_,_,_=>none
 | k+1,x3,x15,x16,x17=>if x17<x16 then (if 0≤x17 then (if x17<(x15.length:Int) then (if x3.length<140737488355328 then (impl_SetText.l0 k (x3++[(wrap64 (97+(rd x15 x17))) % 256]) x15 x16 (wrap64 (x17+1))) else (none)) else (none)) else (none)) else (some (strOfNums x3))
def impl_SetText.f (k:Nat) (a0:Int):Option (ByteArray):=(impl_isAny.f a0).bind fun t249=>(if t249=true then (if a0=0 then (some (⟨#[45]⟩:ByteArray)) else ((impl_ElementsOf.f k a0).bind fun t253=>(impl_SetText.l0 k (([]:List Int)) t253 (t253.length:Int) 0))) else (some (⟨#[]⟩:ByteArray)))
set_option maxHeartbeats 8000000 in
set_option maxRecDepth 100000 in
theorem impl_SetText.calls (k:Nat) (a0:Int) (r:ByteArray) (w:World) (h:impl_SetText.f k a0=some r) :
    Calls Tryz.prog 89 #[.int .i64 a0] w fun e w'=>e=.returned (.string r)∧Below w.heap.size w w':=by
 have HB:=Aside0.mk (Below.refl w.heap.size w)
 unfold impl_SetText.f at h
 have H:=h
 clear h
 replace H:=bnd_ H;obtain ⟨t249,A2,H⟩:=H
 by_cases c3:t249=true
 rotate_left
 ·replace c3:=Bool.eq_false_iff.mpr c3
  subst c3
  replace H:=bF_ H
  obtain rfl:=Option.some.inj H
  go_enter Tryz.func89,Tryz.ntmps89
  go_wp2_with (first|((with_reducible refine gate_callee (f:=118) rfl ?_);refine goesL_ (some 8) rfl rfl Tryz.func118 krT_ rfl #[.int .i64 a0] rfl agT_ ?_;(with_reducible refine (impl_isAny.calls a0 false _ A2.out).mono ?_);rintro e w' ⟨rfl,⟨nd,rfl⟩⟩;refine ⟨_,rfl,?_⟩))
  go_ret
  exact ⟨eT_,h_HB HB.out⟩
 subst c3
 replace H:=bT_ H
 by_cases c4:a0=0
 ·rw [if_pos c4] at H
  have c4b0:(a0==0)=true:=beq_iff_eq.mpr c4
  have c4b1:(a0 != 0)=false:=bne_eq_false_iff_eq.mpr c4
  clear c4
  obtain rfl:=Option.some.inj H
  go_enter Tryz.func89,Tryz.ntmps89
  go_wp2_with (first|((with_reducible refine gate_callee (f:=118) rfl ?_);refine goesL_ (some 8) rfl rfl Tryz.func118 krT_ rfl #[.int .i64 a0] rfl agT_ ?_;(with_reducible refine (impl_isAny.calls a0 true _ A2.out).mono ?_);rintro e w' ⟨rfl,⟨nd,rfl⟩⟩;refine ⟨_,rfl,?_⟩))
  go_ret
  exact ⟨eT_,h_HB HB.out⟩
 rw [if_neg c4] at H
 have c4b0:(a0==0)=false:=beq_eq_false_iff_ne.mpr c4
 have c4b1:(a0 != 0)=true:=bne_iff_ne.mpr c4
 obtain ⟨y250,hy250⟩:∃ y_:List Int,y_=(([]:List Int)):=⟨_,rfl⟩
 rw [← hy250] at H
 have Ny250:=Aside0.mk hy250
 clear hy250
 replace H:=bnd_ H;obtain ⟨t253,A5,H⟩:=H
 have H':=Aside0.mk H
 clear H
 go_enter Tryz.func89,Tryz.ntmps89
 go_wp2_with (first|((with_reducible refine gate_callee (f:=118) rfl ?_);refine goesL_ (some 8) rfl rfl Tryz.func118 krT_ rfl #[.int .i64 a0] rfl agT_ ?_;(with_reducible refine (impl_isAny.calls a0 true _ A2.out).mono ?_);rintro e w' ⟨rfl,⟨nd,rfl⟩⟩;refine ⟨_,rfl,?_⟩)|((with_reducible refine gate_dst (N:=13) rfl ?_);refine Kd.R_lit (Kd.int .u8) _ 5 ?hg (N:=13) ?hd (xs:=([]:List Int)) (inner:=[]) (ok:=fun _=>True) (okp:=fun _=>True) ?hr ?hp (fun _ hk=>hk) trivial (Below.refl _ _) (Nat.le_refl _) (by simp) ?_;(case hd=>rfl);(case hg=>rfl);(case hr=>exact hrT_);(case hp=>exact (Reps.none _ _));intro v251 w6 ho7 hb hg_ hnew_;clear hg_ hnew_;(first|rw [← Ny250.out] at ho7|(simp only [Int.reduceToNat] at ho7;rw [← Ny250.out] at ho7));have HO252:=Aside0.mk (Kd.R_lower ho7 (below_size (h_HB HB.out)));replace HB:=Aside0.mk (below_step (h_HB HB.out) hb);clear hb ho7)|((with_reducible refine gate_callee (f:=98) rfl ?_);refine goesL_ (some 15) rfl rfl Tryz.func98 krT_ rfl #[.int .i64 a0] rfl agT_ ?_;(with_reducible refine (impl_ElementsOf.calls k a0 t253 _ A5.out).mono ?_);rintro e w8 ⟨v254,rfl,ho0,hb⟩;refine ⟨_,rfl,?_⟩;replace HO252:=Aside0.mk (Kd.R_below (kRC_ HO252.out) hb);have HO255:=Aside0.mk (Kd.R_lower ho0 (below_size (h_HB HB.out)));replace HB:=Aside0.mk (below_step (h_HB HB.out) hb);(try clear hb);(try clear hb2);(try clear hk);(try clear hi);(try clear ho0);obtain ⟨Ao9,co9,eo9⟩:=Kd.R_slice HO255.out;subst eo9))
 go_loopg [3,17] k (fun kq v3 v17 w'=>∃ (x3_1:List Int) (x17_1:Int),v17=.int .i64 x17_1∧Aside0 (impl_SetText.l0 kq x3_1 t253 (t253.length:Int) x17_1=some r)∧Aside0 (kq≤k)∧Aside0 (Kd.R (Kd.int .u8) 5 w' w.heap.size (fun _=>True) v3 x3_1)∧Aside0 (Kd.R (Kd.int .i64) 3 w' w.heap.size (fun _=>True) (.slice Ao9 t253.length co9) t253)∧Aside0 (Below w.heap.size w w'))
 case atStart=>exact ⟨(y250),(0),sT_,H',⟨Nat.le_refl _⟩,⟨kRC_ HO252.out⟩,⟨kRC_ HO255.out⟩,⟨h_HB HB.out⟩⟩
 case round =>
 clear H'
 try clear c1
 try clear p2
 try clear c3
 try clear c4
 try clear c4b0
 try clear c4b1
 try clear c8
 try clear c9
 obtain ⟨x3_1,x17_1,rfl,HA,HK1,HO_3,HO_15,HB⟩:=hrel
 cases gk with
 | zero=>exact absurd HA.out (by simp [impl_SetText.l0])
 | succ k1 =>
 have H:=HA.out
 clear HA
 simp only [impl_SetText.l0] at H
 rcases gsn_ H with ⟨c10b0,H⟩|⟨c10b0,H⟩
 ·obtain rfl:=Option.some.inj H
  have hcv15:=own_string (P:=Tryz.prog) Tryz.underlying30 Tryz.underlying5 Tryz.underlying9 (Kd.own_of_R HO_3.out)
  go_wp2
  go_ret
  exact ⟨eT_,h_HB HB.out⟩
 replace H:=gsm_ H;obtain ⟨c11b0,H⟩:=H
 replace H:=gsm_ H;obtain ⟨c12b0,H⟩:=H
 by_cases c13:x3_1.length<140737488355328
 ·rw [if_pos c13] at H
  have LMc13:=Aside0.mk c13
  clear c13
  obtain ⟨y257,hy257⟩:∃ y_:List Int,y_=(x3_1++[(wrap64 (97+(rd t253 x17_1))) % 256]):=⟨_,rfl⟩
  rw [← hy257] at H
  have Ny257:=Aside0.mk hy257
  clear hy257
  have H':=Aside0.mk H
  clear H
  obtain ⟨ad256,e256,hx256_0,p256,q256⟩:=aiI_ (Kd.R_reads' HO_15.out).2.2 x17_1
  cases e256
  go_wp2_with (first|((with_reducible refine gate_builtin (b:=.append) (xs:=#[.tmp 21,.tmp 25]) rfl ?_);at_builtin;refine Kd.R_append (Kd.int .u8) (w0:=w) w.heap.size rfl (.tmp 21) (.tmp 25) 30 5 (.int .u8 0) 1 rfl Tryz.underlying30 info5 rfl (by decide) (by omega) u3 x3_1 ((wrap64 (97+(rd t253 x17_1))) % 256) [.int .u8 ((wrap64 (97+(rd t253 x17_1))) % 256)] (fun _=>True) (fun _=>False) rfl rfl ?aP (fun _ hk=>hk.elim) ?aF ?aO ?aB ?aS ?aL ?_;(case aP=>exact rfl);(case aB=>exact (h_HB HB.out));(case aF=>exact (fun _ _=>trivial));(case aO=>exact (kRC_ HO_3.out));(case aS=>exact (below_size (h_HB HB.out)));(case aL=>have:=LMc13.out;omega);intro v258 w14 ho hb hg hat;rw [← Ny257.out] at ho;replace HO_15:=Aside0.mk (Kd.R_over' (kRC_ HO_15.out) (Kd.R_typed (kRC_ HO_3.out)) (by decide) hg);replace HB:=Aside0.mk (hb);have HO259:=Aside0.mk (ho);clear HO_3;clear ho hb hg hat))
  go_roundg k1
  case measure=>have:=HK1.out;omega
  case rel=>exact ⟨(y257),(wrap64 (x17_1+1)),sT_,H',⟨by have:=HK1.out;omega⟩,⟨kRC_ HO259.out⟩,⟨kRC_ HO_15.out⟩,⟨h_HB HB.out⟩⟩
 ·rw [if_neg c13] at H
  exact absurd H (by simp)
/-! ### strings_Join: function 120 -/
def strings_Join.f (l0:List ByteArray) (a1:ByteArray):Option ByteArray:=if l0.length≤140737488355328∧(Lib.join (l0.map (·.data.toList)) a1.data.toList).length≤140737488355328 then some ⟨(Lib.join (l0.map (·.data.toList)) a1.data.toList).toArray⟩ else none
theorem strings_Join.calls (A0:Option Addr) (c0:Nat) (l0:List ByteArray) (a1:ByteArray) (r:ByteArray) (w:World) (hr0:Kd.C Kd.string w A0 l0.length l0) (hc0:l0.length≤c0) (h:strings_Join.f l0 a1=some r) :
    Calls Tryz.prog 120 #[.slice A0 l0.length c0,.string a1] w fun e w'=>e=.returned (.string r)∧Below w.heap.size w w':=by
 unfold strings_Join.f at h
 by_cases hl:l0.length≤140737488355328∧(Lib.join (l0.map (·.data.toList)) a1.data.toList).length≤140737488355328
 rotate_left
 ·rw [if_neg hl] at h
  exact absurd h (by simp)
 rw [if_pos hl] at h
 obtain rfl:=Option.some.inj h
 cases l0 with
 | nil =>
  refine (YtekegbacnagbcaaGreatDoorShelf.strings_Join_none A0 c0 a1 w).mono ?_
  rintro e w' ⟨rfl,rfl⟩
  exact ⟨rfl,Below.refl _ _⟩
 | cons x xs =>
 obtain ⟨_,_,hc⟩:=hr0
 obtain ⟨ad,rfl,hcell⟩:=hc (by simp)
 have hcells:∀ (j:Nat) y,(x :: xs)[j]?=some y→w.cell? (ad.add j)=some (.string y):=by
  intro j y hj
  obtain ⟨c,_,hK,h1⟩:=hcell j y hj
  have hK':c=[Value.string y]:=hK
  subst hK'
  have:=h1 0 _ rfl
  simpa [Kd.string,Kd.scalar] using this
 obtain ⟨b,o,e⟩:=ad
 have h0:=hcells 0 x rfl
 cases e with
 | some z =>
  exfalso
  simp [World.cell?,Addr.add] at h0
  split at h0<;>simp at h0
 | none =>
 refine (YtekegbacnagbcaaGreatDoorShelf.strings_Join b o c0 (x :: xs) a1 w (fun j y hj=>by
  have h1:=hcells j y hj
  unfold Addr.add at h1
  by_cases hj0:j=0
  ·subst hj0;simpa using h1
  ·simpa [hj0] using h1) (World.block_lt_of_cell? w _ h0) hl.1 hc0 hl.2).mono ?_
 rintro e w' ⟨rfl,hb⟩
 exact ⟨rfl,hb⟩
/-! ### impl_Join: function 90 -/
def impl_Join.f (l0:List ByteArray) (a1:ByteArray):Option (ByteArray):=(strings_Join.f l0 a1).bind fun t260=>(some t260)
set_option maxHeartbeats 8000000 in
set_option maxRecDepth 100000 in
theorem impl_Join.calls (A0:Option Addr) (c0:Nat) (l0:List ByteArray) (a1:ByteArray) (r:ByteArray) (w:World) (hr0:Kd.C Kd.string w A0 l0.length l0) (hc0:l0.length≤c0) (h:impl_Join.f l0 a1=some r) :
    Calls Tryz.prog 90 #[.slice A0 l0.length c0,.string a1] w fun e w'=>e=.returned (.string r)∧Below w.heap.size w w':=by
 have HR0:=Aside0.mk hr0
 have HC0:=Aside0.mk hc0
 clear hr0 hc0
 have HB:=Aside0.mk (Below.refl w.heap.size w)
 have H:((strings_Join.f l0 a1).bind fun t260=>(some t260))=some r:=h
 clear h
 replace H:=bnd_ H;obtain ⟨t260,A3,H⟩:=H
 obtain rfl:=Option.some.inj H
 go_enter Tryz.func90,Tryz.ntmps90
 go_wp2_with (first|((with_reducible refine gate_callee (f:=120) rfl ?_);refine goesL_ (some 7) rfl rfl Tryz.func120 krT_ rfl #[.slice A0 l0.length c0,.string a1] rfl agT_ ?_;(with_reducible refine (strings_Join.calls _ _ l0 a1 t260 _ ?side1 ?side2 A3.out).mono ?_);(case side1=>repeat (first|exact HR0.out|(with_reducible refine Kd.C_alloc ?_ _)|(with_reducible refine Kd.C_drewN ?_ _)|(with_reducible refine Kd.C_drew ?_)));(case side2=>exact HC0.out);rintro e w4 ⟨rfl,hb⟩;refine ⟨_,rfl,?_⟩;replace HB:=Aside0.mk (below_step (h_HB HB.out) hb);(try clear hb)))
 go_ret
 exact ⟨eT_,h_HB HB.out⟩
end Go.Proofs.YtekegbacnagbcaaGreatDoor.P
