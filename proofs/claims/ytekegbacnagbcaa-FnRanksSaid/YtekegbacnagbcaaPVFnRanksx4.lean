-- written by gprint (a program of this session's, round the kit's print), out of the translation and hand-written texts
import Derived.Test.YtekegbacnagbcaaPVFnRanksx0
import Derived.Test.YtekegbacnagbcaaPVFnRanksx3
namespace Go.Proofs.Ytekegbacnagbcaa.P
open Go.RowKit Go.Proofs.YtekegbacnagbcaaW.PrintWords Go.Proofs.YtekegbacnagbcaaW.PrintLast Go.Proofs.YtekegbacnagbcaaW.PrintMore
attribute [local go_sem] max2_int min2_int max_two min_two max_three min_three max_four min_four   -- for this text's walks alone
set_option linter.unusedVariables false
set_option linter.unusedSimpArgs false
/-! ### spec_l1Read: function 91 -/
mutual
def spec_l1Read.j0:Nat→ByteArray→Int→Bool→Option (Int × Bool)
 | 0,_,_,_=>none
 | k+1,x0,x1,x6=>if x6=true then (if 1≤(x0.size:Int) then (spec_l1Read.j1 k x0 x1 x6 (x0.extract 1 x0.size)) else (none)) else (spec_l1Read.j1 k x0 x1 x6 x0)
def spec_l1Read.j1:Nat→ByteArray→Int→Bool→ByteArray→Option (Int × Bool)
 | 0,_,_,_,_=>none
 | k+1,x0,x1,x6,x7=>if (x7.size:Int)<1 then (spec_l1Read.j2 k x0 x6 x7 true) else (spec_l1Read.j2 k x0 x6 x7 (decide ((x7.size:Int)>x1)))
def spec_l1Read.j2:Nat→ByteArray→Bool→ByteArray→Bool→Option (Int × Bool)
 | 0,_,_,_,_=>none
 | k+1,x0,x6,x7,x30=>if x30=true then (some (0,false)) else (spec_l1Read.l0 k x0 x6 x7 0 0)
def spec_l1Read.l0:Nat→ByteArray→Bool→ByteArray→Int→Int→Option (Int × Bool)
 | 0,_,_,_,_,_=>none
 | k+1,x0,x6,x7,x8,x9=>if x9<(x7.size:Int) then (if 0≤x9 then (if (bt x7 x9)<48 then (some (0,false)) else (if (bt x7 x9)>57 then (some (0,false)) else (spec_l1Read.l0 k x0 x6 x7 (wrap64 ((wrap64 (10*x8))+(((bt x7 x9)-48) % 256))) (wrap64 (x9+1))))) else (none)) else (if x6=true then ((spec_FormatInt.f k (wrap64 (-x8))).bind fun t217=>(if t217.toList=x0.toList then (some (wrap64 (-x8),true)) else (some (0,false)))) else ((spec_FormatInt.f k x8).bind fun t218=>(if t218.toList=x0.toList then (some (x8,true)) else (some (0,false)))))
end
def spec_l1Read.f (k:Nat) (a0:ByteArray) (a1:Int):Option (Int × Bool):=if (a0.size:Int)>0 then (if 0<(a0.size:Int) then (spec_l1Read.j0 k a0 a1 ((bt a0 0)==45)) else (none)) else (spec_l1Read.j0 k a0 a1 false)
set_option maxHeartbeats 8000000 in
set_option maxRecDepth 100000 in
theorem spec_l1Read.calls (k:Nat) (a0:ByteArray) (a1:Int) (r1:Int) (r2:Bool) (w:World) (h:spec_l1Read.f k a0 a1=some (r1,r2)) :
    Calls Try.prog 91 #[.string a0,.int .i64 a1] w fun e w'=>e=.returned (.tuple #[.int .i64 r1,.bool r2])∧Below w.heap.size w w':=by
 have HB:=Aside0.mk (Below.refl w.heap.size w)
 unfold spec_l1Read.f at h
 have H:=h
 clear h
 have HC3:=Aside0.mk H
 clear H
 go_enter Try.func91,Try.ntmps91
 go_upto_region 1 with (fail)
 go_cut [6] (fun v6 wc=>∃ (kq:Nat) (x6_2:Bool),v6=.bool x6_2∧Aside0 (spec_l1Read.j0 kq a0 a1 x6_2=some (r1,r2))∧Aside0 (kq≤k)∧Aside0 (Below w.heap.size w wc))
 case first =>
  have H:=HC3.out
  clear HC3
  by_cases c4:(a0.size:Int)>0
  ·rw [if_pos c4] at H
   have c4b0:decide (0<(a0.size:Int))=true:=decide_eq_true c4
   have c4b1:decide (0<a0.size)=true:=decide_eq_true (by omega)
   clear c4
   (first|rw [c4b0]|(simp only [i64_w,i32_w];rw [c4b0])|skip)
   by_cases c5:0<(a0.size:Int)
   ·rw [if_pos c5] at H
    have c5b0:decide (0<(a0.size:Int))=true:=decide_eq_true c5
    have c5b1:decide (0<a0.size)=true:=decide_eq_true (by omega)
    clear c5
    have H':=Aside0.mk H
    clear H
    have p6:0≤(0:Int):=(by omega)
    have q6:0<a0.size:=(by have:(0:Int)<(a0.size:Int):=odT_;omega)
    have hx6:∀ h:0<a0.size,((a0[0]'h).toNat:Int)=bt a0 0:=bt_at a0 0
    clear p6
    have qi6:(0<(a0.size:Int))=True:=eq_true (odT_)
    replace q6:=eq_true q6
    go_wp2
    go_meet
    case rel=>exact ⟨_,(((bt a0 0)==45)),sT_,H',⟨by first|omega|exact Nat.le_refl _⟩,⟨h_HB HB.out⟩⟩
   ·rw [if_neg c5] at H
    exact absurd H (by simp)
  ·rw [if_neg c4] at H
   have c4b0:decide (0<(a0.size:Int))=false:=decide_eq_false c4
   have c4b1:decide (0<a0.size)=false:=decide_eq_false (by omega)
   clear c4
   (first|rw [c4b0]|(simp only [i64_w,i32_w];rw [c4b0])|skip)
   have H':=Aside0.mk H
   clear H
   go_wp2
   go_meet
   case rel=>exact ⟨_,(false),sT_,H',⟨by first|omega|exact Nat.le_refl _⟩,⟨h_HB HB.out⟩⟩
 case rest =>
 clear HC3
 try clear p2
 try clear c4
 try clear c4b0
 try clear c4b1
 try clear c5
 try clear c5b0
 try clear c5b1
 try clear p6
 try clear q6
 try clear hx6
 try clear qi6
 try clear p6
 try clear q6
 obtain ⟨kq,x6_2,rfl,HA,HJ2,HB⟩:=hcut
 cases kq with
 | zero=>exact absurd HA.out (by simp [spec_l1Read.j0])
 | succ kj2 =>
 have H:=HA.out
 clear HA
 simp only [spec_l1Read.j0] at H
 have HC7:=Aside0.mk H
 clear H
 go_upto_if 19 with (fail)
 go_cut [7] (fun v7 wc=>∃ (kq:Nat) (x7_6:ByteArray),v7=.string x7_6∧Aside0 (spec_l1Read.j1 kq a0 a1 x6_2 x7_6=some (r1,r2))∧Aside0 (kq≤kj2)∧Aside0 (Below w.heap.size w wc))
 case first =>
  have H:=HC7.out
  clear HC7
  by_cases c8:x6_2=true
  ·subst c8
   replace H:=bT_ H
   by_cases c9:1≤(a0.size:Int)
   ·rw [if_pos c9] at H
    have c9b0:=eq_true c9
    have c9b1:decide (1≤(a0.size:Int))=true:=decide_eq_true c9
    clear c9
    have H':=Aside0.mk H
    clear H
    go_wp2
    go_meet
    case rel=>exact ⟨_,(a0.extract 1 a0.size),sT_,H',⟨by have:=HJ2.out;first|omega|exact Nat.le_refl _⟩,⟨h_HB HB.out⟩⟩
   ·rw [if_neg c9] at H
    exact absurd H (by simp)
  ·replace c8:=Bool.eq_false_iff.mpr c8
   subst c8
   replace H:=bF_ H
   have H':=Aside0.mk H
   clear H
   go_wp2
   go_meet
   case rel=>exact ⟨_,(a0),sT_,H',⟨by have:=HJ2.out;first|omega|exact Nat.le_refl _⟩,⟨h_HB HB.out⟩⟩
 case rest =>
 clear HC7
 try clear p2
 try clear c4
 try clear c4b0
 try clear c4b1
 try clear c5
 try clear c5b0
 try clear c5b1
 try clear p6
 try clear q6
 try clear hx6
 try clear qi6
 try clear c8
 try clear c9
 try clear c9b0
 try clear c9b1
 try clear p2
 try clear p6
 try clear q6
 obtain ⟨kq,x7_6,rfl,HA,HJ6,HB⟩:=hcut
 cases kq with
 | zero=>exact absurd HA.out (by simp [spec_l1Read.j1])
 | succ kj6 =>
 have H:=HA.out
 clear HA
 simp only [spec_l1Read.j1] at H
 have HC10:=Aside0.mk H
 clear H
 go_upto_region 5 with (fail)
 go_cut [30] (fun v30 wc=>∃ (kq:Nat) (x30_9:Bool),v30=.bool x30_9∧Aside0 (spec_l1Read.j2 kq a0 x6_2 x7_6 x30_9=some (r1,r2))∧Aside0 (kq≤kj6)∧Aside0 (Below w.heap.size w wc))
 case first =>
  have H:=HC10.out
  clear HC10
  by_cases c11:(x7_6.size:Int)<1
  ·rw [if_pos c11] at H
   have c11b0:decide ((x7_6.size:Int)<1)=true:=decide_eq_true c11
   have c11b1:decide (x7_6.size<1)=true:=decide_eq_true (by omega)
   clear c11
   (first|rw [c11b0]|(simp only [i64_w,i32_w];rw [c11b0])|skip)
   have H':=Aside0.mk H
   clear H
   go_wp2
   go_meet
   case rel=>exact ⟨_,(true),sT_,H',⟨by have:=HJ2.out;have:=HJ6.out;first|omega|exact Nat.le_refl _⟩,⟨h_HB HB.out⟩⟩
  rw [if_neg c11] at H
  have c11b0:decide ((x7_6.size:Int)<1)=false:=decide_eq_false c11
  have c11b1:decide (x7_6.size<1)=false:=decide_eq_false (by omega)
  clear c11
  (first|rw [c11b0]|(simp only [i64_w,i32_w];rw [c11b0])|skip)
  have H':=Aside0.mk H
  clear H
  go_wp2
  go_meet
  case rel=>exact ⟨_,(decide ((x7_6.size:Int)>a1)),sT_,H',⟨by have:=HJ2.out;have:=HJ6.out;first|omega|exact Nat.le_refl _⟩,⟨h_HB HB.out⟩⟩
 case rest =>
 clear HC10
 try clear c1
 try clear p2
 try clear c4
 try clear c4b0
 try clear c4b1
 try clear c5
 try clear c5b0
 try clear c5b1
 try clear p6
 try clear q6
 try clear hx6
 try clear qi6
 try clear c8
 try clear c9
 try clear c9b0
 try clear c9b1
 try clear c11
 try clear c11b0
 try clear c11b1
 try clear p2
 try clear p6
 try clear q6
 obtain ⟨kq,x30_9,rfl,HA,HJ9,HB⟩:=hcut
 cases kq with
 | zero=>exact absurd HA.out (by simp [spec_l1Read.j2])
 | succ kj9 =>
 have H:=HA.out
 clear HA
 simp only [spec_l1Read.j2] at H
 by_cases c12:x30_9=true
 ·subst c12
  replace H:=bT_ H
  simp only [Option.some.injEq,Prod.mk.injEq] at H
  obtain ⟨rfl,rfl⟩:=H
  go_wp2
  go_ret2
  exact ⟨eT_,h_HB HB.out⟩
 replace c12:=Bool.eq_false_iff.mpr c12
 subst c12
 replace H:=bF_ H
 have H':=Aside0.mk H
 clear H
 go_wp2
 go_loopg [8,9] kj9 (fun kq v8 v9 w'=>∃ (x8_4:Int) (x9_4:Int),v8=.int .i64 x8_4∧v9=.int .i64 x9_4∧Aside0 (spec_l1Read.l0 kq a0 x6_2 x7_6 x8_4 x9_4=some (r1,r2))∧Aside0 (kq≤kj9)∧Aside0 (Below w.heap.size w w'))
 case atStart=>exact ⟨(0),(0),sT_,sT_,H',⟨Nat.le_refl _⟩,⟨h_HB HB.out⟩⟩
 case round =>
 clear H'
 try clear c1
 try clear p2
 try clear c4
 try clear c4b0
 try clear c4b1
 try clear c5
 try clear c5b0
 try clear c5b1
 try clear p6
 try clear q6
 try clear hx6
 try clear qi6
 try clear c8
 try clear c9
 try clear c9b0
 try clear c9b1
 try clear c11
 try clear c11b0
 try clear c11b1
 try clear c12
 try clear p2
 try clear p6
 try clear q6
 obtain ⟨x8_4,x9_4,rfl,rfl,HA,HK4,HB⟩:=hrel
 cases gk with
 | zero=>exact absurd HA.out (by simp [spec_l1Read.l0])
 | succ k4 =>
 have H:=HA.out
 clear HA
 simp only [spec_l1Read.l0] at H
 rcases gsn_ H with ⟨c13b0,H⟩|⟨c13b0,H⟩
 ·by_cases c20:x6_2=true
  ·subst c20
   replace H:=bT_ H
   replace H:=bnd_ H;obtain ⟨t217,A21,H⟩:=H
   by_cases c22:t217.toList=a0.toList
   ·rw [if_pos c22] at H
    have c22b0:(t217.toList==a0.toList)=true:=beq_iff_eq.mpr c22
    have c22b1:(t217.toList != a0.toList)=false:=bne_eq_false_iff_eq.mpr c22
    clear c22
    simp only [Option.some.injEq,Prod.mk.injEq] at H
    obtain ⟨rfl,rfl⟩:=H
    go_wp2_with (first|((with_reducible refine gate_callee (f:=94) rfl ?_);refine goesL_ (some 59) rfl rfl Try.func94 krT_ rfl #[.int .i64 (wrap64 (-x8_4))] rfl agT_ ?_;(with_reducible refine (spec_FormatInt.calls k4 (wrap64 (-x8_4)) t217 _ A21.out).mono ?_);rintro e w23 ⟨rfl,hb⟩;refine ⟨_,rfl,?_⟩;replace HB:=Aside0.mk (below_step (h_HB HB.out) hb);(try clear hb)))
    go_ret2
    exact ⟨eT_,h_HB HB.out⟩
   ·rw [if_neg c22] at H
    have c22b0:(t217.toList==a0.toList)=false:=beq_eq_false_iff_ne.mpr c22
    have c22b1:(t217.toList != a0.toList)=true:=bne_iff_ne.mpr c22
    simp only [Option.some.injEq,Prod.mk.injEq] at H
    obtain ⟨rfl,rfl⟩:=H
    go_wp2_with (first|((with_reducible refine gate_callee (f:=94) rfl ?_);refine goesL_ (some 59) rfl rfl Try.func94 krT_ rfl #[.int .i64 (wrap64 (-x8_4))] rfl agT_ ?_;(with_reducible refine (spec_FormatInt.calls k4 (wrap64 (-x8_4)) t217 _ A21.out).mono ?_);rintro e w24 ⟨rfl,hb⟩;refine ⟨_,rfl,?_⟩;replace HB:=Aside0.mk (below_step (h_HB HB.out) hb);(try clear hb)))
    go_ret2
    exact ⟨eT_,h_HB HB.out⟩
  replace c20:=Bool.eq_false_iff.mpr c20
  subst c20
  replace H:=bF_ H
  replace H:=bnd_ H;obtain ⟨t218,A25,H⟩:=H
  by_cases c26:t218.toList=a0.toList
  ·rw [if_pos c26] at H
   have c26b0:(t218.toList==a0.toList)=true:=beq_iff_eq.mpr c26
   have c26b1:(t218.toList != a0.toList)=false:=bne_eq_false_iff_eq.mpr c26
   clear c26
   simp only [Option.some.injEq,Prod.mk.injEq] at H
   obtain ⟨rfl,rfl⟩:=H
   go_wp2_with (first|((with_reducible refine gate_callee (f:=94) rfl ?_);refine goesL_ (some 59) rfl rfl Try.func94 krT_ rfl #[.int .i64 x8_4] rfl agT_ ?_;(with_reducible refine (spec_FormatInt.calls k4 x8_4 t218 _ A25.out).mono ?_);rintro e w27 ⟨rfl,hb⟩;refine ⟨_,rfl,?_⟩;replace HB:=Aside0.mk (below_step (h_HB HB.out) hb);(try clear hb)))
   go_ret2
   exact ⟨eT_,h_HB HB.out⟩
  ·rw [if_neg c26] at H
   have c26b0:(t218.toList==a0.toList)=false:=beq_eq_false_iff_ne.mpr c26
   have c26b1:(t218.toList != a0.toList)=true:=bne_iff_ne.mpr c26
   simp only [Option.some.injEq,Prod.mk.injEq] at H
   obtain ⟨rfl,rfl⟩:=H
   go_wp2_with (first|((with_reducible refine gate_callee (f:=94) rfl ?_);refine goesL_ (some 59) rfl rfl Try.func94 krT_ rfl #[.int .i64 x8_4] rfl agT_ ?_;(with_reducible refine (spec_FormatInt.calls k4 x8_4 t218 _ A25.out).mono ?_);rintro e w28 ⟨rfl,hb⟩;refine ⟨_,rfl,?_⟩;replace HB:=Aside0.mk (below_step (h_HB HB.out) hb);(try clear hb)))
   go_ret2
   exact ⟨eT_,h_HB HB.out⟩
 replace H:=gsm_ H;obtain ⟨c14b0,H⟩:=H
 rcases gsb_ H with ⟨c16b0,H⟩|⟨c16b0,H⟩
 ·simp only [Option.some.injEq,Prod.mk.injEq] at H
  obtain ⟨rfl,rfl⟩:=H
  have p15:0≤(x9_4:Int):=odT_
  have q15:x9_4<(x7_6.size:Int):=odT_
  have hx15:=bt_at x7_6 x9_4
  replace p15:=eq_true p15
  replace q15:=eq_true q15
  go_wp2
  go_ret2
  exact ⟨eT_,h_HB HB.out⟩
 by_cases c18:(bt x7_6 x9_4)>57
 ·rw [if_pos c18] at H
  have c18b0:decide (57<(bt x7_6 x9_4))=true:=decide_eq_true c18
  clear c18
  simp only [Option.some.injEq,Prod.mk.injEq] at H
  obtain ⟨rfl,rfl⟩:=H
  have p15:0≤(x9_4:Int):=odT_
  have q15:x9_4<(x7_6.size:Int):=odT_
  have hx15:=bt_at x7_6 x9_4
  replace p15:=eq_true p15
  replace q15:=eq_true q15
  have p17:0≤(x9_4:Int):=odT_
  have q17:x9_4<(x7_6.size:Int):=odT_
  have hx17:=bt_at x7_6 x9_4
  replace p17:=eq_true p17
  replace q17:=eq_true q17
  go_wp2
  go_ret2
  exact ⟨eT_,h_HB HB.out⟩
 rw [if_neg c18] at H
 have c18b0:decide (57<(bt x7_6 x9_4))=false:=decide_eq_false c18
 clear c18
 have H':=Aside0.mk H
 clear H
 have p15:0≤(x9_4:Int):=odT_
 have q15:x9_4<(x7_6.size:Int):=odT_
 have hx15:=bt_at x7_6 x9_4
 replace p15:=eq_true p15
 replace q15:=eq_true q15
 have p17:0≤(x9_4:Int):=odT_
 have q17:x9_4<(x7_6.size:Int):=odT_
 have hx17:=bt_at x7_6 x9_4
 replace p17:=eq_true p17
 replace q17:=eq_true q17
 have p19:0≤(x9_4:Int):=odT_
 have q19:x9_4<(x7_6.size:Int):=odT_
 have hx19:=bt_at x7_6 x9_4
 replace p19:=eq_true p19
 replace q19:=eq_true q19
 go_wp2
 go_roundg k4
 case measure=>have:=HJ2.out;have:=HJ6.out;have:=HJ9.out;have:=HK4.out;omega
 case rel=>exact ⟨(wrap64 ((wrap64 (10*x8_4))+(((bt x7_6 x9_4)-48) % 256))),(wrap64 (x9_4+1)),sT_,sT_,H',⟨by have:=HJ2.out;have:=HJ6.out;have:=HJ9.out;have:=HK4.out;omega⟩,⟨h_HB HB.out⟩⟩
/-! ### spec_ParseInt: function 86 -/
def spec_ParseInt.f (k:Nat) (a0:ByteArray):Option (Int × Bool):=(spec_l1Read.f k a0 12).bind fun bt219=>(some (bt219.1,bt219.2))
set_option maxHeartbeats 8000000 in
set_option maxRecDepth 100000 in
theorem spec_ParseInt.calls (k:Nat) (a0:ByteArray) (r1:Int) (r2:Bool) (w:World) (h:spec_ParseInt.f k a0=some (r1,r2)) :
    Calls Try.prog 86 #[.string a0] w fun e w'=>e=.returned (.tuple #[.int .i64 r1,.bool r2])∧Below w.heap.size w w':=by
 have HB:=Aside0.mk (Below.refl w.heap.size w)
 have H:((spec_l1Read.f k a0 12).bind fun bt219=>(some (bt219.1,bt219.2)))=some (r1,r2):=h
 clear h
 replace H:=bnd_ H;obtain ⟨⟨t219,t220⟩,A2,H⟩:=H;dsimp only at H
 simp only [Option.some.injEq,Prod.mk.injEq] at H
 obtain ⟨rfl,rfl⟩:=H
 go_enter Try.func86,Try.ntmps86
 go_wp2_with (first|((with_reducible refine gate_callee (f:=91) rfl ?_);refine goesL_ (some 5) rfl rfl Try.func91 krT_ rfl #[.string a0,.int .i64 12] rfl agT_ ?_;(with_reducible refine (spec_l1Read.calls k a0 12 t219 t220 _ A2.out).mono ?_);rintro e w3 ⟨rfl,hb⟩;refine ⟨_,rfl,?_⟩;replace HB:=Aside0.mk (below_step (h_HB HB.out) hb);(try clear hb)))
 go_ret2
 exact ⟨eT_,h_HB HB.out⟩
/-! ### spec_IsFamily: function 62 -/
def spec_IsFamily.l0:Nat→Int→List Int→Int→Option (Bool)
 | 0,_,_,_=>none
 | k+1,x0,x1,x5=>if x5<(x1.length:Int) then (if 0≤x5 then ((spec_IsSet.f x0 (rd x1 x5)).bind fun t222=>(if t222=true then (if x5>0 then (if 0≤(wrap64 (x5-1)) then (if (wrap64 (x5-1))<(x1.length:Int) then (if (rd x1 (wrap64 (x5-1)))≥(rd x1 x5) then (some false) else (spec_IsFamily.l0 k x0 x1 (wrap64 (x5+1)))) else (none)) else (none)) else (spec_IsFamily.l0 k x0 x1 (wrap64 (x5+1)))) else (some false))) else (none)) else ((spec_l1In.f x0 0 8).bind fun t225=>(some t225))
def spec_IsFamily.f (k:Nat) (a0:Int) (l1:List Int):Option (Bool):=spec_IsFamily.l0 k a0 l1 0
set_option maxHeartbeats 8000000 in
set_option maxRecDepth 100000 in
theorem spec_IsFamily.calls (k:Nat) (a0:Int) (A1:Option Addr) (c1:Nat) (l1:List Int) (r:Bool) (w:World) (hr1:Kd.C (Kd.int .i64) w A1 l1.length l1) (hc1:l1.length≤c1) (h:spec_IsFamily.f k a0 l1=some r) :
    Calls Try.prog 62 #[.int .i64 a0,.slice A1 l1.length c1] w fun e w'=>e=.returned (.bool r)∧Drawn0 w w':=by
 have HR1:=Aside0.mk hr1
 have HC1:=Aside0.mk hc1
 clear hr1 hc1
 have H:(spec_IsFamily.l0 k a0 l1 0)=some r:=h
 clear h
 have H':=Aside0.mk H
 clear H
 go_enter Try.func62,Try.ntmps62
 go_wp2
 repeat (go_quiet (fail);try go_wp2)
 go_loopg [5] k (fun kq v5 w'=>∃ (x5_1:Int),v5=.int .i64 x5_1∧Aside0 (spec_IsFamily.l0 kq a0 l1 x5_1=some r)∧Aside0 (kq≤k)∧Drawn0 w w')
 case atStart=>exact ⟨(0),sT_,H',⟨Nat.le_refl _⟩,dT_⟩
 case round =>
 clear H'
 try clear c1
 try clear p2
 obtain ⟨x5_1,rfl,HA,HK1,⟨m1,rfl⟩⟩:=hrel
 cases gk with
 | zero=>exact absurd HA.out (by simp [spec_IsFamily.l0])
 | succ k1 =>
 have H:=HA.out
 clear HA
 simp only [spec_IsFamily.l0] at H
 rcases gsn_ H with ⟨c3b0,H⟩|⟨c3b0,H⟩
 ·replace H:=bnd_ H;obtain ⟨t225,A12,H⟩:=H
  obtain rfl:=Option.some.inj H
  go_wp2_with (first|(go_at_call 49;(with_reducible refine (spec_l1In.calls a0 0 8 t225 _ A12.out).mono ?_);rintro e w' ⟨rfl,⟨nd,rfl⟩⟩;(try first|exact ⟨rfl,_,World.drewN_drewN _ _ _⟩|exact ⟨rfl,_,Eq.trans (World.drewN_drewN _ _ _) (congrArg (World.drewN _) (Nat.add_assoc _ _ _))⟩)))
  repeat (go_quiet (first|(go_at_call 49;(with_reducible refine (spec_l1In.calls a0 0 8 t225 _ A12.out).mono ?_);rintro e w' ⟨rfl,⟨nd,rfl⟩⟩;(try first|exact ⟨rfl,_,World.drewN_drewN _ _ _⟩|exact ⟨rfl,_,Eq.trans (World.drewN_drewN _ _ _) (congrArg (World.drewN _) (Nat.add_assoc _ _ _))⟩)));try go_wp2_with (first|(go_at_call 49;(with_reducible refine (spec_l1In.calls a0 0 8 t225 _ A12.out).mono ?_);rintro e w' ⟨rfl,⟨nd,rfl⟩⟩;(try first|exact ⟨rfl,_,World.drewN_drewN _ _ _⟩|exact ⟨rfl,_,Eq.trans (World.drewN_drewN _ _ _) (congrArg (World.drewN _) (Nat.add_assoc _ _ _))⟩))))
  go_ret
  exact ⟨sT_,dT_⟩
 replace H:=gsm_ H;obtain ⟨c4b0,H⟩:=H
 replace H:=bnd_ H;obtain ⟨t222,A5,H⟩:=H
 by_cases c6:t222=true
 rotate_left
 ·replace c6:=Bool.eq_false_iff.mpr c6
  subst c6
  replace H:=bF_ H
  obtain rfl:=Option.some.inj H
  obtain ⟨ad221,e221,hx221_0,p221,q221⟩:=aiI_ HR1.out x5_1
  cases e221
  go_wp2_with (first|(go_at_call 41;(with_reducible refine (spec_IsSet.calls a0 (rd l1 x5_1) false _ A5.out).mono ?_);rintro e w' ⟨rfl,⟨nd,rfl⟩⟩;(try first|exact ⟨rfl,_,World.drewN_drewN _ _ _⟩|exact ⟨rfl,_,Eq.trans (World.drewN_drewN _ _ _) (congrArg (World.drewN _) (Nat.add_assoc _ _ _))⟩)))
  repeat (go_quiet (first|(go_at_call 41;(with_reducible refine (spec_IsSet.calls a0 (rd l1 x5_1) false _ A5.out).mono ?_);rintro e w' ⟨rfl,⟨nd,rfl⟩⟩;(try first|exact ⟨rfl,_,World.drewN_drewN _ _ _⟩|exact ⟨rfl,_,Eq.trans (World.drewN_drewN _ _ _) (congrArg (World.drewN _) (Nat.add_assoc _ _ _))⟩)));try go_wp2_with (first|(go_at_call 41;(with_reducible refine (spec_IsSet.calls a0 (rd l1 x5_1) false _ A5.out).mono ?_);rintro e w' ⟨rfl,⟨nd,rfl⟩⟩;(try first|exact ⟨rfl,_,World.drewN_drewN _ _ _⟩|exact ⟨rfl,_,Eq.trans (World.drewN_drewN _ _ _) (congrArg (World.drewN _) (Nat.add_assoc _ _ _))⟩))))
  go_ret
  exact ⟨sT_,dT_⟩
 subst c6
 replace H:=bT_ H
 by_cases c7:x5_1>0
 rotate_left
 ·rw [if_neg c7] at H
  have c7b0:decide (0<x5_1)=false:=decide_eq_false c7
  clear c7
  have H':=Aside0.mk H
  clear H
  obtain ⟨ad221,e221,hx221_0,p221,q221⟩:=aiI_ HR1.out x5_1
  cases e221
  go_wp2_with (first|(go_at_call 41;(with_reducible refine (spec_IsSet.calls a0 (rd l1 x5_1) true _ A5.out).mono ?_);rintro e w' ⟨rfl,⟨nd,rfl⟩⟩;(try first|exact ⟨rfl,_,World.drewN_drewN _ _ _⟩|exact ⟨rfl,_,Eq.trans (World.drewN_drewN _ _ _) (congrArg (World.drewN _) (Nat.add_assoc _ _ _))⟩)))
  repeat (go_quiet (first|(go_at_call 41;(with_reducible refine (spec_IsSet.calls a0 (rd l1 x5_1) true _ A5.out).mono ?_);rintro e w' ⟨rfl,⟨nd,rfl⟩⟩;(try first|exact ⟨rfl,_,World.drewN_drewN _ _ _⟩|exact ⟨rfl,_,Eq.trans (World.drewN_drewN _ _ _) (congrArg (World.drewN _) (Nat.add_assoc _ _ _))⟩)));try go_wp2_with (first|(go_at_call 41;(with_reducible refine (spec_IsSet.calls a0 (rd l1 x5_1) true _ A5.out).mono ?_);rintro e w' ⟨rfl,⟨nd,rfl⟩⟩;(try first|exact ⟨rfl,_,World.drewN_drewN _ _ _⟩|exact ⟨rfl,_,Eq.trans (World.drewN_drewN _ _ _) (congrArg (World.drewN _) (Nat.add_assoc _ _ _))⟩))))
  go_roundg k1
  case measure=>have:=HK1.out;omega
  case rel=>exact ⟨(wrap64 (x5_1+1)),sT_,H',⟨by have:=HK1.out;omega⟩,dT_⟩
 rw [if_pos c7] at H
 have c7b0:decide (0<x5_1)=true:=decide_eq_true c7
 clear c7
 obtain ⟨ji8,hji8⟩:∃ j_:Int,(wrap64 (x5_1-1))=j_:=⟨_,rfl⟩
 replace H:(if 0≤(ji8) then (if (ji8)<(l1.length:Int) then (if (rd l1 (ji8))≥(rd l1 x5_1) then (some false) else (spec_IsFamily.l0 k1 a0 l1 (wrap64 (x5_1+1)))) else (none)) else (none))=some r:=by first|(rw [hji8] at H;exact H)|(simp only [hji8] at H ⊢;exact H)
 (try rw [hji8] at A5)
 have hji8w:(IntKind.i64.wrap (x5_1-1))=ji8:=(i64_w _).trans hji8
 replace H:=gsm_ H;obtain ⟨c9b0,H⟩:=H
 replace H:=gsm_ H;obtain ⟨c10b0,H⟩:=H
 by_cases c11:(rd l1 (ji8))≥(rd l1 x5_1)
 ·rw [if_pos c11] at H
  have c11b0:decide ((rd l1 x5_1)≤(rd l1 (ji8)))=true:=decide_eq_true c11
  clear c11
  obtain rfl:=Option.some.inj H
  obtain ⟨ad221,e221,hx221_0,p221,q221⟩:=aiI_ HR1.out x5_1
  cases e221
  go_wp2_with (first|(go_at_call 41;(with_reducible refine (spec_IsSet.calls a0 (rd l1 x5_1) true _ A5.out).mono ?_);rintro e w' ⟨rfl,⟨nd,rfl⟩⟩;(try first|exact ⟨rfl,_,World.drewN_drewN _ _ _⟩|exact ⟨rfl,_,Eq.trans (World.drewN_drewN _ _ _) (congrArg (World.drewN _) (Nat.add_assoc _ _ _))⟩);obtain ⟨ad223,e223,hx223_0,p223,q223⟩:=aiI_ HR1.out (ji8);obtain rfl:ad221=ad223:=(by injection e223);obtain ⟨ad224,e224,hx224_0,p224,q224⟩:=aiI_ HR1.out x5_1;obtain rfl:ad221=ad224:=(by injection e224)))
  repeat (go_quiet (first|(go_at_call 41;(with_reducible refine (spec_IsSet.calls a0 (rd l1 x5_1) true _ A5.out).mono ?_);rintro e w' ⟨rfl,⟨nd,rfl⟩⟩;(try first|exact ⟨rfl,_,World.drewN_drewN _ _ _⟩|exact ⟨rfl,_,Eq.trans (World.drewN_drewN _ _ _) (congrArg (World.drewN _) (Nat.add_assoc _ _ _))⟩);obtain ⟨ad223,e223,hx223_0,p223,q223⟩:=aiI_ HR1.out (ji8);obtain rfl:ad221=ad223:=(by injection e223);obtain ⟨ad224,e224,hx224_0,p224,q224⟩:=aiI_ HR1.out x5_1;obtain rfl:ad221=ad224:=(by injection e224)));try go_wp2_with (first|(go_at_call 41;(with_reducible refine (spec_IsSet.calls a0 (rd l1 x5_1) true _ A5.out).mono ?_);rintro e w' ⟨rfl,⟨nd,rfl⟩⟩;(try first|exact ⟨rfl,_,World.drewN_drewN _ _ _⟩|exact ⟨rfl,_,Eq.trans (World.drewN_drewN _ _ _) (congrArg (World.drewN _) (Nat.add_assoc _ _ _))⟩);obtain ⟨ad223,e223,hx223_0,p223,q223⟩:=aiI_ HR1.out (ji8);obtain rfl:ad221=ad223:=(by injection e223);obtain ⟨ad224,e224,hx224_0,p224,q224⟩:=aiI_ HR1.out x5_1;obtain rfl:ad221=ad224:=(by injection e224))))
  go_ret
  exact ⟨by first|rfl|(simp;done)|(simp only [← hji8]<;>(first|rfl|simp))|(simp [*];done),dT_⟩
 rw [if_neg c11] at H
 have c11b0:decide ((rd l1 x5_1)≤(rd l1 (ji8)))=false:=decide_eq_false c11
 clear c11
 have H':=Aside0.mk H
 clear H
 obtain ⟨ad221,e221,hx221_0,p221,q221⟩:=aiI_ HR1.out x5_1
 cases e221
 go_wp2_with (first|(go_at_call 41;(with_reducible refine (spec_IsSet.calls a0 (rd l1 x5_1) true _ A5.out).mono ?_);rintro e w' ⟨rfl,⟨nd,rfl⟩⟩;(try first|exact ⟨rfl,_,World.drewN_drewN _ _ _⟩|exact ⟨rfl,_,Eq.trans (World.drewN_drewN _ _ _) (congrArg (World.drewN _) (Nat.add_assoc _ _ _))⟩);obtain ⟨ad223,e223,hx223_0,p223,q223⟩:=aiI_ HR1.out (ji8);obtain rfl:ad221=ad223:=(by injection e223);obtain ⟨ad224,e224,hx224_0,p224,q224⟩:=aiI_ HR1.out x5_1;obtain rfl:ad221=ad224:=(by injection e224)))
 repeat (go_quiet (first|(go_at_call 41;(with_reducible refine (spec_IsSet.calls a0 (rd l1 x5_1) true _ A5.out).mono ?_);rintro e w' ⟨rfl,⟨nd,rfl⟩⟩;(try first|exact ⟨rfl,_,World.drewN_drewN _ _ _⟩|exact ⟨rfl,_,Eq.trans (World.drewN_drewN _ _ _) (congrArg (World.drewN _) (Nat.add_assoc _ _ _))⟩);obtain ⟨ad223,e223,hx223_0,p223,q223⟩:=aiI_ HR1.out (ji8);obtain rfl:ad221=ad223:=(by injection e223);obtain ⟨ad224,e224,hx224_0,p224,q224⟩:=aiI_ HR1.out x5_1;obtain rfl:ad221=ad224:=(by injection e224)));try go_wp2_with (first|(go_at_call 41;(with_reducible refine (spec_IsSet.calls a0 (rd l1 x5_1) true _ A5.out).mono ?_);rintro e w' ⟨rfl,⟨nd,rfl⟩⟩;(try first|exact ⟨rfl,_,World.drewN_drewN _ _ _⟩|exact ⟨rfl,_,Eq.trans (World.drewN_drewN _ _ _) (congrArg (World.drewN _) (Nat.add_assoc _ _ _))⟩);obtain ⟨ad223,e223,hx223_0,p223,q223⟩:=aiI_ HR1.out (ji8);obtain rfl:ad221=ad223:=(by injection e223);obtain ⟨ad224,e224,hx224_0,p224,q224⟩:=aiI_ HR1.out x5_1;obtain rfl:ad221=ad224:=(by injection e224))))
 go_roundg k1
 case measure=>have:=HK1.out;omega
 case rel=>exact ⟨(wrap64 (x5_1+1)),sT_,H',⟨by have:=HK1.out;omega⟩,dT_⟩
/-! ### spec_WithElement: function 95 -/
def spec_WithElement.f (a0:Int) (a1:Int):Option (Int):=(spec_IsSet.f 8 a0).bind fun t226=>(if t226=true then ((spec_l1In.f a1 0 7).bind fun t227=>(if t227=true then (if 0≤(IntKind.u64.wrap (a1)) then (some (Go.bits .or .i64 a0 (shl .i64 1 (IntKind.u64.wrap (a1))))) else (none)) else (some a0))) else (some a0))
set_option maxHeartbeats 8000000 in
set_option maxRecDepth 100000 in
theorem spec_WithElement.calls (a0:Int) (a1:Int) (r:Int) (w:World) (h:spec_WithElement.f a0 a1=some r) :
    Calls Try.prog 95 #[.int .i64 a0,.int .i64 a1] w fun e w'=>e=.returned (.int .i64 r)∧Drawn0 w w':=by
 unfold spec_WithElement.f at h
 have H:=h
 clear h
 replace H:=bnd_ H;obtain ⟨t226,A3,H⟩:=H
 by_cases c4:t226=true
 rotate_left
 ·replace c4:=Bool.eq_false_iff.mpr c4
  subst c4
  replace H:=bF_ H
  obtain rfl:=Option.some.inj H
  go_enter Try.func95,Try.ntmps95
  go_wp2_with (first|((with_reducible refine gate_callee (f:=41) rfl ?_);refine goesL_ (some 6) rfl rfl Try.func41 krT_ rfl #[.int .i64 8,.int .i64 a0] rfl agT_ ?_;(with_reducible refine (spec_IsSet.calls 8 a0 false _ A3.out).mono ?_);rintro e w' ⟨rfl,⟨nd,rfl⟩⟩;refine ⟨_,rfl,?_⟩))
  go_ret
  exact ⟨sT_,dT_⟩
 subst c4
 replace H:=bT_ H
 replace H:=bnd_ H;obtain ⟨t227,A5,H⟩:=H
 by_cases c6:t227=true
 rotate_left
 ·replace c6:=Bool.eq_false_iff.mpr c6
  subst c6
  replace H:=bF_ H
  obtain rfl:=Option.some.inj H
  go_enter Try.func95,Try.ntmps95
  go_wp2_with (first|((with_reducible refine gate_callee (f:=41) rfl ?_);refine goesL_ (some 6) rfl rfl Try.func41 krT_ rfl #[.int .i64 8,.int .i64 a0] rfl agT_ ?_;(with_reducible refine (spec_IsSet.calls 8 a0 true _ A3.out).mono ?_);rintro e w' ⟨rfl,⟨nd,rfl⟩⟩;refine ⟨_,rfl,?_⟩)|(go_at_call 49;(with_reducible refine (spec_l1In.calls a1 0 7 false _ A5.out).mono ?_);rintro e w' ⟨rfl,⟨nd,rfl⟩⟩))
  go_ret
  exact ⟨sT_,dT_⟩
 subst c6
 replace H:=bT_ H
 obtain ⟨ji7,hji7⟩:∃ j_:Int,(IntKind.u64.wrap (a1))=j_:=⟨_,rfl⟩
 replace H:(if 0≤(ji7) then (some (Go.bits .or .i64 a0 (shl .i64 1 (ji7)))) else (none))=some r:=by first|(rw [hji7] at H;exact H)|(simp only [hji7] at H ⊢;exact H)
 (try rw [hji7] at A3)
 (try rw [hji7] at A5)
 by_cases c8:0≤(ji7)
 rotate_left
 ·rw [if_neg c8] at H
  exact absurd H (by simp)
 rw [if_pos c8] at H
 have c8b0:=eq_true c8
 have c8b1:decide (0≤(ji7))=true:=decide_eq_true c8
 clear c8
 obtain ⟨ji9,hji9⟩:∃ j_:Int,(shl .i64 1 (ji7))=j_:=⟨_,rfl⟩
 replace H:(some (Go.bits .or .i64 a0 (ji9)))=some r:=by first|(rw [hji9] at H;exact H)|(simp only [hji9] at H ⊢;exact H)
 (try rw [hji9] at A3)
 (try rw [hji9] at A5)
 have hji9_:(IntKind.i64.wrap (1*2 ^ min (ji7).toNat 64))=ji9:=hji9
 have hji9z:(ji7)≤64→(IntKind.i64.wrap (1*2 ^ (ji7).toNat))=ji9:=shl_small hji9
 have hji9u:(IntKind.i64.wrap (2 ^ min (ji7).toNat 64))=ji9:=by have h_:=hji9_;rw [Int.one_mul] at h_;exact h_
 have hji9v:(ji7)≤64→(IntKind.i64.wrap (2 ^ (ji7).toNat))=ji9:=fun hle_=>by have h_:=hji9z hle_;rw [Int.one_mul] at h_;exact h_
 have hji9y:(wrap64 (1*2 ^ min (ji7).toNat 64))=ji9:=(i64_w _).symm.trans hji9_
 have hji9x:(ji7)≤64→(wrap64 (1*2 ^ (ji7).toNat))=ji9:=fun h_=>(i64_w _).symm.trans (hji9z h_)
 obtain rfl:=Option.some.inj H
 go_enter Try.func95,Try.ntmps95
 go_wp2_with (first|((with_reducible refine gate_callee (f:=41) rfl ?_);refine goesL_ (some 6) rfl rfl Try.func41 krT_ rfl #[.int .i64 8,.int .i64 a0] rfl agT_ ?_;(with_reducible refine (spec_IsSet.calls 8 a0 true _ A3.out).mono ?_);rintro e w' ⟨rfl,⟨nd,rfl⟩⟩;refine ⟨_,rfl,?_⟩)|(go_at_call 49;(with_reducible refine (spec_l1In.calls a1 0 7 true _ A5.out).mono ?_);rintro e w' ⟨rfl,⟨nd,rfl⟩⟩))
 go_ret
 exact ⟨by first|rfl|(simp;done)|(simp only [← hji7,← hji9]<;>(first|rfl|simp))|(simp [*];done),dT_⟩
/-! ### spec_l2Has: function 72 -/
def spec_l2Has.f (a0:Int) (a1:Int):Option (Bool):=if 0≤(IntKind.u64.wrap (a1)) then (some ((Go.bits .and .i64 (shr .i64 a0 (IntKind.u64.wrap (a1))) 1)==1)) else (none)
set_option maxHeartbeats 8000000 in
set_option maxRecDepth 100000 in
theorem spec_l2Has.calls (a0:Int) (a1:Int) (r:Bool) (w:World) (h:spec_l2Has.f a0 a1=some r) :
    Calls Try.prog 72 #[.int .i64 a0,.int .i64 a1] w fun e w'=>e=.returned (.bool r)∧Drawn0 w w':=by
 unfold spec_l2Has.f at h
 have H:=h
 clear h
 obtain ⟨ji3,hji3⟩:∃ j_:Int,(IntKind.u64.wrap (a1))=j_:=⟨_,rfl⟩
 replace H:(if 0≤(ji3) then (some ((Go.bits .and .i64 (shr .i64 a0 (ji3)) 1)==1)) else (none))=some r:=by first|(rw [hji3] at H;exact H)|(simp only [hji3] at H ⊢;exact H)
 by_cases c4:0≤(ji3)
 ·rw [if_pos c4] at H
  have c4b0:=eq_true c4
  have c4b1:decide (0≤(ji3))=true:=decide_eq_true c4
  clear c4
  obtain ⟨ji5,hji5⟩:∃ j_:Int,(shr .i64 a0 (ji3))=j_:=⟨_,rfl⟩
  replace H:(some ((Go.bits .and .i64 (ji5) 1)==1))=some r:=by first|(rw [hji5] at H;exact H)|(simp only [hji5] at H ⊢;exact H)
  have hji5_:(a0 / 2 ^ min (ji3).toNat 64)=ji5:=hji5
  have hji5z:(ji3)≤64→(a0 / 2 ^ (ji3).toNat)=ji5:=shr_small hji5
  obtain rfl:=Option.some.inj H
  go_enter Try.func72,Try.ntmps72
  go_wp2
  go_ret
  exact ⟨by first|rfl|(simp;done)|(simp only [← hji3,← hji5]<;>(first|rfl|simp))|(simp [*];done),dT_⟩
 ·rw [if_neg c4] at H
  exact absurd H (by simp)
/-! ### spec_HasElement: function 100 -/
def spec_HasElement.f (a0:Int) (a1:Int):Option (Bool):=(spec_IsSet.f 8 a0).bind fun t228=>(if t228=true then ((spec_l1In.f a1 0 7).bind fun t229=>(if t229=true then ((spec_l2Has.f a0 a1).bind fun t230=>(some t230)) else (some false))) else (some false))
set_option maxHeartbeats 8000000 in
set_option maxRecDepth 100000 in
theorem spec_HasElement.calls (a0:Int) (a1:Int) (r:Bool) (w:World) (h:spec_HasElement.f a0 a1=some r) :
    Calls Try.prog 100 #[.int .i64 a0,.int .i64 a1] w fun e w'=>e=.returned (.bool r)∧Drawn0 w w':=by
 unfold spec_HasElement.f at h
 have H:=h
 clear h
 replace H:=bnd_ H;obtain ⟨t228,A3,H⟩:=H
 by_cases c4:t228=true
 ·subst c4
  replace H:=bT_ H
  replace H:=bnd_ H;obtain ⟨t229,A5,H⟩:=H
  by_cases c6:t229=true
  ·subst c6
   replace H:=bT_ H
   replace H:=bnd_ H;obtain ⟨t230,A7,H⟩:=H
   obtain rfl:=Option.some.inj H
   go_enter Try.func100,Try.ntmps100
   go_wp2_with (first|((with_reducible refine gate_callee (f:=41) rfl ?_);refine goesL_ (some 6) rfl rfl Try.func41 krT_ rfl #[.int .i64 8,.int .i64 a0] rfl agT_ ?_;(with_reducible refine (spec_IsSet.calls 8 a0 true _ A3.out).mono ?_);rintro e w' ⟨rfl,⟨nd,rfl⟩⟩;refine ⟨_,rfl,?_⟩)|(go_at_call 49;(with_reducible refine (spec_l1In.calls a1 0 7 true _ A5.out).mono ?_);rintro e w' ⟨rfl,⟨nd,rfl⟩⟩)|(go_at_call 72;(with_reducible refine (spec_l2Has.calls a0 a1 t230 _ A7.out).mono ?_);rintro e w' ⟨rfl,⟨nd,rfl⟩⟩))
   go_ret
   exact ⟨sT_,dT_⟩
  ·replace c6:=Bool.eq_false_iff.mpr c6
   subst c6
   replace H:=bF_ H
   obtain rfl:=Option.some.inj H
   go_enter Try.func100,Try.ntmps100
   go_wp2_with (first|((with_reducible refine gate_callee (f:=41) rfl ?_);refine goesL_ (some 6) rfl rfl Try.func41 krT_ rfl #[.int .i64 8,.int .i64 a0] rfl agT_ ?_;(with_reducible refine (spec_IsSet.calls 8 a0 true _ A3.out).mono ?_);rintro e w' ⟨rfl,⟨nd,rfl⟩⟩;refine ⟨_,rfl,?_⟩)|(go_at_call 49;(with_reducible refine (spec_l1In.calls a1 0 7 false _ A5.out).mono ?_);rintro e w' ⟨rfl,⟨nd,rfl⟩⟩))
   go_ret
   exact ⟨sT_,dT_⟩
 ·replace c4:=Bool.eq_false_iff.mpr c4
  subst c4
  replace H:=bF_ H
  obtain rfl:=Option.some.inj H
  go_enter Try.func100,Try.ntmps100
  go_wp2_with (first|((with_reducible refine gate_callee (f:=41) rfl ?_);refine goesL_ (some 6) rfl rfl Try.func41 krT_ rfl #[.int .i64 8,.int .i64 a0] rfl agT_ ?_;(with_reducible refine (spec_IsSet.calls 8 a0 false _ A3.out).mono ?_);rintro e w' ⟨rfl,⟨nd,rfl⟩⟩;refine ⟨_,rfl,?_⟩))
  go_ret
  exact ⟨sT_,dT_⟩
end Go.Proofs.Ytekegbacnagbcaa.P
