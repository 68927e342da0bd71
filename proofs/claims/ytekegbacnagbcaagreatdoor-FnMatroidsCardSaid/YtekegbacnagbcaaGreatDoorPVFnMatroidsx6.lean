-- written by gprint (a program of this session's, round the kit's print), out of the translation and hand-written texts
import Derived.Test.YtekegbacnagbcaaGreatDoorPVFnMatroidsx0
import Derived.Test.YtekegbacnagbcaaGreatDoorPVFnMatroidsx3
import Derived.Test.YtekegbacnagbcaaGreatDoorPVFnMatroidsx4
import Derived.Test.YtekegbacnagbcaaGreatDoorPVFnMatroidsx5
namespace Go.Proofs.YtekegbacnagbcaaGreatDoor.P
open Go.RowKit Go.Proofs.YtekegbacnagbcaaGreatDoorW.PrintWords Go.Proofs.YtekegbacnagbcaaGreatDoorW.PrintLast Go.Proofs.YtekegbacnagbcaaGreatDoorW.PrintMore
attribute [local go_sem] max2_int min2_int max_two min_two max_three min_three max_four min_four   -- for this text's walks alone
set_option linter.unusedVariables false
set_option linter.unusedSimpArgs false
/-! ### spec_MatroidText: function 53 -/
def spec_MatroidText.f (k:Nat) (a0_0:Int) (l0_1:List Int):Option (ByteArray):=(spec_IsMatroid.f k a0_0 l0_1).bind fun t213=>(if t213=true then ((spec_FormatInt.f k a0_0).bind fun t214=>(if t214.size+1≤9223372036854775807 then ((spec_FamilyText.f k l0_1).bind fun t215=>(if (t214++(⟨#[32]⟩:ByteArray)).size+t215.size≤9223372036854775807 then (some ((t214++(⟨#[32]⟩:ByteArray))++t215)) else (none))) else (none))) else (some (⟨#[]⟩:ByteArray)))
def spec_MatroidText.T3:Bool × List (List Nat × List Nat):=(true,[([],[]),([0],[0]),([1],[1]),([2],[2]),([],[]),([4],[4]),([5,2],[5]),([3,6],[3,6]),([7,6,0,1,2,3,4,5,6,7],[7])])
def spec_MatroidText.B3:List Nat:=[0,1,3,7,0,16,55,127,255]
theorem spec_MatroidText.tab3:rtab .any (opsOf Tryz.f53 3)=spec_MatroidText.T3:=by kernel_rfl
theorem spec_MatroidText.bits3:waitsOk spec_MatroidText.T3.2 spec_MatroidText.B3=true:=by kernel_rfl
set_option maxHeartbeats 8000000 in
set_option maxRecDepth 100000 in
theorem spec_MatroidText.calls (k:Nat) (a0_0:Int) (A0_1:Option Addr) (c0_1:Nat) (l0_1:List Int) (r:ByteArray) (w:World) (hr0_1:Kd.C (Kd.int .i64) w A0_1 l0_1.length l0_1) (hc0_1:l0_1.length≤c0_1) (h:spec_MatroidText.f k a0_0 l0_1=some r) :
    Calls Tryz.prog 53 #[.agg #[.int .i64 a0_0,.slice A0_1 l0_1.length c0_1]] w fun e w'=>e=.returned (.string r)∧Below w.heap.size w w':=by
 have hu24:=Tryz.underlying24
 have HR0_1:=Aside0.mk hr0_1
 have HC0_1:=Aside0.mk hc0_1
 clear hr0_1 hc0_1
 have HB:=Aside0.mk (Below.refl w.heap.size w)
 unfold spec_MatroidText.f at h
 have H:=h
 clear h
 replace H:=bnd_ H;obtain ⟨t213,A2,H⟩:=H
 by_cases c3:t213=true
 rotate_left
 ·replace c3:=Bool.eq_false_iff.mpr c3
  subst c3
  replace H:=bF_ H
  obtain rfl:=Option.some.inj H
  go_enter Tryz.func53,Tryz.ntmps53
  go_wp2_with (first|((with_reducible refine gate_dst (N:=1) rfl ?_);refine bx_ (N:=1) (cs:=#[.int .i64 a0_0,.slice A0_1 l0_1.length c0_1]) (t:=24) ?_;intro gb212 hg w14 hbox hb;have BK212:=Aside0.mk (hbox);have GW212:=Aside0.mk (gw_ hg (h_HB HB.out));have GE212:=Aside0.mk (gw_ hg (h_HB HB.out));replace HB:=Aside0.mk (below_step (h_HB HB.out) hb);clear hb hbox hg;obtain ⟨hcz15_0,hcz15_1,hfz15_0,hfz15_1⟩:=bz2_ BK212.out)|((with_reducible refine gate_callee (f:=45) rfl ?_);refine goesL_ (some 4) rfl rfl Tryz.func45 krT_ rfl #[.agg #[.int .i64 a0_0,.slice A0_1 l0_1.length c0_1]] rfl agT_ ?_;(with_reducible refine (spec_IsMatroid.calls k a0_0 _ _ l0_1 false _ ?side1 ?side2 A2.out).mono ?_);(case side1=>exact cC_ HR0_1.out);(case side2=>exact HC0_1.out);rintro e w16 ⟨rfl,hb⟩;refine ⟨_,rfl,?_⟩;replace BK212:=Aside0.mk (blkB_ BK212.out hb);replace HB:=Aside0.mk (below_step (h_HB HB.out) hb);(try clear hb)))
  go_ret
  exact ⟨eT_,h_HB HB.out⟩
 subst c3
 replace H:=bT_ H
 replace H:=bnd_ H;obtain ⟨t214,A4,H⟩:=H
 by_cases c5:t214.size+1≤9223372036854775807
 rotate_left
 ·rw [if_neg c5] at H
  exact absurd H (by simp)
 rw [if_pos c5] at H
 have c5b0:=eq_true c5
 have c5b1:decide (t214.size+1≤9223372036854775807)=true:=decide_eq_true c5
 try have c5b2:(9223372036854775807<t214.size+1)=False:=eq_false (Nat.not_lt.2 c5)
 replace H:=bnd_ H;obtain ⟨t215,A6,H⟩:=H
 by_cases c7:(t214++(⟨#[32]⟩:ByteArray)).size+t215.size≤9223372036854775807
 rotate_left
 ·rw [if_neg c7] at H
  exact absurd H (by simp)
 rw [if_pos c7] at H
 have c7b0:=eq_true c7
 have c7b1:decide ((t214++(⟨#[32]⟩:ByteArray)).size+t215.size≤9223372036854775807)=true:=decide_eq_true c7
 try have c7b2:(9223372036854775807<(t214++(⟨#[32]⟩:ByteArray)).size+t215.size)=False:=eq_false (Nat.not_lt.2 c7)
 try have c7b3:(9223372036854775807<t214.size+1+t215.size)=False:=eq_false (by have h_:=c7;simp only [ByteArray.size_append] at h_;have e_:(⟨#[32]⟩:ByteArray).size=1:=rfl;omega)
 obtain rfl:=Option.some.inj H
 go_enter Tryz.func53,Tryz.ntmps53
 try go_wp2_with (first|((with_reducible refine gate_dst (N:=1) rfl ?_);refine bx_ (N:=1) (cs:=#[.int .i64 a0_0,.slice A0_1 l0_1.length c0_1]) (t:=24) ?_;intro gb212 hg w8 hbox hb;have BK212:=Aside0.mk (hbox);have GW212:=Aside0.mk (gw_ hg (h_HB HB.out));have GE212:=Aside0.mk (gw_ hg (h_HB HB.out));replace HB:=Aside0.mk (below_step (h_HB HB.out) hb);clear hb hbox hg;obtain ⟨hcz9_0,hcz9_1,hfz9_0,hfz9_1⟩:=bz2_ BK212.out)|((with_reducible refine gate_callee (f:=45) rfl ?_);refine goesL_ (some 4) rfl rfl Tryz.func45 krT_ rfl #[.agg #[.int .i64 a0_0,.slice A0_1 l0_1.length c0_1]] rfl agT_ ?_;(with_reducible refine (spec_IsMatroid.calls k a0_0 _ _ l0_1 true _ ?side1 ?side2 A2.out).mono ?_);(case side1=>exact cC_ HR0_1.out);(case side2=>exact HC0_1.out);rintro e w10 ⟨rfl,hb⟩;refine ⟨_,rfl,?_⟩;replace BK212:=Aside0.mk (blkB_ BK212.out hb);replace HB:=Aside0.mk (below_step (h_HB HB.out) hb);(try clear hb)))
 replace BK212:=Aside0.mk (blk_drew BK212.out);replace HB:=Aside0.mk (below_drew1 HB.out)
 refine start_ (n:=9) (S:=fun w'=>w'.cell? ⟨gb212,0,none⟩=some (.int .i64 a0_0)∧w'.cell? ⟨gb212,1,none⟩=some (.slice A0_1 l0_1.length c0_1)) (ds:=[]) #[F_,F_,F_,F_,F_,F_,F_,F_,F_] krT_ rfl rfl ⟨(blk_cell BK212.out 0).trans rfl,(blk_cell BK212.out 1).trans rfl⟩ (fun hHeld=>?_);refine with_tabW spec_MatroidText.tab3 spec_MatroidText.bits3 (fun HT_ HW_=>?_)
 generalize w10.drew=w11 at BK212 HB hHeld ⊢
 refine pu_ 0 (some 6) (bm_ 9 1) rfl rfl HT_.out ?_
 refine pu_ 4 (some 10) (bm_ 9 17) rfl rfl HT_.out ?_
 refine take_ (i:=1) (N:=some 7) (v:=?_) (a':=?_) (bm_ 9 19) rfl rfl (take_ofW HT_.out HW_.out krT_) (fun _ _ _ h=>h) (Or.inl ⟨by rfl,?_⟩) hHeld ?_ ?_
 rotate_left
 ·rintro w' ⟨s0,s1⟩
  go_simp
  with_reducible rfl
 rotate_left;exact apT_
 refine take_ (i:=5) (N:=some 11) (v:=?_) (a':=?_) (bm_ 9 51) rfl rfl (take_ofW HT_.out HW_.out krT_) (fun _ _ _ h=>h) (Or.inl ⟨by rfl,?_⟩) hHeld ?_ ?_
 rotate_left
 ·rintro w' ⟨s0,s1⟩
  go_simp
  with_reducible rfl
 rotate_left;exact apT_
 refine one_ (i:=2) (N:=some 8) (bm_ 9 55) rfl rfl (one_of HT_.out krT_) (by decide) (fun K hK=>?_)
 refine goes_ Tryz.func109 krT_ rfl #[.int .i64 a0_0] (by rfl) rfl rfl agT_ ?_
 with_reducible refine (spec_FormatInt.calls k a0_0 t214 _ A4.out).mono ?_
 rintro e w12 ⟨rfl,hb⟩
 refine ⟨_,rfl,?_⟩
 replace BK212:=Aside0.mk (blkB_ BK212.out hb);replace HB:=Aside0.mk (below_step (h_HB HB.out) hb)
 (try clear hb)
 (try clear hb2)
 (try clear hk)
 (try clear hi)
 refine hK.out _ _ ⟨(blk_cell BK212.out 0).trans rfl,(blk_cell BK212.out 1).trans rfl⟩ (fun hHeld=>?_)
 clear hK K
 refine norm_ (a':=?_) ?_ ?_
 rotate_left
 ·show Act.put _ (some 8) _=_
  simp only [Act.put,List.setIfInBounds_toArray,List.set_cons_zero,List.set_cons_succ,i64_w,i32_w]
  rfl
 refine pu_ 3 (some 9) (bm_ 9 63) rfl rfl HT_.out ?_
 refine one_ (i:=6) (N:=some 12) (bm_ 9 127) rfl rfl (one_of HT_.out krT_) (by decide) (fun K hK=>?_)
 refine goes_ Tryz.func37 krT_ rfl #[.slice A0_1 l0_1.length c0_1] (by rfl) rfl rfl agT_ ?_
 with_reducible refine (spec_FamilyText.calls k _ _ l0_1 t215 _ ?side1 ?side2 A6.out).mono ?_
 (case side1=>exact cC_ HR0_1.out)
 (case side2=>exact HC0_1.out)
 rintro e w13 ⟨rfl,hb⟩
 refine ⟨_,rfl,?_⟩
 replace BK212:=Aside0.mk (blkB_ BK212.out hb);replace HB:=Aside0.mk (below_step (h_HB HB.out) hb)
 (try clear hb)
 (try clear hb2)
 (try clear hk)
 (try clear hi)
 refine hK.out _ _ ⟨(blk_cell BK212.out 0).trans rfl,(blk_cell BK212.out 1).trans rfl⟩ (fun hHeld=>?_)
 clear hK K
 refine norm_ (a':=?_) ?_ ?_
 rotate_left
 ·show Act.put _ (some 12) _=_
  simp only [Act.put,List.setIfInBounds_toArray,List.set_cons_zero,List.set_cons_succ,i64_w,i32_w]
  rfl
 refine pu_ 7 (some 13) (bm_ 9 255) rfl rfl HT_.out ?_
 refine pu_ 8 (some 2) (bm_ 9 511) rfl rfl HT_.out ?_
 refine done_ (done_of HT_.out krT_) ?_
 try go_wp2
 go_ret
 exact ⟨eT_,h_HB HB.out⟩
/-! ### spec_l1Read: function 110 -/
mutual
def spec_l1Read.j0:Nat→ByteArray→Int→Bool→Option (Int × Bool)
 | 0,_,_,_=>none
 | k+1,x0,x1,x6=>if x6=true then (if 1≤(x0.size:Int) then (spec_l1Read.j1 k x0 x1 x6 (x0.extract 1 x0.size)) else (none)) else (spec_l1Read.j1 k x0 x1 x6 x0)
def spec_l1Read.j1:Nat→ByteArray→Int→Bool→ByteArray→Option (Int × Bool)
 | 0,_,_,_,_=>none
 | k+1,x0,x1,x6,x7=>if (x7.size:Int)<1 then (spec_l1Read.j2 k x0 x6 x7 true) else (spec_l1Read.j2 k x0 x6 x7 (decide ((x7.size:Int)>x1)))
def spec_l1Read.j2:Nat→ByteArray→Bool→ByteArray→Bool→Option (Int × Bool)
 | 0,_,_,_,_=>none
 | k+1,x0,x6,x7,x30=>if x30=true then (some (0,false)) else (spec_l1Read.l0 k x0 x6 x7 0 0)
def spec_l1Read.l0:Nat→ByteArray→Bool→ByteArray→Int→Int→Option (Int × Bool)
 | 0,_,_,_,_,_=>none
 | k+1,x0,x6,x7,x8,x9=>if x9<(x7.size:Int) then (if 0≤x9 then (if (bt x7 x9)<48 then (some (0,false)) else (if (bt x7 x9)>57 then (some (0,false)) else (spec_l1Read.l0 k x0 x6 x7 (wrap64 ((wrap64 (10*x8))+(((bt x7 x9)-48) % 256))) (wrap64 (x9+1))))) else (none)) else (if x6=true then ((spec_FormatInt.f k (wrap64 (-x8))).bind fun t216=>(if t216.toList=x0.toList then (some (wrap64 (-x8),true)) else (some (0,false)))) else ((spec_FormatInt.f k x8).bind fun t217=>(if t217.toList=x0.toList then (some (x8,true)) else (some (0,false)))))
end
def spec_l1Read.f (k:Nat) (a0:ByteArray) (a1:Int):Option (Int × Bool):=if (a0.size:Int)>0 then (if 0<(a0.size:Int) then (spec_l1Read.j0 k a0 a1 ((bt a0 0)==45)) else (none)) else (spec_l1Read.j0 k a0 a1 false)
set_option maxHeartbeats 8000000 in
set_option maxRecDepth 100000 in
theorem spec_l1Read.calls (k:Nat) (a0:ByteArray) (a1:Int) (r1:Int) (r2:Bool) (w:World) (h:spec_l1Read.f k a0 a1=some (r1,r2)) :
    Calls Tryz.prog 110 #[.string a0,.int .i64 a1] w fun e w'=>e=.returned (.tuple #[.int .i64 r1,.bool r2])∧Below w.heap.size w w':=by
 have HB:=Aside0.mk (Below.refl w.heap.size w)
 unfold spec_l1Read.f at h
 have H:=h
 clear h
 have HC3:=Aside0.mk H
 clear H
 go_enter Tryz.func110,Tryz.ntmps110
 go_upto_region 1 with (fail)
 go_cut [6] (fun v6 wc=>∃ (kq:Nat) (x6_2:Bool),v6=.bool x6_2∧Aside0 (spec_l1Read.j0 kq a0 a1 x6_2=some (r1,r2))∧Aside0 (kq≤k)∧Aside0 (Below w.heap.size w wc))
 case first =>
  have H:=HC3.out
  clear HC3
  by_cases c4:(a0.size:Int)>0
  ·rw [if_pos c4] at H
   have c4b0:decide (0<(a0.size:Int))=true:=decide_eq_true c4
   have c4b1:decide (0<a0.size)=true:=decide_eq_true (by omega)
   clear c4
   (first|rw [c4b0]|(simp only [i64_w,i32_w];rw [c4b0])|skip)
   by_cases c5:0<(a0.size:Int)
   ·rw [if_pos c5] at H
    have c5b0:decide (0<(a0.size:Int))=true:=decide_eq_true c5
    have c5b1:decide (0<a0.size)=true:=decide_eq_true (by omega)
    clear c5
    have H':=Aside0.mk H
    clear H
    have p6:0≤(0:Int):=(by omega)
    have q6:0<a0.size:=(by have:(0:Int)<(a0.size:Int):=odT_;omega)
    have hx6:∀ h:0<a0.size,((a0[0]'h).toNat:Int)=bt a0 0:=bt_at a0 0
    clear p6
    have qi6:(0<(a0.size:Int))=True:=eq_true (odT_)
    replace q6:=eq_true q6
    go_wp2
    go_meet
    case rel=>exact ⟨_,(((bt a0 0)==45)),sT_,H',⟨by first|omega|exact Nat.le_refl _⟩,⟨h_HB HB.out⟩⟩
   ·rw [if_neg c5] at H
    exact absurd H (by simp)
  ·rw [if_neg c4] at H
   have c4b0:decide (0<(a0.size:Int))=false:=decide_eq_false c4
   have c4b1:decide (0<a0.size)=false:=decide_eq_false (by omega)
   clear c4
   (first|rw [c4b0]|(simp only [i64_w,i32_w];rw [c4b0])|skip)
   have H':=Aside0.mk H
   clear H
   go_wp2
   go_meet
   case rel=>exact ⟨_,(false),sT_,H',⟨by first|omega|exact Nat.le_refl _⟩,⟨h_HB HB.out⟩⟩
 case rest =>
 clear HC3
 try clear c1
 try clear p2
 try clear c4
 try clear c4b0
 try clear c4b1
 try clear c5
 try clear c5b0
 try clear c5b1
 try clear p6
 try clear q6
 try clear hx6
 try clear qi6
 try clear p6
 try clear q6
 obtain ⟨kq,x6_2,rfl,HA,HJ2,HB⟩:=hcut
 cases kq with
 | zero=>exact absurd HA.out (by simp [spec_l1Read.j0])
 | succ kj2 =>
 have H:=HA.out
 clear HA
 simp only [spec_l1Read.j0] at H
 have HC7:=Aside0.mk H
 clear H
 go_upto_if 19 with (fail)
 go_cut [7] (fun v7 wc=>∃ (kq:Nat) (x7_6:ByteArray),v7=.string x7_6∧Aside0 (spec_l1Read.j1 kq a0 a1 x6_2 x7_6=some (r1,r2))∧Aside0 (kq≤kj2)∧Aside0 (Below w.heap.size w wc))
 case first =>
  have H:=HC7.out
  clear HC7
  by_cases c8:x6_2=true
  ·subst c8
   replace H:=bT_ H
   by_cases c9:1≤(a0.size:Int)
   ·rw [if_pos c9] at H
    have c9b0:=eq_true c9
    have c9b1:decide (1≤(a0.size:Int))=true:=decide_eq_true c9
    clear c9
    have H':=Aside0.mk H
    clear H
    go_wp2
    go_meet
    case rel=>exact ⟨_,(a0.extract 1 a0.size),sT_,H',⟨by have:=HJ2.out;first|omega|exact Nat.le_refl _⟩,⟨h_HB HB.out⟩⟩
   ·rw [if_neg c9] at H
    exact absurd H (by simp)
  ·replace c8:=Bool.eq_false_iff.mpr c8
   subst c8
   replace H:=bF_ H
   have H':=Aside0.mk H
   clear H
   go_wp2
   go_meet
   case rel=>exact ⟨_,(a0),sT_,H',⟨by have:=HJ2.out;first|omega|exact Nat.le_refl _⟩,⟨h_HB HB.out⟩⟩
 case rest =>
 clear HC7
 try clear c1
 try clear p2
 try clear c4
 try clear c4b0
 try clear c4b1
 try clear c5
 try clear c5b0
 try clear c5b1
 try clear p6
 try clear q6
 try clear hx6
 try clear qi6
 try clear c8
 try clear c9
 try clear c9b0
 try clear c9b1
 try clear p2
 try clear p6
 try clear q6
 obtain ⟨kq,x7_6,rfl,HA,HJ6,HB⟩:=hcut
 cases kq with
 | zero=>exact absurd HA.out (by simp [spec_l1Read.j1])
 | succ kj6 =>
 have H:=HA.out
 clear HA
 simp only [spec_l1Read.j1] at H
 have HC10:=Aside0.mk H
 clear H
 go_upto_region 5 with (fail)
 go_cut [30] (fun v30 wc=>∃ (kq:Nat) (x30_9:Bool),v30=.bool x30_9∧Aside0 (spec_l1Read.j2 kq a0 x6_2 x7_6 x30_9=some (r1,r2))∧Aside0 (kq≤kj6)∧Aside0 (Below w.heap.size w wc))
 case first =>
  have H:=HC10.out
  clear HC10
  by_cases c11:(x7_6.size:Int)<1
  ·rw [if_pos c11] at H
   have c11b0:decide ((x7_6.size:Int)<1)=true:=decide_eq_true c11
   have c11b1:decide (x7_6.size<1)=true:=decide_eq_true (by omega)
   clear c11
   (first|rw [c11b0]|(simp only [i64_w,i32_w];rw [c11b0])|skip)
   have H':=Aside0.mk H
   clear H
   go_wp2
   go_meet
   case rel=>exact ⟨_,(true),sT_,H',⟨by have:=HJ2.out;have:=HJ6.out;first|omega|exact Nat.le_refl _⟩,⟨h_HB HB.out⟩⟩
  rw [if_neg c11] at H
  have c11b0:decide ((x7_6.size:Int)<1)=false:=decide_eq_false c11
  have c11b1:decide (x7_6.size<1)=false:=decide_eq_false (by omega)
  clear c11
  (first|rw [c11b0]|(simp only [i64_w,i32_w];rw [c11b0])|skip)
  have H':=Aside0.mk H
  clear H
  go_wp2
  go_meet
  case rel=>exact ⟨_,(decide ((x7_6.size:Int)>a1)),sT_,H',⟨by have:=HJ2.out;have:=HJ6.out;first|omega|exact Nat.le_refl _⟩,⟨h_HB HB.out⟩⟩
 case rest =>
 clear HC10
 try clear c1
 try clear p2
 try clear c4
 try clear c4b0
 try clear c4b1
 try clear c5
 try clear c5b0
 try clear c5b1
 try clear p6
 try clear q6
 try clear hx6
 try clear qi6
 try clear c8
 try clear c9
 try clear c9b0
 try clear c9b1
 try clear c11
 try clear c11b0
 try clear c11b1
 try clear p2
 try clear p6
 try clear q6
 obtain ⟨kq,x30_9,rfl,HA,HJ9,HB⟩:=hcut
 cases kq with
 | zero=>exact absurd HA.out (by simp [spec_l1Read.j2])
 | succ kj9 =>
 have H:=HA.out
 clear HA
 simp only [spec_l1Read.j2] at H
 by_cases c12:x30_9=true
 ·subst c12
  replace H:=bT_ H
  simp only [Option.some.injEq,Prod.mk.injEq] at H
  obtain ⟨rfl,rfl⟩:=H
  go_wp2
  go_ret2
  exact ⟨eT_,h_HB HB.out⟩
 replace c12:=Bool.eq_false_iff.mpr c12
 subst c12
 replace H:=bF_ H
 have H':=Aside0.mk H
 clear H
 go_wp2
 go_loopg [8,9] kj9 (fun kq v8 v9 w'=>∃ (x8_4:Int) (x9_4:Int),v8=.int .i64 x8_4∧v9=.int .i64 x9_4∧Aside0 (spec_l1Read.l0 kq a0 x6_2 x7_6 x8_4 x9_4=some (r1,r2))∧Aside0 (kq≤kj9)∧Aside0 (Below w.heap.size w w'))
 case atStart=>exact ⟨(0),(0),sT_,sT_,H',⟨Nat.le_refl _⟩,⟨h_HB HB.out⟩⟩
 case round =>
 clear H'
 try clear c1
 try clear p2
 try clear c4
 try clear c4b0
 try clear c4b1
 try clear c5
 try clear c5b0
 try clear c5b1
 try clear p6
 try clear q6
 try clear hx6
 try clear qi6
 try clear c8
 try clear c9
 try clear c9b0
 try clear c9b1
 try clear c11
 try clear c11b0
 try clear c11b1
 try clear c12
 try clear p2
 try clear p6
 try clear q6
 obtain ⟨x8_4,x9_4,rfl,rfl,HA,HK4,HB⟩:=hrel
 cases gk with
 | zero=>exact absurd HA.out (by simp [spec_l1Read.l0])
 | succ k4 =>
 have H:=HA.out
 clear HA
 simp only [spec_l1Read.l0] at H
 rcases gsn_ H with ⟨c13b0,H⟩|⟨c13b0,H⟩
 ·by_cases c20:x6_2=true
  ·subst c20
   replace H:=bT_ H
   replace H:=bnd_ H;obtain ⟨t216,A21,H⟩:=H
   by_cases c22:t216.toList=a0.toList
   ·rw [if_pos c22] at H
    have c22b0:(t216.toList==a0.toList)=true:=beq_iff_eq.mpr c22
    have c22b1:(t216.toList != a0.toList)=false:=bne_eq_false_iff_eq.mpr c22
    clear c22
    simp only [Option.some.injEq,Prod.mk.injEq] at H
    obtain ⟨rfl,rfl⟩:=H
    go_wp2_with (first|((with_reducible refine gate_callee (f:=109) rfl ?_);refine goesL_ (some 59) rfl rfl Tryz.func109 krT_ rfl #[.int .i64 (wrap64 (-x8_4))] rfl agT_ ?_;(with_reducible refine (spec_FormatInt.calls k4 (wrap64 (-x8_4)) t216 _ A21.out).mono ?_);rintro e w23 ⟨rfl,hb⟩;refine ⟨_,rfl,?_⟩;replace HB:=Aside0.mk (below_step (h_HB HB.out) hb);(try clear hb)))
    go_ret2
    exact ⟨eT_,h_HB HB.out⟩
   ·rw [if_neg c22] at H
    have c22b0:(t216.toList==a0.toList)=false:=beq_eq_false_iff_ne.mpr c22
    have c22b1:(t216.toList != a0.toList)=true:=bne_iff_ne.mpr c22
    simp only [Option.some.injEq,Prod.mk.injEq] at H
    obtain ⟨rfl,rfl⟩:=H
    go_wp2_with (first|((with_reducible refine gate_callee (f:=109) rfl ?_);refine goesL_ (some 59) rfl rfl Tryz.func109 krT_ rfl #[.int .i64 (wrap64 (-x8_4))] rfl agT_ ?_;(with_reducible refine (spec_FormatInt.calls k4 (wrap64 (-x8_4)) t216 _ A21.out).mono ?_);rintro e w24 ⟨rfl,hb⟩;refine ⟨_,rfl,?_⟩;replace HB:=Aside0.mk (below_step (h_HB HB.out) hb);(try clear hb)))
    go_ret2
    exact ⟨eT_,h_HB HB.out⟩
  replace c20:=Bool.eq_false_iff.mpr c20
  subst c20
  replace H:=bF_ H
  replace H:=bnd_ H;obtain ⟨t217,A25,H⟩:=H
  by_cases c26:t217.toList=a0.toList
  ·rw [if_pos c26] at H
   have c26b0:(t217.toList==a0.toList)=true:=beq_iff_eq.mpr c26
   have c26b1:(t217.toList != a0.toList)=false:=bne_eq_false_iff_eq.mpr c26
   clear c26
   simp only [Option.some.injEq,Prod.mk.injEq] at H
   obtain ⟨rfl,rfl⟩:=H
   go_wp2_with (first|((with_reducible refine gate_callee (f:=109) rfl ?_);refine goesL_ (some 59) rfl rfl Tryz.func109 krT_ rfl #[.int .i64 x8_4] rfl agT_ ?_;(with_reducible refine (spec_FormatInt.calls k4 x8_4 t217 _ A25.out).mono ?_);rintro e w27 ⟨rfl,hb⟩;refine ⟨_,rfl,?_⟩;replace HB:=Aside0.mk (below_step (h_HB HB.out) hb);(try clear hb)))
   go_ret2
   exact ⟨eT_,h_HB HB.out⟩
  ·rw [if_neg c26] at H
   have c26b0:(t217.toList==a0.toList)=false:=beq_eq_false_iff_ne.mpr c26
   have c26b1:(t217.toList != a0.toList)=true:=bne_iff_ne.mpr c26
   simp only [Option.some.injEq,Prod.mk.injEq] at H
   obtain ⟨rfl,rfl⟩:=H
   go_wp2_with (first|((with_reducible refine gate_callee (f:=109) rfl ?_);refine goesL_ (some 59) rfl rfl Tryz.func109 krT_ rfl #[.int .i64 x8_4] rfl agT_ ?_;(with_reducible refine (spec_FormatInt.calls k4 x8_4 t217 _ A25.out).mono ?_);rintro e w28 ⟨rfl,hb⟩;refine ⟨_,rfl,?_⟩;replace HB:=Aside0.mk (below_step (h_HB HB.out) hb);(try clear hb)))
   go_ret2
   exact ⟨eT_,h_HB HB.out⟩
 replace H:=gsm_ H;obtain ⟨c14b0,H⟩:=H
 rcases gsb_ H with ⟨c16b0,H⟩|⟨c16b0,H⟩
 ·simp only [Option.some.injEq,Prod.mk.injEq] at H
  obtain ⟨rfl,rfl⟩:=H
  have p15:0≤(x9_4:Int):=odT_
  have q15:x9_4<(x7_6.size:Int):=odT_
  have hx15:=bt_at x7_6 x9_4
  replace p15:=eq_true p15
  replace q15:=eq_true q15
  go_wp2
  go_ret2
  exact ⟨eT_,h_HB HB.out⟩
 by_cases c18:(bt x7_6 x9_4)>57
 ·rw [if_pos c18] at H
  have c18b0:decide (57<(bt x7_6 x9_4))=true:=decide_eq_true c18
  clear c18
  simp only [Option.some.injEq,Prod.mk.injEq] at H
  obtain ⟨rfl,rfl⟩:=H
  have p15:0≤(x9_4:Int):=odT_
  have q15:x9_4<(x7_6.size:Int):=odT_
  have hx15:=bt_at x7_6 x9_4
  replace p15:=eq_true p15
  replace q15:=eq_true q15
  have p17:0≤(x9_4:Int):=odT_
  have q17:x9_4<(x7_6.size:Int):=odT_
  have hx17:=bt_at x7_6 x9_4
  replace p17:=eq_true p17
  replace q17:=eq_true q17
  go_wp2
  go_ret2
  exact ⟨eT_,h_HB HB.out⟩
 rw [if_neg c18] at H
 have c18b0:decide (57<(bt x7_6 x9_4))=false:=decide_eq_false c18
 clear c18
 have H':=Aside0.mk H
 clear H
 have p15:0≤(x9_4:Int):=odT_
 have q15:x9_4<(x7_6.size:Int):=odT_
 have hx15:=bt_at x7_6 x9_4
 replace p15:=eq_true p15
 replace q15:=eq_true q15
 have p17:0≤(x9_4:Int):=odT_
 have q17:x9_4<(x7_6.size:Int):=odT_
 have hx17:=bt_at x7_6 x9_4
 replace p17:=eq_true p17
 replace q17:=eq_true q17
 have p19:0≤(x9_4:Int):=odT_
 have q19:x9_4<(x7_6.size:Int):=odT_
 have hx19:=bt_at x7_6 x9_4
 replace p19:=eq_true p19
 replace q19:=eq_true q19
 go_wp2
 go_roundg k4
 case measure=>have:=HJ2.out;have:=HJ6.out;have:=HJ9.out;have:=HK4.out;omega
 case rel=>exact ⟨(wrap64 ((wrap64 (10*x8_4))+(((bt x7_6 x9_4)-48) % 256))),(wrap64 (x9_4+1)),sT_,sT_,H',⟨by have:=HJ2.out;have:=HJ6.out;have:=HJ9.out;have:=HK4.out;omega⟩,⟨h_HB HB.out⟩⟩
/-! ### spec_ParseInt: function 58 -/
def spec_ParseInt.f (k:Nat) (a0:ByteArray):Option (Int × Bool):=(spec_l1Read.f k a0 12).bind fun bt218=>(some (bt218.1,bt218.2))
set_option maxHeartbeats 8000000 in
set_option maxRecDepth 100000 in
theorem spec_ParseInt.calls (k:Nat) (a0:ByteArray) (r1:Int) (r2:Bool) (w:World) (h:spec_ParseInt.f k a0=some (r1,r2)) :
    Calls Tryz.prog 58 #[.string a0] w fun e w'=>e=.returned (.tuple #[.int .i64 r1,.bool r2])∧Below w.heap.size w w':=by
 have HB:=Aside0.mk (Below.refl w.heap.size w)
 have H:((spec_l1Read.f k a0 12).bind fun bt218=>(some (bt218.1,bt218.2)))=some (r1,r2):=h
 clear h
 replace H:=bnd_ H;obtain ⟨⟨t218,t219⟩,A2,H⟩:=H;dsimp only at H
 simp only [Option.some.injEq,Prod.mk.injEq] at H
 obtain ⟨rfl,rfl⟩:=H
 go_enter Tryz.func58,Tryz.ntmps58
 go_wp2_with (first|((with_reducible refine gate_callee (f:=110) rfl ?_);refine goesL_ (some 5) rfl rfl Tryz.func110 krT_ rfl #[.string a0,.int .i64 12] rfl agT_ ?_;(with_reducible refine (spec_l1Read.calls k a0 12 t218 t219 _ A2.out).mono ?_);rintro e w3 ⟨rfl,hb⟩;refine ⟨_,rfl,?_⟩;replace HB:=Aside0.mk (below_step (h_HB HB.out) hb);(try clear hb)))
 go_ret2
 exact ⟨eT_,h_HB HB.out⟩
/-! ### spec_ParseMatroid: function 6 -/
def spec_ParseMatroid.f (k:Nat) (a0:ByteArray):Option (Int × List Int × Bool):=(spec_SplitByte.f k a0 32).bind fun t221=>(if (t221.length:Int)=2 then (if 0<(t221.length:Int) then ((spec_ParseInt.f k (rdOf ByteArray.empty t221 0)).bind fun bt225=>(if 1<(t221.length:Int) then ((spec_ParseFamily.f k bt225.1 (rdOf ByteArray.empty t221 1)).bind fun bt228=>(if bt225.2=true then (if bt228.2=true then ((spec_MatroidText.f k bt225.1 bt228.1).bind fun t233=>(if t233.toList=a0.toList then (some (bt225.1,bt228.1,true)) else (some (0,([]:List Int),false)))) else (some (0,([]:List Int),false))) else (some (0,([]:List Int),false)))) else (none))) else (none)) else (some (0,([]:List Int),false)))
set_option maxHeartbeats 8000000 in
set_option maxRecDepth 100000 in
theorem spec_ParseMatroid.calls (k:Nat) (a0:ByteArray) (r1:Int) (r2:List Int) (r3:Bool) (w:World) (h:spec_ParseMatroid.f k a0=some (r1,r2,r3)) :
    Calls Tryz.prog 6 #[.string a0] w fun e w'=>∃ v1_:Value,e=.returned (.tuple #[.agg #[.int .i64 r1,v1_],.bool r3])∧Kd.R (Kd.int .i64) 3 w' w.heap.size (fun _=>True) v1_ r2∧Below w.heap.size w w':=by
 have hu24:=Tryz.underlying24
 have HB:=Aside0.mk (Below.refl w.heap.size w)
 unfold spec_ParseMatroid.f at h
 have H:=h
 clear h
 replace H:=bnd_ H;obtain ⟨t221,A2,H⟩:=H
 by_cases c3:(t221.length:Int)=2
 rotate_left
 ·rw [if_neg c3] at H
  have c3b0:((t221.length:Int)==2)=false:=beq_eq_false_iff_ne.mpr c3
  have c3b1:((t221.length:Int) != 2)=true:=bne_iff_ne.mpr c3
  simp only [Option.some.injEq,Prod.mk.injEq] at H
  obtain ⟨rfl,rfl,rfl⟩:=H
  go_enter Tryz.func6,Tryz.ntmps6
  go_wp2_with (first|((with_reducible refine gate_dst (N:=2) rfl ?_);refine bx_ (N:=2) (cs:=#[.int .i64 0,.slice none 0 0]) (t:=24) ?_;intro gb220 hg w55 hbox hb;have BK220:=Aside0.mk (hbox);have GW220:=Aside0.mk (gw_ hg (h_HB HB.out));have GE220:=Aside0.mk (gw_ hg (h_HB HB.out));replace HB:=Aside0.mk (below_step (h_HB HB.out) hb);clear hb hbox hg)|((with_reducible refine gate_callee (f:=57) rfl ?_);refine goesL_ (some 11) rfl rfl Tryz.func57 krT_ rfl #[.string a0,.int .u8 32] rfl agT_ ?_;(with_reducible refine (spec_SplitByte.calls k a0 32 t221 _ A2.out).mono ?_);rintro e w56 ⟨v222,rfl,ho0,hb⟩;refine ⟨_,rfl,?_⟩;have HO223:=Aside0.mk (Kd.R_lower ho0 (below_size (h_HB HB.out)));replace BK220:=Aside0.mk (blkB_ BK220.out hb);replace HB:=Aside0.mk (below_step (h_HB HB.out) hb);(try clear hb);(try clear hb2);(try clear hk);(try clear hi);(try clear ho0);obtain ⟨Ao57,co57,eo57⟩:=Kd.R_slice HO223.out;subst eo57;obtain ⟨hcz58_0,hcz58_1,hfz58_0,hfz58_1⟩:=bz2_ BK220.out))
  refine bodyPost_ret (results_ct rfl _ _ gb220 24 #[.int .i64 0,.slice none 0 0] (0,0) _ rfl (by (with_reducible repeat (first|refine blk_drewN ?_ _|refine blk_drew ?_|refine blk_alloc ?_ _));refine blk_put (cs:=#[.int .i64 0,.slice none 0 0]) ?_ 1 _ rfl;(with_reducible repeat (first|refine blk_drewN ?_ _|refine blk_drew ?_|refine blk_alloc ?_ _));refine blk_put (cs:=#[.int .i64 0,.slice none 0 0]) ?_ 0 _ rfl;exact bkC_ BK220.out) Tryz.underlying24 rfl krT_) rfl ?_
  exact ⟨_,eT_,by first|exact Kd.R_nil _ _ _ _ _|exact Kd.N_nil _ _ _ _ _|exact Kd.V_nil _ _ _ _ _|exact Kd.Q_nil _ _ _ _ _|exact Kd.S_nil _ _ _ _ _,h_HB HB.out⟩
 rw [if_pos c3] at H
 have c3b0:((t221.length:Int)==2)=true:=beq_iff_eq.mpr c3
 have c3b1:((t221.length:Int) != 2)=false:=bne_eq_false_iff_eq.mpr c3
 clear c3
 by_cases c4:0<(t221.length:Int)
 rotate_left
 ·rw [if_neg c4] at H
  exact absurd H (by simp)
 rw [if_pos c4] at H
 have c4b0:decide (0<(t221.length:Int))=true:=decide_eq_true c4
 have c4b1:decide (0<t221.length)=true:=decide_eq_true (by omega)
 clear c4
 replace H:=bnd_ H;obtain ⟨⟨t225,t226⟩,A5,H⟩:=H;dsimp only at H
 by_cases c6:1<(t221.length:Int)
 rotate_left
 ·rw [if_neg c6] at H
  exact absurd H (by simp)
 rw [if_pos c6] at H
 have c6b0:decide (1<(t221.length:Int))=true:=decide_eq_true c6
 have c6b1:decide (1<t221.length)=true:=decide_eq_true (by omega)
 clear c6
 replace H:=bnd_ H;obtain ⟨⟨t228,t229⟩,A7,H⟩:=H;dsimp only at H
 by_cases c8:t226=true
 rotate_left
 ·replace c8:=Bool.eq_false_iff.mpr c8
  subst c8
  replace H:=bF_ H
  simp only [Option.some.injEq,Prod.mk.injEq] at H
  obtain ⟨rfl,rfl,rfl⟩:=H
  go_enter Tryz.func6,Tryz.ntmps6
  go_wp2_with (first|((with_reducible refine gate_dst (N:=2) rfl ?_);refine bx_ (N:=2) (cs:=#[.int .i64 0,.slice none 0 0]) (t:=24) ?_;intro gb220 hg w45 hbox hb;have BK220:=Aside0.mk (hbox);have GW220:=Aside0.mk (gw_ hg (h_HB HB.out));have GE220:=Aside0.mk (gw_ hg (h_HB HB.out));replace HB:=Aside0.mk (below_step (h_HB HB.out) hb);clear hb hbox hg)|((with_reducible refine gate_callee (f:=57) rfl ?_);refine goesL_ (some 11) rfl rfl Tryz.func57 krT_ rfl #[.string a0,.int .u8 32] rfl agT_ ?_;(with_reducible refine (spec_SplitByte.calls k a0 32 t221 _ A2.out).mono ?_);rintro e w46 ⟨v222,rfl,ho0,hb⟩;refine ⟨_,rfl,?_⟩;have HO223:=Aside0.mk (Kd.R_lower ho0 (below_size (h_HB HB.out)));replace BK220:=Aside0.mk (blkB_ BK220.out hb);replace HB:=Aside0.mk (below_step (h_HB HB.out) hb);(try clear hb);(try clear hb2);(try clear hk);(try clear hi);(try clear ho0);obtain ⟨Ao47,co47,eo47⟩:=Kd.R_slice HO223.out;subst eo47;have p224:0≤(0:Int):=(by omega);have q224:0<(t221.length:Int):=odT_;obtain ⟨ad224,e224,hx224_0⟩:=Kd.at_string (Kd.R_reads' HO223.out).2.2 0 p224 q224;cases e224;have qi224:(0<t221.length)=True:=eq_true (by omega);(try rw [show ((0:Int)).toNat=0 from rfl] at hx224_0);(try rw [Addr.add_zero'] at hx224_0);replace p224:=eq_true p224;replace q224:=eq_true q224)|((with_reducible refine gate_callee (f:=58) rfl ?_);refine goesL_ (some 20) rfl rfl Tryz.func58 krT_ rfl #[.string (rdOf ByteArray.empty t221 0)] rfl agT_ ?_;(with_reducible refine (spec_ParseInt.calls k (rdOf ByteArray.empty t221 0) t225 false _ A5.out).mono ?_);rintro e w48 ⟨rfl,hb⟩;refine ⟨_,rfl,?_⟩;replace HO223:=Aside0.mk (Kd.R_below (kRC_ HO223.out) hb);replace BK220:=Aside0.mk (blkB_ BK220.out hb);replace HB:=Aside0.mk (below_step (h_HB HB.out) hb);(try clear hb);have p227:0≤(1:Int):=(by omega);have q227:1<(t221.length:Int):=odT_;obtain ⟨ad227,e227,hx227_0⟩:=Kd.at_string (Kd.R_reads' HO223.out).2.2 1 p227 q227;obtain rfl:ad224=ad227:=(by injection e227);(try simp only [show (1:Int).toNat=1 from rfl,Nat.reduceMul,Nat.reduceEqDiff,Go.Addr.add,↓reduceIte] at hx227_0);have qi227:(1<t221.length)=True:=eq_true (by omega);(try rw [show ((1:Int)).toNat=1 from rfl] at hx227_0);replace p227:=eq_true p227;replace q227:=eq_true q227)|((with_reducible refine gate_callee (f:=36) rfl ?_);refine goesL_ (some 28) rfl rfl Tryz.func36 krT_ rfl #[.int .i64 t225,.string (rdOf ByteArray.empty t221 1)] rfl agT_ ?_;(with_reducible refine (spec_ParseFamily.calls k t225 (rdOf ByteArray.empty t221 1) t228 t229 _ A7.out).mono ?_);rintro e w49 ⟨v230,rfl,ho0,hb⟩;refine ⟨_,rfl,?_⟩;replace HO223:=Aside0.mk (Kd.R_below (kRC_ HO223.out) hb);have HO231:=Aside0.mk (Kd.R_lower ho0 (below_size (h_HB HB.out)));replace BK220:=Aside0.mk (blkB_ BK220.out hb);replace HB:=Aside0.mk (below_step (h_HB HB.out) hb);(try clear hb);(try clear hb2);(try clear hk);(try clear hi);(try clear ho0);obtain ⟨Ao50,co50,eo50⟩:=Kd.R_slice HO231.out;subst eo50)|((with_reducible refine gate_dst (N:=9) rfl ?_);refine bx_ (N:=9) (cs:=#[.int .i64 0,.slice none 0 0]) (t:=24) ?_;intro gb232 hg w51 hbox hb;replace HO223:=Aside0.mk (Kd.R_below (kRC_ HO223.out) hb);replace HO231:=Aside0.mk (Kd.R_below (kRC_ HO231.out) hb);have BK232:=Aside0.mk (hbox);have GW232:=Aside0.mk (gw_ hg (h_HB HB.out));have GE232:=Aside0.mk (gw_ hg (h_HB HB.out));replace HB:=Aside0.mk (below_step (h_HB HB.out) hb);have NB220_232:=Aside0.mk (nbl_ hg (bkC_ BK220.out));have NB232_220:=Aside0.mk (nbg_ hg (bkC_ BK220.out));replace BK220:=Aside0.mk (blkB_ BK220.out hb);clear hb hbox hg;have hnb52:=NB232_220.out;have hnc52:=NB220_232.out;obtain ⟨hcz53_0,hcz53_1,hfz53_0,hfz53_1⟩:=bz2_ BK232.out;obtain ⟨hcz54_0,hcz54_1,hfz54_0,hfz54_1⟩:=bz2_ BK220.out))
  refine bodyPost_ret (results_ct rfl _ _ gb220 24 #[.int .i64 0,.slice none 0 0] (0,0) _ rfl (by (with_reducible repeat (first|refine blk_drewN ?_ _|refine blk_drew ?_|refine blk_alloc ?_ _));refine blk_put (cs:=#[.int .i64 0,.slice none 0 0]) ?_ 1 _ rfl;(with_reducible repeat (first|refine blk_drewN ?_ _|refine blk_drew ?_|refine blk_alloc ?_ _));refine blk_put (cs:=#[.int .i64 0,.slice none 0 0]) ?_ 0 _ rfl;exact bkC_ BK220.out) Tryz.underlying24 rfl krT_) rfl ?_
  exact ⟨_,eT_,by first|exact Kd.R_nil _ _ _ _ _|exact Kd.N_nil _ _ _ _ _|exact Kd.V_nil _ _ _ _ _|exact Kd.Q_nil _ _ _ _ _|exact Kd.S_nil _ _ _ _ _,h_HB HB.out⟩
 subst c8
 replace H:=bT_ H
 by_cases c9:t229=true
 ·subst c9
  replace H:=bT_ H
  replace H:=bnd_ H;obtain ⟨t233,A10,H⟩:=H
  by_cases c11:t233.toList=a0.toList
  ·rw [if_pos c11] at H
   have c11b0:(t233.toList==a0.toList)=true:=beq_iff_eq.mpr c11
   have c11b1:(t233.toList != a0.toList)=false:=bne_eq_false_iff_eq.mpr c11
   clear c11
   simp only [Option.some.injEq,Prod.mk.injEq] at H
   obtain ⟨rfl,rfl,rfl⟩:=H
   go_enter Tryz.func6,Tryz.ntmps6
   go_wp2_with (first|((with_reducible refine gate_dst (N:=2) rfl ?_);refine bx_ (N:=2) (cs:=#[.int .i64 0,.slice none 0 0]) (t:=24) ?_;intro gb220 hg w12 hbox hb;have BK220:=Aside0.mk (hbox);have GW220:=Aside0.mk (gw_ hg (h_HB HB.out));have GE220:=Aside0.mk (gw_ hg (h_HB HB.out));replace HB:=Aside0.mk (below_step (h_HB HB.out) hb);clear hb hbox hg)|((with_reducible refine gate_callee (f:=57) rfl ?_);refine goesL_ (some 11) rfl rfl Tryz.func57 krT_ rfl #[.string a0,.int .u8 32] rfl agT_ ?_;(with_reducible refine (spec_SplitByte.calls k a0 32 t221 _ A2.out).mono ?_);rintro e w13 ⟨v222,rfl,ho0,hb⟩;refine ⟨_,rfl,?_⟩;have HO223:=Aside0.mk (Kd.R_lower ho0 (below_size (h_HB HB.out)));replace BK220:=Aside0.mk (blkB_ BK220.out hb);replace HB:=Aside0.mk (below_step (h_HB HB.out) hb);(try clear hb);(try clear hb2);(try clear hk);(try clear hi);(try clear ho0);obtain ⟨Ao14,co14,eo14⟩:=Kd.R_slice HO223.out;subst eo14;have p224:0≤(0:Int):=(by omega);have q224:0<(t221.length:Int):=odT_;obtain ⟨ad224,e224,hx224_0⟩:=Kd.at_string (Kd.R_reads' HO223.out).2.2 0 p224 q224;cases e224;have qi224:(0<t221.length)=True:=eq_true (by omega);(try rw [show ((0:Int)).toNat=0 from rfl] at hx224_0);(try rw [Addr.add_zero'] at hx224_0);replace p224:=eq_true p224;replace q224:=eq_true q224)|((with_reducible refine gate_callee (f:=58) rfl ?_);refine goesL_ (some 20) rfl rfl Tryz.func58 krT_ rfl #[.string (rdOf ByteArray.empty t221 0)] rfl agT_ ?_;(with_reducible refine (spec_ParseInt.calls k (rdOf ByteArray.empty t221 0) t225 true _ A5.out).mono ?_);rintro e w15 ⟨rfl,hb⟩;refine ⟨_,rfl,?_⟩;replace HO223:=Aside0.mk (Kd.R_below (kRC_ HO223.out) hb);replace BK220:=Aside0.mk (blkB_ BK220.out hb);replace HB:=Aside0.mk (below_step (h_HB HB.out) hb);(try clear hb);have p227:0≤(1:Int):=(by omega);have q227:1<(t221.length:Int):=odT_;obtain ⟨ad227,e227,hx227_0⟩:=Kd.at_string (Kd.R_reads' HO223.out).2.2 1 p227 q227;obtain rfl:ad224=ad227:=(by injection e227);(try simp only [show (1:Int).toNat=1 from rfl,Nat.reduceMul,Nat.reduceEqDiff,Go.Addr.add,↓reduceIte] at hx227_0);have qi227:(1<t221.length)=True:=eq_true (by omega);(try rw [show ((1:Int)).toNat=1 from rfl] at hx227_0);replace p227:=eq_true p227;replace q227:=eq_true q227)|((with_reducible refine gate_callee (f:=36) rfl ?_);refine goesL_ (some 28) rfl rfl Tryz.func36 krT_ rfl #[.int .i64 t225,.string (rdOf ByteArray.empty t221 1)] rfl agT_ ?_;(with_reducible refine (spec_ParseFamily.calls k t225 (rdOf ByteArray.empty t221 1) t228 true _ A7.out).mono ?_);rintro e w16 ⟨v230,rfl,ho0,hb⟩;refine ⟨_,rfl,?_⟩;replace HO223:=Aside0.mk (Kd.R_below (kRC_ HO223.out) hb);have HO231:=Aside0.mk (Kd.R_lower ho0 (below_size (h_HB HB.out)));replace BK220:=Aside0.mk (blkB_ BK220.out hb);replace HB:=Aside0.mk (below_step (h_HB HB.out) hb);(try clear hb);(try clear hb2);(try clear hk);(try clear hi);(try clear ho0);obtain ⟨Ao17,co17,eo17⟩:=Kd.R_slice HO231.out;subst eo17)|((with_reducible refine gate_dst (N:=9) rfl ?_);refine bx_ (N:=9) (cs:=#[.int .i64 0,.slice none 0 0]) (t:=24) ?_;intro gb232 hg w18 hbox hb;replace HO223:=Aside0.mk (Kd.R_below (kRC_ HO223.out) hb);replace HO231:=Aside0.mk (Kd.R_below (kRC_ HO231.out) hb);have BK232:=Aside0.mk (hbox);have GW232:=Aside0.mk (gw_ hg (h_HB HB.out));have GE232:=Aside0.mk (gw_ hg (h_HB HB.out));replace HB:=Aside0.mk (below_step (h_HB HB.out) hb);have NB220_232:=Aside0.mk (nbl_ hg (bkC_ BK220.out));have NB232_220:=Aside0.mk (nbg_ hg (bkC_ BK220.out));replace BK220:=Aside0.mk (blkB_ BK220.out hb);clear hb hbox hg;have hnb19:=NB232_220.out;have hnc19:=NB220_232.out;obtain ⟨hcz20_0,hcz20_1,hfz20_0,hfz20_1⟩:=bz2_ BK232.out)|(go_at_call 53;(with_reducible refine (spec_MatroidText.calls k t225 _ _ t228 t233 _ ?side1 ?side2 A10.out).mono ?_);(case side1=>refine (Kd.R_reads' (e:=3) (base:=w.heap.size) (ok:=fun k_=>True) (n:=t228.length) (c:=co17) ?_).2.2;exact (by (with_reducible repeat (first|apply Kd.R_alloc|apply Kd.R_drewN|apply Kd.R_drew));exact (Kd.R_mono (Kd.R_far (p:=⟨gb232,1,none⟩) (Kd.R_far (p:=⟨gb232,0,none⟩) (Kd.R_types HO231.out BK232.out (by decide)) (fun _ hk=>hk.2) (.int .i64 t225)) (fun _ hk=>hk.2) (.slice Ao17 t228.length co17)) (fun _ h_=>h_.1))));(case side2=>exact (Kd.R_reads' HO231.out).2.1);rintro e w21 ⟨rfl,hb⟩;replace HO223:=Aside0.mk (Kd.R_below (by (with_reducible repeat (first|apply Kd.R_alloc|apply Kd.R_drewN|apply Kd.R_drew));exact (Kd.R_mono (Kd.R_far (p:=⟨gb232,1,none⟩) (Kd.R_far (p:=⟨gb232,0,none⟩) (Kd.R_types HO223.out BK232.out (by decide)) (fun _ hk=>hk.2) (.int .i64 t225)) (fun _ hk=>hk.2) (.slice Ao17 t228.length co17)) (fun _ h_=>h_.1))) hb);replace HO231:=Aside0.mk (Kd.R_below (by (with_reducible repeat (first|apply Kd.R_alloc|apply Kd.R_drewN|apply Kd.R_drew));exact (Kd.R_mono (Kd.R_far (p:=⟨gb232,1,none⟩) (Kd.R_far (p:=⟨gb232,0,none⟩) (Kd.R_types HO231.out BK232.out (by decide)) (fun _ hk=>hk.2) (.int .i64 t225)) (fun _ hk=>hk.2) (.slice Ao17 t228.length co17)) (fun _ h_=>h_.1))) hb);replace BK220:=Aside0.mk (blkB_ BK220.out hb);replace BK232:=Aside0.mk (blk_below (g:=gb232) (o:=.cells #[.int .i64 t225,.slice Ao17 t228.length co17] 24 (0,0)) (by (with_reducible repeat (first|refine blk_drewN ?_ _|refine blk_drew ?_|refine blk_alloc ?_ _));refine blk_put (cs:=#[.int .i64 t225,.slice none 0 0]) ?_ 1 _ rfl;(with_reducible repeat (first|refine blk_drewN ?_ _|refine blk_drew ?_|refine blk_alloc ?_ _));refine blk_put (cs:=#[.int .i64 0,.slice none 0 0]) ?_ 0 _ rfl;exact bkC_ BK232.out) hb);replace HB:=Aside0.mk (below_step (h_HB HB.out) hb);(try clear hb);(try clear hb2);(try clear hk);(try clear hi);obtain ⟨hcz22_0,hcz22_1,hfz22_0,hfz22_1⟩:=bz2_ BK232.out;obtain ⟨hcz23_0,hcz23_1,hfz23_0,hfz23_1⟩:=bz2_ BK220.out))
   refine bodyPost_ret (results_ct rfl _ _ gb220 24 #[.int .i64 t225,.slice Ao17 t228.length co17] (0,0) _ rfl (by (with_reducible repeat (first|refine blk_drewN ?_ _|refine blk_drew ?_|refine blk_alloc ?_ _));refine blk_put (cs:=#[.int .i64 t225,.slice none 0 0]) ?_ 1 _ rfl;(with_reducible repeat (first|refine blk_drewN ?_ _|refine blk_drew ?_|refine blk_alloc ?_ _));refine blk_put (cs:=#[.int .i64 0,.slice none 0 0]) ?_ 0 _ rfl;exact bkC_ BK220.out) Tryz.underlying24 rfl krT_) rfl ?_
   exact ⟨_,eT_,by (with_reducible repeat (first|apply Kd.R_alloc|apply Kd.R_drewN|apply Kd.R_drew));exact Kd.R_mono (Kd.R_far (p:=⟨gb220,1,none⟩) (Kd.R_far (p:=⟨gb220,0,none⟩) (Kd.R_types HO231.out BK220.out (by decide)) (fun _ hk=>hk.2) (.int .i64 t225)) (fun _ hk=>hk.2) (.slice Ao17 t228.length co17)) (fun _ hk=>trivial),h_HB HB.out⟩
  ·rw [if_neg c11] at H
   have c11b0:(t233.toList==a0.toList)=false:=beq_eq_false_iff_ne.mpr c11
   have c11b1:(t233.toList != a0.toList)=true:=bne_iff_ne.mpr c11
   simp only [Option.some.injEq,Prod.mk.injEq] at H
   obtain ⟨rfl,rfl,rfl⟩:=H
   go_enter Tryz.func6,Tryz.ntmps6
   go_wp2_with (first|((with_reducible refine gate_dst (N:=2) rfl ?_);refine bx_ (N:=2) (cs:=#[.int .i64 0,.slice none 0 0]) (t:=24) ?_;intro gb220 hg w24 hbox hb;have BK220:=Aside0.mk (hbox);have GW220:=Aside0.mk (gw_ hg (h_HB HB.out));have GE220:=Aside0.mk (gw_ hg (h_HB HB.out));replace HB:=Aside0.mk (below_step (h_HB HB.out) hb);clear hb hbox hg)|((with_reducible refine gate_callee (f:=57) rfl ?_);refine goesL_ (some 11) rfl rfl Tryz.func57 krT_ rfl #[.string a0,.int .u8 32] rfl agT_ ?_;(with_reducible refine (spec_SplitByte.calls k a0 32 t221 _ A2.out).mono ?_);rintro e w25 ⟨v222,rfl,ho0,hb⟩;refine ⟨_,rfl,?_⟩;have HO223:=Aside0.mk (Kd.R_lower ho0 (below_size (h_HB HB.out)));replace BK220:=Aside0.mk (blkB_ BK220.out hb);replace HB:=Aside0.mk (below_step (h_HB HB.out) hb);(try clear hb);(try clear hb2);(try clear hk);(try clear hi);(try clear ho0);obtain ⟨Ao26,co26,eo26⟩:=Kd.R_slice HO223.out;subst eo26;have p224:0≤(0:Int):=(by omega);have q224:0<(t221.length:Int):=odT_;obtain ⟨ad224,e224,hx224_0⟩:=Kd.at_string (Kd.R_reads' HO223.out).2.2 0 p224 q224;cases e224;have qi224:(0<t221.length)=True:=eq_true (by omega);(try rw [show ((0:Int)).toNat=0 from rfl] at hx224_0);(try rw [Addr.add_zero'] at hx224_0);replace p224:=eq_true p224;replace q224:=eq_true q224)|((with_reducible refine gate_callee (f:=58) rfl ?_);refine goesL_ (some 20) rfl rfl Tryz.func58 krT_ rfl #[.string (rdOf ByteArray.empty t221 0)] rfl agT_ ?_;(with_reducible refine (spec_ParseInt.calls k (rdOf ByteArray.empty t221 0) t225 true _ A5.out).mono ?_);rintro e w27 ⟨rfl,hb⟩;refine ⟨_,rfl,?_⟩;replace HO223:=Aside0.mk (Kd.R_below (kRC_ HO223.out) hb);replace BK220:=Aside0.mk (blkB_ BK220.out hb);replace HB:=Aside0.mk (below_step (h_HB HB.out) hb);(try clear hb);have p227:0≤(1:Int):=(by omega);have q227:1<(t221.length:Int):=odT_;obtain ⟨ad227,e227,hx227_0⟩:=Kd.at_string (Kd.R_reads' HO223.out).2.2 1 p227 q227;obtain rfl:ad224=ad227:=(by injection e227);(try simp only [show (1:Int).toNat=1 from rfl,Nat.reduceMul,Nat.reduceEqDiff,Go.Addr.add,↓reduceIte] at hx227_0);have qi227:(1<t221.length)=True:=eq_true (by omega);(try rw [show ((1:Int)).toNat=1 from rfl] at hx227_0);replace p227:=eq_true p227;replace q227:=eq_true q227)|((with_reducible refine gate_callee (f:=36) rfl ?_);refine goesL_ (some 28) rfl rfl Tryz.func36 krT_ rfl #[.int .i64 t225,.string (rdOf ByteArray.empty t221 1)] rfl agT_ ?_;(with_reducible refine (spec_ParseFamily.calls k t225 (rdOf ByteArray.empty t221 1) t228 true _ A7.out).mono ?_);rintro e w28 ⟨v230,rfl,ho0,hb⟩;refine ⟨_,rfl,?_⟩;replace HO223:=Aside0.mk (Kd.R_below (kRC_ HO223.out) hb);have HO231:=Aside0.mk (Kd.R_lower ho0 (below_size (h_HB HB.out)));replace BK220:=Aside0.mk (blkB_ BK220.out hb);replace HB:=Aside0.mk (below_step (h_HB HB.out) hb);(try clear hb);(try clear hb2);(try clear hk);(try clear hi);(try clear ho0);obtain ⟨Ao29,co29,eo29⟩:=Kd.R_slice HO231.out;subst eo29)|((with_reducible refine gate_dst (N:=9) rfl ?_);refine bx_ (N:=9) (cs:=#[.int .i64 0,.slice none 0 0]) (t:=24) ?_;intro gb232 hg w30 hbox hb;replace HO223:=Aside0.mk (Kd.R_below (kRC_ HO223.out) hb);replace HO231:=Aside0.mk (Kd.R_below (kRC_ HO231.out) hb);have BK232:=Aside0.mk (hbox);have GW232:=Aside0.mk (gw_ hg (h_HB HB.out));have GE232:=Aside0.mk (gw_ hg (h_HB HB.out));replace HB:=Aside0.mk (below_step (h_HB HB.out) hb);have NB220_232:=Aside0.mk (nbl_ hg (bkC_ BK220.out));have NB232_220:=Aside0.mk (nbg_ hg (bkC_ BK220.out));replace BK220:=Aside0.mk (blkB_ BK220.out hb);clear hb hbox hg;have hnb31:=NB232_220.out;have hnc31:=NB220_232.out;obtain ⟨hcz32_0,hcz32_1,hfz32_0,hfz32_1⟩:=bz2_ BK232.out)|(go_at_call 53;(with_reducible refine (spec_MatroidText.calls k t225 _ _ t228 t233 _ ?side1 ?side2 A10.out).mono ?_);(case side1=>refine (Kd.R_reads' (e:=3) (base:=w.heap.size) (ok:=fun k_=>True) (n:=t228.length) (c:=co29) ?_).2.2;exact (by (with_reducible repeat (first|apply Kd.R_alloc|apply Kd.R_drewN|apply Kd.R_drew));exact (Kd.R_mono (Kd.R_far (p:=⟨gb232,1,none⟩) (Kd.R_far (p:=⟨gb232,0,none⟩) (Kd.R_types HO231.out BK232.out (by decide)) (fun _ hk=>hk.2) (.int .i64 t225)) (fun _ hk=>hk.2) (.slice Ao29 t228.length co29)) (fun _ h_=>h_.1))));(case side2=>exact (Kd.R_reads' HO231.out).2.1);rintro e w33 ⟨rfl,hb⟩;replace HO223:=Aside0.mk (Kd.R_below (by (with_reducible repeat (first|apply Kd.R_alloc|apply Kd.R_drewN|apply Kd.R_drew));exact (Kd.R_mono (Kd.R_far (p:=⟨gb232,1,none⟩) (Kd.R_far (p:=⟨gb232,0,none⟩) (Kd.R_types HO223.out BK232.out (by decide)) (fun _ hk=>hk.2) (.int .i64 t225)) (fun _ hk=>hk.2) (.slice Ao29 t228.length co29)) (fun _ h_=>h_.1))) hb);replace HO231:=Aside0.mk (Kd.R_below (by (with_reducible repeat (first|apply Kd.R_alloc|apply Kd.R_drewN|apply Kd.R_drew));exact (Kd.R_mono (Kd.R_far (p:=⟨gb232,1,none⟩) (Kd.R_far (p:=⟨gb232,0,none⟩) (Kd.R_types HO231.out BK232.out (by decide)) (fun _ hk=>hk.2) (.int .i64 t225)) (fun _ hk=>hk.2) (.slice Ao29 t228.length co29)) (fun _ h_=>h_.1))) hb);replace BK220:=Aside0.mk (blkB_ BK220.out hb);replace BK232:=Aside0.mk (blk_below (g:=gb232) (o:=.cells #[.int .i64 t225,.slice Ao29 t228.length co29] 24 (0,0)) (by (with_reducible repeat (first|refine blk_drewN ?_ _|refine blk_drew ?_|refine blk_alloc ?_ _));refine blk_put (cs:=#[.int .i64 t225,.slice none 0 0]) ?_ 1 _ rfl;(with_reducible repeat (first|refine blk_drewN ?_ _|refine blk_drew ?_|refine blk_alloc ?_ _));refine blk_put (cs:=#[.int .i64 0,.slice none 0 0]) ?_ 0 _ rfl;exact bkC_ BK232.out) hb);replace HB:=Aside0.mk (below_step (h_HB HB.out) hb);(try clear hb);(try clear hb2);(try clear hk);(try clear hi);obtain ⟨hcz34_0,hcz34_1,hfz34_0,hfz34_1⟩:=bz2_ BK220.out))
   refine bodyPost_ret (results_ct rfl _ _ gb220 24 #[.int .i64 0,.slice none 0 0] (0,0) _ rfl (by (with_reducible repeat (first|refine blk_drewN ?_ _|refine blk_drew ?_|refine blk_alloc ?_ _));refine blk_put (cs:=#[.int .i64 0,.slice none 0 0]) ?_ 1 _ rfl;(with_reducible repeat (first|refine blk_drewN ?_ _|refine blk_drew ?_|refine blk_alloc ?_ _));refine blk_put (cs:=#[.int .i64 0,.slice none 0 0]) ?_ 0 _ rfl;exact bkC_ BK220.out) Tryz.underlying24 rfl krT_) rfl ?_
   exact ⟨_,eT_,by first|exact Kd.R_nil _ _ _ _ _|exact Kd.N_nil _ _ _ _ _|exact Kd.V_nil _ _ _ _ _|exact Kd.Q_nil _ _ _ _ _|exact Kd.S_nil _ _ _ _ _,h_HB HB.out⟩
 ·replace c9:=Bool.eq_false_iff.mpr c9
  subst c9
  replace H:=bF_ H
  simp only [Option.some.injEq,Prod.mk.injEq] at H
  obtain ⟨rfl,rfl,rfl⟩:=H
  go_enter Tryz.func6,Tryz.ntmps6
  go_wp2_with (first|((with_reducible refine gate_dst (N:=2) rfl ?_);refine bx_ (N:=2) (cs:=#[.int .i64 0,.slice none 0 0]) (t:=24) ?_;intro gb220 hg w35 hbox hb;have BK220:=Aside0.mk (hbox);have GW220:=Aside0.mk (gw_ hg (h_HB HB.out));have GE220:=Aside0.mk (gw_ hg (h_HB HB.out));replace HB:=Aside0.mk (below_step (h_HB HB.out) hb);clear hb hbox hg)|((with_reducible refine gate_callee (f:=57) rfl ?_);refine goesL_ (some 11) rfl rfl Tryz.func57 krT_ rfl #[.string a0,.int .u8 32] rfl agT_ ?_;(with_reducible refine (spec_SplitByte.calls k a0 32 t221 _ A2.out).mono ?_);rintro e w36 ⟨v222,rfl,ho0,hb⟩;refine ⟨_,rfl,?_⟩;have HO223:=Aside0.mk (Kd.R_lower ho0 (below_size (h_HB HB.out)));replace BK220:=Aside0.mk (blkB_ BK220.out hb);replace HB:=Aside0.mk (below_step (h_HB HB.out) hb);(try clear hb);(try clear hb2);(try clear hk);(try clear hi);(try clear ho0);obtain ⟨Ao37,co37,eo37⟩:=Kd.R_slice HO223.out;subst eo37;have p224:0≤(0:Int):=(by omega);have q224:0<(t221.length:Int):=odT_;obtain ⟨ad224,e224,hx224_0⟩:=Kd.at_string (Kd.R_reads' HO223.out).2.2 0 p224 q224;cases e224;have qi224:(0<t221.length)=True:=eq_true (by omega);(try rw [show ((0:Int)).toNat=0 from rfl] at hx224_0);(try rw [Addr.add_zero'] at hx224_0);replace p224:=eq_true p224;replace q224:=eq_true q224)|((with_reducible refine gate_callee (f:=58) rfl ?_);refine goesL_ (some 20) rfl rfl Tryz.func58 krT_ rfl #[.string (rdOf ByteArray.empty t221 0)] rfl agT_ ?_;(with_reducible refine (spec_ParseInt.calls k (rdOf ByteArray.empty t221 0) t225 true _ A5.out).mono ?_);rintro e w38 ⟨rfl,hb⟩;refine ⟨_,rfl,?_⟩;replace HO223:=Aside0.mk (Kd.R_below (kRC_ HO223.out) hb);replace BK220:=Aside0.mk (blkB_ BK220.out hb);replace HB:=Aside0.mk (below_step (h_HB HB.out) hb);(try clear hb);have p227:0≤(1:Int):=(by omega);have q227:1<(t221.length:Int):=odT_;obtain ⟨ad227,e227,hx227_0⟩:=Kd.at_string (Kd.R_reads' HO223.out).2.2 1 p227 q227;obtain rfl:ad224=ad227:=(by injection e227);(try simp only [show (1:Int).toNat=1 from rfl,Nat.reduceMul,Nat.reduceEqDiff,Go.Addr.add,↓reduceIte] at hx227_0);have qi227:(1<t221.length)=True:=eq_true (by omega);(try rw [show ((1:Int)).toNat=1 from rfl] at hx227_0);replace p227:=eq_true p227;replace q227:=eq_true q227)|((with_reducible refine gate_callee (f:=36) rfl ?_);refine goesL_ (some 28) rfl rfl Tryz.func36 krT_ rfl #[.int .i64 t225,.string (rdOf ByteArray.empty t221 1)] rfl agT_ ?_;(with_reducible refine (spec_ParseFamily.calls k t225 (rdOf ByteArray.empty t221 1) t228 false _ A7.out).mono ?_);rintro e w39 ⟨v230,rfl,ho0,hb⟩;refine ⟨_,rfl,?_⟩;replace HO223:=Aside0.mk (Kd.R_below (kRC_ HO223.out) hb);have HO231:=Aside0.mk (Kd.R_lower ho0 (below_size (h_HB HB.out)));replace BK220:=Aside0.mk (blkB_ BK220.out hb);replace HB:=Aside0.mk (below_step (h_HB HB.out) hb);(try clear hb);(try clear hb2);(try clear hk);(try clear hi);(try clear ho0);obtain ⟨Ao40,co40,eo40⟩:=Kd.R_slice HO231.out;subst eo40)|((with_reducible refine gate_dst (N:=9) rfl ?_);refine bx_ (N:=9) (cs:=#[.int .i64 0,.slice none 0 0]) (t:=24) ?_;intro gb232 hg w41 hbox hb;replace HO223:=Aside0.mk (Kd.R_below (kRC_ HO223.out) hb);replace HO231:=Aside0.mk (Kd.R_below (kRC_ HO231.out) hb);have BK232:=Aside0.mk (hbox);have GW232:=Aside0.mk (gw_ hg (h_HB HB.out));have GE232:=Aside0.mk (gw_ hg (h_HB HB.out));replace HB:=Aside0.mk (below_step (h_HB HB.out) hb);have NB220_232:=Aside0.mk (nbl_ hg (bkC_ BK220.out));have NB232_220:=Aside0.mk (nbg_ hg (bkC_ BK220.out));replace BK220:=Aside0.mk (blkB_ BK220.out hb);clear hb hbox hg;have hnb42:=NB232_220.out;have hnc42:=NB220_232.out;obtain ⟨hcz43_0,hcz43_1,hfz43_0,hfz43_1⟩:=bz2_ BK232.out;obtain ⟨hcz44_0,hcz44_1,hfz44_0,hfz44_1⟩:=bz2_ BK220.out))
  refine bodyPost_ret (results_ct rfl _ _ gb220 24 #[.int .i64 0,.slice none 0 0] (0,0) _ rfl (by (with_reducible repeat (first|refine blk_drewN ?_ _|refine blk_drew ?_|refine blk_alloc ?_ _));refine blk_put (cs:=#[.int .i64 0,.slice none 0 0]) ?_ 1 _ rfl;(with_reducible repeat (first|refine blk_drewN ?_ _|refine blk_drew ?_|refine blk_alloc ?_ _));refine blk_put (cs:=#[.int .i64 0,.slice none 0 0]) ?_ 0 _ rfl;exact bkC_ BK220.out) Tryz.underlying24 rfl krT_) rfl ?_
  exact ⟨_,eT_,by first|exact Kd.R_nil _ _ _ _ _|exact Kd.N_nil _ _ _ _ _|exact Kd.V_nil _ _ _ _ _|exact Kd.Q_nil _ _ _ _ _|exact Kd.S_nil _ _ _ _ _,h_HB HB.out⟩
/-! ### impl_isSize: function 79 -/
def impl_isSize.f (a0:Int):Option (Bool):=if a0≥0 then (some (decide (a0≤8))) else (some false)
set_option maxHeartbeats 8000000 in
set_option maxRecDepth 100000 in
theorem impl_isSize.calls (a0:Int) (r:Bool) (w:World) (h:impl_isSize.f a0=some r) :
    Calls Tryz.prog 79 #[.int .i64 a0] w fun e w'=>e=.returned (.bool r)∧Drawn0 w w':=by
 have H:(if a0≥0 then (some (decide (a0≤8))) else (some false))=some r:=h
 clear h
 by_cases c2:a0≥0
 ·rw [if_pos c2] at H
  have c2b0:decide (0≤a0)=true:=decide_eq_true c2
  clear c2
  obtain rfl:=Option.some.inj H
  go_enter Tryz.func79,Tryz.ntmps79
  go_wp2
  go_ret
  exact ⟨sT_,dT_⟩
 rw [if_neg c2] at H
 have c2b0:decide (0≤a0)=false:=decide_eq_false c2
 clear c2
 obtain rfl:=Option.some.inj H
 go_enter Tryz.func79,Tryz.ntmps79
 go_wp2
 go_ret
 exact ⟨sT_,dT_⟩
end Go.Proofs.YtekegbacnagbcaaGreatDoor.P
