-- written by gprint (a program of this session's, round the kit's print), out of the translation and hand-written texts
import Derived.Test.YtekegbacnagbcaaGreatDoorPVFnMatroidsx0
import Derived.Test.YtekegbacnagbcaaGreatDoorPVFnMatroidsx2
import Derived.Test.YtekegbacnagbcaaGreatDoorPVFnMatroidsx3
namespace Go.Proofs.YtekegbacnagbcaaGreatDoor.P
open Go.RowKit Go.Proofs.YtekegbacnagbcaaGreatDoorW.PrintWords Go.Proofs.YtekegbacnagbcaaGreatDoorW.PrintLast Go.Proofs.YtekegbacnagbcaaGreatDoorW.PrintMore
attribute [local go_sem] max2_int min2_int max_two min_two max_three min_three max_four min_four   -- for this text's walks alone
set_option linter.unusedVariables false
set_option linter.unusedSimpArgs false
/-! ### spec_ParseFamily: function 36 -/
mutual
def spec_ParseFamily.l0:Nat→Int→ByteArray→List Int→List ByteArray→Int→Option (List Int × Bool)
 | 0,_,_,_,_,_=>none
 | k+1,x0,x1,x6,x7,x8=>if x8<(x7.length:Int) then (spec_ParseFamily.j1 k x0 x1 x6 x7 x8 (x1.toList != ([110,111,110,101]:List UInt8))) else (spec_ParseFamily.j1 k x0 x1 x6 x7 x8 false)
def spec_ParseFamily.j1:Nat→Int→ByteArray→List Int→List ByteArray→Int→Bool→Option (List Int × Bool)
 | 0,_,_,_,_,_,_=>none
 | k+1,x0,x1,x6,x7,x8,x21=>if x21=true then (if 0≤x8 then (if x8<(x7.length:Int) then ((spec_ParseSet.f k (rdOf ByteArray.empty x7 x8)).bind fun bt170=>(if bt170.2=true then (if x6.length<17592186044416 then (spec_ParseFamily.l0 k x0 x1 (x6++[bt170.1]) x7 (wrap64 (x8+1))) else (none)) else (some ((([]:List Int)),false)))) else (none)) else (none)) else ((spec_IsFamily.f k x0 x6).bind fun t178=>(if t178=true then ((spec_FamilyText.f k x6).bind fun t179=>(if t179.toList=x1.toList then (some (x6,true)) else (some ((([]:List Int)),false)))) else (some ((([]:List Int)),false))))
end
def spec_ParseFamily.f (k:Nat) (a0:Int) (a1:ByteArray):Option (List Int × Bool):=(spec_SplitByte.f k a1 44).bind fun t166=>(spec_ParseFamily.l0 k a0 a1 (([]:List Int)) t166 0)
set_option maxHeartbeats 8000000 in
set_option maxRecDepth 100000 in
theorem spec_ParseFamily.calls (k:Nat) (a0:Int) (a1:ByteArray) (r1:List Int) (r2:Bool) (w:World) (h:spec_ParseFamily.f k a0 a1=some (r1,r2)) :
    Calls Tryz.prog 36 #[.int .i64 a0,.string a1] w fun e w'=>∃ v0_:Value,e=.returned (.tuple #[v0_,.bool r2])∧Kd.R (Kd.int .i64) 3 w' w.heap.size (fun _=>True) v0_ r1∧Below w.heap.size w w':=by
 have HB:=Aside0.mk (Below.refl w.heap.size w)
 have H:((spec_SplitByte.f k a1 44).bind fun t166=>(spec_ParseFamily.l0 k a0 a1 (([]:List Int)) t166 0))=some (r1,r2):=h
 clear h
 obtain ⟨y163,hy163⟩:∃ y_:List Int,y_=(([]:List Int)):=⟨_,rfl⟩
 rw [← hy163] at H
 have Ny163:=Aside0.mk hy163
 clear hy163
 replace H:=bnd_ H;obtain ⟨t166,A3,H⟩:=H
 have H':=Aside0.mk H
 clear H
 go_enter Tryz.func36,Tryz.ntmps36
 go_wp2_with (first|((with_reducible refine gate_dst (N:=11) rfl ?_);refine Kd.R_lit (Kd.int .i64) _ 3 ?hg (N:=11) ?hd (xs:=([]:List Int)) (inner:=[]) (ok:=fun _=>True) (okp:=fun _=>True) ?hr ?hp (fun _ hk=>hk) trivial (Below.refl _ _) (Nat.le_refl _) (by simp) ?_;(case hd=>rfl);(case hg=>rfl);(case hr=>exact hrT_);(case hp=>exact (Reps.none _ _));intro v164 w4 ho5 hb hg_ hnew_;clear hg_ hnew_;(first|rw [← Ny163.out] at ho5|(simp only [Int.reduceToNat] at ho5;rw [← Ny163.out] at ho5));have HO165:=Aside0.mk (Kd.R_lower ho5 (below_size (h_HB HB.out)));replace HB:=Aside0.mk (below_step (h_HB HB.out) hb);clear hb ho5)|((with_reducible refine gate_callee (f:=57) rfl ?_);refine goesL_ (some 13) rfl rfl Tryz.func57 krT_ rfl #[.string a1,.int .u8 44] rfl agT_ ?_;(with_reducible refine (spec_SplitByte.calls k a1 44 t166 _ A3.out).mono ?_);rintro e w6 ⟨v167,rfl,ho0,hb⟩;refine ⟨_,rfl,?_⟩;replace HO165:=Aside0.mk (Kd.R_below (kRC_ HO165.out) hb);have HO168:=Aside0.mk (Kd.R_lower ho0 (below_size (h_HB HB.out)));replace HB:=Aside0.mk (below_step (h_HB HB.out) hb);(try clear hb);(try clear hb2);(try clear hk);(try clear hi);(try clear ho0)))
 go_loopg [6,8] k (fun kq v6 v8 w'=>∃ (x6_1:List Int) (x8_1:Int),v8=.int .i64 x8_1∧Aside0 (spec_ParseFamily.l0 kq a0 a1 x6_1 t166 x8_1=some (r1,r2))∧Aside0 (kq≤k)∧Aside0 (Kd.R (Kd.int .i64) 3 w' w.heap.size (fun _=>True) v6 x6_1)∧Aside0 (Kd.R Kd.string 9 w' w.heap.size (fun _=>True) v167 t166)∧Aside0 (Below w.heap.size w w'))
 case atStart=>exact ⟨(y163),(0),sT_,H',⟨Nat.le_refl _⟩,⟨kRC_ HO165.out⟩,⟨kRC_ HO168.out⟩,⟨h_HB HB.out⟩⟩
 case round =>
 clear H'
 try clear p2
 try clear c3
 try clear c5
 obtain ⟨x6_1,x8_1,rfl,HA,HK1,HO_6,HO_7,HB⟩:=hrel
 cases gk with
 | zero=>exact absurd HA.out (by simp [spec_ParseFamily.l0])
 | succ k1 =>
 have H:=HA.out
 clear HA
 simp only [spec_ParseFamily.l0] at H
 have HC7:=Aside0.mk H
 clear H
 go_upto_region 4 with (fail)
 go_cut [21] (fun v21 wc=>∃ (kq:Nat) (x21_6:Bool),v21=.bool x21_6∧Aside0 (spec_ParseFamily.j1 kq a0 a1 x6_1 t166 x8_1 x21_6=some (r1,r2))∧Aside0 (kq≤k1)∧Aside0 (Kd.R (Kd.int .i64) 3 wc w.heap.size (fun _=>True) u6 x6_1)∧Aside0 (Kd.R Kd.string 9 wc w.heap.size (fun _=>True) v167 t166)∧Aside0 (Below w.heap.size w wc))
 case first =>
  have H:=HC7.out
  clear HC7
  rcases gsb_ H with ⟨c8b0,H⟩|⟨c8b0,H⟩
  ·(first|rw [c8b0]|(simp only [i64_w,i32_w];rw [c8b0])|skip)
   have H':=Aside0.mk H
   clear H
   obtain ⟨Ao9,co9,eo9⟩:=Kd.R_slice HO_7.out
   subst eo9
   go_wp2
   go_meet
   case rel=>exact ⟨_,((a1.toList != ([110,111,110,101]:List UInt8))),sT_,H',⟨by have:=HK1.out;first|omega|exact Nat.le_refl _⟩,⟨kRC_ HO_6.out⟩,⟨kRC_ HO_7.out⟩,⟨h_HB HB.out⟩⟩
  (first|rw [c8b0]|(simp only [i64_w,i32_w];rw [c8b0])|skip)
  have H':=Aside0.mk H
  clear H
  obtain ⟨Ao10,co10,eo10⟩:=Kd.R_slice HO_7.out
  subst eo10
  go_wp2
  go_meet
  case rel=>exact ⟨_,(false),sT_,H',⟨by have:=HK1.out;first|omega|exact Nat.le_refl _⟩,⟨kRC_ HO_6.out⟩,⟨kRC_ HO_7.out⟩,⟨h_HB HB.out⟩⟩
 case rest =>
 clear HC7
 try clear p2
 try clear c3
 try clear c5
 try clear c8
 try clear c8b0
 try clear p2
 obtain ⟨kq,x21_6,rfl,HA,HJ6,HO_6,HO_7,HB⟩:=hcut
 cases kq with
 | zero=>exact absurd HA.out (by simp [spec_ParseFamily.j1])
 | succ kj6 =>
 have H:=HA.out
 clear HA
 simp only [spec_ParseFamily.j1] at H
 by_cases c11:x21_6=true
 ·subst c11
  replace H:=bT_ H
  replace H:=gsm_ H;obtain ⟨c12b0,H⟩:=H
  replace H:=gsm_ H;obtain ⟨c13b0,H⟩:=H
  replace H:=bnd_ H;obtain ⟨⟨t170,t171⟩,A14,H⟩:=H;dsimp only at H
  by_cases c15:t171=true
  ·subst c15
   replace H:=bT_ H
   by_cases c16:x6_1.length<17592186044416
   rotate_left
   ·rw [if_neg c16] at H
    exact absurd H (by simp)
   rw [if_pos c16] at H
   have LMc16:=Aside0.mk c16
   clear c16
   obtain ⟨y172,hy172⟩:∃ y_:List Int,y_=(x6_1++[t170]):=⟨_,rfl⟩
   rw [← hy172] at H
   have Ny172:=Aside0.mk hy172
   clear hy172
   have H':=Aside0.mk H
   clear H
   obtain ⟨Ao17,co17,eo17⟩:=Kd.R_slice HO_7.out
   subst eo17
   obtain ⟨ad169,e169,hx169_0,p169,q169⟩:=aiS_ (Kd.R_reads' HO_7.out).2.2 x8_1
   cases e169
   go_wp2_with (first|((with_reducible refine gate_callee (f:=94) rfl ?_);refine goesL_ (some 29) rfl rfl Tryz.func94 krT_ rfl #[.string (rdOf ByteArray.empty t166 x8_1)] rfl agT_ ?_;(with_reducible refine (spec_ParseSet.calls kj6 (rdOf ByteArray.empty t166 x8_1) t170 true _ A14.out).mono ?_);rintro e w18 ⟨rfl,hb⟩;refine ⟨_,rfl,?_⟩;replace HO_6:=Aside0.mk (Kd.R_below (kRC_ HO_6.out) hb);replace HO_7:=Aside0.mk (Kd.R_below (kRC_ HO_7.out) hb);replace HB:=Aside0.mk (below_step (h_HB HB.out) hb);(try clear hb))|((with_reducible refine gate_builtin (b:=.append) (xs:=#[.tmp 35,.tmp 37]) rfl ?_);at_builtin;refine Kd.R_append (Kd.int .i64) (w0:=w) w.heap.size rfl (.tmp 35) (.tmp 37) 22 3 (.int .i64 0) 8 rfl Tryz.underlying22 info3 rfl (by decide) (by omega) u6 x6_1 t170 [.int .i64 t170] (fun _=>True) (fun _=>False) rfl rfl ?aP (fun _ hk=>hk.elim) ?aF ?aO ?aB ?aS ?aL ?_;(case aP=>exact rfl);(case aB=>exact (h_HB HB.out));(case aF=>exact (fun _ _=>trivial));(case aO=>exact (kRC_ HO_6.out));(case aS=>exact (below_size (h_HB HB.out)));(case aL=>have:=LMc16.out;omega);intro v173 w19 ho hb hg hat;rw [← Ny172.out] at ho;replace HO_7:=Aside0.mk (Kd.R_over' (kRC_ HO_7.out) (Kd.R_typed (kRC_ HO_6.out)) (by decide) hg);replace HB:=Aside0.mk (hb);have HO174:=Aside0.mk (ho);clear HO_6;clear ho hb hg hat))
   go_roundg kj6
   case measure=>have:=HK1.out;have:=HJ6.out;omega
   case rel=>exact ⟨(y172),(wrap64 (x8_1+1)),sT_,H',⟨by have:=HK1.out;have:=HJ6.out;omega⟩,⟨kRC_ HO174.out⟩,⟨kRC_ HO_7.out⟩,⟨h_HB HB.out⟩⟩
  ·replace c15:=Bool.eq_false_iff.mpr c15
   subst c15
   replace H:=bF_ H
   obtain ⟨y175,hy175⟩:∃ y_:List Int,y_=(([]:List Int)):=⟨_,rfl⟩
   rw [← hy175] at H
   have Ny175:=Aside0.mk hy175
   clear hy175
   simp only [Option.some.injEq,Prod.mk.injEq] at H
   obtain ⟨rfl,rfl⟩:=H
   obtain ⟨Ao20,co20,eo20⟩:=Kd.R_slice HO_7.out
   subst eo20
   obtain ⟨ad169,e169,hx169_0,p169,q169⟩:=aiS_ (Kd.R_reads' HO_7.out).2.2 x8_1
   cases e169
   go_wp2_with (first|((with_reducible refine gate_callee (f:=94) rfl ?_);refine goesL_ (some 29) rfl rfl Tryz.func94 krT_ rfl #[.string (rdOf ByteArray.empty t166 x8_1)] rfl agT_ ?_;(with_reducible refine (spec_ParseSet.calls kj6 (rdOf ByteArray.empty t166 x8_1) t170 false _ A14.out).mono ?_);rintro e w21 ⟨rfl,hb⟩;refine ⟨_,rfl,?_⟩;replace HO_6:=Aside0.mk (Kd.R_below (kRC_ HO_6.out) hb);replace HO_7:=Aside0.mk (Kd.R_below (kRC_ HO_7.out) hb);replace HB:=Aside0.mk (below_step (h_HB HB.out) hb);(try clear hb))|((with_reducible refine gate_dst (N:=34) rfl ?_);refine Kd.R_lit (Kd.int .i64) _ 3 ?hg (N:=34) ?hd (xs:=([]:List Int)) (inner:=[]) (ok:=fun _=>True) (okp:=fun _=>True) ?hr ?hp (fun _ hk=>hk) trivial (Below.refl _ _) (Nat.le_refl _) (by simp) ?_;(case hd=>rfl);(case hg=>rfl);(case hr=>exact hrT_);(case hp=>exact (Reps.none _ _));intro v176 w22 ho23 hb hg_ hnew_;clear hg_ hnew_;(first|rw [← Ny175.out] at ho23|(simp only [Int.reduceToNat] at ho23;rw [← Ny175.out] at ho23));replace HO_7:=Aside0.mk (Kd.R_below (kRC_ HO_7.out) hb);have HO177:=Aside0.mk (Kd.R_lower (Kd.R_new' ho23 (Kd.R_lt (kRC_ HO_6.out))) (below_size (h_HB HB.out)));replace HO_6:=Aside0.mk (Kd.R_elder' (kRC_ HO_6.out) (Kd.R_base ho23) hb);replace HB:=Aside0.mk (below_step (h_HB HB.out) hb);clear hb ho23))
   go_ret2
   exact ⟨_,eT_,by (with_reducible repeat (first|apply Kd.R_alloc|apply Kd.R_drewN|apply Kd.R_drew));exact Kd.R_mono HO177.out (fun _ hk=>trivial),h_HB HB.out⟩
 replace c11:=Bool.eq_false_iff.mpr c11
 subst c11
 replace H:=bF_ H
 replace H:=bnd_ H;obtain ⟨t178,A24,H⟩:=H
 by_cases c25:t178=true
 rotate_left
 ·replace c25:=Bool.eq_false_iff.mpr c25
  subst c25
  replace H:=bF_ H
  obtain ⟨y183,hy183⟩:∃ y_:List Int,y_=(([]:List Int)):=⟨_,rfl⟩
  rw [← hy183] at H
  have Ny183:=Aside0.mk hy183
  clear hy183
  simp only [Option.some.injEq,Prod.mk.injEq] at H
  obtain ⟨rfl,rfl⟩:=H
  obtain ⟨Ao34,co34,eo34⟩:=Kd.R_slice HO_6.out
  subst eo34
  go_wp2_with (first|((with_reducible refine gate_callee (f:=22) rfl ?_);refine goesL_ (some 41) rfl rfl Tryz.func22 krT_ rfl #[.int .i64 a0,.slice Ao34 x6_1.length co34] rfl agT_ ?_;(with_reducible refine (spec_IsFamily.calls kj6 a0 _ _ x6_1 false _ ?side1 ?side2 A24.out).mono ?_);(case side1=>repeat (first|exact (Kd.R_reads' HO_6.out).2.2|(with_reducible refine Kd.C_alloc ?_ _)|(with_reducible refine Kd.C_drewN ?_ _)|(with_reducible refine Kd.C_drew ?_)));(case side2=>exact (Kd.R_reads' HO_6.out).2.1);rintro e w' ⟨rfl,⟨nd,rfl⟩⟩;refine ⟨_,rfl,?_⟩)|((with_reducible refine gate_dst (N:=49) rfl ?_);refine Kd.R_lit (Kd.int .i64) _ 3 ?hg (N:=49) ?hd (xs:=([]:List Int)) (inner:=[]) (ok:=fun _=>True) (okp:=fun _=>True) ?hr ?hp (fun _ hk=>hk) trivial (Below.refl _ _) (Nat.le_refl _) (by simp) ?_;(case hd=>rfl);(case hg=>rfl);(case hr=>exact hrT_);(case hp=>exact (Reps.none _ _));intro v184 w35 ho36 hb hg_ hnew_;clear hg_ hnew_;(first|rw [← Ny183.out] at ho36|(simp only [Int.reduceToNat] at ho36;rw [← Ny183.out] at ho36));replace HO_7:=Aside0.mk (Kd.R_below (kRC_ HO_7.out) hb);have HO185:=Aside0.mk (Kd.R_lower (Kd.R_new' ho36 (Kd.R_lt (kRC_ HO_6.out))) (below_size (h_HB HB.out)));replace HO_6:=Aside0.mk (Kd.R_elder' (kRC_ HO_6.out) (Kd.R_base ho36) hb);replace HB:=Aside0.mk (below_step (h_HB HB.out) hb);clear hb ho36))
  go_ret2
  exact ⟨_,eT_,by (with_reducible repeat (first|apply Kd.R_alloc|apply Kd.R_drewN|apply Kd.R_drew));exact Kd.R_mono HO185.out (fun _ hk=>trivial),h_HB HB.out⟩
 subst c25
 replace H:=bT_ H
 replace H:=bnd_ H;obtain ⟨t179,A26,H⟩:=H
 by_cases c27:t179.toList=a1.toList
 ·rw [if_pos c27] at H
  have c27b0:(t179.toList==a1.toList)=true:=beq_iff_eq.mpr c27
  have c27b1:(t179.toList != a1.toList)=false:=bne_eq_false_iff_eq.mpr c27
  clear c27
  simp only [Option.some.injEq,Prod.mk.injEq] at H
  obtain ⟨rfl,rfl⟩:=H
  obtain ⟨Ao28,co28,eo28⟩:=Kd.R_slice HO_6.out
  subst eo28
  go_wp2_with (first|((with_reducible refine gate_callee (f:=22) rfl ?_);refine goesL_ (some 41) rfl rfl Tryz.func22 krT_ rfl #[.int .i64 a0,.slice Ao28 x6_1.length co28] rfl agT_ ?_;(with_reducible refine (spec_IsFamily.calls kj6 a0 _ _ x6_1 true _ ?side1 ?side2 A24.out).mono ?_);(case side1=>repeat (first|exact (Kd.R_reads' HO_6.out).2.2|(with_reducible refine Kd.C_alloc ?_ _)|(with_reducible refine Kd.C_drewN ?_ _)|(with_reducible refine Kd.C_drew ?_)));(case side2=>exact (Kd.R_reads' HO_6.out).2.1);rintro e w' ⟨rfl,⟨nd,rfl⟩⟩;refine ⟨_,rfl,?_⟩)|(go_at_call 37;(with_reducible refine (spec_FamilyText.calls kj6 _ _ x6_1 t179 _ ?side1 ?side2 A26.out).mono ?_);(case side1=>repeat (first|exact (Kd.R_reads' HO_6.out).2.2|(with_reducible refine Kd.C_alloc ?_ _)|(with_reducible refine Kd.C_drewN ?_ _)|(with_reducible refine Kd.C_drew ?_)));(case side2=>exact (Kd.R_reads' HO_6.out).2.1);rintro e w29 ⟨rfl,hb⟩;replace HO_6:=Aside0.mk (Kd.R_below (kRC_ HO_6.out) hb);replace HO_7:=Aside0.mk (Kd.R_below (kRC_ HO_7.out) hb);replace HB:=Aside0.mk (below_step (h_HB HB.out) hb);(try clear hb)))
  go_ret2
  exact ⟨_,eT_,kRC_ HO_6.out,h_HB HB.out⟩
 rw [if_neg c27] at H
 have c27b0:(t179.toList==a1.toList)=false:=beq_eq_false_iff_ne.mpr c27
 have c27b1:(t179.toList != a1.toList)=true:=bne_iff_ne.mpr c27
 obtain ⟨y180,hy180⟩:∃ y_:List Int,y_=(([]:List Int)):=⟨_,rfl⟩
 rw [← hy180] at H
 have Ny180:=Aside0.mk hy180
 clear hy180
 simp only [Option.some.injEq,Prod.mk.injEq] at H
 obtain ⟨rfl,rfl⟩:=H
 obtain ⟨Ao30,co30,eo30⟩:=Kd.R_slice HO_6.out
 subst eo30
 go_wp2_with (first|((with_reducible refine gate_callee (f:=22) rfl ?_);refine goesL_ (some 41) rfl rfl Tryz.func22 krT_ rfl #[.int .i64 a0,.slice Ao30 x6_1.length co30] rfl agT_ ?_;(with_reducible refine (spec_IsFamily.calls kj6 a0 _ _ x6_1 true _ ?side1 ?side2 A24.out).mono ?_);(case side1=>repeat (first|exact (Kd.R_reads' HO_6.out).2.2|(with_reducible refine Kd.C_alloc ?_ _)|(with_reducible refine Kd.C_drewN ?_ _)|(with_reducible refine Kd.C_drew ?_)));(case side2=>exact (Kd.R_reads' HO_6.out).2.1);rintro e w' ⟨rfl,⟨nd,rfl⟩⟩;refine ⟨_,rfl,?_⟩)|(go_at_call 37;(with_reducible refine (spec_FamilyText.calls kj6 _ _ x6_1 t179 _ ?side1 ?side2 A26.out).mono ?_);(case side1=>repeat (first|exact (Kd.R_reads' HO_6.out).2.2|(with_reducible refine Kd.C_alloc ?_ _)|(with_reducible refine Kd.C_drewN ?_ _)|(with_reducible refine Kd.C_drew ?_)));(case side2=>exact (Kd.R_reads' HO_6.out).2.1);rintro e w31 ⟨rfl,hb⟩;replace HO_6:=Aside0.mk (Kd.R_below (kRC_ HO_6.out) hb);replace HO_7:=Aside0.mk (Kd.R_below (kRC_ HO_7.out) hb);replace HB:=Aside0.mk (below_step (h_HB HB.out) hb);(try clear hb))|((with_reducible refine gate_dst (N:=49) rfl ?_);refine Kd.R_lit (Kd.int .i64) _ 3 ?hg (N:=49) ?hd (xs:=([]:List Int)) (inner:=[]) (ok:=fun _=>True) (okp:=fun _=>True) ?hr ?hp (fun _ hk=>hk) trivial (Below.refl _ _) (Nat.le_refl _) (by simp) ?_;(case hd=>rfl);(case hg=>rfl);(case hr=>exact hrT_);(case hp=>exact (Reps.none _ _));intro v181 w32 ho33 hb hg_ hnew_;clear hg_ hnew_;(first|rw [← Ny180.out] at ho33|(simp only [Int.reduceToNat] at ho33;rw [← Ny180.out] at ho33));replace HO_7:=Aside0.mk (Kd.R_below (kRC_ HO_7.out) hb);have HO182:=Aside0.mk (Kd.R_lower (Kd.R_new' ho33 (Kd.R_lt (kRC_ HO_6.out))) (below_size (h_HB HB.out)));replace HO_6:=Aside0.mk (Kd.R_elder' (kRC_ HO_6.out) (Kd.R_base ho33) hb);replace HB:=Aside0.mk (below_step (h_HB HB.out) hb);clear hb ho33))
 go_ret2
 exact ⟨_,eT_,by (with_reducible repeat (first|apply Kd.R_alloc|apply Kd.R_drewN|apply Kd.R_drew));exact Kd.R_mono HO182.out (fun _ hk=>trivial),h_HB HB.out⟩
/-! ### spec_HasSet: function 32 -/
def spec_HasSet.l0:Nat→List Int→Int→Int→Option (Bool)
 | 0,_,_,_=>none
 | k+1,x0,x1,x5=>if x5<(x0.length:Int) then (if 0≤x5 then (if (rd x0 x5)=x1 then (some true) else (spec_HasSet.l0 k x0 x1 (wrap64 (x5+1)))) else (none)) else (some false)
def spec_HasSet.f (k:Nat) (l0:List Int) (a1:Int):Option (Bool):=spec_HasSet.l0 k l0 a1 0
set_option maxHeartbeats 8000000 in
set_option maxRecDepth 100000 in
theorem spec_HasSet.calls (k:Nat) (A0:Option Addr) (c0:Nat) (l0:List Int) (a1:Int) (r:Bool) (w:World) (hr0:Kd.C (Kd.int .i64) w A0 l0.length l0) (hc0:l0.length≤c0) (h:spec_HasSet.f k l0 a1=some r) :
    Calls Tryz.prog 32 #[.slice A0 l0.length c0,.int .i64 a1] w fun e w'=>e=.returned (.bool r)∧Drawn0 w w':=by
 have HR0:=Aside0.mk hr0
 have HC0:=Aside0.mk hc0
 clear hr0 hc0
 have H:(spec_HasSet.l0 k l0 a1 0)=some r:=h
 clear h
 have H':=Aside0.mk H
 clear H
 go_enter Tryz.func32,Tryz.ntmps32
 go_wp2
 go_loopg [5] k (fun kq v5 w'=>∃ (x5_1:Int),v5=.int .i64 x5_1∧Aside0 (spec_HasSet.l0 kq l0 a1 x5_1=some r)∧Aside0 (kq≤k)∧Drawn0 w w')
 case atStart=>exact ⟨(0),sT_,H',⟨Nat.le_refl _⟩,dT_⟩
 case round =>
 clear H'
 try clear p2
 obtain ⟨x5_1,rfl,HA,HK1,⟨m1,rfl⟩⟩:=hrel
 cases gk with
 | zero=>exact absurd HA.out (by simp [spec_HasSet.l0])
 | succ k1 =>
 have H:=HA.out
 clear HA
 simp only [spec_HasSet.l0] at H
 rcases gsn_ H with ⟨c3b0,H⟩|⟨c3b0,H⟩
 ·obtain rfl:=Option.some.inj H
  go_wp2
  go_ret
  exact ⟨sT_,dT_⟩
 replace H:=gsm_ H;obtain ⟨c4b0,H⟩:=H
 by_cases c5:(rd l0 x5_1)=a1
 ·rw [if_pos c5] at H
  have c5b0:((rd l0 x5_1)==a1)=true:=beq_iff_eq.mpr c5
  have c5b1:((rd l0 x5_1) != a1)=false:=bne_eq_false_iff_eq.mpr c5
  clear c5
  obtain rfl:=Option.some.inj H
  obtain ⟨ad186,e186,hx186_0,p186,q186⟩:=aiI_ HR0.out x5_1
  cases e186
  go_wp2
  go_ret
  exact ⟨sT_,dT_⟩
 rw [if_neg c5] at H
 have c5b0:((rd l0 x5_1)==a1)=false:=beq_eq_false_iff_ne.mpr c5
 have c5b1:((rd l0 x5_1) != a1)=true:=bne_iff_ne.mpr c5
 have H':=Aside0.mk H
 clear H
 obtain ⟨ad186,e186,hx186_0,p186,q186⟩:=aiI_ HR0.out x5_1
 cases e186
 go_wp2
 go_roundg k1
 case measure=>have:=HK1.out;omega
 case rel=>exact ⟨(wrap64 (x5_1+1)),sT_,H',⟨by have:=HK1.out;omega⟩,dT_⟩
/-! ### spec_l4Exchange: function 101 -/
def spec_l4Exchange.l0:Nat→Int→Int→Int→Int→Int→List Int→Option (Bool)
 | 0,_,_,_,_,_,_=>none
 | k+1,x1,x2,x3,x9,x188000,x188001=>if x9<x188000 then ((spec_l2Has.f x2 x9).bind fun t188=>(if t188=true then ((spec_l2Has.f x1 x9).bind fun t189=>(if t189=true then (spec_l4Exchange.l0 k x1 x2 x3 (wrap64 (x9+1)) x188000 x188001) else (if 0≤(IntKind.u64.wrap (x3)) then (if 0≤(IntKind.u64.wrap (x9)) then ((spec_HasSet.f k x188001 (wrap64 ((wrap64 (x1-(shl .i64 1 (IntKind.u64.wrap (x3)))))+(shl .i64 1 (IntKind.u64.wrap (x9)))))).bind fun t190=>(if t190=true then (some true) else (spec_l4Exchange.l0 k x1 x2 x3 (wrap64 (x9+1)) x188000 x188001))) else (none)) else (none)))) else (spec_l4Exchange.l0 k x1 x2 x3 (wrap64 (x9+1)) x188000 x188001))) else (some false)
def spec_l4Exchange.f (k:Nat) (a0_0:Int) (l0_1:List Int) (a1:Int) (a2:Int) (a3:Int):Option (Bool):=spec_l4Exchange.l0 k a1 a2 a3 0 a0_0 l0_1
set_option maxHeartbeats 8000000 in
set_option maxRecDepth 100000 in
theorem spec_l4Exchange.calls (k:Nat) (a0_0:Int) (A0_1:Option Addr) (c0_1:Nat) (l0_1:List Int) (a1:Int) (a2:Int) (a3:Int) (r:Bool) (w:World) (hr0_1:Kd.C (Kd.int .i64) w A0_1 l0_1.length l0_1) (hc0_1:l0_1.length≤c0_1) (h:spec_l4Exchange.f k a0_0 l0_1 a1 a2 a3=some r) :
    Calls Tryz.prog 101 #[.agg #[.int .i64 a0_0,.slice A0_1 l0_1.length c0_1],.int .i64 a1,.int .i64 a2,.int .i64 a3] w fun e w'=>e=.returned (.bool r)∧Below w.heap.size w w':=by
 have hu24:=Tryz.underlying24
 have HR0_1:=Aside0.mk hr0_1
 have HC0_1:=Aside0.mk hc0_1
 clear hr0_1 hc0_1
 have HB:=Aside0.mk (Below.refl w.heap.size w)
 have H:(spec_l4Exchange.l0 k a1 a2 a3 0 a0_0 l0_1)=some r:=h
 clear h
 have H':=Aside0.mk H
 clear H
 go_enter Tryz.func101,Tryz.ntmps101
 go_wp2_with (first|((with_reducible refine gate_dst (N:=4) rfl ?_);refine bx_ (N:=4) (cs:=#[.int .i64 a0_0,.slice A0_1 l0_1.length c0_1]) (t:=24) ?_;intro gb187 hg w5 hbox hb;have BK187:=Aside0.mk (hbox);have GW187:=Aside0.mk (gw_ hg (h_HB HB.out));have GE187:=Aside0.mk (gw_ hg (h_HB HB.out));replace HB:=Aside0.mk (below_step (h_HB HB.out) hb);clear hb hbox hg))
 go_loopg [9] k (fun kq v9 w'=>∃ (x9_1:Int),v9=.int .i64 x9_1∧Aside0 (spec_l4Exchange.l0 kq a1 a2 a3 x9_1 a0_0 l0_1=some r)∧Aside0 (kq≤k)∧Aside0 (w'.heap[gb187]?=some (.cells #[.int .i64 a0_0,(.slice A0_1 l0_1.length c0_1)] 24 (0,0)))∧Aside0 (Below w.heap.size w w'))
 case atStart=>exact ⟨(0),sT_,H',⟨Nat.le_refl _⟩,⟨bkC_ BK187.out⟩,⟨h_HB HB.out⟩⟩
 case round =>
 clear H'
 try clear c1
 try clear p2
 obtain ⟨x9_1,rfl,HA,HK1,BK187,HB⟩:=hrel
 cases gk with
 | zero=>exact absurd HA.out (by simp [spec_l4Exchange.l0])
 | succ k1 =>
 have H:=HA.out
 clear HA
 simp only [spec_l4Exchange.l0] at H
 rcases gsn_ H with ⟨c6b0,H⟩|⟨c6b0,H⟩
 ·obtain rfl:=Option.some.inj H
  obtain ⟨hcz23_0,hcz23_1,hfz23_0,hfz23_1⟩:=bz2_ BK187.out
  go_wp2
  go_ret
  exact ⟨eT_,h_HB HB.out⟩
 replace H:=bnd_ H;obtain ⟨t188,A7,H⟩:=H
 by_cases c8:t188=true
 rotate_left
 ·replace c8:=Bool.eq_false_iff.mpr c8
  subst c8
  replace H:=bF_ H
  have H':=Aside0.mk H
  clear H
  obtain ⟨hcz22_0,hcz22_1,hfz22_0,hfz22_1⟩:=bz2_ BK187.out
  go_wp2_with (first|((with_reducible refine gate_callee (f:=100) rfl ?_);refine goesL_ (some 18) rfl rfl Tryz.func100 krT_ rfl #[.int .i64 a2,.int .i64 x9_1] rfl agT_ ?_;(with_reducible refine (spec_l2Has.calls a2 x9_1 false _ A7.out).mono ?_);rintro e w' ⟨rfl,⟨nd,rfl⟩⟩;refine ⟨_,rfl,?_⟩))
  go_roundg k1
  case measure=>have:=HK1.out;omega
  case rel=>exact ⟨(wrap64 (x9_1+1)),sT_,H',⟨by have:=HK1.out;omega⟩,⟨bkC_ BK187.out⟩,⟨h_HB HB.out⟩⟩
 subst c8
 replace H:=bT_ H
 replace H:=bnd_ H;obtain ⟨t189,A9,H⟩:=H
 by_cases c10:t189=true
 ·subst c10
  replace H:=bT_ H
  have H':=Aside0.mk H
  clear H
  obtain ⟨hcz11_0,hcz11_1,hfz11_0,hfz11_1⟩:=bz2_ BK187.out
  go_wp2_with (first|((with_reducible refine gate_callee (f:=100) rfl ?_);refine goesL_ (some 18) rfl rfl Tryz.func100 krT_ rfl #[.int .i64 a2,.int .i64 x9_1] rfl agT_ ?_;(with_reducible refine (spec_l2Has.calls a2 x9_1 true _ A7.out).mono ?_);rintro e w' ⟨rfl,⟨nd,rfl⟩⟩;refine ⟨_,rfl,?_⟩)|(go_at_call 100;(with_reducible refine (spec_l2Has.calls a1 x9_1 true _ A9.out).mono ?_);rintro e w' ⟨rfl,⟨nd,rfl⟩⟩))
  go_roundg k1
  case measure=>have:=HK1.out;omega
  case rel=>exact ⟨(wrap64 (x9_1+1)),sT_,H',⟨by have:=HK1.out;omega⟩,⟨bkC_ BK187.out⟩,⟨h_HB HB.out⟩⟩
 replace c10:=Bool.eq_false_iff.mpr c10
 subst c10
 replace H:=bF_ H
 obtain ⟨ji12,hji12⟩:∃ j_:Int,(IntKind.u64.wrap (a3))=j_:=⟨_,rfl⟩
 first |rw [hji12] at H|simp only [hji12] at H
 (try rw [hji12] at A7)
 (try rw [hji12] at A9)
 by_cases c13:0≤(ji12)
 rotate_left
 ·rw [if_neg c13] at H
  exact absurd H (by simp)
 rw [if_pos c13] at H
 have c13b0:=eq_true c13
 have c13b1:decide (0≤(ji12))=true:=decide_eq_true c13
 clear c13
 obtain ⟨ji14,hji14⟩:∃ j_:Int,(shl .i64 1 (ji12))=j_:=⟨_,rfl⟩
 first |rw [hji14] at H|simp only [hji14] at H
 (try rw [hji14] at A7)
 (try rw [hji14] at A9)
 have hji14_:(IntKind.i64.wrap (1*2 ^ min (ji12).toNat 64))=ji14:=hji14
 have hji14z:(ji12)≤64→(IntKind.i64.wrap (1*2 ^ (ji12).toNat))=ji14:=shl_small hji14
 have hji14u:(IntKind.i64.wrap (2 ^ min (ji12).toNat 64))=ji14:=by have h_:=hji14_;rw [Int.one_mul] at h_;exact h_
 have hji14v:(ji12)≤64→(IntKind.i64.wrap (2 ^ (ji12).toNat))=ji14:=fun hle_=>by have h_:=hji14z hle_;rw [Int.one_mul] at h_;exact h_
 have hji14y:(wrap64 (1*2 ^ min (ji12).toNat 64))=ji14:=(i64_w _).symm.trans hji14_
 have hji14x:(ji12)≤64→(wrap64 (1*2 ^ (ji12).toNat))=ji14:=fun h_=>(i64_w _).symm.trans (hji14z h_)
 obtain ⟨ji15,hji15⟩:∃ j_:Int,(IntKind.u64.wrap (x9_1))=j_:=⟨_,rfl⟩
 first |rw [hji15] at H|simp only [hji15] at H
 (try rw [hji15] at A7)
 (try rw [hji15] at A9)
 by_cases c16:0≤(ji15)
 rotate_left
 ·rw [if_neg c16] at H
  exact absurd H (by simp)
 rw [if_pos c16] at H
 have c16b0:=eq_true c16
 have c16b1:decide (0≤(ji15))=true:=decide_eq_true c16
 clear c16
 obtain ⟨ji17,hji17⟩:∃ j_:Int,(shl .i64 1 (ji15))=j_:=⟨_,rfl⟩
 first |rw [hji17] at H|simp only [hji17] at H
 (try rw [hji17] at A7)
 (try rw [hji17] at A9)
 have hji17_:(IntKind.i64.wrap (1*2 ^ min (ji15).toNat 64))=ji17:=hji17
 have hji17z:(ji15)≤64→(IntKind.i64.wrap (1*2 ^ (ji15).toNat))=ji17:=shl_small hji17
 have hji17u:(IntKind.i64.wrap (2 ^ min (ji15).toNat 64))=ji17:=by have h_:=hji17_;rw [Int.one_mul] at h_;exact h_
 have hji17v:(ji15)≤64→(IntKind.i64.wrap (2 ^ (ji15).toNat))=ji17:=fun hle_=>by have h_:=hji17z hle_;rw [Int.one_mul] at h_;exact h_
 have hji17y:(wrap64 (1*2 ^ min (ji15).toNat 64))=ji17:=(i64_w _).symm.trans hji17_
 have hji17x:(ji15)≤64→(wrap64 (1*2 ^ (ji15).toNat))=ji17:=fun h_=>(i64_w _).symm.trans (hji17z h_)
 replace H:=bnd_ H;obtain ⟨t190,A18,H⟩:=H
 by_cases c19:t190=true
 ·subst c19
  replace H:=bT_ H
  obtain rfl:=Option.some.inj H
  obtain ⟨hcz20_0,hcz20_1,hfz20_0,hfz20_1⟩:=bz2_ BK187.out
  go_wp2_with (first|((with_reducible refine gate_callee (f:=100) rfl ?_);refine goesL_ (some 18) rfl rfl Tryz.func100 krT_ rfl #[.int .i64 a2,.int .i64 x9_1] rfl agT_ ?_;(with_reducible refine (spec_l2Has.calls a2 x9_1 true _ A7.out).mono ?_);rintro e w' ⟨rfl,⟨nd,rfl⟩⟩;refine ⟨_,rfl,?_⟩)|(go_at_call 100;(with_reducible refine (spec_l2Has.calls a1 x9_1 false _ A9.out).mono ?_);rintro e w' ⟨rfl,⟨nd,rfl⟩⟩)|(go_at_call 32;(with_reducible refine (spec_HasSet.calls k1 _ _ l0_1 (wrap64 ((wrap64 (a1-(ji14)))+(ji17))) true _ ?side1 ?side2 A18.out).mono ?_);(case side1=>repeat (first|exact (Kd.C_below HR0_1.out (h_HB HB.out))|(with_reducible refine Kd.C_alloc ?_ _)|(with_reducible refine Kd.C_drewN ?_ _)|(with_reducible refine Kd.C_drew ?_)));(case side2=>exact HC0_1.out);rintro e w' ⟨rfl,⟨nd,rfl⟩⟩))
  go_ret
  exact ⟨by first|rfl|(simp [errW_none,errW_some]<;>rfl)|(simp only [← hji12,← hji14,← hji15,← hji17];first|rfl|(simp [errW_none,errW_some]<;>rfl))|(simp [*,errW_none,errW_some]<;>rfl),h_HB HB.out⟩
 replace c19:=Bool.eq_false_iff.mpr c19
 subst c19
 replace H:=bF_ H
 have H':=Aside0.mk H
 clear H
 obtain ⟨hcz21_0,hcz21_1,hfz21_0,hfz21_1⟩:=bz2_ BK187.out
 go_wp2_with (first|((with_reducible refine gate_callee (f:=100) rfl ?_);refine goesL_ (some 18) rfl rfl Tryz.func100 krT_ rfl #[.int .i64 a2,.int .i64 x9_1] rfl agT_ ?_;(with_reducible refine (spec_l2Has.calls a2 x9_1 true _ A7.out).mono ?_);rintro e w' ⟨rfl,⟨nd,rfl⟩⟩;refine ⟨_,rfl,?_⟩)|(go_at_call 100;(with_reducible refine (spec_l2Has.calls a1 x9_1 false _ A9.out).mono ?_);rintro e w' ⟨rfl,⟨nd,rfl⟩⟩)|(go_at_call 32;(with_reducible refine (spec_HasSet.calls k1 _ _ l0_1 (wrap64 ((wrap64 (a1-(ji14)))+(ji17))) false _ ?side1 ?side2 A18.out).mono ?_);(case side1=>repeat (first|exact (Kd.C_below HR0_1.out (h_HB HB.out))|(with_reducible refine Kd.C_alloc ?_ _)|(with_reducible refine Kd.C_drewN ?_ _)|(with_reducible refine Kd.C_drew ?_)));(case side2=>exact HC0_1.out);rintro e w' ⟨rfl,⟨nd,rfl⟩⟩))
 go_roundg k1
 case measure=>have:=HK1.out;omega
 case rel=>exact ⟨(wrap64 (x9_1+1)),sT_,H',⟨by have:=HK1.out;omega⟩,⟨bkC_ BK187.out⟩,⟨h_HB HB.out⟩⟩
end Go.Proofs.YtekegbacnagbcaaGreatDoor.P
