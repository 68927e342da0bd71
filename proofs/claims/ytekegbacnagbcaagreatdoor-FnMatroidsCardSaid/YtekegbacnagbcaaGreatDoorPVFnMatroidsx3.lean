-- written by gprint (a program of this session's, round the kit's print), out of the translation and hand-written texts
import Derived.Test.YtekegbacnagbcaaGreatDoorPVFnMatroidsx0
import Derived.Test.YtekegbacnagbcaaGreatDoorPVFnMatroidsx2
namespace Go.Proofs.YtekegbacnagbcaaGreatDoor.P
open Go.RowKit Go.Proofs.YtekegbacnagbcaaGreatDoorW.PrintWords Go.Proofs.YtekegbacnagbcaaGreatDoorW.PrintLast Go.Proofs.YtekegbacnagbcaaGreatDoorW.PrintMore
attribute [local go_sem] max2_int min2_int max_two min_two max_three min_three max_four min_four   -- for this text's walks alone
set_option linter.unusedVariables false
set_option linter.unusedSimpArgs false
/-! ### spec_Join: function 96 -/
def spec_Join.l0:Nat→List ByteArray→ByteArray→List Int→Int→Option (ByteArray)
 | 0,_,_,_,_=>none
 | k+1,x0,x1,x5,x6=>if x6<(x0.length:Int) then (if x6>0 then (if x5.length+x1.size<140737488355328 then ((some (x5++bytesOf x1:List Int)).bind fun y129=>(if 0≤x6 then (if y129.length+(rdOf ByteArray.empty x0 x6).size<140737488355328 then (spec_Join.l0 k x0 x1 (y129++bytesOf (rdOf ByteArray.empty x0 x6)) (wrap64 (x6+1))) else (none)) else (none))) else (none)) else (if 0≤x6 then (if x5.length+(rdOf ByteArray.empty x0 x6).size<140737488355328 then (spec_Join.l0 k x0 x1 (x5++bytesOf (rdOf ByteArray.empty x0 x6)) (wrap64 (x6+1))) else (none)) else (none))) else (some (strOfNums x5))
def spec_Join.f (k:Nat) (l0:List ByteArray) (a1:ByteArray):Option (ByteArray):=spec_Join.l0 k l0 a1 (([]:List Int)) 0
set_option maxHeartbeats 8000000 in
set_option maxRecDepth 100000 in
theorem spec_Join.calls (k:Nat) (A0:Option Addr) (c0:Nat) (l0:List ByteArray) (a1:ByteArray) (r:ByteArray) (w:World) (hr0:Kd.C Kd.string w A0 l0.length l0) (hc0:l0.length≤c0) (h:spec_Join.f k l0 a1=some r) :
    Calls Tryz.prog 96 #[.slice A0 l0.length c0,.string a1] w fun e w'=>e=.returned (.string r)∧Below w.heap.size w w':=by
 have HR0:=Aside0.mk hr0
 have HC0:=Aside0.mk hc0
 clear hr0 hc0
 have HB:=Aside0.mk (Below.refl w.heap.size w)
 have H:(spec_Join.l0 k l0 a1 (([]:List Int)) 0)=some r:=h
 clear h
 obtain ⟨y126,hy126⟩:∃ y_:List Int,y_=(([]:List Int)):=⟨_,rfl⟩
 rw [← hy126] at H
 have Ny126:=Aside0.mk hy126
 clear hy126
 have H':=Aside0.mk H
 clear H
 go_enter Tryz.func96,Tryz.ntmps96
 go_wp2_with (first|((with_reducible refine gate_dst (N:=7) rfl ?_);refine Kd.R_lit (Kd.int .u8) _ 5 ?hg (N:=7) ?hd (xs:=([]:List Int)) (inner:=[]) (ok:=fun _=>True) (okp:=fun _=>True) ?hr ?hp (fun _ hk=>hk) trivial (Below.refl _ _) (Nat.le_refl _) (by simp) ?_;(case hd=>rfl);(case hg=>rfl);(case hr=>exact hrT_);(case hp=>exact (Reps.none _ _));intro v127 w3 ho4 hb hg_ hnew_;clear hg_ hnew_;(first|rw [← Ny126.out] at ho4|(simp only [Int.reduceToNat] at ho4;rw [← Ny126.out] at ho4));have HO128:=Aside0.mk (Kd.R_lower ho4 (below_size (h_HB HB.out)));replace HB:=Aside0.mk (below_step (h_HB HB.out) hb);clear hb ho4))
 go_loopg [5,6] k (fun kq v5 v6 w'=>∃ (x5_1:List Int) (x6_1:Int),v6=.int .i64 x6_1∧Aside0 (spec_Join.l0 kq l0 a1 x5_1 x6_1=some r)∧Aside0 (kq≤k)∧Aside0 (Kd.R (Kd.int .u8) 5 w' w.heap.size (fun _=>True) v5 x5_1)∧Aside0 (Below w.heap.size w w'))
 case atStart=>exact ⟨(y126),(0),sT_,H',⟨Nat.le_refl _⟩,⟨kRC_ HO128.out⟩,⟨h_HB HB.out⟩⟩
 case round =>
 clear H'
 try clear p2
 obtain ⟨x5_1,x6_1,rfl,HA,HK1,HO_5,HB⟩:=hrel
 cases gk with
 | zero=>exact absurd HA.out (by simp [spec_Join.l0])
 | succ k1 =>
 have H:=HA.out
 clear HA
 simp only [spec_Join.l0] at H
 rcases gsn_ H with ⟨c5b0,H⟩|⟨c5b0,H⟩
 ·obtain rfl:=Option.some.inj H
  have hcv15:=own_string (P:=Tryz.prog) Tryz.underlying30 Tryz.underlying5 Tryz.underlying9 (Kd.own_of_R HO_5.out)
  go_wp2
  go_ret
  exact ⟨eT_,h_HB HB.out⟩
 by_cases c6:x6_1>0
 ·rw [if_pos c6] at H
  have c6b0:decide (0<x6_1)=true:=decide_eq_true c6
  clear c6
  by_cases c7:x5_1.length+a1.size<140737488355328
  rotate_left
  ·rw [if_neg c7] at H
   exact absurd H (by simp)
  rw [if_pos c7] at H
  have LMc7:=Aside0.mk c7
  clear c7
  replace H:=sy_ H;obtain ⟨y129,Ny129,H⟩:=H
  replace H:=gsm_ H;obtain ⟨c8b0,H⟩:=H
  by_cases c9:y129.length+(rdOf ByteArray.empty l0 x6_1).size<140737488355328
  ·rw [if_pos c9] at H
   have LMc9:=Aside0.mk c9
   clear c9
   obtain ⟨y133,hy133⟩:∃ y_:List Int,y_=(y129++bytesOf (rdOf ByteArray.empty l0 x6_1)):=⟨_,rfl⟩
   rw [← hy133] at H
   have Ny133:=Aside0.mk hy133
   clear hy133
   have H':=Aside0.mk H
   clear H
   go_wp2_with (first|(at_builtin;refine print_append_str (w0:=w) w.heap.size rfl (.tmp 16) _ 30 9 5 rfl Tryz.underlying30 Tryz.underlying9 info5 u5 x5_1 a1 rfl rfl ?aO ?aB ?aS ?aL ?_;(case aB=>exact (h_HB HB.out));(case aO=>exact (Kd.own_of_R (kRC_ HO_5.out)));(case aS=>exact (below_size (h_HB HB.out)));(case aL=>have:=LMc7.out;omega);intro v130 w10 ho0 hb hg;have ho:=Kd.R_of_own (h1:=fun _=>rfl) (ok:=fun _=>True) ho0 (fun _ _=>trivial);clear ho0;have hat:=True.intro;rw [← Ny129.out] at ho;change Kd.R (Kd.int .u8) 5 w10 w.heap.size (fun _=>True) v130 y129 at ho;replace HB:=Aside0.mk (hb);have HO131:=Aside0.mk (ho);clear HO_5;clear ho hb hg hat;obtain ⟨ad132,e132,hx132_0,p132,q132⟩:=aiS_ HR0.out x6_1;cases e132;replace hx132_0:=(HB.out.cell (World.block_lt_of_cell? w _ hx132_0)).trans hx132_0)|(at_builtin;refine print_append_str (w0:=w) w.heap.size rfl (.tmp 19) _ 30 9 5 rfl Tryz.underlying30 Tryz.underlying9 info5 v130 y129 (rdOf ByteArray.empty l0 x6_1) rfl rfl ?aO ?aB ?aS ?aL ?_;(case aB=>exact (h_HB HB.out));(case aO=>exact (Kd.own_of_R (kRC_ HO131.out)));(case aS=>exact (below_size (h_HB HB.out)));(case aL=>have:=LMc9.out;omega);intro v134 w11 ho0 hb hg;have ho:=Kd.R_of_own (h1:=fun _=>rfl) (ok:=fun _=>True) ho0 (fun _ _=>trivial);clear ho0;have hat:=True.intro;rw [← Ny133.out] at ho;change Kd.R (Kd.int .u8) 5 w11 w.heap.size (fun _=>True) v134 y133 at ho;replace HB:=Aside0.mk (hb);have HO135:=Aside0.mk (ho);clear HO131;clear ho hb hg hat))
   go_roundg k1
   case measure=>have:=HK1.out;omega
   case rel=>exact ⟨(y133),(wrap64 (x6_1+1)),sT_,H',⟨by have:=HK1.out;omega⟩,⟨kRC_ HO135.out⟩,⟨h_HB HB.out⟩⟩
  ·rw [if_neg c9] at H
   exact absurd H (by simp)
 ·rw [if_neg c6] at H
  have c6b0:decide (0<x6_1)=false:=decide_eq_false c6
  clear c6
  replace H:=gsm_ H;obtain ⟨c12b0,H⟩:=H
  by_cases c13:x5_1.length+(rdOf ByteArray.empty l0 x6_1).size<140737488355328
  ·rw [if_pos c13] at H
   have LMc13:=Aside0.mk c13
   clear c13
   obtain ⟨y137,hy137⟩:∃ y_:List Int,y_=(x5_1++bytesOf (rdOf ByteArray.empty l0 x6_1)):=⟨_,rfl⟩
   rw [← hy137] at H
   have Ny137:=Aside0.mk hy137
   clear hy137
   have H':=Aside0.mk H
   clear H
   obtain ⟨ad136,e136,hx136_0,p136,q136⟩:=aiS_ HR0.out x6_1
   cases e136
   replace hx136_0:=(HB.out.cell (World.block_lt_of_cell? w _ hx136_0)).trans hx136_0
   go_wp2_with (first|(at_builtin;refine print_append_str (w0:=w) w.heap.size rfl (.tmp 19) _ 30 9 5 rfl Tryz.underlying30 Tryz.underlying9 info5 u5 x5_1 (rdOf ByteArray.empty l0 x6_1) rfl rfl ?aO ?aB ?aS ?aL ?_;(case aB=>exact (h_HB HB.out));(case aO=>exact (Kd.own_of_R (kRC_ HO_5.out)));(case aS=>exact (below_size (h_HB HB.out)));(case aL=>have:=LMc13.out;omega);intro v138 w14 ho0 hb hg;have ho:=Kd.R_of_own (h1:=fun _=>rfl) (ok:=fun _=>True) ho0 (fun _ _=>trivial);clear ho0;have hat:=True.intro;rw [← Ny137.out] at ho;change Kd.R (Kd.int .u8) 5 w14 w.heap.size (fun _=>True) v138 y137 at ho;replace HB:=Aside0.mk (hb);have HO139:=Aside0.mk (ho);clear HO_5;clear ho hb hg hat))
   go_roundg k1
   case measure=>have:=HK1.out;omega
   case rel=>exact ⟨(y137),(wrap64 (x6_1+1)),sT_,H',⟨by have:=HK1.out;omega⟩,⟨kRC_ HO139.out⟩,⟨h_HB HB.out⟩⟩
  ·rw [if_neg c13] at H
   exact absurd H (by simp)
/-! ### spec_FamilyText: function 37 -/
def spec_FamilyText.l0:Nat→List Int→List ByteArray→Int→Option (ByteArray)
 | 0,_,_,_=>none
 | k+1,x0,x3,x4=>if x4<(x0.length:Int) then (if 0≤x4 then ((spec_SetText.f k (rd x0 x4)).bind fun t145=>(if x3.length<8796093022208 then (spec_FamilyText.l0 k x0 (x3++[t145]) (wrap64 (x4+1))) else (none))) else (none)) else ((spec_Join.f k x3 (⟨#[44]⟩:ByteArray)).bind fun t149=>(some t149))
def spec_FamilyText.f (k:Nat) (l0:List Int):Option (ByteArray):=(spec_l3Sets.f k 8 l0).bind fun t140=>(if t140=true then (if (l0.length:Int)=0 then (some (⟨#[110,111,110,101]⟩:ByteArray)) else (spec_FamilyText.l0 k l0 (([]:List ByteArray)) 0)) else (some (⟨#[]⟩:ByteArray)))
set_option maxHeartbeats 8000000 in
set_option maxRecDepth 100000 in
theorem spec_FamilyText.calls (k:Nat) (A0:Option Addr) (c0:Nat) (l0:List Int) (r:ByteArray) (w:World) (hr0:Kd.C (Kd.int .i64) w A0 l0.length l0) (hc0:l0.length≤c0) (h:spec_FamilyText.f k l0=some r) :
    Calls Tryz.prog 37 #[.slice A0 l0.length c0] w fun e w'=>e=.returned (.string r)∧Below w.heap.size w w':=by
 have HR0:=Aside0.mk hr0
 have HC0:=Aside0.mk hc0
 clear hr0 hc0
 have HB:=Aside0.mk (Below.refl w.heap.size w)
 unfold spec_FamilyText.f at h
 have H:=h
 clear h
 replace H:=bnd_ H;obtain ⟨t140,A2,H⟩:=H
 by_cases c3:t140=true
 rotate_left
 ·replace c3:=Bool.eq_false_iff.mpr c3
  subst c3
  replace H:=bF_ H
  obtain rfl:=Option.some.inj H
  go_enter Tryz.func37,Tryz.ntmps37
  go_wp2_with (first|((with_reducible refine gate_callee (f:=76) rfl ?_);refine goesL_ (some 6) rfl rfl Tryz.func76 krT_ rfl #[.int .i64 8,.slice A0 l0.length c0] rfl agT_ ?_;(with_reducible refine (spec_l3Sets.calls k 8 _ _ l0 false _ ?side1 ?side2 A2.out).mono ?_);(case side1=>repeat (first|exact HR0.out|(with_reducible refine Kd.C_alloc ?_ _)|(with_reducible refine Kd.C_drewN ?_ _)|(with_reducible refine Kd.C_drew ?_)));(case side2=>exact HC0.out);rintro e w' ⟨rfl,⟨nd,rfl⟩⟩;refine ⟨_,rfl,?_⟩))
  go_ret
  exact ⟨eT_,h_HB HB.out⟩
 subst c3
 replace H:=bT_ H
 by_cases c4:(l0.length:Int)=0
 ·rw [if_pos c4] at H
  have c4b0:((l0.length:Int)==0)=true:=beq_iff_eq.mpr c4
  have c4b1:((l0.length:Int) != 0)=false:=bne_eq_false_iff_eq.mpr c4
  clear c4
  obtain rfl:=Option.some.inj H
  go_enter Tryz.func37,Tryz.ntmps37
  go_wp2_with (first|((with_reducible refine gate_callee (f:=76) rfl ?_);refine goesL_ (some 6) rfl rfl Tryz.func76 krT_ rfl #[.int .i64 8,.slice A0 l0.length c0] rfl agT_ ?_;(with_reducible refine (spec_l3Sets.calls k 8 _ _ l0 true _ ?side1 ?side2 A2.out).mono ?_);(case side1=>repeat (first|exact HR0.out|(with_reducible refine Kd.C_alloc ?_ _)|(with_reducible refine Kd.C_drewN ?_ _)|(with_reducible refine Kd.C_drew ?_)));(case side2=>exact HC0.out);rintro e w' ⟨rfl,⟨nd,rfl⟩⟩;refine ⟨_,rfl,?_⟩))
  go_ret
  exact ⟨eT_,h_HB HB.out⟩
 rw [if_neg c4] at H
 have c4b0:((l0.length:Int)==0)=false:=beq_eq_false_iff_ne.mpr c4
 have c4b1:((l0.length:Int) != 0)=true:=bne_iff_ne.mpr c4
 have c4b2:¬ (l0=[]):=fun h_=>c4 (by rw [h_];rfl)
 obtain ⟨y141,hy141⟩:∃ y_:List ByteArray,y_=(([]:List ByteArray)):=⟨_,rfl⟩
 rw [← hy141] at H
 have Ny141:=Aside0.mk hy141
 clear hy141
 have H':=Aside0.mk H
 clear H
 go_enter Tryz.func37,Tryz.ntmps37
 go_wp2_with (first|((with_reducible refine gate_callee (f:=76) rfl ?_);refine goesL_ (some 6) rfl rfl Tryz.func76 krT_ rfl #[.int .i64 8,.slice A0 l0.length c0] rfl agT_ ?_;(with_reducible refine (spec_l3Sets.calls k 8 _ _ l0 true _ ?side1 ?side2 A2.out).mono ?_);(case side1=>repeat (first|exact HR0.out|(with_reducible refine Kd.C_alloc ?_ _)|(with_reducible refine Kd.C_drewN ?_ _)|(with_reducible refine Kd.C_drew ?_)));(case side2=>exact HC0.out);rintro e w' ⟨rfl,⟨nd,rfl⟩⟩;refine ⟨_,rfl,?_⟩)|((with_reducible refine gate_dst (N:=11) rfl ?_);refine Kd.R_lit Kd.string _ 9 ?hg (N:=11) ?hd (xs:=([]:List ByteArray)) (inner:=[]) (ok:=fun _=>True) (okp:=fun _=>True) ?hr ?hp (fun _ hk=>hk) trivial (Below.refl _ _) (Nat.le_refl _) (by simp) ?_;(case hd=>rfl);(case hg=>rfl);(case hr=>exact hrT_);(case hp=>exact (Reps.none _ _));intro v142 w5 ho6 hb hg_ hnew_;clear hg_ hnew_;(first|rw [← Ny141.out] at ho6|(simp only [Int.reduceToNat] at ho6;rw [← Ny141.out] at ho6));have HO143:=Aside0.mk (Kd.R_lower ho6 (below_size (h_HB HB.out)));replace HB:=Aside0.mk (below_step (h_HB HB.out) hb);clear hb ho6))
 go_loopg [3,4] k (fun kq v3 v4 w'=>∃ (x3_1:List ByteArray) (x4_1:Int),v4=.int .i64 x4_1∧Aside0 (spec_FamilyText.l0 kq l0 x3_1 x4_1=some r)∧Aside0 (kq≤k)∧Aside0 (Kd.R Kd.string 9 w' w.heap.size (fun _=>True) v3 x3_1)∧Aside0 (Below w.heap.size w w'))
 case atStart=>exact ⟨(y141),(0),sT_,H',⟨Nat.le_refl _⟩,⟨kRC_ HO143.out⟩,⟨h_HB HB.out⟩⟩
 case round =>
 clear H'
 try clear p2
 try clear c3
 try clear c4
 try clear c4b0
 try clear c4b1
 try clear c4b2
 obtain ⟨x3_1,x4_1,rfl,HA,HK1,HO_3,HB⟩:=hrel
 cases gk with
 | zero=>exact absurd HA.out (by simp [spec_FamilyText.l0])
 | succ k1 =>
 have H:=HA.out
 clear HA
 simp only [spec_FamilyText.l0] at H
 rcases gsn_ H with ⟨c7b0,H⟩|⟨c7b0,H⟩
 ·replace H:=bnd_ H;obtain ⟨t149,A13,H⟩:=H
  obtain rfl:=Option.some.inj H
  obtain ⟨Ao14,co14,eo14⟩:=Kd.R_slice HO_3.out
  subst eo14
  go_wp2_with (first|((with_reducible refine gate_callee (f:=96) rfl ?_);refine goesL_ (some 27) rfl rfl Tryz.func96 krT_ rfl #[.slice Ao14 x3_1.length co14,.string (⟨#[44]⟩:ByteArray)] rfl agT_ ?_;(with_reducible refine (spec_Join.calls k1 _ _ x3_1 (⟨#[44]⟩:ByteArray) t149 _ ?side1 ?side2 A13.out).mono ?_);(case side1=>repeat (first|exact (Kd.R_reads' HO_3.out).2.2|(with_reducible refine Kd.C_alloc ?_ _)|(with_reducible refine Kd.C_drewN ?_ _)|(with_reducible refine Kd.C_drew ?_)));(case side2=>exact (Kd.R_reads' HO_3.out).2.1);rintro e w15 ⟨rfl,hb⟩;refine ⟨_,rfl,?_⟩;replace HO_3:=Aside0.mk (Kd.R_below (kRC_ HO_3.out) hb);replace HB:=Aside0.mk (below_step (h_HB HB.out) hb);(try clear hb)))
  go_ret
  exact ⟨eT_,h_HB HB.out⟩
 replace H:=gsm_ H;obtain ⟨c8b0,H⟩:=H
 replace H:=bnd_ H;obtain ⟨t145,A9,H⟩:=H
 by_cases c10:x3_1.length<8796093022208
 ·rw [if_pos c10] at H
  have LMc10:=Aside0.mk c10
  clear c10
  obtain ⟨y146,hy146⟩:∃ y_:List ByteArray,y_=(x3_1++[t145]):=⟨_,rfl⟩
  rw [← hy146] at H
  have Ny146:=Aside0.mk hy146
  clear hy146
  have H':=Aside0.mk H
  clear H
  obtain ⟨ad144,e144,hx144_0,p144,q144⟩:=aiI_ HR0.out x4_1
  cases e144
  replace hx144_0:=(HB.out.cell (World.block_lt_of_cell? w _ hx144_0)).trans hx144_0
  go_wp2_with (first|((with_reducible refine gate_callee (f:=95) rfl ?_);refine goesL_ (some 23) rfl rfl Tryz.func95 krT_ rfl #[.int .i64 (rd l0 x4_1)] rfl agT_ ?_;(with_reducible refine (spec_SetText.calls k1 (rd l0 x4_1) t145 _ A9.out).mono ?_);rintro e w11 ⟨rfl,hb⟩;refine ⟨_,rfl,?_⟩;replace HO_3:=Aside0.mk (Kd.R_below (kRC_ HO_3.out) hb);replace HB:=Aside0.mk (below_step (h_HB HB.out) hb);(try clear hb))|((with_reducible refine gate_builtin (b:=.append) (xs:=#[.tmp 18,.tmp 24]) rfl ?_);at_builtin;refine Kd.R_append Kd.string (w0:=w) w.heap.size rfl (.tmp 18) (.tmp 24) 63 9 (.string ⟨#[]⟩) 16 rfl Tryz.underlying63 info9 rfl (by decide) (by omega) u3 x3_1 t145 [.string t145] (fun _=>True) (fun _=>False) rfl rfl ?aP (fun _ hk=>hk.elim) ?aF ?aO ?aB ?aS ?aL ?_;(case aP=>exact rfl);(case aB=>exact (h_HB HB.out));(case aF=>exact (fun _ _=>trivial));(case aO=>exact (kRC_ HO_3.out));(case aS=>exact (below_size (h_HB HB.out)));(case aL=>have:=LMc10.out;omega);intro v147 w12 ho hb hg hat;rw [← Ny146.out] at ho;replace HB:=Aside0.mk (hb);have HO148:=Aside0.mk (ho);clear HO_3;clear ho hb hg hat))
  go_roundg k1
  case measure=>have:=HK1.out;omega
  case rel=>exact ⟨(y146),(wrap64 (x4_1+1)),sT_,H',⟨by have:=HK1.out;omega⟩,⟨kRC_ HO148.out⟩,⟨h_HB HB.out⟩⟩
 ·rw [if_neg c10] at H
  exact absurd H (by simp)
/-! ### spec_SplitByte: function 57 -/
def spec_SplitByte.l0:Nat→ByteArray→Int→List ByteArray→Int→Int→Option (List ByteArray)
 | 0,_,_,_,_,_=>none
 | k+1,x0,x1,x5,x6,x7=>if x7≤(x0.size:Int) then (if x7=(x0.size:Int) then (if 0≤x6 then (if x6≤x7 then (if x5.length<8796093022208 then (spec_SplitByte.l0 k x0 x1 (x5++[x0.extract (x6:Int).toNat (x7:Int).toNat]) (wrap64 (x7+1)) (wrap64 (x7+1))) else (none)) else (none)) else (none)) else (if 0≤x7 then (if x7<(x0.size:Int) then (if (bt x0 x7)=x1 then (if 0≤x6 then (if x6≤x7 then (if x5.length<8796093022208 then (spec_SplitByte.l0 k x0 x1 (x5++[x0.extract (x6:Int).toNat (x7:Int).toNat]) (wrap64 (x7+1)) (wrap64 (x7+1))) else (none)) else (none)) else (none)) else (spec_SplitByte.l0 k x0 x1 x5 x6 (wrap64 (x7+1)))) else (none)) else (none))) else (some x5)
def spec_SplitByte.f (k:Nat) (a0:ByteArray) (a1:Int):Option (List ByteArray):=spec_SplitByte.l0 k a0 a1 (([]:List ByteArray)) 0 0
set_option maxHeartbeats 8000000 in
set_option maxRecDepth 100000 in
theorem spec_SplitByte.calls (k:Nat) (a0:ByteArray) (a1:Int) (r:List ByteArray) (w:World) (h:spec_SplitByte.f k a0 a1=some r) :
    Calls Tryz.prog 57 #[.string a0,.int .u8 a1] w fun e w'=>∃ v0_:Value,e=.returned (v0_)∧Kd.R Kd.string 9 w' w.heap.size (fun _=>True) v0_ r∧Below w.heap.size w w':=by
 have HB:=Aside0.mk (Below.refl w.heap.size w)
 have H:(spec_SplitByte.l0 k a0 a1 (([]:List ByteArray)) 0 0)=some r:=h
 clear h
 obtain ⟨y150,hy150⟩:∃ y_:List ByteArray,y_=(([]:List ByteArray)):=⟨_,rfl⟩
 rw [← hy150] at H
 have Ny150:=Aside0.mk hy150
 clear hy150
 have H':=Aside0.mk H
 clear H
 go_enter Tryz.func57,Tryz.ntmps57
 go_wp2_with (first|((with_reducible refine gate_dst (N:=8) rfl ?_);refine Kd.R_lit Kd.string _ 9 ?hg (N:=8) ?hd (xs:=([]:List ByteArray)) (inner:=[]) (ok:=fun _=>True) (okp:=fun _=>True) ?hr ?hp (fun _ hk=>hk) trivial (Below.refl _ _) (Nat.le_refl _) (by simp) ?_;(case hd=>rfl);(case hg=>rfl);(case hr=>exact hrT_);(case hp=>exact (Reps.none _ _));intro v151 w3 ho4 hb hg_ hnew_;clear hg_ hnew_;(first|rw [← Ny150.out] at ho4|(simp only [Int.reduceToNat] at ho4;rw [← Ny150.out] at ho4));have HO152:=Aside0.mk (Kd.R_lower ho4 (below_size (h_HB HB.out)));replace HB:=Aside0.mk (below_step (h_HB HB.out) hb);clear hb ho4))
 go_loopg [5,6,7] k (fun kq v5 v6 v7 w'=>∃ (x5_1:List ByteArray) (x6_1:Int) (x7_1:Int),v6=.int .i64 x6_1∧v7=.int .i64 x7_1∧Aside0 (spec_SplitByte.l0 kq a0 a1 x5_1 x6_1 x7_1=some r)∧Aside0 (kq≤k)∧Aside0 (Kd.R Kd.string 9 w' w.heap.size (fun _=>True) v5 x5_1)∧Aside0 (Below w.heap.size w w'))
 case atStart=>exact ⟨(y150),(0),(0),sT_,sT_,H',⟨Nat.le_refl _⟩,⟨kRC_ HO152.out⟩,⟨h_HB HB.out⟩⟩
 case round =>
 clear H'
 try clear p2
 obtain ⟨x5_1,x6_1,x7_1,rfl,rfl,HA,HK1,HO_5,HB⟩:=hrel
 cases gk with
 | zero=>exact absurd HA.out (by simp [spec_SplitByte.l0])
 | succ k1 =>
 have H:=HA.out
 clear HA
 simp only [spec_SplitByte.l0] at H
 rcases gsn_ H with ⟨c5b0,H⟩|⟨c5b0,H⟩
 ·obtain rfl:=Option.some.inj H
  go_wp2
  go_ret
  exact ⟨_,eT_,kRC_ HO_5.out,h_HB HB.out⟩
 by_cases c6:x7_1=(a0.size:Int)
 ·rw [if_pos c6] at H
  have c6b0:(x7_1==(a0.size:Int))=true:=beq_iff_eq.mpr c6
  have c6b1:(x7_1 != (a0.size:Int))=false:=bne_eq_false_iff_eq.mpr c6
  clear c6
  by_cases c7:0≤x6_1
  rotate_left
  ·rw [if_neg c7] at H
   exact absurd H (by simp)
  rw [if_pos c7] at H
  have c7b0:=eq_true c7
  have c7b1:decide (0≤x6_1)=true:=decide_eq_true c7
  clear c7
  by_cases c8:x6_1≤x7_1
  rotate_left
  ·rw [if_neg c8] at H
   exact absurd H (by simp)
  rw [if_pos c8] at H
  have c8b0:=eq_true c8
  have c8b1:decide (x6_1≤x7_1)=true:=decide_eq_true c8
  clear c8
  have c9b0:=eq_true (odT_:x7_1≤(a0.size:Int))
  by_cases c10:x5_1.length<8796093022208
  ·rw [if_pos c10] at H
   have LMc10:=Aside0.mk c10
   clear c10
   obtain ⟨y153,hy153⟩:∃ y_:List ByteArray,y_=(x5_1++[a0.extract (x6_1:Int).toNat (x7_1:Int).toNat]):=⟨_,rfl⟩
   rw [← hy153] at H
   have Ny153:=Aside0.mk hy153
   clear hy153
   have H':=Aside0.mk H
   clear H
   go_wp2_with (first|((with_reducible refine gate_builtin (b:=.append) (xs:=#[.tmp 26,.tmp 31]) rfl ?_);at_builtin;refine Kd.R_append Kd.string (w0:=w) w.heap.size rfl (.tmp 26) (.tmp 31) 63 9 (.string ⟨#[]⟩) 16 rfl Tryz.underlying63 info9 rfl (by decide) (by omega) u5 x5_1 (a0.extract (x6_1:Int).toNat (x7_1:Int).toNat) [.string (a0.extract (x6_1:Int).toNat (x7_1:Int).toNat)] (fun _=>True) (fun _=>False) rfl rfl ?aP (fun _ hk=>hk.elim) ?aF ?aO ?aB ?aS ?aL ?_;(case aP=>exact rfl);(case aB=>exact (h_HB HB.out));(case aF=>exact (fun _ _=>trivial));(case aO=>exact (kRC_ HO_5.out));(case aS=>exact (below_size (h_HB HB.out)));(case aL=>have:=LMc10.out;omega);intro v154 w11 ho hb hg hat;rw [← Ny153.out] at ho;replace HB:=Aside0.mk (hb);have HO155:=Aside0.mk (ho);clear HO_5;clear ho hb hg hat))
   go_roundg k1
   case measure=>have:=HK1.out;omega
   case rel=>exact ⟨(y153),(wrap64 (x7_1+1)),(wrap64 (x7_1+1)),sT_,sT_,H',⟨by have:=HK1.out;omega⟩,⟨kRC_ HO155.out⟩,⟨h_HB HB.out⟩⟩
  ·rw [if_neg c10] at H
   exact absurd H (by simp)
 rw [if_neg c6] at H
 have c6b0:(x7_1==(a0.size:Int))=false:=beq_eq_false_iff_ne.mpr c6
 have c6b1:(x7_1 != (a0.size:Int))=true:=bne_iff_ne.mpr c6
 replace H:=gsm_ H;obtain ⟨c12b0,H⟩:=H
 replace H:=gsm_ H;obtain ⟨c13b0,H⟩:=H
 by_cases c15:(bt a0 x7_1)=a1
 rotate_left
 ·rw [if_neg c15] at H
  have c15b0:((bt a0 x7_1)==a1)=false:=beq_eq_false_iff_ne.mpr c15
  have c15b1:((bt a0 x7_1) != a1)=true:=bne_iff_ne.mpr c15
  have H':=Aside0.mk H
  clear H
  have p14:0≤(x7_1:Int):=odT_
  have q14:x7_1<(a0.size:Int):=odT_
  have hx14:=bt_at a0 x7_1
  replace p14:=eq_true p14
  replace q14:=eq_true q14
  go_wp2
  go_roundg k1
  case measure=>have:=HK1.out;omega
  case rel=>exact ⟨(x5_1),(x6_1),(wrap64 (x7_1+1)),sT_,sT_,H',⟨by have:=HK1.out;omega⟩,⟨kRC_ HO_5.out⟩,⟨h_HB HB.out⟩⟩
 rw [if_pos c15] at H
 have c15b0:((bt a0 x7_1)==a1)=true:=beq_iff_eq.mpr c15
 have c15b1:((bt a0 x7_1) != a1)=false:=bne_eq_false_iff_eq.mpr c15
 clear c15
 by_cases c16:0≤x6_1
 rotate_left
 ·rw [if_neg c16] at H
  exact absurd H (by simp)
 rw [if_pos c16] at H
 have c16b0:=eq_true c16
 have c16b1:decide (0≤x6_1)=true:=decide_eq_true c16
 clear c16
 by_cases c17:x6_1≤x7_1
 rotate_left
 ·rw [if_neg c17] at H
  exact absurd H (by simp)
 rw [if_pos c17] at H
 have c17b0:=eq_true c17
 have c17b1:decide (x6_1≤x7_1)=true:=decide_eq_true c17
 clear c17
 have c18b0:=eq_true (odT_:x7_1≤(a0.size:Int))
 by_cases c19:x5_1.length<8796093022208
 rotate_left
 ·rw [if_neg c19] at H
  exact absurd H (by simp)
 rw [if_pos c19] at H
 have LMc19:=Aside0.mk c19
 clear c19
 obtain ⟨y156,hy156⟩:∃ y_:List ByteArray,y_=(x5_1++[a0.extract (x6_1:Int).toNat (x7_1:Int).toNat]):=⟨_,rfl⟩
 rw [← hy156] at H
 have Ny156:=Aside0.mk hy156
 clear hy156
 have H':=Aside0.mk H
 clear H
 have p14:0≤(x7_1:Int):=odT_
 have q14:x7_1<(a0.size:Int):=odT_
 have hx14:=bt_at a0 x7_1
 replace p14:=eq_true p14
 replace q14:=eq_true q14
 go_wp2_with (first|((with_reducible refine gate_builtin (b:=.append) (xs:=#[.tmp 26,.tmp 31]) rfl ?_);at_builtin;refine Kd.R_append Kd.string (w0:=w) w.heap.size rfl (.tmp 26) (.tmp 31) 63 9 (.string ⟨#[]⟩) 16 rfl Tryz.underlying63 info9 rfl (by decide) (by omega) u5 x5_1 (a0.extract (x6_1:Int).toNat (x7_1:Int).toNat) [.string (a0.extract (x6_1:Int).toNat (x7_1:Int).toNat)] (fun _=>True) (fun _=>False) rfl rfl ?aP (fun _ hk=>hk.elim) ?aF ?aO ?aB ?aS ?aL ?_;(case aP=>exact rfl);(case aB=>exact (h_HB HB.out));(case aF=>exact (fun _ _=>trivial));(case aO=>exact (kRC_ HO_5.out));(case aS=>exact (below_size (h_HB HB.out)));(case aL=>have:=LMc19.out;omega);intro v157 w20 ho hb hg hat;rw [← Ny156.out] at ho;replace HB:=Aside0.mk (hb);have HO158:=Aside0.mk (ho);clear HO_5;clear ho hb hg hat))
 go_roundg k1
 case measure=>have:=HK1.out;omega
 case rel=>exact ⟨(y156),(wrap64 (x7_1+1)),(wrap64 (x7_1+1)),sT_,sT_,H',⟨by have:=HK1.out;omega⟩,⟨kRC_ HO158.out⟩,⟨h_HB HB.out⟩⟩
/-! ### spec_WithElement: function 55 -/
def spec_WithElement.f (a0:Int) (a1:Int):Option (Int):=(spec_IsSet.f 8 a0).bind fun t159=>(if t159=true then ((spec_l1In.f a1 0 7).bind fun t160=>(if t160=true then (if 0≤(IntKind.u64.wrap (a1)) then (some (Go.bits .or .i64 a0 (shl .i64 1 (IntKind.u64.wrap (a1))))) else (none)) else (some a0))) else (some a0))
set_option maxHeartbeats 8000000 in
set_option maxRecDepth 100000 in
theorem spec_WithElement.calls (a0:Int) (a1:Int) (r:Int) (w:World) (h:spec_WithElement.f a0 a1=some r) :
    Calls Tryz.prog 55 #[.int .i64 a0,.int .i64 a1] w fun e w'=>e=.returned (.int .i64 r)∧Drawn0 w w':=by
 unfold spec_WithElement.f at h
 have H:=h
 clear h
 replace H:=bnd_ H;obtain ⟨t159,A3,H⟩:=H
 by_cases c4:t159=true
 rotate_left
 ·replace c4:=Bool.eq_false_iff.mpr c4
  subst c4
  replace H:=bF_ H
  obtain rfl:=Option.some.inj H
  go_enter Tryz.func55,Tryz.ntmps55
  go_wp2_with (first|((with_reducible refine gate_callee (f:=80) rfl ?_);refine goesL_ (some 6) rfl rfl Tryz.func80 krT_ rfl #[.int .i64 8,.int .i64 a0] rfl agT_ ?_;(with_reducible refine (spec_IsSet.calls 8 a0 false _ A3.out).mono ?_);rintro e w' ⟨rfl,⟨nd,rfl⟩⟩;refine ⟨_,rfl,?_⟩))
  go_ret
  exact ⟨sT_,dT_⟩
 subst c4
 replace H:=bT_ H
 replace H:=bnd_ H;obtain ⟨t160,A5,H⟩:=H
 by_cases c6:t160=true
 rotate_left
 ·replace c6:=Bool.eq_false_iff.mpr c6
  subst c6
  replace H:=bF_ H
  obtain rfl:=Option.some.inj H
  go_enter Tryz.func55,Tryz.ntmps55
  go_wp2_with (first|((with_reducible refine gate_callee (f:=80) rfl ?_);refine goesL_ (some 6) rfl rfl Tryz.func80 krT_ rfl #[.int .i64 8,.int .i64 a0] rfl agT_ ?_;(with_reducible refine (spec_IsSet.calls 8 a0 true _ A3.out).mono ?_);rintro e w' ⟨rfl,⟨nd,rfl⟩⟩;refine ⟨_,rfl,?_⟩)|(go_at_call 75;(with_reducible refine (spec_l1In.calls a1 0 7 false _ A5.out).mono ?_);rintro e w' ⟨rfl,⟨nd,rfl⟩⟩))
  go_ret
  exact ⟨sT_,dT_⟩
 subst c6
 replace H:=bT_ H
 obtain ⟨ji7,hji7⟩:∃ j_:Int,(IntKind.u64.wrap (a1))=j_:=⟨_,rfl⟩
 first |rw [hji7] at H|simp only [hji7] at H
 (try rw [hji7] at A3)
 (try rw [hji7] at A5)
 by_cases c8:0≤(ji7)
 rotate_left
 ·rw [if_neg c8] at H
  exact absurd H (by simp)
 rw [if_pos c8] at H
 have c8b0:=eq_true c8
 have c8b1:decide (0≤(ji7))=true:=decide_eq_true c8
 clear c8
 obtain ⟨ji9,hji9⟩:∃ j_:Int,(shl .i64 1 (ji7))=j_:=⟨_,rfl⟩
 first |rw [hji9] at H|simp only [hji9] at H
 (try rw [hji9] at A3)
 (try rw [hji9] at A5)
 have hji9_:(IntKind.i64.wrap (1*2 ^ min (ji7).toNat 64))=ji9:=hji9
 have hji9z:(ji7)≤64→(IntKind.i64.wrap (1*2 ^ (ji7).toNat))=ji9:=shl_small hji9
 have hji9u:(IntKind.i64.wrap (2 ^ min (ji7).toNat 64))=ji9:=by have h_:=hji9_;rw [Int.one_mul] at h_;exact h_
 have hji9v:(ji7)≤64→(IntKind.i64.wrap (2 ^ (ji7).toNat))=ji9:=fun hle_=>by have h_:=hji9z hle_;rw [Int.one_mul] at h_;exact h_
 have hji9y:(wrap64 (1*2 ^ min (ji7).toNat 64))=ji9:=(i64_w _).symm.trans hji9_
 have hji9x:(ji7)≤64→(wrap64 (1*2 ^ (ji7).toNat))=ji9:=fun h_=>(i64_w _).symm.trans (hji9z h_)
 obtain rfl:=Option.some.inj H
 go_enter Tryz.func55,Tryz.ntmps55
 go_wp2_with (first|((with_reducible refine gate_callee (f:=80) rfl ?_);refine goesL_ (some 6) rfl rfl Tryz.func80 krT_ rfl #[.int .i64 8,.int .i64 a0] rfl agT_ ?_;(with_reducible refine (spec_IsSet.calls 8 a0 true _ A3.out).mono ?_);rintro e w' ⟨rfl,⟨nd,rfl⟩⟩;refine ⟨_,rfl,?_⟩)|(go_at_call 75;(with_reducible refine (spec_l1In.calls a1 0 7 true _ A5.out).mono ?_);rintro e w' ⟨rfl,⟨nd,rfl⟩⟩))
 go_ret
 exact ⟨by first|rfl|(simp;done)|(simp only [← hji7,← hji9]<;>(first|rfl|simp))|(simp [*];done),dT_⟩
/-! ### spec_ParseSet: function 94 -/
mutual
def spec_ParseSet.l0:Nat→ByteArray→Int→Int→Option (Int × Bool)
 | 0,_,_,_=>none
 | k+1,x0,x4,x5=>if x5<(x0.size:Int) then (spec_ParseSet.j1 k x0 x4 x5 (x0.toList != ([45]:List UInt8))) else (spec_ParseSet.j1 k x0 x4 x5 false)
def spec_ParseSet.j1:Nat→ByteArray→Int→Int→Bool→Option (Int × Bool)
 | 0,_,_,_,_=>none
 | k+1,x0,x4,x5,x13=>if x13=true then (if 0≤x5 then (if x5<(x0.size:Int) then (if (bt x0 x5)<97 then (some (0,false)) else (if (bt x0 x5)>104 then (some (0,false)) else ((spec_WithElement.f x4 (((bt x0 x5)-97) % 256)).bind fun t161=>(spec_ParseSet.l0 k x0 t161 (wrap64 (x5+1)))))) else (none)) else (none)) else ((spec_SetText.f k x4).bind fun t162=>(if t162.toList=x0.toList then (some (x4,true)) else (some (0,false))))
end
def spec_ParseSet.f (k:Nat) (a0:ByteArray):Option (Int × Bool):=spec_ParseSet.l0 k a0 0 0
set_option maxHeartbeats 8000000 in
set_option maxRecDepth 100000 in
theorem spec_ParseSet.calls (k:Nat) (a0:ByteArray) (r1:Int) (r2:Bool) (w:World) (h:spec_ParseSet.f k a0=some (r1,r2)) :
    Calls Tryz.prog 94 #[.string a0] w fun e w'=>e=.returned (.tuple #[.int .i64 r1,.bool r2])∧Below w.heap.size w w':=by
 have HB:=Aside0.mk (Below.refl w.heap.size w)
 have H:(spec_ParseSet.l0 k a0 0 0)=some (r1,r2):=h
 clear h
 have H':=Aside0.mk H
 clear H
 go_enter Tryz.func94,Tryz.ntmps94
 go_wp2
 go_loopg [4,5] k (fun kq v4 v5 w'=>∃ (x4_1:Int) (x5_1:Int),v4=.int .i64 x4_1∧v5=.int .i64 x5_1∧Aside0 (spec_ParseSet.l0 kq a0 x4_1 x5_1=some (r1,r2))∧Aside0 (kq≤k)∧Aside0 (Below w.heap.size w w'))
 case atStart=>exact ⟨(0),(0),sT_,sT_,H',⟨Nat.le_refl _⟩,⟨h_HB HB.out⟩⟩
 case round =>
 clear H'
 obtain ⟨x4_1,x5_1,rfl,rfl,HA,HK1,HB⟩:=hrel
 cases gk with
 | zero=>exact absurd HA.out (by simp [spec_ParseSet.l0])
 | succ k1 =>
 have H:=HA.out
 clear HA
 simp only [spec_ParseSet.l0] at H
 have HC2:=Aside0.mk H
 clear H
 go_upto_region 3 with (fail)
 go_cut [13] (fun v13 wc=>∃ (kq:Nat) (x13_1:Bool),v13=.bool x13_1∧Aside0 (spec_ParseSet.j1 kq a0 x4_1 x5_1 x13_1=some (r1,r2))∧Aside0 (kq≤k1)∧Aside0 (Below w.heap.size w wc))
 case first =>
  have H:=HC2.out
  clear HC2
  rcases gsb_ H with ⟨c3b0,H⟩|⟨c3b0,H⟩
  ·(first|rw [c3b0]|(simp only [i64_w,i32_w];rw [c3b0])|skip)
   have H':=Aside0.mk H
   clear H
   go_wp2
   go_meet
   case rel=>exact ⟨_,((a0.toList != ([45]:List UInt8))),sT_,H',⟨by have:=HK1.out;first|omega|exact Nat.le_refl _⟩,⟨h_HB HB.out⟩⟩
  (first|rw [c3b0]|(simp only [i64_w,i32_w];rw [c3b0])|skip)
  have H':=Aside0.mk H
  clear H
  go_wp2
  go_meet
  case rel=>exact ⟨_,(false),sT_,H',⟨by have:=HK1.out;first|omega|exact Nat.le_refl _⟩,⟨h_HB HB.out⟩⟩
 case rest =>
 clear HC2
 try clear p2
 try clear c3
 try clear c3b0
 obtain ⟨kq,x13_1,rfl,HA,HJ1,HB⟩:=hcut
 cases kq with
 | zero=>exact absurd HA.out (by simp [spec_ParseSet.j1])
 | succ kj1 =>
 have H:=HA.out
 clear HA
 simp only [spec_ParseSet.j1] at H
 by_cases c4:x13_1=true
 rotate_left
 ·replace c4:=Bool.eq_false_iff.mpr c4
  subst c4
  replace H:=bF_ H
  replace H:=bnd_ H;obtain ⟨t162,A13,H⟩:=H
  by_cases c14:t162.toList=a0.toList
  ·rw [if_pos c14] at H
   have c14b0:(t162.toList==a0.toList)=true:=beq_iff_eq.mpr c14
   have c14b1:(t162.toList != a0.toList)=false:=bne_eq_false_iff_eq.mpr c14
   clear c14
   simp only [Option.some.injEq,Prod.mk.injEq] at H
   obtain ⟨rfl,rfl⟩:=H
   go_wp2_with (first|((with_reducible refine gate_callee (f:=95) rfl ?_);refine goesL_ (some 34) rfl rfl Tryz.func95 krT_ rfl #[.int .i64 x4_1] rfl agT_ ?_;(with_reducible refine (spec_SetText.calls kj1 x4_1 t162 _ A13.out).mono ?_);rintro e w15 ⟨rfl,hb⟩;refine ⟨_,rfl,?_⟩;replace HB:=Aside0.mk (below_step (h_HB HB.out) hb);(try clear hb)))
   go_ret2
   exact ⟨eT_,h_HB HB.out⟩
  ·rw [if_neg c14] at H
   have c14b0:(t162.toList==a0.toList)=false:=beq_eq_false_iff_ne.mpr c14
   have c14b1:(t162.toList != a0.toList)=true:=bne_iff_ne.mpr c14
   simp only [Option.some.injEq,Prod.mk.injEq] at H
   obtain ⟨rfl,rfl⟩:=H
   go_wp2_with (first|((with_reducible refine gate_callee (f:=95) rfl ?_);refine goesL_ (some 34) rfl rfl Tryz.func95 krT_ rfl #[.int .i64 x4_1] rfl agT_ ?_;(with_reducible refine (spec_SetText.calls kj1 x4_1 t162 _ A13.out).mono ?_);rintro e w16 ⟨rfl,hb⟩;refine ⟨_,rfl,?_⟩;replace HB:=Aside0.mk (below_step (h_HB HB.out) hb);(try clear hb)))
   go_ret2
   exact ⟨eT_,h_HB HB.out⟩
 subst c4
 replace H:=bT_ H
 replace H:=gsm_ H;obtain ⟨c5b0,H⟩:=H
 replace H:=gsm_ H;obtain ⟨c6b0,H⟩:=H
 rcases gsb_ H with ⟨c8b0,H⟩|⟨c8b0,H⟩
 ·simp only [Option.some.injEq,Prod.mk.injEq] at H
  obtain ⟨rfl,rfl⟩:=H
  have p7:0≤(x5_1:Int):=odT_
  have q7:x5_1<(a0.size:Int):=odT_
  have hx7:=bt_at a0 x5_1
  replace p7:=eq_true p7
  replace q7:=eq_true q7
  go_wp2
  go_ret2
  exact ⟨eT_,h_HB HB.out⟩
 by_cases c10:(bt a0 x5_1)>104
 ·rw [if_pos c10] at H
  have c10b0:decide (104<(bt a0 x5_1))=true:=decide_eq_true c10
  clear c10
  simp only [Option.some.injEq,Prod.mk.injEq] at H
  obtain ⟨rfl,rfl⟩:=H
  have p7:0≤(x5_1:Int):=odT_
  have q7:x5_1<(a0.size:Int):=odT_
  have hx7:=bt_at a0 x5_1
  replace p7:=eq_true p7
  replace q7:=eq_true q7
  have p9:0≤(x5_1:Int):=odT_
  have q9:x5_1<(a0.size:Int):=odT_
  have hx9:=bt_at a0 x5_1
  replace p9:=eq_true p9
  replace q9:=eq_true q9
  go_wp2
  go_ret2
  exact ⟨eT_,h_HB HB.out⟩
 rw [if_neg c10] at H
 have c10b0:decide (104<(bt a0 x5_1))=false:=decide_eq_false c10
 clear c10
 replace H:=bnd_ H;obtain ⟨t161,A12,H⟩:=H
 have H':=Aside0.mk H
 clear H
 have p7:0≤(x5_1:Int):=odT_
 have q7:x5_1<(a0.size:Int):=odT_
 have hx7:=bt_at a0 x5_1
 replace p7:=eq_true p7
 replace q7:=eq_true q7
 have p9:0≤(x5_1:Int):=odT_
 have q9:x5_1<(a0.size:Int):=odT_
 have hx9:=bt_at a0 x5_1
 replace p9:=eq_true p9
 replace q9:=eq_true q9
 have p11:0≤(x5_1:Int):=odT_
 have q11:x5_1<(a0.size:Int):=odT_
 have hx11:=bt_at a0 x5_1
 replace p11:=eq_true p11
 replace q11:=eq_true q11
 go_wp2_with (first|((with_reducible refine gate_callee (f:=55) rfl ?_);refine goesL_ (some 32) rfl rfl Tryz.func55 krT_ rfl #[.int .i64 x4_1,.int .i64 (((bt a0 x5_1)-97) % 256)] rfl agT_ ?_;(with_reducible refine (spec_WithElement.calls x4_1 (((bt a0 x5_1)-97) % 256) t161 _ A12.out).mono ?_);rintro e w' ⟨rfl,⟨nd,rfl⟩⟩;refine ⟨_,rfl,?_⟩))
 go_roundg kj1
 case measure=>have:=HK1.out;have:=HJ1.out;omega
 case rel=>exact ⟨(t161),(wrap64 (x5_1+1)),sT_,sT_,H',⟨by have:=HK1.out;have:=HJ1.out;omega⟩,⟨h_HB HB.out⟩⟩
end Go.Proofs.YtekegbacnagbcaaGreatDoor.P
