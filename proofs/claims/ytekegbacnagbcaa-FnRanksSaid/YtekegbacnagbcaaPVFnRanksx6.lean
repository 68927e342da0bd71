-- written by gprint (a program of this session's, round the kit's print), out of the translation and hand-written texts
import Derived.Test.YtekegbacnagbcaaPVFnRanksx0
import Derived.Test.YtekegbacnagbcaaPVFnRanksx3
import Derived.Test.YtekegbacnagbcaaPVFnRanksx4
import Derived.Test.YtekegbacnagbcaaPVFnRanksx5
namespace Go.Proofs.Ytekegbacnagbcaa.P
open Go.RowKit Go.Proofs.YtekegbacnagbcaaW.PrintWords Go.Proofs.YtekegbacnagbcaaW.PrintLast Go.Proofs.YtekegbacnagbcaaW.PrintMore
attribute [local go_sem] max2_int min2_int max_two min_two max_three min_three max_four min_four   -- for this text's walks alone
set_option linter.unusedVariables false
set_option linter.unusedSimpArgs false
/-! ### spec_FamilyText: function 93 -/
def spec_FamilyText.l0:Nat→List Int→List ByteArray→Int→Option (ByteArray)
 | 0,_,_,_=>none
 | k+1,x0,x3,x4=>if x4<(x0.length:Int) then (if 0≤x4 then ((spec_SetText.f k (rd x0 x4)).bind fun t267=>(if x3.length<8796093022208 then (spec_FamilyText.l0 k x0 (x3++[t267]) (wrap64 (x4+1))) else (none))) else (none)) else ((spec_Join.f k x3 (⟨#[44]⟩:ByteArray)).bind fun t271=>(some t271))
def spec_FamilyText.f (k:Nat) (l0:List Int):Option (ByteArray):=(spec_l3Sets.f k 8 l0).bind fun t262=>(if t262=true then (if (l0.length:Int)=0 then (some (⟨#[110,111,110,101]⟩:ByteArray)) else (spec_FamilyText.l0 k l0 (([]:List ByteArray)) 0)) else (some (⟨#[]⟩:ByteArray)))
set_option maxHeartbeats 8000000 in
set_option maxRecDepth 100000 in
theorem spec_FamilyText.calls (k:Nat) (A0:Option Addr) (c0:Nat) (l0:List Int) (r:ByteArray) (w:World) (hr0:Kd.C (Kd.int .i64) w A0 l0.length l0) (hc0:l0.length≤c0) (h:spec_FamilyText.f k l0=some r) :
    Calls Try.prog 93 #[.slice A0 l0.length c0] w fun e w'=>e=.returned (.string r)∧Below w.heap.size w w':=by
 have HR0:=Aside0.mk hr0
 have HC0:=Aside0.mk hc0
 clear hr0 hc0
 have HB:=Aside0.mk (Below.refl w.heap.size w)
 unfold spec_FamilyText.f at h
 have H:=h
 clear h
 replace H:=bnd_ H;obtain ⟨t262,A2,H⟩:=H
 by_cases c3:t262=true
 rotate_left
 ·replace c3:=Bool.eq_false_iff.mpr c3
  subst c3
  replace H:=bF_ H
  obtain rfl:=Option.some.inj H
  go_enter Try.func93,Try.ntmps93
  go_wp2_with (first|((with_reducible refine gate_callee (f:=97) rfl ?_);refine goesL_ (some 6) rfl rfl Try.func97 krT_ rfl #[.int .i64 8,.slice A0 l0.length c0] rfl agT_ ?_;(with_reducible refine (spec_l3Sets.calls k 8 _ _ l0 false _ ?side1 ?side2 A2.out).mono ?_);(case side1=>repeat (first|exact HR0.out|(with_reducible refine Kd.C_alloc ?_ _)|(with_reducible refine Kd.C_drewN ?_ _)|(with_reducible refine Kd.C_drew ?_)));(case side2=>exact HC0.out);rintro e w' ⟨rfl,⟨nd,rfl⟩⟩;refine ⟨_,rfl,?_⟩))
  go_ret
  exact ⟨eT_,h_HB HB.out⟩
 subst c3
 replace H:=bT_ H
 by_cases c4:(l0.length:Int)=0
 ·rw [if_pos c4] at H
  have c4b0:((l0.length:Int)==0)=true:=beq_iff_eq.mpr c4
  have c4b1:((l0.length:Int) != 0)=false:=bne_eq_false_iff_eq.mpr c4
  clear c4
  obtain rfl:=Option.some.inj H
  go_enter Try.func93,Try.ntmps93
  go_wp2_with (first|((with_reducible refine gate_callee (f:=97) rfl ?_);refine goesL_ (some 6) rfl rfl Try.func97 krT_ rfl #[.int .i64 8,.slice A0 l0.length c0] rfl agT_ ?_;(with_reducible refine (spec_l3Sets.calls k 8 _ _ l0 true _ ?side1 ?side2 A2.out).mono ?_);(case side1=>repeat (first|exact HR0.out|(with_reducible refine Kd.C_alloc ?_ _)|(with_reducible refine Kd.C_drewN ?_ _)|(with_reducible refine Kd.C_drew ?_)));(case side2=>exact HC0.out);rintro e w' ⟨rfl,⟨nd,rfl⟩⟩;refine ⟨_,rfl,?_⟩))
  go_ret
  exact ⟨eT_,h_HB HB.out⟩
 rw [if_neg c4] at H
 have c4b0:((l0.length:Int)==0)=false:=beq_eq_false_iff_ne.mpr c4
 have c4b1:((l0.length:Int) != 0)=true:=bne_iff_ne.mpr c4
 have c4b2:¬ (l0=[]):=fun h_=>c4 (by rw [h_];rfl)
 obtain ⟨y263,hy263⟩:∃ y_:List ByteArray,y_=(([]:List ByteArray)):=⟨_,rfl⟩
 replace H:(spec_FamilyText.l0 k l0 y263 0)=some r:=by first|(rw [hy263];with_reducible exact H)|(have H2_:=(Option.bind_some _ _).symm.trans H;rw [hy263];with_reducible exact H2_)|(have H2_:=(Option.bind_some _ _).symm.trans H;with_reducible exact H2_)|with_reducible exact H|(rw [hy263];exact H)|exact H
 have Ny263:=Aside0.mk hy263
 clear hy263
 have H':=Aside0.mk H
 clear H
 go_enter Try.func93,Try.ntmps93
 go_wp2_with (first|((with_reducible refine gate_callee (f:=97) rfl ?_);refine goesL_ (some 6) rfl rfl Try.func97 krT_ rfl #[.int .i64 8,.slice A0 l0.length c0] rfl agT_ ?_;(with_reducible refine (spec_l3Sets.calls k 8 _ _ l0 true _ ?side1 ?side2 A2.out).mono ?_);(case side1=>repeat (first|exact HR0.out|(with_reducible refine Kd.C_alloc ?_ _)|(with_reducible refine Kd.C_drewN ?_ _)|(with_reducible refine Kd.C_drew ?_)));(case side2=>exact HC0.out);rintro e w' ⟨rfl,⟨nd,rfl⟩⟩;refine ⟨_,rfl,?_⟩)|((with_reducible refine gate_dst (N:=11) rfl ?_);refine Kd.R_lit Kd.string _ 9 ?hg (N:=11) ?hd (xs:=([]:List ByteArray)) (inner:=[]) (ok:=fun _=>True) (okp:=fun _=>True) ?hr ?hp (fun _ hk=>hk) trivial (Below.refl _ _) (Nat.le_refl _) (by simp) ?_;(case hd=>rfl);(case hg=>rfl);(case hr=>exact hrT_);(case hp=>exact (Reps.none _ _));intro v264 w5 ho6 hb hg_ hnew_;clear hg_ hnew_;(first|rw [← Ny263.out] at ho6|(simp only [Int.reduceToNat] at ho6;rw [← Ny263.out] at ho6));have HO265:=Aside0.mk (Kd.R_lower ho6 (below_size (h_HB HB.out)));replace HB:=Aside0.mk (below_step (h_HB HB.out) hb);clear hb ho6))
 go_loopg [3,4] k (fun kq v3 v4 w'=>∃ (x3_1:List ByteArray) (x4_1:Int),v4=.int .i64 x4_1∧Aside0 (spec_FamilyText.l0 kq l0 x3_1 x4_1=some r)∧Aside0 (kq≤k)∧Aside0 (Kd.R Kd.string 9 w' w.heap.size (fun _=>True) v3 x3_1)∧Aside0 (Below w.heap.size w w'))
 case atStart=>exact ⟨(y263),(0),sT_,H',⟨Nat.le_refl _⟩,⟨kRC_ HO265.out⟩,⟨h_HB HB.out⟩⟩
 case round =>
 clear H'
 try clear p2
 try clear c3
 try clear c4
 try clear c4b0
 try clear c4b1
 try clear c4b2
 obtain ⟨x3_1,x4_1,rfl,HA,HK1,HO_3,HB⟩:=hrel
 cases gk with
 | zero=>exact absurd HA.out (by simp [spec_FamilyText.l0])
 | succ k1 =>
 have H:=HA.out
 clear HA
 simp only [spec_FamilyText.l0] at H
 rcases gsn_ H with ⟨c7b0,H⟩|⟨c7b0,H⟩
 ·replace H:=bnd_ H;obtain ⟨t271,A13,H⟩:=H
  obtain rfl:=Option.some.inj H
  obtain ⟨Ao14,co14,eo14⟩:=Kd.R_slice HO_3.out
  subst eo14
  go_wp2_with (first|((with_reducible refine gate_callee (f:=98) rfl ?_);refine goesL_ (some 27) rfl rfl Try.func98 krT_ rfl #[.slice Ao14 x3_1.length co14,.string (⟨#[44]⟩:ByteArray)] rfl agT_ ?_;(with_reducible refine (spec_Join.calls k1 _ _ x3_1 (⟨#[44]⟩:ByteArray) t271 _ ?side1 ?side2 A13.out).mono ?_);(case side1=>repeat (first|exact (Kd.R_reads' HO_3.out).2.2|(with_reducible refine Kd.C_alloc ?_ _)|(with_reducible refine Kd.C_drewN ?_ _)|(with_reducible refine Kd.C_drew ?_)));(case side2=>exact (Kd.R_reads' HO_3.out).2.1);rintro e w15 ⟨rfl,hb⟩;refine ⟨_,rfl,?_⟩;replace HO_3:=Aside0.mk (Kd.R_below (kRC_ HO_3.out) hb);replace HB:=Aside0.mk (below_step (h_HB HB.out) hb);(try clear hb)))
  go_ret
  exact ⟨eT_,h_HB HB.out⟩
 replace H:=gsm_ H;obtain ⟨c8b0,H⟩:=H
 replace H:=bnd_ H;obtain ⟨t267,A9,H⟩:=H
 by_cases c10:x3_1.length<8796093022208
 ·rw [if_pos c10] at H
  have LMc10:=Aside0.mk c10
  clear c10
  obtain ⟨y268,hy268⟩:∃ y_:List ByteArray,y_=(x3_1++[t267]):=⟨_,rfl⟩
  replace H:(spec_FamilyText.l0 k1 l0 y268 (wrap64 (x4_1+1)))=some r:=by first|(rw [hy268];with_reducible exact H)|(have H2_:=(Option.bind_some _ _).symm.trans H;rw [hy268];with_reducible exact H2_)|(have H2_:=(Option.bind_some _ _).symm.trans H;with_reducible exact H2_)|with_reducible exact H|(rw [hy268];exact H)|exact H
  have Ny268:=Aside0.mk hy268
  clear hy268
  have H':=Aside0.mk H
  clear H
  obtain ⟨ad266,e266,hx266_0,p266,q266⟩:=aiI_ HR0.out x4_1
  cases e266
  replace hx266_0:=(HB.out.cell (World.block_lt_of_cell? w _ hx266_0)).trans hx266_0
  go_wp2_with (first|((with_reducible refine gate_callee (f:=96) rfl ?_);refine goesL_ (some 23) rfl rfl Try.func96 krT_ rfl #[.int .i64 (rd l0 x4_1)] rfl agT_ ?_;(with_reducible refine (spec_SetText.calls k1 (rd l0 x4_1) t267 _ A9.out).mono ?_);rintro e w11 ⟨rfl,hb⟩;refine ⟨_,rfl,?_⟩;replace HO_3:=Aside0.mk (Kd.R_below (kRC_ HO_3.out) hb);replace HB:=Aside0.mk (below_step (h_HB HB.out) hb);(try clear hb))|((with_reducible refine gate_builtin (b:=.append) (xs:=#[.tmp 18,.tmp 24]) rfl ?_);at_builtin;refine Kd.R_append Kd.string (w0:=w) w.heap.size rfl (.tmp 18) (.tmp 24) 76 9 (.string ⟨#[]⟩) 16 rfl Try.underlying76 info9 rfl (by decide) (by omega) u3 x3_1 t267 [.string t267] (fun _=>True) (fun _=>False) rfl rfl ?aP (fun _ hk=>hk.elim) ?aF ?aO ?aB ?aS ?aL ?_;(case aP=>exact rfl);(case aB=>exact (h_HB HB.out));(case aF=>exact (fun _ _=>trivial));(case aO=>exact (kRC_ HO_3.out));(case aS=>exact (below_size (h_HB HB.out)));(case aL=>have:=LMc10.out;omega);intro v269 w12 ho hb hg hat;rw [← Ny268.out] at ho;replace HB:=Aside0.mk (hb);have HO270:=Aside0.mk (ho);clear HO_3;clear ho hb hg hat))
  go_roundg k1
  case measure=>have:=HK1.out;omega
  case rel=>exact ⟨(y268),(wrap64 (x4_1+1)),sT_,H',⟨by have:=HK1.out;omega⟩,⟨kRC_ HO270.out⟩,⟨h_HB HB.out⟩⟩
 ·rw [if_neg c10] at H
  exact absurd H (by simp)
/-! ### spec_ParseFamily: function 87 -/
mutual
def spec_ParseFamily.l0:Nat→Int→ByteArray→List Int→List ByteArray→Int→Option (List Int × Bool)
 | 0,_,_,_,_,_=>none
 | k+1,x0,x1,x6,x7,x8=>if x8<(x7.length:Int) then (spec_ParseFamily.j1 k x0 x1 x6 x7 x8 (x1.toList != ([110,111,110,101]:List UInt8))) else (spec_ParseFamily.j1 k x0 x1 x6 x7 x8 false)
def spec_ParseFamily.j1:Nat→Int→ByteArray→List Int→List ByteArray→Int→Bool→Option (List Int × Bool)
 | 0,_,_,_,_,_,_=>none
 | k+1,x0,x1,x6,x7,x8,x21=>if x21=true then (if 0≤x8 then (if x8<(x7.length:Int) then ((spec_ParseSet.f k (rdOf ByteArray.empty x7 x8)).bind fun bt279=>(if bt279.2=true then (if x6.length<17592186044416 then (spec_ParseFamily.l0 k x0 x1 (x6++[bt279.1]) x7 (wrap64 (x8+1))) else (none)) else (some ((([]:List Int)),false)))) else (none)) else (none)) else ((spec_IsFamily.f k x0 x6).bind fun t287=>(if t287=true then ((spec_FamilyText.f k x6).bind fun t288=>(if t288.toList=x1.toList then (some (x6,true)) else (some ((([]:List Int)),false)))) else (some ((([]:List Int)),false))))
end
def spec_ParseFamily.f (k:Nat) (a0:Int) (a1:ByteArray):Option (List Int × Bool):=(spec_SplitByte.f k a1 44).bind fun t275=>(spec_ParseFamily.l0 k a0 a1 (([]:List Int)) t275 0)
set_option maxHeartbeats 8000000 in
set_option maxRecDepth 100000 in
theorem spec_ParseFamily.calls (k:Nat) (a0:Int) (a1:ByteArray) (r1:List Int) (r2:Bool) (w:World) (h:spec_ParseFamily.f k a0 a1=some (r1,r2)) :
    Calls Try.prog 87 #[.int .i64 a0,.string a1] w fun e w'=>∃ v0_:Value,e=.returned (.tuple #[v0_,.bool r2])∧Kd.R (Kd.int .i64) 3 w' w.heap.size (fun _=>True) v0_ r1∧Below w.heap.size w w':=by
 have HB:=Aside0.mk (Below.refl w.heap.size w)
 have H:((spec_SplitByte.f k a1 44).bind fun t275=>(spec_ParseFamily.l0 k a0 a1 (([]:List Int)) t275 0))=some (r1,r2):=h
 clear h
 obtain ⟨y272,hy272⟩:∃ y_:List Int,y_=(([]:List Int)):=⟨_,rfl⟩
 replace H:((spec_SplitByte.f k a1 44).bind fun t275=>(spec_ParseFamily.l0 k a0 a1 y272 t275 0))=some (r1,r2):=by first|(rw [hy272];with_reducible exact H)|(have H2_:=(Option.bind_some _ _).symm.trans H;rw [hy272];with_reducible exact H2_)|(have H2_:=(Option.bind_some _ _).symm.trans H;with_reducible exact H2_)|with_reducible exact H|(rw [hy272];exact H)|exact H
 have Ny272:=Aside0.mk hy272
 clear hy272
 replace H:=bnd_ H;obtain ⟨t275,A3,H⟩:=H
 have H':=Aside0.mk H
 clear H
 go_enter Try.func87,Try.ntmps87
 go_wp2_with (first|((with_reducible refine gate_dst (N:=11) rfl ?_);refine Kd.R_lit (Kd.int .i64) _ 3 ?hg (N:=11) ?hd (xs:=([]:List Int)) (inner:=[]) (ok:=fun _=>True) (okp:=fun _=>True) ?hr ?hp (fun _ hk=>hk) trivial (Below.refl _ _) (Nat.le_refl _) (by simp) ?_;(case hd=>rfl);(case hg=>rfl);(case hr=>exact hrT_);(case hp=>exact (Reps.none _ _));intro v273 w4 ho5 hb hg_ hnew_;clear hg_ hnew_;(first|rw [← Ny272.out] at ho5|(simp only [Int.reduceToNat] at ho5;rw [← Ny272.out] at ho5));have HO274:=Aside0.mk (Kd.R_lower ho5 (below_size (h_HB HB.out)));replace HB:=Aside0.mk (below_step (h_HB HB.out) hb);clear hb ho5)|((with_reducible refine gate_callee (f:=85) rfl ?_);refine goesL_ (some 13) rfl rfl Try.func85 krT_ rfl #[.string a1,.int .u8 44] rfl agT_ ?_;(with_reducible refine (spec_SplitByte.calls k a1 44 t275 _ A3.out).mono ?_);rintro e w6 ⟨v276,rfl,ho0,hb⟩;refine ⟨_,rfl,?_⟩;replace HO274:=Aside0.mk (Kd.R_below (kRC_ HO274.out) hb);have HO277:=Aside0.mk (Kd.R_lower ho0 (below_size (h_HB HB.out)));replace HB:=Aside0.mk (below_step (h_HB HB.out) hb);(try clear hb);(try clear hb2);(try clear hk);(try clear hi);(try clear ho0)))
 go_loopg [6,8] k (fun kq v6 v8 w'=>∃ (x6_1:List Int) (x8_1:Int),v8=.int .i64 x8_1∧Aside0 (spec_ParseFamily.l0 kq a0 a1 x6_1 t275 x8_1=some (r1,r2))∧Aside0 (kq≤k)∧Aside0 (Kd.R (Kd.int .i64) 3 w' w.heap.size (fun _=>True) v6 x6_1)∧Aside0 (Kd.R Kd.string 9 w' w.heap.size (fun _=>True) v276 t275)∧Aside0 (Below w.heap.size w w'))
 case atStart=>exact ⟨(y272),(0),sT_,H',⟨Nat.le_refl _⟩,⟨kRC_ HO274.out⟩,⟨kRC_ HO277.out⟩,⟨h_HB HB.out⟩⟩
 case round =>
 clear H'
 try clear p2
 obtain ⟨x6_1,x8_1,rfl,HA,HK1,HO_6,HO_7,HB⟩:=hrel
 cases gk with
 | zero=>exact absurd HA.out (by simp [spec_ParseFamily.l0])
 | succ k1 =>
 have H:=HA.out
 clear HA
 simp only [spec_ParseFamily.l0] at H
 have HC7:=Aside0.mk H
 clear H
 go_upto_region 4 with (fail)
 go_cut [21] (fun v21 wc=>∃ (kq:Nat) (x21_6:Bool),v21=.bool x21_6∧Aside0 (spec_ParseFamily.j1 kq a0 a1 x6_1 t275 x8_1 x21_6=some (r1,r2))∧Aside0 (kq≤k1)∧Aside0 (Kd.R (Kd.int .i64) 3 wc w.heap.size (fun _=>True) u6 x6_1)∧Aside0 (Kd.R Kd.string 9 wc w.heap.size (fun _=>True) v276 t275)∧Aside0 (Below w.heap.size w wc))
 case first =>
  have H:=HC7.out
  clear HC7
  rcases gsb_ H with ⟨c8b0,H⟩|⟨c8b0,H⟩
  ·(first|rw [c8b0]|(simp only [i64_w,i32_w];rw [c8b0])|skip)
   have H':=Aside0.mk H
   clear H
   obtain ⟨Ao9,co9,eo9⟩:=Kd.R_slice HO_7.out
   subst eo9
   go_wp2
   go_meet
   case rel=>exact ⟨_,((a1.toList != ([110,111,110,101]:List UInt8))),sT_,H',⟨by have:=HK1.out;first|omega|exact Nat.le_refl _⟩,⟨kRC_ HO_6.out⟩,⟨kRC_ HO_7.out⟩,⟨h_HB HB.out⟩⟩
  (first|rw [c8b0]|(simp only [i64_w,i32_w];rw [c8b0])|skip)
  have H':=Aside0.mk H
  clear H
  obtain ⟨Ao10,co10,eo10⟩:=Kd.R_slice HO_7.out
  subst eo10
  go_wp2
  go_meet
  case rel=>exact ⟨_,(false),sT_,H',⟨by have:=HK1.out;first|omega|exact Nat.le_refl _⟩,⟨kRC_ HO_6.out⟩,⟨kRC_ HO_7.out⟩,⟨h_HB HB.out⟩⟩
 case rest =>
 clear HC7
 try clear p2
 try clear c8
 try clear c8b0
 try clear p2
 obtain ⟨kq,x21_6,rfl,HA,HJ6,HO_6,HO_7,HB⟩:=hcut
 cases kq with
 | zero=>exact absurd HA.out (by simp [spec_ParseFamily.j1])
 | succ kj6 =>
 have H:=HA.out
 clear HA
 simp only [spec_ParseFamily.j1] at H
 by_cases c11:x21_6=true
 ·subst c11
  replace H:=bT_ H
  replace H:=gsm_ H;obtain ⟨c12b0,H⟩:=H
  replace H:=gsm_ H;obtain ⟨c13b0,H⟩:=H
  replace H:=bnd_ H;obtain ⟨⟨t279,t280⟩,A14,H⟩:=H;dsimp only at H
  by_cases c15:t280=true
  ·subst c15
   replace H:=bT_ H
   by_cases c16:x6_1.length<17592186044416
   rotate_left
   ·rw [if_neg c16] at H
    exact absurd H (by simp)
   rw [if_pos c16] at H
   have LMc16:=Aside0.mk c16
   clear c16
   obtain ⟨y281,hy281⟩:∃ y_:List Int,y_=(x6_1++[t279]):=⟨_,rfl⟩
   replace H:(spec_ParseFamily.l0 kj6 a0 a1 y281 t275 (wrap64 (x8_1+1)))=some (r1,r2):=by first|(rw [hy281];with_reducible exact H)|(have H2_:=(Option.bind_some _ _).symm.trans H;rw [hy281];with_reducible exact H2_)|(have H2_:=(Option.bind_some _ _).symm.trans H;with_reducible exact H2_)|with_reducible exact H|(rw [hy281];exact H)|exact H
   have Ny281:=Aside0.mk hy281
   clear hy281
   have H':=Aside0.mk H
   clear H
   obtain ⟨Ao17,co17,eo17⟩:=Kd.R_slice HO_7.out
   subst eo17
   obtain ⟨ad278,e278,hx278_0,p278,q278⟩:=aiS_ (Kd.R_reads' HO_7.out).2.2 x8_1
   cases e278
   go_wp2_with (first|((with_reducible refine gate_callee (f:=92) rfl ?_);refine goesL_ (some 29) rfl rfl Try.func92 krT_ rfl #[.string (rdOf ByteArray.empty t275 x8_1)] rfl agT_ ?_;(with_reducible refine (spec_ParseSet.calls kj6 (rdOf ByteArray.empty t275 x8_1) t279 true _ A14.out).mono ?_);rintro e w18 ⟨rfl,hb⟩;refine ⟨_,rfl,?_⟩;replace HO_6:=Aside0.mk (Kd.R_below (kRC_ HO_6.out) hb);replace HO_7:=Aside0.mk (Kd.R_below (kRC_ HO_7.out) hb);replace HB:=Aside0.mk (below_step (h_HB HB.out) hb);(try clear hb))|((with_reducible refine gate_builtin (b:=.append) (xs:=#[.tmp 35,.tmp 37]) rfl ?_);at_builtin;refine Kd.R_append (Kd.int .i64) (w0:=w) w.heap.size rfl (.tmp 35) (.tmp 37) 24 3 (.int .i64 0) 8 rfl Try.underlying24 info3 rfl (by decide) (by omega) u6 x6_1 t279 [.int .i64 t279] (fun _=>True) (fun _=>False) rfl rfl ?aP (fun _ hk=>hk.elim) ?aF ?aO ?aB ?aS ?aL ?_;(case aP=>exact rfl);(case aB=>exact (h_HB HB.out));(case aF=>exact (fun _ _=>trivial));(case aO=>exact (kRC_ HO_6.out));(case aS=>exact (below_size (h_HB HB.out)));(case aL=>have:=LMc16.out;omega);intro v282 w19 ho hb hg hat;rw [← Ny281.out] at ho;replace HO_7:=Aside0.mk (Kd.R_over' (kRC_ HO_7.out) (Kd.R_typed (kRC_ HO_6.out)) (by decide) hg);replace HB:=Aside0.mk (hb);have HO283:=Aside0.mk (ho);clear HO_6;clear ho hb hg hat))
   go_roundg kj6
   case measure=>have:=HK1.out;have:=HJ6.out;omega
   case rel=>exact ⟨(y281),(wrap64 (x8_1+1)),sT_,H',⟨by have:=HK1.out;have:=HJ6.out;omega⟩,⟨kRC_ HO283.out⟩,⟨kRC_ HO_7.out⟩,⟨h_HB HB.out⟩⟩
  ·replace c15:=Bool.eq_false_iff.mpr c15
   subst c15
   replace H:=bF_ H
   obtain ⟨y284,hy284⟩:∃ y_:List Int,y_=(([]:List Int)):=⟨_,rfl⟩
   replace H:(some (y284,false))=some (r1,r2):=by first|(rw [hy284];with_reducible exact H)|(have H2_:=(Option.bind_some _ _).symm.trans H;rw [hy284];with_reducible exact H2_)|(have H2_:=(Option.bind_some _ _).symm.trans H;with_reducible exact H2_)|with_reducible exact H|(rw [hy284];exact H)|exact H
   have Ny284:=Aside0.mk hy284
   clear hy284
   simp only [Option.some.injEq,Prod.mk.injEq] at H
   obtain ⟨rfl,rfl⟩:=H
   obtain ⟨Ao20,co20,eo20⟩:=Kd.R_slice HO_7.out
   subst eo20
   obtain ⟨ad278,e278,hx278_0,p278,q278⟩:=aiS_ (Kd.R_reads' HO_7.out).2.2 x8_1
   cases e278
   go_wp2_with (first|((with_reducible refine gate_callee (f:=92) rfl ?_);refine goesL_ (some 29) rfl rfl Try.func92 krT_ rfl #[.string (rdOf ByteArray.empty t275 x8_1)] rfl agT_ ?_;(with_reducible refine (spec_ParseSet.calls kj6 (rdOf ByteArray.empty t275 x8_1) t279 false _ A14.out).mono ?_);rintro e w21 ⟨rfl,hb⟩;refine ⟨_,rfl,?_⟩;replace HO_6:=Aside0.mk (Kd.R_below (kRC_ HO_6.out) hb);replace HO_7:=Aside0.mk (Kd.R_below (kRC_ HO_7.out) hb);replace HB:=Aside0.mk (below_step (h_HB HB.out) hb);(try clear hb))|((with_reducible refine gate_dst (N:=34) rfl ?_);refine Kd.R_lit (Kd.int .i64) _ 3 ?hg (N:=34) ?hd (xs:=([]:List Int)) (inner:=[]) (ok:=fun _=>True) (okp:=fun _=>True) ?hr ?hp (fun _ hk=>hk) trivial (Below.refl _ _) (Nat.le_refl _) (by simp) ?_;(case hd=>rfl);(case hg=>rfl);(case hr=>exact hrT_);(case hp=>exact (Reps.none _ _));intro v285 w22 ho23 hb hg_ hnew_;clear hg_ hnew_;(first|rw [← Ny284.out] at ho23|(simp only [Int.reduceToNat] at ho23;rw [← Ny284.out] at ho23));replace HO_7:=Aside0.mk (Kd.R_below (kRC_ HO_7.out) hb);have HO286:=Aside0.mk (Kd.R_lower (Kd.R_new' ho23 (Kd.R_lt (kRC_ HO_6.out))) (below_size (h_HB HB.out)));replace HO_6:=Aside0.mk (Kd.R_elder' (kRC_ HO_6.out) (Kd.R_base ho23) hb);replace HB:=Aside0.mk (below_step (h_HB HB.out) hb);clear hb ho23))
   go_ret2
   exact ⟨_,eT_,by (with_reducible repeat (first|apply Kd.R_alloc|apply Kd.R_drewN|apply Kd.R_drew));exact Kd.R_mono HO286.out (fun _ hk=>trivial),h_HB HB.out⟩
 replace c11:=Bool.eq_false_iff.mpr c11
 subst c11
 replace H:=bF_ H
 replace H:=bnd_ H;obtain ⟨t287,A24,H⟩:=H
 by_cases c25:t287=true
 rotate_left
 ·replace c25:=Bool.eq_false_iff.mpr c25
  subst c25
  replace H:=bF_ H
  obtain ⟨y292,hy292⟩:∃ y_:List Int,y_=(([]:List Int)):=⟨_,rfl⟩
  replace H:(some (y292,false))=some (r1,r2):=by first|(rw [hy292];with_reducible exact H)|(have H2_:=(Option.bind_some _ _).symm.trans H;rw [hy292];with_reducible exact H2_)|(have H2_:=(Option.bind_some _ _).symm.trans H;with_reducible exact H2_)|with_reducible exact H|(rw [hy292];exact H)|exact H
  have Ny292:=Aside0.mk hy292
  clear hy292
  simp only [Option.some.injEq,Prod.mk.injEq] at H
  obtain ⟨rfl,rfl⟩:=H
  obtain ⟨Ao34,co34,eo34⟩:=Kd.R_slice HO_6.out
  subst eo34
  go_wp2_with (first|((with_reducible refine gate_callee (f:=62) rfl ?_);refine goesL_ (some 41) rfl rfl Try.func62 krT_ rfl #[.int .i64 a0,.slice Ao34 x6_1.length co34] rfl agT_ ?_;(with_reducible refine (spec_IsFamily.calls kj6 a0 _ _ x6_1 false _ ?side1 ?side2 A24.out).mono ?_);(case side1=>repeat (first|exact (Kd.R_reads' HO_6.out).2.2|(with_reducible refine Kd.C_alloc ?_ _)|(with_reducible refine Kd.C_drewN ?_ _)|(with_reducible refine Kd.C_drew ?_)));(case side2=>exact (Kd.R_reads' HO_6.out).2.1);rintro e w' ⟨rfl,⟨nd,rfl⟩⟩;refine ⟨_,rfl,?_⟩)|((with_reducible refine gate_dst (N:=49) rfl ?_);refine Kd.R_lit (Kd.int .i64) _ 3 ?hg (N:=49) ?hd (xs:=([]:List Int)) (inner:=[]) (ok:=fun _=>True) (okp:=fun _=>True) ?hr ?hp (fun _ hk=>hk) trivial (Below.refl _ _) (Nat.le_refl _) (by simp) ?_;(case hd=>rfl);(case hg=>rfl);(case hr=>exact hrT_);(case hp=>exact (Reps.none _ _));intro v293 w35 ho36 hb hg_ hnew_;clear hg_ hnew_;(first|rw [← Ny292.out] at ho36|(simp only [Int.reduceToNat] at ho36;rw [← Ny292.out] at ho36));replace HO_7:=Aside0.mk (Kd.R_below (kRC_ HO_7.out) hb);have HO294:=Aside0.mk (Kd.R_lower (Kd.R_new' ho36 (Kd.R_lt (kRC_ HO_6.out))) (below_size (h_HB HB.out)));replace HO_6:=Aside0.mk (Kd.R_elder' (kRC_ HO_6.out) (Kd.R_base ho36) hb);replace HB:=Aside0.mk (below_step (h_HB HB.out) hb);clear hb ho36))
  go_ret2
  exact ⟨_,eT_,by (with_reducible repeat (first|apply Kd.R_alloc|apply Kd.R_drewN|apply Kd.R_drew));exact Kd.R_mono HO294.out (fun _ hk=>trivial),h_HB HB.out⟩
 subst c25
 replace H:=bT_ H
 replace H:=bnd_ H;obtain ⟨t288,A26,H⟩:=H
 by_cases c27:t288.toList=a1.toList
 ·rw [if_pos c27] at H
  have c27b0:(t288.toList==a1.toList)=true:=beq_iff_eq.mpr c27
  have c27b1:(t288.toList != a1.toList)=false:=bne_eq_false_iff_eq.mpr c27
  clear c27
  simp only [Option.some.injEq,Prod.mk.injEq] at H
  obtain ⟨rfl,rfl⟩:=H
  obtain ⟨Ao28,co28,eo28⟩:=Kd.R_slice HO_6.out
  subst eo28
  go_wp2_with (first|((with_reducible refine gate_callee (f:=62) rfl ?_);refine goesL_ (some 41) rfl rfl Try.func62 krT_ rfl #[.int .i64 a0,.slice Ao28 x6_1.length co28] rfl agT_ ?_;(with_reducible refine (spec_IsFamily.calls kj6 a0 _ _ x6_1 true _ ?side1 ?side2 A24.out).mono ?_);(case side1=>repeat (first|exact (Kd.R_reads' HO_6.out).2.2|(with_reducible refine Kd.C_alloc ?_ _)|(with_reducible refine Kd.C_drewN ?_ _)|(with_reducible refine Kd.C_drew ?_)));(case side2=>exact (Kd.R_reads' HO_6.out).2.1);rintro e w' ⟨rfl,⟨nd,rfl⟩⟩;refine ⟨_,rfl,?_⟩)|(go_at_call 93;(with_reducible refine (spec_FamilyText.calls kj6 _ _ x6_1 t288 _ ?side1 ?side2 A26.out).mono ?_);(case side1=>repeat (first|exact (Kd.R_reads' HO_6.out).2.2|(with_reducible refine Kd.C_alloc ?_ _)|(with_reducible refine Kd.C_drewN ?_ _)|(with_reducible refine Kd.C_drew ?_)));(case side2=>exact (Kd.R_reads' HO_6.out).2.1);rintro e w29 ⟨rfl,hb⟩;replace HO_6:=Aside0.mk (Kd.R_below (kRC_ HO_6.out) hb);replace HO_7:=Aside0.mk (Kd.R_below (kRC_ HO_7.out) hb);replace HB:=Aside0.mk (below_step (h_HB HB.out) hb);(try clear hb)))
  go_ret2
  exact ⟨_,eT_,kRC_ HO_6.out,h_HB HB.out⟩
 rw [if_neg c27] at H
 have c27b0:(t288.toList==a1.toList)=false:=beq_eq_false_iff_ne.mpr c27
 have c27b1:(t288.toList != a1.toList)=true:=bne_iff_ne.mpr c27
 obtain ⟨y289,hy289⟩:∃ y_:List Int,y_=(([]:List Int)):=⟨_,rfl⟩
 replace H:(some (y289,false))=some (r1,r2):=by first|(rw [hy289];with_reducible exact H)|(have H2_:=(Option.bind_some _ _).symm.trans H;rw [hy289];with_reducible exact H2_)|(have H2_:=(Option.bind_some _ _).symm.trans H;with_reducible exact H2_)|with_reducible exact H|(rw [hy289];exact H)|exact H
 have Ny289:=Aside0.mk hy289
 clear hy289
 simp only [Option.some.injEq,Prod.mk.injEq] at H
 obtain ⟨rfl,rfl⟩:=H
 obtain ⟨Ao30,co30,eo30⟩:=Kd.R_slice HO_6.out
 subst eo30
 go_wp2_with (first|((with_reducible refine gate_callee (f:=62) rfl ?_);refine goesL_ (some 41) rfl rfl Try.func62 krT_ rfl #[.int .i64 a0,.slice Ao30 x6_1.length co30] rfl agT_ ?_;(with_reducible refine (spec_IsFamily.calls kj6 a0 _ _ x6_1 true _ ?side1 ?side2 A24.out).mono ?_);(case side1=>repeat (first|exact (Kd.R_reads' HO_6.out).2.2|(with_reducible refine Kd.C_alloc ?_ _)|(with_reducible refine Kd.C_drewN ?_ _)|(with_reducible refine Kd.C_drew ?_)));(case side2=>exact (Kd.R_reads' HO_6.out).2.1);rintro e w' ⟨rfl,⟨nd,rfl⟩⟩;refine ⟨_,rfl,?_⟩)|(go_at_call 93;(with_reducible refine (spec_FamilyText.calls kj6 _ _ x6_1 t288 _ ?side1 ?side2 A26.out).mono ?_);(case side1=>repeat (first|exact (Kd.R_reads' HO_6.out).2.2|(with_reducible refine Kd.C_alloc ?_ _)|(with_reducible refine Kd.C_drewN ?_ _)|(with_reducible refine Kd.C_drew ?_)));(case side2=>exact (Kd.R_reads' HO_6.out).2.1);rintro e w31 ⟨rfl,hb⟩;replace HO_6:=Aside0.mk (Kd.R_below (kRC_ HO_6.out) hb);replace HO_7:=Aside0.mk (Kd.R_below (kRC_ HO_7.out) hb);replace HB:=Aside0.mk (below_step (h_HB HB.out) hb);(try clear hb))|((with_reducible refine gate_dst (N:=49) rfl ?_);refine Kd.R_lit (Kd.int .i64) _ 3 ?hg (N:=49) ?hd (xs:=([]:List Int)) (inner:=[]) (ok:=fun _=>True) (okp:=fun _=>True) ?hr ?hp (fun _ hk=>hk) trivial (Below.refl _ _) (Nat.le_refl _) (by simp) ?_;(case hd=>rfl);(case hg=>rfl);(case hr=>exact hrT_);(case hp=>exact (Reps.none _ _));intro v290 w32 ho33 hb hg_ hnew_;clear hg_ hnew_;(first|rw [← Ny289.out] at ho33|(simp only [Int.reduceToNat] at ho33;rw [← Ny289.out] at ho33));replace HO_7:=Aside0.mk (Kd.R_below (kRC_ HO_7.out) hb);have HO291:=Aside0.mk (Kd.R_lower (Kd.R_new' ho33 (Kd.R_lt (kRC_ HO_6.out))) (below_size (h_HB HB.out)));replace HO_6:=Aside0.mk (Kd.R_elder' (kRC_ HO_6.out) (Kd.R_base ho33) hb);replace HB:=Aside0.mk (below_step (h_HB HB.out) hb);clear hb ho33))
 go_ret2
 exact ⟨_,eT_,by (with_reducible repeat (first|apply Kd.R_alloc|apply Kd.R_drewN|apply Kd.R_drew));exact Kd.R_mono HO291.out (fun _ hk=>trivial),h_HB HB.out⟩
/-! ### spec_HasSet: function 81 -/
def spec_HasSet.l0:Nat→List Int→Int→Int→Option (Bool)
 | 0,_,_,_=>none
 | k+1,x0,x1,x5=>if x5<(x0.length:Int) then (if 0≤x5 then (if (rd x0 x5)=x1 then (some true) else (spec_HasSet.l0 k x0 x1 (wrap64 (x5+1)))) else (none)) else (some false)
def spec_HasSet.f (k:Nat) (l0:List Int) (a1:Int):Option (Bool):=spec_HasSet.l0 k l0 a1 0
set_option maxHeartbeats 8000000 in
set_option maxRecDepth 100000 in
theorem spec_HasSet.calls (k:Nat) (A0:Option Addr) (c0:Nat) (l0:List Int) (a1:Int) (r:Bool) (w:World) (hr0:Kd.C (Kd.int .i64) w A0 l0.length l0) (hc0:l0.length≤c0) (h:spec_HasSet.f k l0 a1=some r) :
    Calls Try.prog 81 #[.slice A0 l0.length c0,.int .i64 a1] w fun e w'=>e=.returned (.bool r)∧Drawn0 w w':=by
 have HR0:=Aside0.mk hr0
 have HC0:=Aside0.mk hc0
 clear hr0 hc0
 have H:(spec_HasSet.l0 k l0 a1 0)=some r:=h
 clear h
 have H':=Aside0.mk H
 clear H
 go_enter Try.func81,Try.ntmps81
 go_wp2
 go_loopg [5] k (fun kq v5 w'=>∃ (x5_1:Int),v5=.int .i64 x5_1∧Aside0 (spec_HasSet.l0 kq l0 a1 x5_1=some r)∧Aside0 (kq≤k)∧Drawn0 w w')
 case atStart=>exact ⟨(0),sT_,H',⟨Nat.le_refl _⟩,dT_⟩
 case round =>
 clear H'
 try clear p2
 obtain ⟨x5_1,rfl,HA,HK1,⟨m1,rfl⟩⟩:=hrel
 cases gk with
 | zero=>exact absurd HA.out (by simp [spec_HasSet.l0])
 | succ k1 =>
 have H:=HA.out
 clear HA
 simp only [spec_HasSet.l0] at H
 rcases gsn_ H with ⟨c3b0,H⟩|⟨c3b0,H⟩
 ·obtain rfl:=Option.some.inj H
  go_wp2
  go_ret
  exact ⟨sT_,dT_⟩
 replace H:=gsm_ H;obtain ⟨c4b0,H⟩:=H
 by_cases c5:(rd l0 x5_1)=a1
 ·rw [if_pos c5] at H
  have c5b0:((rd l0 x5_1)==a1)=true:=beq_iff_eq.mpr c5
  have c5b1:((rd l0 x5_1) != a1)=false:=bne_eq_false_iff_eq.mpr c5
  clear c5
  obtain rfl:=Option.some.inj H
  obtain ⟨ad295,e295,hx295_0,p295,q295⟩:=aiI_ HR0.out x5_1
  cases e295
  go_wp2
  go_ret
  exact ⟨sT_,dT_⟩
 rw [if_neg c5] at H
 have c5b0:((rd l0 x5_1)==a1)=false:=beq_eq_false_iff_ne.mpr c5
 have c5b1:((rd l0 x5_1) != a1)=true:=bne_iff_ne.mpr c5
 have H':=Aside0.mk H
 clear H
 obtain ⟨ad295,e295,hx295_0,p295,q295⟩:=aiI_ HR0.out x5_1
 cases e295
 go_wp2
 go_roundg k1
 case measure=>have:=HK1.out;omega
 case rel=>exact ⟨(wrap64 (x5_1+1)),sT_,H',⟨by have:=HK1.out;omega⟩,dT_⟩
/-! ### spec_l4Exchange: function 73 -/
def spec_l4Exchange.l0:Nat→Int→Int→Int→Int→Int→List Int→Option (Bool)
 | 0,_,_,_,_,_,_=>none
 | k+1,x1,x2,x3,x9,x297000,x297001=>if x9<x297000 then ((spec_l2Has.f x2 x9).bind fun t297=>(if t297=true then ((spec_l2Has.f x1 x9).bind fun t298=>(if t298=true then (spec_l4Exchange.l0 k x1 x2 x3 (wrap64 (x9+1)) x297000 x297001) else (if 0≤(IntKind.u64.wrap (x3)) then (if 0≤(IntKind.u64.wrap (x9)) then ((spec_HasSet.f k x297001 (wrap64 ((wrap64 (x1-(shl .i64 1 (IntKind.u64.wrap (x3)))))+(shl .i64 1 (IntKind.u64.wrap (x9)))))).bind fun t299=>(if t299=true then (some true) else (spec_l4Exchange.l0 k x1 x2 x3 (wrap64 (x9+1)) x297000 x297001))) else (none)) else (none)))) else (spec_l4Exchange.l0 k x1 x2 x3 (wrap64 (x9+1)) x297000 x297001))) else (some false)
def spec_l4Exchange.f (k:Nat) (a0_0:Int) (l0_1:List Int) (a1:Int) (a2:Int) (a3:Int):Option (Bool):=spec_l4Exchange.l0 k a1 a2 a3 0 a0_0 l0_1
set_option maxHeartbeats 8000000 in
set_option maxRecDepth 100000 in
theorem spec_l4Exchange.calls (k:Nat) (a0_0:Int) (A0_1:Option Addr) (c0_1:Nat) (l0_1:List Int) (a1:Int) (a2:Int) (a3:Int) (r:Bool) (w:World) (hr0_1:Kd.C (Kd.int .i64) w A0_1 l0_1.length l0_1) (hc0_1:l0_1.length≤c0_1) (h:spec_l4Exchange.f k a0_0 l0_1 a1 a2 a3=some r) :
    Calls Try.prog 73 #[.agg #[.int .i64 a0_0,.slice A0_1 l0_1.length c0_1],.int .i64 a1,.int .i64 a2,.int .i64 a3] w fun e w'=>e=.returned (.bool r)∧Below w.heap.size w w':=by
 have hu26:=Try.underlying26
 have HR0_1:=Aside0.mk hr0_1
 have HC0_1:=Aside0.mk hc0_1
 clear hr0_1 hc0_1
 have HB:=Aside0.mk (Below.refl w.heap.size w)
 have H:(spec_l4Exchange.l0 k a1 a2 a3 0 a0_0 l0_1)=some r:=h
 clear h
 have H':=Aside0.mk H
 clear H
 go_enter Try.func73,Try.ntmps73
 go_wp2_with (first|((with_reducible refine gate_dst (N:=4) rfl ?_);refine bx_ (N:=4) (cs:=#[.int .i64 a0_0,.slice A0_1 l0_1.length c0_1]) (t:=26) ?_;intro gb296 hg w5 hbox hb;have BK296:=Aside0.mk (hbox);have GW296:=Aside0.mk (gw_ hg (h_HB HB.out));have GE296:=Aside0.mk (gw_ hg (h_HB HB.out));replace HB:=Aside0.mk (below_step (h_HB HB.out) hb);clear hb hbox hg))
 go_loopg [9] k (fun kq v9 w'=>∃ (x9_1:Int),v9=.int .i64 x9_1∧Aside0 (spec_l4Exchange.l0 kq a1 a2 a3 x9_1 a0_0 l0_1=some r)∧Aside0 (kq≤k)∧Aside0 (w'.heap[gb296]?=some (.cells #[.int .i64 a0_0,(.slice A0_1 l0_1.length c0_1)] 26 (0,0)))∧Aside0 (Below w.heap.size w w'))
 case atStart=>exact ⟨(0),sT_,H',⟨Nat.le_refl _⟩,⟨bkC_ BK296.out⟩,⟨h_HB HB.out⟩⟩
 case round =>
  clear H'
  try clear p2
  obtain ⟨x9_1,rfl,HA,HK1,BK296,HB⟩:=hrel
  cases gk with
  | zero=>exact absurd HA.out (by simp [spec_l4Exchange.l0])
  | succ k1 =>
   have H:=HA.out
   clear HA
   simp only [spec_l4Exchange.l0] at H
   rcases gsb_ H with ⟨c6b0,H⟩|⟨c6b0,H⟩
   ·replace H:=bnd_ H;obtain ⟨t297,A7,H⟩:=H
    by_cases c8:t297=true
    ·subst c8
     replace H:=bT_ H
     replace H:=bnd_ H;obtain ⟨t298,A9,H⟩:=H
     by_cases c10:t298=true
     ·subst c10
      replace H:=bT_ H
      have H':=Aside0.mk H
      clear H
      obtain ⟨hcz11_0,hcz11_1,hfz11_0,hfz11_1⟩:=bz2_ BK296.out
      go_wp2_with (first|((with_reducible refine gate_callee (f:=72) rfl ?_);refine goesL_ (some 18) rfl rfl Try.func72 krT_ rfl #[.int .i64 a2,.int .i64 x9_1] rfl agT_ ?_;(with_reducible refine (spec_l2Has.calls a2 x9_1 true _ A7.out).mono ?_);rintro e w' ⟨rfl,⟨nd,rfl⟩⟩;refine ⟨_,rfl,?_⟩)|(go_at_call 72;(with_reducible refine (spec_l2Has.calls a1 x9_1 true _ A9.out).mono ?_);rintro e w' ⟨rfl,⟨nd,rfl⟩⟩))
      go_roundg k1
      case measure=>have:=HK1.out;omega
      case rel=>exact ⟨(wrap64 (x9_1+1)),sT_,H',⟨by have:=HK1.out;omega⟩,⟨bkC_ BK296.out⟩,⟨h_HB HB.out⟩⟩
     ·replace c10:=Bool.eq_false_iff.mpr c10
      subst c10
      replace H:=bF_ H
      obtain ⟨ji12,hji12⟩:∃ j_:Int,(IntKind.u64.wrap (a3))=j_:=⟨_,rfl⟩
      replace H:(if 0≤(ji12) then (if 0≤(IntKind.u64.wrap (x9_1)) then ((spec_HasSet.f k1 l0_1 (wrap64 ((wrap64 (a1-(shl .i64 1 (ji12))))+(shl .i64 1 (IntKind.u64.wrap (x9_1)))))).bind fun t299=>(if t299=true then (some true) else (spec_l4Exchange.l0 k1 a1 a2 a3 (wrap64 (x9_1+1)) a0_0 l0_1))) else (none)) else (none))=some r:=by first|(rw [hji12] at H;exact H)|(simp only [hji12] at H ⊢;exact H)
      (try rw [hji12] at A7)
      (try rw [hji12] at A9)
      by_cases c13:0≤(ji12)
      ·rw [if_pos c13] at H
       have c13b0:=eq_true c13
       have c13b1:decide (0≤(ji12))=true:=decide_eq_true c13
       clear c13
       obtain ⟨ji14,hji14⟩:∃ j_:Int,(shl .i64 1 (ji12))=j_:=⟨_,rfl⟩
       replace H:(if 0≤(IntKind.u64.wrap (x9_1)) then ((spec_HasSet.f k1 l0_1 (wrap64 ((wrap64 (a1-(ji14)))+(shl .i64 1 (IntKind.u64.wrap (x9_1)))))).bind fun t299=>(if t299=true then (some true) else (spec_l4Exchange.l0 k1 a1 a2 a3 (wrap64 (x9_1+1)) a0_0 l0_1))) else (none))=some r:=by first|(rw [hji14] at H;exact H)|(simp only [hji14] at H ⊢;exact H)
       (try rw [hji14] at A7)
       (try rw [hji14] at A9)
       have hji14_:(IntKind.i64.wrap (1*2 ^ min (ji12).toNat 64))=ji14:=hji14
       have hji14z:(ji12)≤64→(IntKind.i64.wrap (1*2 ^ (ji12).toNat))=ji14:=shl_small hji14
       have hji14u:(IntKind.i64.wrap (2 ^ min (ji12).toNat 64))=ji14:=by have h_:=hji14_;rw [Int.one_mul] at h_;exact h_
       have hji14v:(ji12)≤64→(IntKind.i64.wrap (2 ^ (ji12).toNat))=ji14:=fun hle_=>by have h_:=hji14z hle_;rw [Int.one_mul] at h_;exact h_
       have hji14y:(wrap64 (1*2 ^ min (ji12).toNat 64))=ji14:=(i64_w _).symm.trans hji14_
       have hji14x:(ji12)≤64→(wrap64 (1*2 ^ (ji12).toNat))=ji14:=fun h_=>(i64_w _).symm.trans (hji14z h_)
       obtain ⟨ji15,hji15⟩:∃ j_:Int,(IntKind.u64.wrap (x9_1))=j_:=⟨_,rfl⟩
       replace H:(if 0≤(ji15) then ((spec_HasSet.f k1 l0_1 (wrap64 ((wrap64 (a1-(ji14)))+(shl .i64 1 (ji15))))).bind fun t299=>(if t299=true then (some true) else (spec_l4Exchange.l0 k1 a1 a2 a3 (wrap64 (x9_1+1)) a0_0 l0_1))) else (none))=some r:=by first|(rw [hji15] at H;exact H)|(simp only [hji15] at H ⊢;exact H)
       (try rw [hji15] at A7)
       (try rw [hji15] at A9)
       by_cases c16:0≤(ji15)
       ·rw [if_pos c16] at H
        have c16b0:=eq_true c16
        have c16b1:decide (0≤(ji15))=true:=decide_eq_true c16
        clear c16
        obtain ⟨ji17,hji17⟩:∃ j_:Int,(shl .i64 1 (ji15))=j_:=⟨_,rfl⟩
        replace H:((spec_HasSet.f k1 l0_1 (wrap64 ((wrap64 (a1-(ji14)))+(ji17)))).bind fun t299=>(if t299=true then (some true) else (spec_l4Exchange.l0 k1 a1 a2 a3 (wrap64 (x9_1+1)) a0_0 l0_1)))=some r:=by first|(rw [hji17] at H;exact H)|(simp only [hji17] at H ⊢;exact H)
        (try rw [hji17] at A7)
        (try rw [hji17] at A9)
        have hji17_:(IntKind.i64.wrap (1*2 ^ min (ji15).toNat 64))=ji17:=hji17
        have hji17z:(ji15)≤64→(IntKind.i64.wrap (1*2 ^ (ji15).toNat))=ji17:=shl_small hji17
        have hji17u:(IntKind.i64.wrap (2 ^ min (ji15).toNat 64))=ji17:=by have h_:=hji17_;rw [Int.one_mul] at h_;exact h_
        have hji17v:(ji15)≤64→(IntKind.i64.wrap (2 ^ (ji15).toNat))=ji17:=fun hle_=>by have h_:=hji17z hle_;rw [Int.one_mul] at h_;exact h_
        have hji17y:(wrap64 (1*2 ^ min (ji15).toNat 64))=ji17:=(i64_w _).symm.trans hji17_
        have hji17x:(ji15)≤64→(wrap64 (1*2 ^ (ji15).toNat))=ji17:=fun h_=>(i64_w _).symm.trans (hji17z h_)
        replace H:=bnd_ H;obtain ⟨t299,A18,H⟩:=H
        by_cases c19:t299=true
        ·subst c19
         replace H:=bT_ H
         obtain rfl:=Option.some.inj H
         obtain ⟨hcz20_0,hcz20_1,hfz20_0,hfz20_1⟩:=bz2_ BK296.out
         go_wp2_with (first|((with_reducible refine gate_callee (f:=72) rfl ?_);refine goesL_ (some 18) rfl rfl Try.func72 krT_ rfl #[.int .i64 a2,.int .i64 x9_1] rfl agT_ ?_;(with_reducible refine (spec_l2Has.calls a2 x9_1 true _ A7.out).mono ?_);rintro e w' ⟨rfl,⟨nd,rfl⟩⟩;refine ⟨_,rfl,?_⟩)|(go_at_call 72;(with_reducible refine (spec_l2Has.calls a1 x9_1 false _ A9.out).mono ?_);rintro e w' ⟨rfl,⟨nd,rfl⟩⟩)|(go_at_call 81;(with_reducible refine (spec_HasSet.calls k1 _ _ l0_1 (wrap64 ((wrap64 (a1-(ji14)))+(ji17))) true _ ?side1 ?side2 A18.out).mono ?_);(case side1=>repeat (first|exact (Kd.C_below HR0_1.out (h_HB HB.out))|(with_reducible refine Kd.C_alloc ?_ _)|(with_reducible refine Kd.C_drewN ?_ _)|(with_reducible refine Kd.C_drew ?_)));(case side2=>exact HC0_1.out);rintro e w' ⟨rfl,⟨nd,rfl⟩⟩))
         go_ret
         exact ⟨by first|rfl|(simp [errW_none,errW_some]<;>rfl)|(simp only [← hji12,← hji14,← hji15,← hji17];first|rfl|(simp [errW_none,errW_some]<;>rfl))|(simp [*,errW_none,errW_some]<;>rfl),h_HB HB.out⟩
        ·replace c19:=Bool.eq_false_iff.mpr c19
         subst c19
         replace H:=bF_ H
         have H':=Aside0.mk H
         clear H
         obtain ⟨hcz21_0,hcz21_1,hfz21_0,hfz21_1⟩:=bz2_ BK296.out
         go_wp2_with (first|((with_reducible refine gate_callee (f:=72) rfl ?_);refine goesL_ (some 18) rfl rfl Try.func72 krT_ rfl #[.int .i64 a2,.int .i64 x9_1] rfl agT_ ?_;(with_reducible refine (spec_l2Has.calls a2 x9_1 true _ A7.out).mono ?_);rintro e w' ⟨rfl,⟨nd,rfl⟩⟩;refine ⟨_,rfl,?_⟩)|(go_at_call 72;(with_reducible refine (spec_l2Has.calls a1 x9_1 false _ A9.out).mono ?_);rintro e w' ⟨rfl,⟨nd,rfl⟩⟩)|(go_at_call 81;(with_reducible refine (spec_HasSet.calls k1 _ _ l0_1 (wrap64 ((wrap64 (a1-(ji14)))+(ji17))) false _ ?side1 ?side2 A18.out).mono ?_);(case side1=>repeat (first|exact (Kd.C_below HR0_1.out (h_HB HB.out))|(with_reducible refine Kd.C_alloc ?_ _)|(with_reducible refine Kd.C_drewN ?_ _)|(with_reducible refine Kd.C_drew ?_)));(case side2=>exact HC0_1.out);rintro e w' ⟨rfl,⟨nd,rfl⟩⟩))
         go_roundg k1
         case measure=>have:=HK1.out;omega
         case rel=>exact ⟨(wrap64 (x9_1+1)),sT_,H',⟨by have:=HK1.out;omega⟩,⟨bkC_ BK296.out⟩,⟨h_HB HB.out⟩⟩
       ·rw [if_neg c16] at H
        exact absurd H (by simp)
      ·rw [if_neg c13] at H
       exact absurd H (by simp)
    ·replace c8:=Bool.eq_false_iff.mpr c8
     subst c8
     replace H:=bF_ H
     have H':=Aside0.mk H
     clear H
     obtain ⟨hcz22_0,hcz22_1,hfz22_0,hfz22_1⟩:=bz2_ BK296.out
     go_wp2_with (first|((with_reducible refine gate_callee (f:=72) rfl ?_);refine goesL_ (some 18) rfl rfl Try.func72 krT_ rfl #[.int .i64 a2,.int .i64 x9_1] rfl agT_ ?_;(with_reducible refine (spec_l2Has.calls a2 x9_1 false _ A7.out).mono ?_);rintro e w' ⟨rfl,⟨nd,rfl⟩⟩;refine ⟨_,rfl,?_⟩))
     go_roundg k1
     case measure=>have:=HK1.out;omega
     case rel=>exact ⟨(wrap64 (x9_1+1)),sT_,H',⟨by have:=HK1.out;omega⟩,⟨bkC_ BK296.out⟩,⟨h_HB HB.out⟩⟩
   ·obtain rfl:=Option.some.inj H
    obtain ⟨hcz23_0,hcz23_1,hfz23_0,hfz23_1⟩:=bz2_ BK296.out
    go_wp2
    go_ret
    exact ⟨eT_,h_HB HB.out⟩
end Go.Proofs.Ytekegbacnagbcaa.P
