-- written by gprint (a program of this session's, round the kit's print), out of the translation and hand-written texts
import Derived.Test.YtekegbacnagbcaaGreatDoorPVFnMatroidsx0
import Derived.Test.YtekegbacnagbcaaGreatDoorPVFnMatroidsx7
namespace Go.Proofs.YtekegbacnagbcaaGreatDoor.P
open Go.RowKit Go.Proofs.YtekegbacnagbcaaGreatDoorW.PrintWords Go.Proofs.YtekegbacnagbcaaGreatDoorW.PrintLast Go.Proofs.YtekegbacnagbcaaGreatDoorW.PrintMore
attribute [local go_sem] max2_int min2_int max_two min_two max_three min_three max_four min_four   -- for this text's walks alone
set_option linter.unusedVariables false
set_option linter.unusedSimpArgs false
/-! ### impl_FamilyText: function 33 -/
def impl_FamilyText.l0:Nat→List ByteArray→List Int→Int→Int→Option (ByteArray)
 | 0,_,_,_,_=>none
 | k+1,x3,x13,x14,x15=>if x15<x14 then (if 0≤x15 then (if x15<(x13.length:Int) then ((impl_SetText.f k (rd x13 x15)).bind fun t266=>(if x3.length<8796093022208 then (impl_FamilyText.l0 k (x3++[t266]) x13 x14 (wrap64 (x15+1))) else (none))) else (none)) else (none)) else ((impl_Join.f x3 (⟨#[44]⟩:ByteArray)).bind fun t270=>(some t270))
def impl_FamilyText.f (k:Nat) (l0:List Int):Option (ByteArray):=if (l0.length:Int)=0 then (some (⟨#[110,111,110,101]⟩:ByteArray)) else ((impl_areSets.f k l0).bind fun t261=>(if t261=true then (impl_FamilyText.l0 k (([]:List ByteArray)) l0 (l0.length:Int) 0) else (some (⟨#[]⟩:ByteArray))))
set_option maxHeartbeats 8000000 in
set_option maxRecDepth 100000 in
theorem impl_FamilyText.calls (k:Nat) (A0:Option Addr) (c0:Nat) (l0:List Int) (r:ByteArray) (w:World) (hr0:Kd.C (Kd.int .i64) w A0 l0.length l0) (hc0:l0.length≤c0) (h:impl_FamilyText.f k l0=some r) :
    Calls Tryz.prog 33 #[.slice A0 l0.length c0] w fun e w'=>e=.returned (.string r)∧Below w.heap.size w w':=by
 have HR0:=Aside0.mk hr0
 have HC0:=Aside0.mk hc0
 clear hr0 hc0
 have HB:=Aside0.mk (Below.refl w.heap.size w)
 unfold impl_FamilyText.f at h
 have H:=h
 clear h
 by_cases c2:(l0.length:Int)=0
 ·rw [if_pos c2] at H
  have c2b0:((l0.length:Int)==0)=true:=beq_iff_eq.mpr c2
  have c2b1:((l0.length:Int) != 0)=false:=bne_eq_false_iff_eq.mpr c2
  clear c2
  obtain rfl:=Option.some.inj H
  go_enter Tryz.func33,Tryz.ntmps33
  go_wp2
  go_ret
  exact ⟨eT_,h_HB HB.out⟩
 rw [if_neg c2] at H
 have c2b0:((l0.length:Int)==0)=false:=beq_eq_false_iff_ne.mpr c2
 have c2b1:((l0.length:Int) != 0)=true:=bne_iff_ne.mpr c2
 have c2b2:¬ (l0=[]):=fun h_=>c2 (by rw [h_];rfl)
 replace H:=bnd_ H;obtain ⟨t261,A3,H⟩:=H
 by_cases c4:t261=true
 rotate_left
 ·replace c4:=Bool.eq_false_iff.mpr c4
  subst c4
  replace H:=bF_ H
  obtain rfl:=Option.some.inj H
  go_enter Tryz.func33,Tryz.ntmps33
  go_wp2_with (first|((with_reducible refine gate_callee (f:=83) rfl ?_);refine goesL_ (some 10) rfl rfl Tryz.func83 krT_ rfl #[.slice A0 l0.length c0] rfl agT_ ?_;(with_reducible refine (impl_areSets.calls k _ _ l0 false _ ?side1 ?side2 A3.out).mono ?_);(case side1=>repeat (first|exact HR0.out|(with_reducible refine Kd.C_alloc ?_ _)|(with_reducible refine Kd.C_drewN ?_ _)|(with_reducible refine Kd.C_drew ?_)));(case side2=>exact HC0.out);rintro e w' ⟨rfl,⟨nd,rfl⟩⟩;refine ⟨_,rfl,?_⟩))
  go_ret
  exact ⟨eT_,h_HB HB.out⟩
 subst c4
 replace H:=bT_ H
 obtain ⟨y262,hy262⟩:∃ y_:List ByteArray,y_=(([]:List ByteArray)):=⟨_,rfl⟩
 rw [← hy262] at H
 have Ny262:=Aside0.mk hy262
 clear hy262
 have H':=Aside0.mk H
 clear H
 go_enter Tryz.func33,Tryz.ntmps33
 go_wp2_with (first|((with_reducible refine gate_callee (f:=83) rfl ?_);refine goesL_ (some 10) rfl rfl Tryz.func83 krT_ rfl #[.slice A0 l0.length c0] rfl agT_ ?_;(with_reducible refine (impl_areSets.calls k _ _ l0 true _ ?side1 ?side2 A3.out).mono ?_);(case side1=>repeat (first|exact HR0.out|(with_reducible refine Kd.C_alloc ?_ _)|(with_reducible refine Kd.C_drewN ?_ _)|(with_reducible refine Kd.C_drew ?_)));(case side2=>exact HC0.out);rintro e w' ⟨rfl,⟨nd,rfl⟩⟩;refine ⟨_,rfl,?_⟩)|((with_reducible refine gate_dst (N:=12) rfl ?_);refine Kd.R_lit Kd.string _ 9 ?hg (N:=12) ?hd (xs:=([]:List ByteArray)) (inner:=[]) (ok:=fun _=>True) (okp:=fun _=>True) ?hr ?hp (fun _ hk=>hk) trivial (Below.refl _ _) (Nat.le_refl _) (by simp) ?_;(case hd=>rfl);(case hg=>rfl);(case hr=>exact hrT_);(case hp=>exact (Reps.none _ _));intro v263 w5 ho6 hb hg_ hnew_;clear hg_ hnew_;(first|rw [← Ny262.out] at ho6|(simp only [Int.reduceToNat] at ho6;rw [← Ny262.out] at ho6));have HO264:=Aside0.mk (Kd.R_lower ho6 (below_size (h_HB HB.out)));replace HB:=Aside0.mk (below_step (h_HB HB.out) hb);clear hb ho6))
 go_loopg [3,15] k (fun kq v3 v15 w'=>∃ (x3_1:List ByteArray) (x15_1:Int),v15=.int .i64 x15_1∧Aside0 (impl_FamilyText.l0 kq x3_1 l0 (l0.length:Int) x15_1=some r)∧Aside0 (kq≤k)∧Aside0 (Kd.R Kd.string 9 w' w.heap.size (fun _=>True) v3 x3_1)∧Aside0 (Below w.heap.size w w'))
 case atStart=>exact ⟨(y262),(0),sT_,H',⟨Nat.le_refl _⟩,⟨kRC_ HO264.out⟩,⟨h_HB HB.out⟩⟩
 case round =>
 clear H'
 try clear c2
 try clear c2b0
 try clear c2b1
 try clear c2b2
 try clear p2
 try clear c3
 try clear c4
 obtain ⟨x3_1,x15_1,rfl,HA,HK1,HO_3,HB⟩:=hrel
 cases gk with
 | zero=>exact absurd HA.out (by simp [impl_FamilyText.l0])
 | succ k1 =>
 have H:=HA.out
 clear HA
 simp only [impl_FamilyText.l0] at H
 rcases gsn_ H with ⟨c7b0,H⟩|⟨c7b0,H⟩
 ·replace H:=bnd_ H;obtain ⟨t270,A14,H⟩:=H
  obtain rfl:=Option.some.inj H
  obtain ⟨Ao15,co15,eo15⟩:=Kd.R_slice HO_3.out
  subst eo15
  go_wp2_with (first|((with_reducible refine gate_callee (f:=90) rfl ?_);refine goesL_ (some 26) rfl rfl Tryz.func90 krT_ rfl #[.slice Ao15 x3_1.length co15,.string (⟨#[44]⟩:ByteArray)] rfl agT_ ?_;(with_reducible refine (impl_Join.calls _ _ x3_1 (⟨#[44]⟩:ByteArray) t270 _ ?side1 ?side2 A14.out).mono ?_);(case side1=>repeat (first|exact (Kd.R_reads' HO_3.out).2.2|(with_reducible refine Kd.C_alloc ?_ _)|(with_reducible refine Kd.C_drewN ?_ _)|(with_reducible refine Kd.C_drew ?_)));(case side2=>exact (Kd.R_reads' HO_3.out).2.1);rintro e w16 ⟨rfl,hb⟩;refine ⟨_,rfl,?_⟩;replace HO_3:=Aside0.mk (Kd.R_below (kRC_ HO_3.out) hb);replace HB:=Aside0.mk (below_step (h_HB HB.out) hb);(try clear hb)))
  go_ret
  exact ⟨eT_,h_HB HB.out⟩
 replace H:=gsm_ H;obtain ⟨c8b0,H⟩:=H
 replace H:=gsm_ H;obtain ⟨c9b0,H⟩:=H
 replace H:=bnd_ H;obtain ⟨t266,A10,H⟩:=H
 by_cases c11:x3_1.length<8796093022208
 ·rw [if_pos c11] at H
  have LMc11:=Aside0.mk c11
  clear c11
  obtain ⟨y267,hy267⟩:∃ y_:List ByteArray,y_=(x3_1++[t266]):=⟨_,rfl⟩
  rw [← hy267] at H
  have Ny267:=Aside0.mk hy267
  clear hy267
  have H':=Aside0.mk H
  clear H
  obtain ⟨ad265,e265,hx265_0,p265,q265⟩:=aiI_ HR0.out x15_1
  cases e265
  replace hx265_0:=(HB.out.cell (World.block_lt_of_cell? w _ hx265_0)).trans hx265_0
  go_wp2_with (first|((with_reducible refine gate_callee (f:=89) rfl ?_);refine goesL_ (some 21) rfl rfl Tryz.func89 krT_ rfl #[.int .i64 (rd l0 x15_1)] rfl agT_ ?_;(with_reducible refine (impl_SetText.calls k1 (rd l0 x15_1) t266 _ A10.out).mono ?_);rintro e w12 ⟨rfl,hb⟩;refine ⟨_,rfl,?_⟩;replace HO_3:=Aside0.mk (Kd.R_below (kRC_ HO_3.out) hb);replace HB:=Aside0.mk (below_step (h_HB HB.out) hb);(try clear hb))|((with_reducible refine gate_builtin (b:=.append) (xs:=#[.tmp 19,.tmp 22]) rfl ?_);at_builtin;refine Kd.R_append Kd.string (w0:=w) w.heap.size rfl (.tmp 19) (.tmp 22) 63 9 (.string ⟨#[]⟩) 16 rfl Tryz.underlying63 info9 rfl (by decide) (by omega) u3 x3_1 t266 [.string t266] (fun _=>True) (fun _=>False) rfl rfl ?aP (fun _ hk=>hk.elim) ?aF ?aO ?aB ?aS ?aL ?_;(case aP=>exact rfl);(case aB=>exact (h_HB HB.out));(case aF=>exact (fun _ _=>trivial));(case aO=>exact (kRC_ HO_3.out));(case aS=>exact (below_size (h_HB HB.out)));(case aL=>have:=LMc11.out;omega);intro v268 w13 ho hb hg hat;rw [← Ny267.out] at ho;replace HB:=Aside0.mk (hb);have HO269:=Aside0.mk (ho);clear HO_3;clear ho hb hg hat))
  go_roundg k1
  case measure=>have:=HK1.out;omega
  case rel=>exact ⟨(y267),(wrap64 (x15_1+1)),sT_,H',⟨by have:=HK1.out;omega⟩,⟨kRC_ HO269.out⟩,⟨h_HB HB.out⟩⟩
 ·rw [if_neg c11] at H
  exact absurd H (by simp)
/-! ### strings_Split: function 111 -/
def strings_Split.f (a0 a1:ByteArray):Option (List ByteArray):=if a0.size<4294967281∧1≤a1.size then some (Lib.splitB a1 0 (Lib.countB a0 a1) a0) else none
theorem strings_Split.calls (a0 a1:ByteArray) (r:List ByteArray) (w:World) (hld:LD w) (h:strings_Split.f a0 a1=some r) :
    Calls Tryz.prog 111 #[.string a0,.string a1] w fun e w'=>∃ v0_:Value,e=.returned (v0_)∧Kd.R Kd.string 9 w' w.heap.size (fun _=>True) v0_ r∧Below w.heap.size w w':=by
 unfold strings_Split.f at h
 by_cases hl:a0.size<4294967281∧1≤a1.size
 ·rw [if_pos hl] at h
  obtain rfl:=Option.some.inj h
  obtain ⟨m,hm⟩:=hld.maxLen
  refine (YtekegbacnagbcaaGreatDoorShelf.strings_Split a0 a1 m w hl.1 hm hl.2).mono ?_
  rintro e w' ⟨rfl,rfl⟩
  have hlen:=Lib.splitB_all a1 hl.2 0 _ a0 rfl
  have hle:=Lib.countB_le a1 hl.2 a0.size a0 (Nat.le_refl _)
  refine ⟨_,rfl,?_,below_alloc (Below.refl _ _) _⟩
  refine Kd.R_of_own ⟨by simp [encs],.inr ⟨w.heap.size,Lib.countB a0 a1+1,((Lib.splitB a1 0 (Lib.countB a0 a1) a0).map Value.string).toArray,by rw [hlen],Nat.le_refl _,Array.getElem?_push_size,by omega,by simp only [maxLen];omega,by simp [hlen],by rw [List.take_of_length_le (by simp)];rfl⟩⟩ (fun _ _=>trivial)
 ·rw [if_neg hl] at h
  exact absurd h (by simp)
/-! ### impl_SplitByte: function 59 -/
def impl_SplitByte.f (a0:ByteArray) (a1:Int):Option (List ByteArray):=(strings_Split.f a0 (strOfNums (([a1]:List Int)))).bind fun t274=>(some t274)
set_option maxHeartbeats 8000000 in
set_option maxRecDepth 100000 in
theorem impl_SplitByte.calls (a0:ByteArray) (a1:Int) (r:List ByteArray) (w:World) (hld:LD w) (h:impl_SplitByte.f a0 a1=some r) :
    Calls Tryz.prog 59 #[.string a0,.int .u8 a1] w fun e w'=>∃ v0_:Value,e=.returned (v0_)∧Kd.R Kd.string 9 w' w.heap.size (fun _=>True) v0_ r∧Below w.heap.size w w':=by
 have HLD:=Aside0.mk hld
 clear hld
 have HB:=Aside0.mk (Below.refl w.heap.size w)
 have H:((strings_Split.f a0 (strOfNums (([a1]:List Int)))).bind fun t274=>(some t274))=some r:=h
 clear h
 obtain ⟨y271,hy271⟩:∃ y_:List Int,y_=(([a1]:List Int)):=⟨_,rfl⟩
 rw [← hy271] at H
 have Ny271:=Aside0.mk hy271
 clear hy271
 replace H:=bnd_ H;obtain ⟨t274,A3,H⟩:=H
 obtain rfl:=Option.some.inj H
 go_enter Tryz.func59,Tryz.ntmps59
 go_wp2_with (first|((with_reducible refine gate_dst (N:=7) rfl ?_);refine Kd.R_lit (Kd.int .u8) _ 5 ?hg (N:=7) ?hd (xs:=([a1]:List Int)) (inner:=[.int .u8 a1]) (ok:=fun _=>True) (okp:=fun _=>True) ?hr ?hp (fun _ hk=>hk) trivial (Below.refl _ _) (Nat.le_refl _) (by simp) ?_;(case hd=>rfl);(case hg=>rfl);(case hr=>exact hrT_);(case hp=>exact (Reps.one (show Kd.M (Kd.int .u8) _ _ _ a1 [.int .u8 a1] from rfl) (Reps.none _ _)));intro v272 w4 ho5 hb hg_ hnew_;clear hg_ hnew_;(first|rw [← Ny271.out] at ho5|(simp only [Int.reduceToNat] at ho5;rw [← Ny271.out] at ho5));have HO273:=Aside0.mk (Kd.R_lower ho5 (below_size (h_HB HB.out)));replace HB:=Aside0.mk (below_step (h_HB HB.out) hb);clear hb ho5;have hcv6:=own_string (P:=Tryz.prog) Tryz.underlying30 Tryz.underlying5 Tryz.underlying9 (Kd.own_of_R HO273.out))|((with_reducible refine gate_callee (f:=111) rfl ?_);refine goesL_ (some 9) rfl rfl Tryz.func111 krT_ rfl #[.string a0,.string (strOfNums y271)] rfl agT_ ?_;(with_reducible refine (strings_Split.calls a0 (strOfNums y271) t274 _ ?ldq A3.out).mono ?_);(case ldq=>exact LD_below HLD.out (h_HB HB.out));rintro e w7 ⟨v275,rfl,ho0,hb⟩;refine ⟨_,rfl,?_⟩;replace HO273:=Aside0.mk (Kd.R_below (kRC_ HO273.out) hb);have HO276:=Aside0.mk (Kd.R_lower ho0 (below_size (h_HB HB.out)));replace HB:=Aside0.mk (below_step (h_HB HB.out) hb);(try clear hb);(try clear hb2);(try clear hk);(try clear hi);(try clear ho0)))
 go_ret
 exact ⟨_,eT_,kRC_ HO276.out,h_HB HB.out⟩
/-! ### impl_ParseSet: function 93 -/
def impl_ParseSet.l0:Nat→ByteArray→Int→Int→Option (Int × Bool)
 | 0,_,_,_=>none
 | k+1,x0,x4,x5=>if x5<(x0.size:Int) then (if 0≤x5 then (if (bt x0 x5)≥97 then (if (bt x0 x5)<105 then (if 0≤(((bt x0 x5)-97) % 256) then (impl_ParseSet.l0 k x0 (Go.bits .or .i64 x4 (shl .i64 1 (((bt x0 x5)-97) % 256))) (wrap64 (x5+1))) else (none)) else (impl_ParseSet.l0 k x0 x4 (wrap64 (x5+1)))) else (impl_ParseSet.l0 k x0 x4 (wrap64 (x5+1)))) else (none)) else (if x0.toList=([]:List UInt8) then (some (0,false)) else ((impl_SetText.f k x4).bind fun t277=>(if t277.toList=x0.toList then (some (x4,true)) else (some (0,false)))))
def impl_ParseSet.f (k:Nat) (a0:ByteArray):Option (Int × Bool):=impl_ParseSet.l0 k a0 0 0
set_option maxHeartbeats 8000000 in
set_option maxRecDepth 100000 in
theorem impl_ParseSet.calls (k:Nat) (a0:ByteArray) (r1:Int) (r2:Bool) (w:World) (h:impl_ParseSet.f k a0=some (r1,r2)) :
    Calls Tryz.prog 93 #[.string a0] w fun e w'=>e=.returned (.tuple #[.int .i64 r1,.bool r2])∧Below w.heap.size w w':=by
 have HB:=Aside0.mk (Below.refl w.heap.size w)
 have H:(impl_ParseSet.l0 k a0 0 0)=some (r1,r2):=h
 clear h
 have H':=Aside0.mk H
 clear H
 go_enter Tryz.func93,Tryz.ntmps93
 go_wp2
 go_loopg [4,5] k (fun kq v4 v5 w'=>∃ (x4_1:Int) (x5_1:Int),v4=.int .i64 x4_1∧v5=.int .i64 x5_1∧Aside0 (impl_ParseSet.l0 kq a0 x4_1 x5_1=some (r1,r2))∧Aside0 (kq≤k)∧Aside0 (Below w.heap.size w w'))
 case atStart=>exact ⟨(0),(0),sT_,sT_,H',⟨Nat.le_refl _⟩,⟨h_HB HB.out⟩⟩
 case round =>
 clear H'
 obtain ⟨x4_1,x5_1,rfl,rfl,HA,HK1,HB⟩:=hrel
 cases gk with
 | zero=>exact absurd HA.out (by simp [impl_ParseSet.l0])
 | succ k1 =>
 have H:=HA.out
 clear HA
 simp only [impl_ParseSet.l0] at H
 rcases gsn_ H with ⟨c2b0,H⟩|⟨c2b0,H⟩
 ·by_cases c12:a0.toList=([]:List UInt8)
  ·rw [if_pos c12] at H
   have c12b0:(a0.toList==([]:List UInt8))=true:=beq_iff_eq.mpr c12
   have c12b1:(a0.toList != ([]:List UInt8))=false:=bne_eq_false_iff_eq.mpr c12
   clear c12
   simp only [Option.some.injEq,Prod.mk.injEq] at H
   obtain ⟨rfl,rfl⟩:=H
   go_wp2
   go_ret2
   exact ⟨eT_,h_HB HB.out⟩
  rw [if_neg c12] at H
  have c12b0:(a0.toList==([]:List UInt8))=false:=beq_eq_false_iff_ne.mpr c12
  have c12b1:(a0.toList != ([]:List UInt8))=true:=bne_iff_ne.mpr c12
  replace H:=bnd_ H;obtain ⟨t277,A13,H⟩:=H
  by_cases c14:t277.toList=a0.toList
  ·rw [if_pos c14] at H
   have c14b0:(t277.toList==a0.toList)=true:=beq_iff_eq.mpr c14
   have c14b1:(t277.toList != a0.toList)=false:=bne_eq_false_iff_eq.mpr c14
   clear c14
   simp only [Option.some.injEq,Prod.mk.injEq] at H
   obtain ⟨rfl,rfl⟩:=H
   go_wp2_with (first|(go_at_call 89;(with_reducible refine (impl_SetText.calls k1 x4_1 t277 _ A13.out).mono ?_);rintro e w15 ⟨rfl,hb⟩;replace HB:=Aside0.mk (below_step (h_HB HB.out) hb);(try clear hb)))
   go_ret2
   exact ⟨eT_,h_HB HB.out⟩
  ·rw [if_neg c14] at H
   have c14b0:(t277.toList==a0.toList)=false:=beq_eq_false_iff_ne.mpr c14
   have c14b1:(t277.toList != a0.toList)=true:=bne_iff_ne.mpr c14
   simp only [Option.some.injEq,Prod.mk.injEq] at H
   obtain ⟨rfl,rfl⟩:=H
   go_wp2_with (first|(go_at_call 89;(with_reducible refine (impl_SetText.calls k1 x4_1 t277 _ A13.out).mono ?_);rintro e w16 ⟨rfl,hb⟩;replace HB:=Aside0.mk (below_step (h_HB HB.out) hb);(try clear hb)))
   go_ret2
   exact ⟨eT_,h_HB HB.out⟩
 replace H:=gsm_ H;obtain ⟨c3b0,H⟩:=H
 by_cases c5:(bt a0 x5_1)≥97
 rotate_left
 ·rw [if_neg c5] at H
  have c5b0:decide (97≤(bt a0 x5_1))=false:=decide_eq_false c5
  clear c5
  have H':=Aside0.mk H
  clear H
  have p4:0≤(x5_1:Int):=odT_
  have q4:x5_1<(a0.size:Int):=odT_
  have hx4:=bt_at a0 x5_1
  replace p4:=eq_true p4
  replace q4:=eq_true q4
  go_wp2
  go_roundg k1
  case measure=>have:=HK1.out;omega
  case rel=>exact ⟨(x4_1),(wrap64 (x5_1+1)),sT_,sT_,H',⟨by have:=HK1.out;omega⟩,⟨h_HB HB.out⟩⟩
 rw [if_pos c5] at H
 have c5b0:decide (97≤(bt a0 x5_1))=true:=decide_eq_true c5
 clear c5
 rcases gsn_ H with ⟨c7b0,H⟩|⟨c7b0,H⟩
 ·have H':=Aside0.mk H
  clear H
  have p4:0≤(x5_1:Int):=odT_
  have q4:x5_1<(a0.size:Int):=odT_
  have hx4:=bt_at a0 x5_1
  replace p4:=eq_true p4
  replace q4:=eq_true q4
  have p6:0≤(x5_1:Int):=odT_
  have q6:x5_1<(a0.size:Int):=odT_
  have hx6:=bt_at a0 x5_1
  replace p6:=eq_true p6
  replace q6:=eq_true q6
  go_wp2
  go_roundg k1
  case measure=>have:=HK1.out;omega
  case rel=>exact ⟨(x4_1),(wrap64 (x5_1+1)),sT_,sT_,H',⟨by have:=HK1.out;omega⟩,⟨h_HB HB.out⟩⟩
 obtain ⟨ji9,hji9⟩:∃ j_:Int,(((bt a0 x5_1)-97) % 256)=j_:=⟨_,rfl⟩
 first |rw [hji9] at H|simp only [hji9] at H
 by_cases c10:0≤(ji9)
 rotate_left
 ·rw [if_neg c10] at H
  exact absurd H (by simp)
 rw [if_pos c10] at H
 have c10b0:=eq_true c10
 have c10b1:decide (0≤(ji9))=true:=decide_eq_true c10
 clear c10
 obtain ⟨ji11,hji11⟩:∃ j_:Int,(shl .i64 1 (ji9))=j_:=⟨_,rfl⟩
 first |rw [hji11] at H|simp only [hji11] at H
 have hji11_:(IntKind.i64.wrap (1*2 ^ min (ji9).toNat 64))=ji11:=hji11
 have hji11z:(ji9)≤64→(IntKind.i64.wrap (1*2 ^ (ji9).toNat))=ji11:=shl_small hji11
 have hji11u:(IntKind.i64.wrap (2 ^ min (ji9).toNat 64))=ji11:=by have h_:=hji11_;rw [Int.one_mul] at h_;exact h_
 have hji11v:(ji9)≤64→(IntKind.i64.wrap (2 ^ (ji9).toNat))=ji11:=fun hle_=>by have h_:=hji11z hle_;rw [Int.one_mul] at h_;exact h_
 have hji11y:(wrap64 (1*2 ^ min (ji9).toNat 64))=ji11:=(i64_w _).symm.trans hji11_
 have hji11x:(ji9)≤64→(wrap64 (1*2 ^ (ji9).toNat))=ji11:=fun h_=>(i64_w _).symm.trans (hji11z h_)
 have H':=Aside0.mk H
 clear H
 have p4:0≤(x5_1:Int):=odT_
 have q4:x5_1<(a0.size:Int):=odT_
 have hx4:=bt_at a0 x5_1
 replace p4:=eq_true p4
 replace q4:=eq_true q4
 have p6:0≤(x5_1:Int):=odT_
 have q6:x5_1<(a0.size:Int):=odT_
 have hx6:=bt_at a0 x5_1
 replace p6:=eq_true p6
 replace q6:=eq_true q6
 have p8:0≤(x5_1:Int):=odT_
 have q8:x5_1<(a0.size:Int):=odT_
 have hx8:=bt_at a0 x5_1
 replace p8:=eq_true p8
 replace q8:=eq_true q8
 go_wp2
 go_roundg k1
 case measure=>have:=HK1.out;omega
 case rel=>exact ⟨(Go.bits .or .i64 x4_1 (ji11)),(wrap64 (x5_1+1)),(by first|rfl|(simp;done)|(simp only [← hji11]<;>(first|rfl|simp))|(simp [*];done)),sT_,H',⟨by have:=HK1.out;omega⟩,⟨h_HB HB.out⟩⟩
/-! ### impl_ParseFamily: function 35 -/
mutual
def impl_ParseFamily.j1:Nat→Int→ByteArray→List Int→Option (List Int × Bool)
 | 0,_,_,_=>none
 | k+1,x0,x1,x6=>(impl_IsFamily.f k x0 x6).bind fun t290=>(if t290=true then ((impl_FamilyText.f k x6).bind fun t291=>(if t291.toList=x1.toList then (some (x6,true)) else (some (([]:List Int),false)))) else (some (([]:List Int),false)))
def impl_ParseFamily.l0:Nat→Int→ByteArray→List Int→List ByteArray→Int→Int→Option (List Int × Bool)
 | 0,_,_,_,_,_,_=>none
 | k+1,x0,x1,x6,x15,x16,x17=>if x17<x16 then (if 0≤x17 then (if x17<(x15.length:Int) then ((impl_ParseSet.f k (rdOf ByteArray.empty x15 x17)).bind fun bt285=>(if x6.length<17592186044416 then (impl_ParseFamily.l0 k x0 x1 (x6++[bt285.1]) x15 x16 (wrap64 (x17+1))) else (none))) else (none)) else (none)) else (impl_ParseFamily.j1 k x0 x1 x6)
end
def impl_ParseFamily.f (k:Nat) (a0:Int) (a1:ByteArray):Option (List Int × Bool):=(some (([]:List Int):List Int)).bind fun y278=>(if a1.toList=([110,111,110,101]:List UInt8) then (impl_ParseFamily.j1 k a0 a1 y278) else ((impl_SplitByte.f a1 44).bind fun t281=>(impl_ParseFamily.l0 k a0 a1 y278 t281 (t281.length:Int) 0)))
set_option maxHeartbeats 8000000 in
set_option maxRecDepth 100000 in
theorem impl_ParseFamily.calls (k:Nat) (a0:Int) (a1:ByteArray) (r1:List Int) (r2:Bool) (w:World) (hld:LD w) (h:impl_ParseFamily.f k a0 a1=some (r1,r2)) :
    Calls Tryz.prog 35 #[.int .i64 a0,.string a1] w fun e w'=>∃ v0_:Value,e=.returned (.tuple #[v0_,.bool r2])∧Kd.R (Kd.int .i64) 3 w' w.heap.size (fun _=>True) v0_ r1∧Below w.heap.size w w':=by
 have HLD:=Aside0.mk hld
 clear hld
 have HB:=Aside0.mk (Below.refl w.heap.size w)
 unfold impl_ParseFamily.f at h
 have H:=h
 clear h
 replace H:=sy_ H;obtain ⟨y278,Ny278,H⟩:=H
 have HC3:=Aside0.mk H
 clear H
 go_enter Tryz.func35,Tryz.ntmps35
 go_upto_if 13 with (first|((with_reducible refine gate_dst (N:=11) rfl ?_);refine Kd.R_lit (Kd.int .i64) _ 3 ?hg (N:=11) ?hd (xs:=([]:List Int)) (inner:=[]) (ok:=fun _=>True) (okp:=fun _=>True) ?hr ?hp (fun _ hk=>hk) trivial (Below.refl _ _) (Nat.le_refl _) (by simp) ?_;(case hd=>rfl);(case hg=>rfl);(case hr=>exact hrT_);(case hp=>exact (Reps.none _ _));intro v279 w4 ho5 hb hg_ hnew_;clear hg_ hnew_;(first|rw [← Ny278.out] at ho5|(simp only [Int.reduceToNat] at ho5;rw [← Ny278.out] at ho5));have HO280:=Aside0.mk (Kd.R_lower ho5 (below_size (h_HB HB.out)));replace HB:=Aside0.mk (below_step (h_HB HB.out) hb);clear hb ho5))
 (try simp only [Act.put,List.setIfInBounds_toArray,List.set_cons_zero,List.set_cons_succ])
 go_cut [6] (fun v6 wc=>∃ (kq:Nat) (x6_2:List Int),Aside0 (impl_ParseFamily.j1 kq a0 a1 x6_2=some (r1,r2))∧Aside0 (kq≤k)∧Aside0 (Kd.R (Kd.int .i64) 3 wc w.heap.size (fun _=>True) v6 x6_2)∧Aside0 (Below w.heap.size w wc))
 case first =>
  have H:=HC3.out
  clear HC3
  by_cases c6:a1.toList=([110,111,110,101]:List UInt8)
  ·rw [if_pos c6] at H
   have c6b0:(a1.toList==([110,111,110,101]:List UInt8))=true:=beq_iff_eq.mpr c6
   have c6b1:(a1.toList != ([110,111,110,101]:List UInt8))=false:=bne_eq_false_iff_eq.mpr c6
   clear c6
   (first|rw [c6b0]|(simp only [i64_w,i32_w];rw [c6b0])|skip)
   have H':=Aside0.mk H
   clear H
   go_wp2
   go_meet
   case rel=>exact ⟨_,(y278),H',⟨by first|omega|exact Nat.le_refl _⟩,⟨kRC_ HO280.out⟩,⟨h_HB HB.out⟩⟩
  rw [if_neg c6] at H
  have c6b0:(a1.toList==([110,111,110,101]:List UInt8))=false:=beq_eq_false_iff_ne.mpr c6
  have c6b1:(a1.toList != ([110,111,110,101]:List UInt8))=true:=bne_iff_ne.mpr c6
  (first|rw [c6b0]|(simp only [i64_w,i32_w];rw [c6b0])|skip)
  replace H:=bnd_ H;obtain ⟨t281,A7,H⟩:=H
  have H':=Aside0.mk H
  clear H
  go_wp2_with (first|((with_reducible refine gate_callee (f:=59) rfl ?_);refine goesL_ (some 15) rfl rfl Tryz.func59 krT_ rfl #[.string a1,.int .u8 44] rfl agT_ ?_;(with_reducible refine (impl_SplitByte.calls a1 44 t281 _ ?ldq A7.out).mono ?_);(case ldq=>exact LD_below HLD.out (h_HB HB.out));rintro e w8 ⟨v282,rfl,ho0,hb⟩;refine ⟨_,rfl,?_⟩;replace HO280:=Aside0.mk (Kd.R_below (kRC_ HO280.out) hb);have HO283:=Aside0.mk (Kd.R_lower ho0 (below_size (h_HB HB.out)));replace HB:=Aside0.mk (below_step (h_HB HB.out) hb);(try clear hb);(try clear hb2);(try clear hk);(try clear hi);(try clear ho0);obtain ⟨Ao9,co9,eo9⟩:=Kd.R_slice HO283.out;subst eo9))
  go_loopg [6,17] k (fun kq v6 v17 w'=>∃ (x6_1:List Int) (x17_1:Int),v17=.int .i64 x17_1∧Aside0 (impl_ParseFamily.l0 kq a0 a1 x6_1 t281 (t281.length:Int) x17_1=some (r1,r2))∧Aside0 (kq≤k)∧Aside0 (Kd.R (Kd.int .i64) 3 w' w.heap.size (fun _=>True) v6 x6_1)∧Aside0 (Kd.R Kd.string 9 w' w.heap.size (fun _=>True) (.slice Ao9 t281.length co9) t281)∧Aside0 (Below w.heap.size w w'))
  case atStart=>exact ⟨(y278),(0),sT_,H',⟨Nat.le_refl _⟩,⟨kRC_ HO280.out⟩,⟨kRC_ HO283.out⟩,⟨h_HB HB.out⟩⟩
  case round =>
  clear H'
  try clear p2
  try clear c3
  try clear c5
  try clear c6
  try clear c6b0
  try clear c6b1
  obtain ⟨x6_1,x17_1,rfl,HA,HK1,HO_6,HO_15,HB⟩:=hrel
  cases gk with
  | zero=>exact absurd HA.out (by simp [impl_ParseFamily.l0])
  | succ k1 =>
  have H:=HA.out
  clear HA
  simp only [impl_ParseFamily.l0] at H
  rcases gsn_ H with ⟨c10b0,H⟩|⟨c10b0,H⟩
  ·have H':=Aside0.mk H
   clear H
   go_wp2
   go_meet
   case rel=>exact ⟨_,(x6_1),H',⟨by have:=HK1.out;first|omega|exact Nat.le_refl _⟩,⟨kRC_ HO_6.out⟩,⟨h_HB HB.out⟩⟩
  replace H:=gsm_ H;obtain ⟨c11b0,H⟩:=H
  replace H:=gsm_ H;obtain ⟨c12b0,H⟩:=H
  replace H:=bnd_ H;obtain ⟨⟨t285,t286⟩,A13,H⟩:=H;dsimp only at H
  by_cases c14:x6_1.length<17592186044416
  ·rw [if_pos c14] at H
   have LMc14:=Aside0.mk c14
   clear c14
   obtain ⟨y287,hy287⟩:∃ y_:List Int,y_=(x6_1++[t285]):=⟨_,rfl⟩
   rw [← hy287] at H
   have Ny287:=Aside0.mk hy287
   clear hy287
   have H':=Aside0.mk H
   clear H
   obtain ⟨ad284,e284,hx284_0,p284,q284⟩:=aiS_ (Kd.R_reads' HO_15.out).2.2 x17_1
   cases e284
   go_wp2_with (first|((with_reducible refine gate_callee (f:=93) rfl ?_);refine goesL_ (some 23) rfl rfl Tryz.func93 krT_ rfl #[.string (rdOf ByteArray.empty t281 x17_1)] rfl agT_ ?_;(with_reducible refine (impl_ParseSet.calls k1 (rdOf ByteArray.empty t281 x17_1) t285 t286 _ A13.out).mono ?_);rintro e w15 ⟨rfl,hb⟩;refine ⟨_,rfl,?_⟩;replace HO_6:=Aside0.mk (Kd.R_below (kRC_ HO_6.out) hb);replace HO_15:=Aside0.mk (Kd.R_below (kRC_ HO_15.out) hb);replace HB:=Aside0.mk (below_step (h_HB HB.out) hb);(try clear hb))|((with_reducible refine gate_builtin (b:=.append) (xs:=#[.tmp 26,.tmp 28]) rfl ?_);at_builtin;refine Kd.R_append (Kd.int .i64) (w0:=w) w.heap.size rfl (.tmp 26) (.tmp 28) 22 3 (.int .i64 0) 8 rfl Tryz.underlying22 info3 rfl (by decide) (by omega) u6 x6_1 t285 [.int .i64 t285] (fun _=>True) (fun _=>False) rfl rfl ?aP (fun _ hk=>hk.elim) ?aF ?aO ?aB ?aS ?aL ?_;(case aP=>exact rfl);(case aB=>exact (h_HB HB.out));(case aF=>exact (fun _ _=>trivial));(case aO=>exact (kRC_ HO_6.out));(case aS=>exact (below_size (h_HB HB.out)));(case aL=>have:=LMc14.out;omega);intro v288 w16 ho hb hg hat;rw [← Ny287.out] at ho;replace HO_15:=Aside0.mk (Kd.R_over' (kRC_ HO_15.out) (Kd.R_typed (kRC_ HO_6.out)) (by decide) hg);replace HB:=Aside0.mk (hb);have HO289:=Aside0.mk (ho);clear HO_6;clear ho hb hg hat))
   go_roundg k1
   case measure=>have:=HK1.out;omega
   case rel=>exact ⟨(y287),(wrap64 (x17_1+1)),sT_,H',⟨by have:=HK1.out;omega⟩,⟨kRC_ HO289.out⟩,⟨kRC_ HO_15.out⟩,⟨h_HB HB.out⟩⟩
  ·rw [if_neg c14] at H
   exact absurd H (by simp)
 case rest =>
 clear HC3
 try clear c1
 try clear p2
 try clear q2
 try clear hx2
 try clear c3
 try clear c5
 try clear c6
 try clear c6b0
 try clear c6b1
 try clear p6
 try clear c9
 try clear c10
 try clear c10b0
 try clear c11
 try clear c11b0
 try clear c12
 try clear c12b0
 try clear c14
 try clear hx284_0
 try clear p2
 try clear p284
 try clear q284
 obtain ⟨kq,x6_2,HA,HJ2,HO_6,HB⟩:=hcut
 cases kq with
 | zero=>exact absurd HA.out (by simp [impl_ParseFamily.j1])
 | succ kj2 =>
 have H:=HA.out
 clear HA
 simp only [impl_ParseFamily.j1] at H
 replace H:=bnd_ H;obtain ⟨t290,A17,H⟩:=H
 by_cases c18:t290=true
 rotate_left
 ·replace c18:=Bool.eq_false_iff.mpr c18
  subst c18
  replace H:=bF_ H
  simp only [Option.some.injEq,Prod.mk.injEq] at H
  obtain ⟨rfl,rfl⟩:=H
  obtain ⟨Ao25,co25,eo25⟩:=Kd.R_slice HO_6.out
  subst eo25
  go_wp2_with (first|((with_reducible refine gate_callee (f:=21) rfl ?_);refine goesL_ (some 33) rfl rfl Tryz.func21 krT_ rfl #[.int .i64 a0,.slice Ao25 x6_2.length co25] rfl agT_ ?_;(with_reducible refine (impl_IsFamily.calls kj2 a0 _ _ x6_2 false _ ?side1 ?side2 A17.out).mono ?_);(case side1=>repeat (first|exact (Kd.R_reads' HO_6.out).2.2|(with_reducible refine Kd.C_alloc ?_ _)|(with_reducible refine Kd.C_drewN ?_ _)|(with_reducible refine Kd.C_drew ?_)));(case side2=>exact (Kd.R_reads' HO_6.out).2.1);rintro e w' ⟨rfl,⟨nd,rfl⟩⟩;refine ⟨_,rfl,?_⟩))
  go_ret2
  exact ⟨_,eT_,by first|exact Kd.R_nil _ _ _ _ _|exact Kd.N_nil _ _ _ _ _|exact Kd.V_nil _ _ _ _ _|exact Kd.Q_nil _ _ _ _ _|exact Kd.S_nil _ _ _ _ _,h_HB HB.out⟩
 subst c18
 replace H:=bT_ H
 replace H:=bnd_ H;obtain ⟨t291,A19,H⟩:=H
 by_cases c20:t291.toList=a1.toList
 ·rw [if_pos c20] at H
  have c20b0:(t291.toList==a1.toList)=true:=beq_iff_eq.mpr c20
  have c20b1:(t291.toList != a1.toList)=false:=bne_eq_false_iff_eq.mpr c20
  clear c20
  simp only [Option.some.injEq,Prod.mk.injEq] at H
  obtain ⟨rfl,rfl⟩:=H
  obtain ⟨Ao21,co21,eo21⟩:=Kd.R_slice HO_6.out
  subst eo21
  go_wp2_with (first|((with_reducible refine gate_callee (f:=21) rfl ?_);refine goesL_ (some 33) rfl rfl Tryz.func21 krT_ rfl #[.int .i64 a0,.slice Ao21 x6_2.length co21] rfl agT_ ?_;(with_reducible refine (impl_IsFamily.calls kj2 a0 _ _ x6_2 true _ ?side1 ?side2 A17.out).mono ?_);(case side1=>repeat (first|exact (Kd.R_reads' HO_6.out).2.2|(with_reducible refine Kd.C_alloc ?_ _)|(with_reducible refine Kd.C_drewN ?_ _)|(with_reducible refine Kd.C_drew ?_)));(case side2=>exact (Kd.R_reads' HO_6.out).2.1);rintro e w' ⟨rfl,⟨nd,rfl⟩⟩;refine ⟨_,rfl,?_⟩)|(go_at_call 33;(with_reducible refine (impl_FamilyText.calls kj2 _ _ x6_2 t291 _ ?side1 ?side2 A19.out).mono ?_);(case side1=>repeat (first|exact (Kd.R_reads' HO_6.out).2.2|(with_reducible refine Kd.C_alloc ?_ _)|(with_reducible refine Kd.C_drewN ?_ _)|(with_reducible refine Kd.C_drew ?_)));(case side2=>exact (Kd.R_reads' HO_6.out).2.1);rintro e w22 ⟨rfl,hb⟩;replace HO_6:=Aside0.mk (Kd.R_below (kRC_ HO_6.out) hb);replace HB:=Aside0.mk (below_step (h_HB HB.out) hb);(try clear hb)))
  go_ret2
  exact ⟨_,eT_,kRC_ HO_6.out,h_HB HB.out⟩
 ·rw [if_neg c20] at H
  have c20b0:(t291.toList==a1.toList)=false:=beq_eq_false_iff_ne.mpr c20
  have c20b1:(t291.toList != a1.toList)=true:=bne_iff_ne.mpr c20
  simp only [Option.some.injEq,Prod.mk.injEq] at H
  obtain ⟨rfl,rfl⟩:=H
  obtain ⟨Ao23,co23,eo23⟩:=Kd.R_slice HO_6.out
  subst eo23
  go_wp2_with (first|((with_reducible refine gate_callee (f:=21) rfl ?_);refine goesL_ (some 33) rfl rfl Tryz.func21 krT_ rfl #[.int .i64 a0,.slice Ao23 x6_2.length co23] rfl agT_ ?_;(with_reducible refine (impl_IsFamily.calls kj2 a0 _ _ x6_2 true _ ?side1 ?side2 A17.out).mono ?_);(case side1=>repeat (first|exact (Kd.R_reads' HO_6.out).2.2|(with_reducible refine Kd.C_alloc ?_ _)|(with_reducible refine Kd.C_drewN ?_ _)|(with_reducible refine Kd.C_drew ?_)));(case side2=>exact (Kd.R_reads' HO_6.out).2.1);rintro e w' ⟨rfl,⟨nd,rfl⟩⟩;refine ⟨_,rfl,?_⟩)|(go_at_call 33;(with_reducible refine (impl_FamilyText.calls kj2 _ _ x6_2 t291 _ ?side1 ?side2 A19.out).mono ?_);(case side1=>repeat (first|exact (Kd.R_reads' HO_6.out).2.2|(with_reducible refine Kd.C_alloc ?_ _)|(with_reducible refine Kd.C_drewN ?_ _)|(with_reducible refine Kd.C_drew ?_)));(case side2=>exact (Kd.R_reads' HO_6.out).2.1);rintro e w24 ⟨rfl,hb⟩;replace HO_6:=Aside0.mk (Kd.R_below (kRC_ HO_6.out) hb);replace HB:=Aside0.mk (below_step (h_HB HB.out) hb);(try clear hb)))
  go_ret2
  exact ⟨_,eT_,by first|exact Kd.R_nil _ _ _ _ _|exact Kd.N_nil _ _ _ _ _|exact Kd.V_nil _ _ _ _ _|exact Kd.Q_nil _ _ _ _ _|exact Kd.S_nil _ _ _ _ _,h_HB HB.out⟩
/-! ### slices_IndexFunc_int_int: function 113 -/
/-- The first hit of a predicate in a list, from index x on, as Go's loop looks for it (k: its rounds). -/
def anyL (p:Int→Option Bool) (l:List Int):Nat→Int→Option Bool
 | 0,_=>none
 | k+1,x=>if x<(l.length:Int) then (if 0≤x then ((p (rd l x)).bind fun b=>(if b=true then (some true) else (anyL p l k (wrap64 (x+1))))) else (none)) else (some false)
theorem anyL_mono {p q:Int→Option Bool} (l:List Int) (h:∀ x,LeO (p x) (q x)):∀ k x,LeO (anyL p l k x) (anyL q l (k+1) x)
 | 0,_=>fun r hr=>by simp [anyL] at hr
 | k+1,x=>by
  unfold anyL
  refine LeO.ite ?_ (LeO.refl _)
  refine LeO.ite ?_ (LeO.refl _)
  refine LeO.bind (h _) (fun b=>?_)
  exact LeO.ite (LeO.refl _) (anyL_mono l h k _)
/-- A function value that takes a whole number, answers as p does, and leaves memory alone. -/
def Quiet1 (g:Nat) (lb:Array Value) (w:World) (p:Int→Option Bool):Prop :=
 ∀ (x:Int) (b:Bool) (n:Nat),p x=some b→Calls Tryz.prog g (#[.int .i64 x]++lb) (w.drewN n) fun e w'=>e=.returned (.bool b)∧Drawn0 (w.drewN n) w'
theorem g_enters {f : FuncId} {fn : Func} {c : Code} (hf : Tryz.prog.funcs[f]? = some fn) (hname : (fn.name == "runtime.NumGoroutine") = false) (hb : fn.body = some c) : ∀ args w, (callFunc f args).run Tryz.prog w = .ok (.enter f args) w := by
 intro args w
 have h1 : fn.name ≠ "runtime.NumGoroutine" := by simpa using hname
 simp [callFunc,hf,h1,hb,mark]
theorem drawn_quiet {f:Nat} {args:Array Value} {w:World} {n:Nat} {v:Value} (h:Calls Tryz.prog f args (w.drewN n) fun e w'=>e=.returned v∧Drawn0 (w.drewN n) w') :
    Calls Tryz.prog f args (w.drewN n) fun e w''=>e=.returned v∧∃ m,w''=w.drewN m:=Calls.quiet_of (h.mono fun _ _ ⟨he,⟨m,hm⟩⟩=>⟨he,m,hm⟩)
/-- What IndexFunc answers, of which ContainsFunc asks only whether it is no less than nought. -/
def IdxIs (r:Bool) (w:World) (e:Ending) (w':World):Prop:=(∃ i:Int,e=.returned (.int .i64 i)∧decide (0≤i)=r)∧Drawn0 w w'
set_option maxHeartbeats 4000000 in
set_option maxRecDepth 100000 in
theorem indexFunc_calls (g:Nat) (lb:Array Value) (eg:∀ args w,(callFunc g args).run Tryz.prog w=.ok (.enter g args) w) (p:Int→Option Bool) (k:Nat) (A0:Option Addr) (c0:Nat) (l0:List Int) (r:Bool) (w:World)
  (hr0:Kd.C (Kd.int .i64) w A0 l0.length l0) (hp:Quiet1 g lb w p) (h:anyL p l0 k 0=some r) :
    Calls Tryz.prog 113 #[.slice A0 l0.length c0,.func (.func g) #[] lb] w (IdxIs r w):=by
 have HR0:=Aside0.mk hr0
 clear hr0
 have HP:=Aside0.mk hp
 clear hp
 have H':=Aside0.mk h
 clear h
 go_enter Tryz.func113,Tryz.ntmps113
 go_wp2
 go_loopg [5,8] k (fun kq v5 v8 w'=>∃ (x:Int),v8=.int .i64 x∧Aside0 (anyL p l0 kq x=some r)∧Drawn0 w w')
 case atStart=>exact ⟨0,rfl,H',Drawn0.refl _⟩
 case round =>
  clear H'
  obtain ⟨x,rfl,HA,⟨m,rfl⟩⟩:=hrel
  cases gk with
  | zero=>exact absurd HA.out (by simp [anyL])
  | succ k1 =>
   have H:=HA.out
   clear HA
   simp only [anyL] at H
   by_cases c3:x<(l0.length:Int)
   ·rw [if_pos c3] at H
    have c3b0:decide (x<(l0.length:Int))=true:=decide_eq_true c3
    by_cases p0:0≤x
    ·rw [if_pos p0] at H
     replace H:=Option.bind_eq_some_iff.mp H
     obtain ⟨b,hb,H⟩:=H
     have HC:=Aside0.mk (fun n=>HP.out (rd l0 x) b n hb)
     clear hb
     obtain ⟨ad,e0,hx0⟩:=Kd.at_int HR0.out x p0 c3
     cases e0
     have P0:=Aside0.mk p0
     replace p0:=eq_true p0
     replace c3:=eq_true c3
     cases b with
     | true =>
      rw [if_pos rfl] at H
      obtain rfl:=Option.some.inj H
      go_wp2_with ((with_reducible refine (HC.out _).mono ?_);rintro e w' ⟨rfl,⟨q,rfl⟩⟩)
      go_ret
      exact ⟨⟨_,rfl,decide_eq_true P0.out⟩,dT_⟩
     | false =>
      rw [if_neg (by decide)] at H
      have H':=Aside0.mk H
      clear H
      go_wp2_with ((with_reducible refine (HC.out _).mono ?_);rintro e w' ⟨rfl,⟨q,rfl⟩⟩)
      go_roundg k1
      case measure=>omega
      case rel=>exact ⟨wrap64 (x+1),rfl,H',dT_⟩
    ·rw [if_neg p0] at H
     exact absurd H (by simp)
   ·rw [if_neg c3] at H
    have c3b0:decide (x<(l0.length:Int))=false:=decide_eq_false c3
    obtain rfl:=Option.some.inj H
    go_wp2
    go_ret
    exact ⟨⟨_,rfl,rfl⟩,dT_⟩
/-! ### slices_ContainsFunc_int_int: function 67 -/
-- needs slices.IndexFunc[[]int,int]
set_option maxHeartbeats 4000000 in
set_option maxRecDepth 100000 in
theorem containsFunc_calls (g:Nat) (lb:Array Value) (eg:∀ args w,(callFunc g args).run Tryz.prog w=.ok (.enter g args) w) (p:Int→Option Bool) (k:Nat) (A0:Option Addr) (c0:Nat) (l0:List Int) (r:Bool) (w:World)
  (hr0:Kd.C (Kd.int .i64) w A0 l0.length l0) (hp:Quiet1 g lb w p) (h:anyL p l0 k 0=some r) :
    Calls Tryz.prog 67 #[.slice A0 l0.length c0,.func (.func g) #[] lb] w fun e w'=>e=.returned (.bool r)∧Drawn0 w w':=by
 have HC:=Aside0.mk (indexFunc_calls g lb eg p k A0 c0 l0 r w hr0 hp h)
 clear eg hr0 hp h
 go_enter Tryz.func67,Tryz.ntmps67
 go_wp2_with ((with_reducible refine HC.out.mono ?_);rintro e w' ⟨⟨i,rfl,hi⟩,⟨q,rfl⟩⟩;have HI:=Aside0.mk hi;clear hi)
 go_ret
 exact ⟨by rw [← HI.out];first|rfl|(simp;done),dT_⟩
/-! ### slices_Index_int_int: function 119 -/
def slices_Index_int_int.l0:Nat→List Int→Int→Int→Int→Option (Int)
 | 0,_,_,_,_=>none
 | k+1,x0,x1,x7,x8=>if x8<x7 then (if 0≤x8 then (if x8<(x0.length:Int) then (if x1=(rd x0 x8) then (some x8) else (slices_Index_int_int.l0 k x0 x1 x7 (wrap64 (x8+1)))) else (none)) else (none)) else (some (-1))
def slices_Index_int_int.f (k:Nat) (l0:List Int) (a1:Int):Option (Int):=slices_Index_int_int.l0 k l0 a1 (l0.length:Int) 0
set_option maxHeartbeats 8000000 in
set_option maxRecDepth 100000 in
theorem slices_Index_int_int.calls (k:Nat) (A0:Option Addr) (c0:Nat) (l0:List Int) (a1:Int) (r:Int) (w:World) (hr0:Kd.C (Kd.int .i64) w A0 l0.length l0) (hc0:l0.length≤c0) (h:slices_Index_int_int.f k l0 a1=some r) :
    Calls Tryz.prog 119 #[.slice A0 l0.length c0,.int .i64 a1] w fun e w'=>e=.returned (.int .i64 r)∧Drawn0 w w':=by
 have HR0:=Aside0.mk hr0
 have HC0:=Aside0.mk hc0
 clear hr0 hc0
 have H:(slices_Index_int_int.l0 k l0 a1 (l0.length:Int) 0)=some r:=h
 clear h
 have H':=Aside0.mk H
 clear H
 go_enter Tryz.func119,Tryz.ntmps119
 go_wp2
 go_loopg [8] k (fun kq v8 w'=>∃ (x8_1:Int),v8=.int .i64 x8_1∧Aside0 (slices_Index_int_int.l0 kq l0 a1 (l0.length:Int) x8_1=some r)∧Aside0 (kq≤k)∧Drawn0 w w')
 case atStart=>exact ⟨(0),sT_,H',⟨Nat.le_refl _⟩,dT_⟩
 case round =>
 clear H'
 try clear c1
 try clear p2
 obtain ⟨x8_1,rfl,HA,HK1,⟨m1,rfl⟩⟩:=hrel
 cases gk with
 | zero=>exact absurd HA.out (by simp [slices_Index_int_int.l0])
 | succ k1 =>
 have H:=HA.out
 clear HA
 simp only [slices_Index_int_int.l0] at H
 rcases gsn_ H with ⟨c3b0,H⟩|⟨c3b0,H⟩
 ·obtain rfl:=Option.some.inj H
  go_wp2
  go_ret
  exact ⟨sT_,dT_⟩
 replace H:=gsm_ H;obtain ⟨c4b0,H⟩:=H
 replace H:=gsm_ H;obtain ⟨c5b0,H⟩:=H
 by_cases c6:a1=(rd l0 x8_1)
 ·rw [if_pos c6] at H
  have c6b0:(a1==(rd l0 x8_1))=true:=beq_iff_eq.mpr c6
  have c6b1:(a1 != (rd l0 x8_1))=false:=bne_eq_false_iff_eq.mpr c6
  clear c6
  obtain rfl:=Option.some.inj H
  obtain ⟨ad292,e292,hx292_0,p292,q292⟩:=aiI_ HR0.out x8_1
  cases e292
  go_wp2
  go_ret
  exact ⟨sT_,dT_⟩
 rw [if_neg c6] at H
 have c6b0:(a1==(rd l0 x8_1))=false:=beq_eq_false_iff_ne.mpr c6
 have c6b1:(a1 != (rd l0 x8_1))=true:=bne_iff_ne.mpr c6
 have H':=Aside0.mk H
 clear H
 obtain ⟨ad292,e292,hx292_0,p292,q292⟩:=aiI_ HR0.out x8_1
 cases e292
 go_wp2
 go_roundg k1
 case measure=>have:=HK1.out;omega
 case rel=>exact ⟨(wrap64 (x8_1+1)),sT_,H',⟨by have:=HK1.out;omega⟩,dT_⟩
end Go.Proofs.YtekegbacnagbcaaGreatDoor.P
