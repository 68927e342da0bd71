-- written by gprint (a program of this session's, round the kit's print), out of the translation and hand-written texts
import Derived.Test.YtekegbacnagbcaaGreatPVFnCircuitsx0
import Derived.Test.YtekegbacnagbcaaGreatPVFnCircuitsx2
import Derived.Test.YtekegbacnagbcaaGreatPVFnCircuitsx3
import Derived.Test.YtekegbacnagbcaaGreatPVFnCircuitsx4
namespace Go.Proofs.YtekegbacnagbcaaGreat.P
open Go.RowKit Go.Proofs.YtekegbacnagbcaaGreatW.PrintWords Go.Proofs.YtekegbacnagbcaaGreatW.PrintLast Go.Proofs.YtekegbacnagbcaaGreatW.PrintMore
attribute [local go_sem] max2_int min2_int max_two min_two max_three min_three max_four min_four
set_option linter.unusedVariables false
set_option maxHeartbeats 8000000
set_option maxRecDepth 100000
set_option linter.unusedSimpArgs false
def spec_Join.l0:Nat→List ByteArray→ByteArray→List Int→Int→Option (ByteArray)
 | 0,_,_,_,_=>none
 | k+1,x0,x1,x5,x6=>if x6<(x0.length:Int) then (if x6>0 then (if x5.length+x1.size<140737488355328 then ((some (x5++bytesOf x1:List Int)).bind fun y179=>(if 0≤x6 then (if y179.length+(rdOf ByteArray.empty x0 x6).size<140737488355328 then (spec_Join.l0 k x0 x1 (y179++bytesOf (rdOf ByteArray.empty x0 x6)) (wrap64 (x6+1))) else (none)) else (none))) else (none)) else (if 0≤x6 then (if x5.length+(rdOf ByteArray.empty x0 x6).size<140737488355328 then (spec_Join.l0 k x0 x1 (x5++bytesOf (rdOf ByteArray.empty x0 x6)) (wrap64 (x6+1))) else (none)) else (none))) else (some (strOfNums x5))
def spec_Join.f (k:Nat) (l0:List ByteArray) (a1:ByteArray):Option (ByteArray):=spec_Join.l0 k l0 a1 (([]:List Int)) 0
theorem spec_Join.calls (k:Nat) (A0:Option Addr) (c0:Nat) (l0:List ByteArray) (a1:ByteArray) (r:ByteArray) (w:World) (hr0:Kd.C Kd.string w A0 l0.length l0) (hc0:l0.length≤c0) (h:spec_Join.f k l0 a1=some r) :
    Calls Tryz.prog 127 #[.slice A0 l0.length c0,.string a1] w fun e w'=>e=.returned (.string r)∧Below w.heap.size w w':=by
 have HR0:=Aside0.mk hr0
 have HC0:=Aside0.mk hc0
 clear hr0 hc0
 have HB:=Aside0.mk (Below.refl w.heap.size w)
 have H:(spec_Join.l0 k l0 a1 (([]:List Int)) 0)=some r:=h
 clear h
 obtain ⟨y176,hy176⟩:∃ y_:List Int,y_=(([]:List Int)):=⟨_,rfl⟩
 rw [← hy176] at H
 have Ny176:=Aside0.mk hy176
 clear hy176
 have H':=Aside0.mk H
 clear H
 go_enter Tryz.func127,Tryz.ntmps127
 go_wp2_with (first|((with_reducible refine gate_dst (N:=7) rfl ?_);refine Kd.R_lit (Kd.int .u8) _ 5 ?hg (N:=7) ?hd (xs:=([]:List Int)) (inner:=[]) (ok:=fun _=>True) (okp:=fun _=>True) ?hr ?hp (fun _ hk=>hk) trivial (Below.refl _ _) (Nat.le_refl _) (by simp) ?_;(case hd=>rfl);(case hg=>rfl);(case hr=>exact hrT_);(case hp=>exact (Reps.none _ _));intro v177 w3 ho4 hb hg_ hnew_;clear hg_ hnew_;(first|rw [← Ny176.out] at ho4|(simp only [Int.reduceToNat] at ho4;rw [← Ny176.out] at ho4));have HO178:=Aside0.mk (Kd.R_lower ho4 (below_size (h_HB HB.out)));replace HB:=s_HB HB.out hb;clear hb ho4))
 go_loopg [5,6] k (fun kq v5 v6 w'=>∃ (x5_1:List Int) (x6_1:Int),v6=.int .i64 x6_1∧Aside0 (spec_Join.l0 kq l0 a1 x5_1 x6_1=some r)∧Aside0 (kq≤k)∧Aside0 (Kd.R (Kd.int .u8) 5 w' w.heap.size (fun _=>True) v5 x5_1)∧Aside0 (Below w.heap.size w w'))
 case atStart=>exact ⟨(y176),(0),sT_,H',⟨Nat.le_refl _⟩,⟨kRC_ HO178.out⟩,⟨h_HB HB.out⟩⟩
 case round =>
 clear H'
 try clear c1
 try clear p2
 obtain ⟨x5_1,x6_1,rfl,HA,HK1,HO_5,HB⟩:=hrel
 cases gk with
 | zero=>exact absurd HA.out (by simp [spec_Join.l0])
 | succ k1 =>
 have H:=HA.out
 clear HA
 simp only [spec_Join.l0] at H
 replace H:=gsn_ H;rcases H with ⟨c5b0,H⟩|⟨c5b0,H⟩
 ·obtain rfl:=Option.some.inj H
  have hcv15:=own_string (P:=Tryz.prog) Tryz.underlying22 Tryz.underlying5 Tryz.underlying9 (Kd.own_of_R HO_5.out)
  go_wp2
  go_ret
  exact ⟨eT_,h_HB HB.out⟩
 replace H:=gsq_ H;rcases H with ⟨c6,H⟩|⟨c6,H⟩
 ·have c6b0:decide (0<x6_1)=true:=decide_eq_true c6
  clear c6
  replace H:=gsl_ H;obtain ⟨LMc7,H⟩:=H
  replace H:=sy_ H;obtain ⟨y179,Ny179,H⟩:=H
  replace H:=gsm_ H;obtain ⟨c8b0,H⟩:=H
  replace H:=gsl_ H;obtain ⟨LMc9,H⟩:=H
  obtain ⟨y183,hy183⟩:∃ y_:List Int,y_=(y179++bytesOf (rdOf ByteArray.empty l0 x6_1)):=⟨_,rfl⟩
  rw [← hy183] at H
  have Ny183:=Aside0.mk hy183
  clear hy183
  have H':=Aside0.mk H
  clear H
  go_wp2_with (first|(at_builtin;refine print_append_str (w0:=w) w.heap.size rfl (.tmp 16) _ 22 9 5 rfl Tryz.underlying22 Tryz.underlying9 info5 u5 x5_1 a1 rfl rfl ?aO ?aB ?aS ?aL ?_;(case aB=>exact (h_HB HB.out));(case aO=>exact (Kd.own_of_R (kRC_ HO_5.out)));(case aS=>exact (below_size (h_HB HB.out)));(case aL=>have:=LMc7.out;omega);intro v180 w10 ho0 hb hg;have ho:=Kd.R_of_own (h1:=fun _=>rfl) (ok:=fun _=>True) ho0 (fun _ _=>trivial);clear ho0;have hat:=True.intro;rw [← Ny179.out] at ho;change Kd.R (Kd.int .u8) 5 w10 w.heap.size (fun _=>True) v180 y179 at ho;replace HB:=Aside0.mk (hb);have HO181:=Aside0.mk (ho);clear HO_5;clear ho hb hg hat;obtain ⟨ad182,e182,hx182_0,p182,q182⟩:=aiS_ HR0.out x6_1;cases e182;replace hx182_0:=(HB.out.cell (World.block_lt_of_cell? w _ hx182_0)).trans hx182_0)|(at_builtin;refine print_append_str (w0:=w) w.heap.size rfl (.tmp 19) _ 22 9 5 rfl Tryz.underlying22 Tryz.underlying9 info5 v180 y179 (rdOf ByteArray.empty l0 x6_1) rfl rfl ?aO ?aB ?aS ?aL ?_;(case aB=>exact (h_HB HB.out));(case aO=>exact (Kd.own_of_R (kRC_ HO181.out)));(case aS=>exact (below_size (h_HB HB.out)));(case aL=>have:=LMc9.out;omega);intro v184 w11 ho0 hb hg;have ho:=Kd.R_of_own (h1:=fun _=>rfl) (ok:=fun _=>True) ho0 (fun _ _=>trivial);clear ho0;have hat:=True.intro;rw [← Ny183.out] at ho;change Kd.R (Kd.int .u8) 5 w11 w.heap.size (fun _=>True) v184 y183 at ho;replace HB:=Aside0.mk (hb);have HO185:=Aside0.mk (ho);clear HO181;clear ho hb hg hat))
  go_roundg k1
  case measure=>have:=HK1.out;omega
  case rel=>exact ⟨(y183),(wrap64 (x6_1+1)),sT_,H',⟨by have:=HK1.out;omega⟩,⟨kRC_ HO185.out⟩,⟨h_HB HB.out⟩⟩
 have c6b0:decide (0<x6_1)=false:=decide_eq_false c6
 clear c6
 replace H:=gsm_ H;obtain ⟨c12b0,H⟩:=H
 replace H:=gsl_ H;obtain ⟨LMc13,H⟩:=H
 obtain ⟨y187,hy187⟩:∃ y_:List Int,y_=(x5_1++bytesOf (rdOf ByteArray.empty l0 x6_1)):=⟨_,rfl⟩
 rw [← hy187] at H
 have Ny187:=Aside0.mk hy187
 clear hy187
 have H':=Aside0.mk H
 clear H
 obtain ⟨ad186,e186,hx186_0,p186,q186⟩:=aiS_ HR0.out x6_1
 cases e186
 replace hx186_0:=(HB.out.cell (World.block_lt_of_cell? w _ hx186_0)).trans hx186_0
 go_wp2_with (first|(at_builtin;refine print_append_str (w0:=w) w.heap.size rfl (.tmp 19) _ 22 9 5 rfl Tryz.underlying22 Tryz.underlying9 info5 u5 x5_1 (rdOf ByteArray.empty l0 x6_1) rfl rfl ?aO ?aB ?aS ?aL ?_;(case aB=>exact (h_HB HB.out));(case aO=>exact (Kd.own_of_R (kRC_ HO_5.out)));(case aS=>exact (below_size (h_HB HB.out)));(case aL=>have:=LMc13.out;omega);intro v188 w14 ho0 hb hg;have ho:=Kd.R_of_own (h1:=fun _=>rfl) (ok:=fun _=>True) ho0 (fun _ _=>trivial);clear ho0;have hat:=True.intro;rw [← Ny187.out] at ho;change Kd.R (Kd.int .u8) 5 w14 w.heap.size (fun _=>True) v188 y187 at ho;replace HB:=Aside0.mk (hb);have HO189:=Aside0.mk (ho);clear HO_5;clear ho hb hg hat))
 go_roundg k1
 case measure=>have:=HK1.out;omega
 case rel=>exact ⟨(y187),(wrap64 (x6_1+1)),sT_,H',⟨by have:=HK1.out;omega⟩,⟨kRC_ HO189.out⟩,⟨h_HB HB.out⟩⟩
def spec_FamilyText.l0:Nat→List Int→List ByteArray→Int→Option (ByteArray)
 | 0,_,_,_=>none
 | k+1,x0,x3,x4=>if x4<(x0.length:Int) then (if 0≤x4 then ((spec_SetText.f k (rd x0 x4)).bind fun t195=>(if x3.length<8796093022208 then (spec_FamilyText.l0 k x0 (x3++[t195]) (wrap64 (x4+1))) else (none))) else (none)) else ((spec_Join.f k x3 (⟨#[44]⟩:ByteArray)).bind fun t199=>(some t199))
def spec_FamilyText.f (k:Nat) (l0:List Int):Option (ByteArray):=(spec_l3Sets.f k 8 l0).bind fun t190=>(if t190=true then (if (l0.length:Int)=0 then (some (⟨#[110,111,110,101]⟩:ByteArray)) else (spec_FamilyText.l0 k l0 (([]:List ByteArray)) 0)) else (some (⟨#[]⟩:ByteArray)))
theorem spec_FamilyText.calls (k:Nat) (A0:Option Addr) (c0:Nat) (l0:List Int) (r:ByteArray) (w:World) (hr0:Kd.C (Kd.int .i64) w A0 l0.length l0) (hc0:l0.length≤c0) (h:spec_FamilyText.f k l0=some r) :
    Calls Tryz.prog 117 #[.slice A0 l0.length c0] w fun e w'=>e=.returned (.string r)∧Below w.heap.size w w':=by
 have HR0:=Aside0.mk hr0
 have HC0:=Aside0.mk hc0
 clear hr0 hc0
 have HB:=Aside0.mk (Below.refl w.heap.size w)
 unfold spec_FamilyText.f at h
 have H:=h
 clear h
 replace H:=bnd_ H;obtain ⟨t190,A2,H⟩:=H
 replace H:=(gst_ H).symm;rcases H with ⟨rfl,H⟩|⟨rfl,H⟩
 ·obtain rfl:=Option.some.inj H
  go_enter Tryz.func117,Tryz.ntmps117
  go_wp2_with (first|((with_reducible refine gate_callee (f:=76) rfl ?_);refine goesL_ (some 6) rfl rfl Tryz.func76 krT_ rfl #[.int .i64 8,.slice A0 l0.length c0] rfl agT_ ?_;(with_reducible refine (spec_l3Sets.calls k 8 _ _ l0 false _ ?side1 ?side2 A2.out).mono ?_);(case side1=>repeat (first|exact HR0.out|(with_reducible refine Kd.C_alloc ?_ _)|(with_reducible refine Kd.C_drewN ?_ _)|(with_reducible refine Kd.C_drew ?_)));(case side2=>exact HC0.out);rintro e w' ⟨rfl,⟨nd,rfl⟩⟩;refine ⟨_,rfl,?_⟩))
  go_ret
  exact ⟨eT_,h_HB HB.out⟩
 replace H:=gse_ H;rcases H with ⟨c4b0,c4b1,H⟩|⟨c4b0,c4b1,c4,H⟩
 ·obtain rfl:=Option.some.inj H
  go_enter Tryz.func117,Tryz.ntmps117
  go_wp2_with (first|((with_reducible refine gate_callee (f:=76) rfl ?_);refine goesL_ (some 6) rfl rfl Tryz.func76 krT_ rfl #[.int .i64 8,.slice A0 l0.length c0] rfl agT_ ?_;(with_reducible refine (spec_l3Sets.calls k 8 _ _ l0 true _ ?side1 ?side2 A2.out).mono ?_);(case side1=>repeat (first|exact HR0.out|(with_reducible refine Kd.C_alloc ?_ _)|(with_reducible refine Kd.C_drewN ?_ _)|(with_reducible refine Kd.C_drew ?_)));(case side2=>exact HC0.out);rintro e w' ⟨rfl,⟨nd,rfl⟩⟩;refine ⟨_,rfl,?_⟩))
  go_ret
  exact ⟨eT_,h_HB HB.out⟩
 have c4b2:¬ (l0=[]):=fun h_=>c4 (by rw [h_];rfl)
 obtain ⟨y191,hy191⟩:∃ y_:List ByteArray,y_=(([]:List ByteArray)):=⟨_,rfl⟩
 rw [← hy191] at H
 have Ny191:=Aside0.mk hy191
 clear hy191
 have H':=Aside0.mk H
 clear H
 go_enter Tryz.func117,Tryz.ntmps117
 go_wp2_with (first|((with_reducible refine gate_callee (f:=76) rfl ?_);refine goesL_ (some 6) rfl rfl Tryz.func76 krT_ rfl #[.int .i64 8,.slice A0 l0.length c0] rfl agT_ ?_;(with_reducible refine (spec_l3Sets.calls k 8 _ _ l0 true _ ?side1 ?side2 A2.out).mono ?_);(case side1=>repeat (first|exact HR0.out|(with_reducible refine Kd.C_alloc ?_ _)|(with_reducible refine Kd.C_drewN ?_ _)|(with_reducible refine Kd.C_drew ?_)));(case side2=>exact HC0.out);rintro e w' ⟨rfl,⟨nd,rfl⟩⟩;refine ⟨_,rfl,?_⟩)|((with_reducible refine gate_dst (N:=11) rfl ?_);refine Kd.R_lit Kd.string _ 9 ?hg (N:=11) ?hd (xs:=([]:List ByteArray)) (inner:=[]) (ok:=fun _=>True) (okp:=fun _=>True) ?hr ?hp (fun _ hk=>hk) trivial (Below.refl _ _) (Nat.le_refl _) (by simp) ?_;(case hd=>rfl);(case hg=>rfl);(case hr=>exact hrT_);(case hp=>exact (Reps.none _ _));intro v192 w5 ho6 hb hg_ hnew_;clear hg_ hnew_;(first|rw [← Ny191.out] at ho6|(simp only [Int.reduceToNat] at ho6;rw [← Ny191.out] at ho6));have HO193:=Aside0.mk (Kd.R_lower ho6 (below_size (h_HB HB.out)));replace HB:=s_HB HB.out hb;clear hb ho6))
 go_loopg [3,4] k (fun kq v3 v4 w'=>∃ (x3_1:List ByteArray) (x4_1:Int),v4=.int .i64 x4_1∧Aside0 (spec_FamilyText.l0 kq l0 x3_1 x4_1=some r)∧Aside0 (kq≤k)∧Aside0 (Kd.R Kd.string 9 w' w.heap.size (fun _=>True) v3 x3_1)∧Aside0 (Below w.heap.size w w'))
 case atStart=>exact ⟨(y191),(0),sT_,H',⟨Nat.le_refl _⟩,⟨kRC_ HO193.out⟩,⟨h_HB HB.out⟩⟩
 case round =>
 clear H'
 try clear c1
 try clear p2
 try clear c3
 try clear c4
 try clear c4b0
 try clear c4b1
 try clear c4b2
 obtain ⟨x3_1,x4_1,rfl,HA,HK1,HO_3,HB⟩:=hrel
 cases gk with
 | zero=>exact absurd HA.out (by simp [spec_FamilyText.l0])
 | succ k1 =>
 have H:=HA.out
 clear HA
 simp only [spec_FamilyText.l0] at H
 replace H:=gsn_ H;rcases H with ⟨c7b0,H⟩|⟨c7b0,H⟩
 ·replace H:=bnd_ H;obtain ⟨t199,A13,H⟩:=H
  obtain rfl:=Option.some.inj H
  obtain ⟨Ao14,co14,eo14⟩:=Kd.R_slice HO_3.out
  subst eo14
  go_wp2_with (first|((with_reducible refine gate_callee (f:=127) rfl ?_);refine goesL_ (some 27) rfl rfl Tryz.func127 krT_ rfl #[.slice Ao14 x3_1.length co14,.string (⟨#[44]⟩:ByteArray)] rfl agT_ ?_;(with_reducible refine (spec_Join.calls k1 _ _ x3_1 (⟨#[44]⟩:ByteArray) t199 _ ?side1 ?side2 A13.out).mono ?_);(case side1=>repeat (first|exact (Kd.R_reads' HO_3.out).2.2|(with_reducible refine Kd.C_alloc ?_ _)|(with_reducible refine Kd.C_drewN ?_ _)|(with_reducible refine Kd.C_drew ?_)));(case side2=>exact (Kd.R_reads' HO_3.out).2.1);rintro e w15 ⟨rfl,hb⟩;refine ⟨_,rfl,?_⟩;replace HO_3:=Aside0.mk (Kd.R_below (kRC_ HO_3.out) hb);replace HB:=s_HB HB.out hb;(try clear hb)))
  go_ret
  exact ⟨eT_,h_HB HB.out⟩
 replace H:=gsm_ H;obtain ⟨c8b0,H⟩:=H
 replace H:=bnd_ H;obtain ⟨t195,A9,H⟩:=H
 replace H:=gsl_ H;obtain ⟨LMc10,H⟩:=H
 obtain ⟨y196,hy196⟩:∃ y_:List ByteArray,y_=(x3_1++[t195]):=⟨_,rfl⟩
 rw [← hy196] at H
 have Ny196:=Aside0.mk hy196
 clear hy196
 have H':=Aside0.mk H
 clear H
 obtain ⟨ad194,e194,hx194_0,p194,q194⟩:=aiI_ HR0.out x4_1
 cases e194
 replace hx194_0:=(HB.out.cell (World.block_lt_of_cell? w _ hx194_0)).trans hx194_0
 go_wp2_with (first|((with_reducible refine gate_callee (f:=126) rfl ?_);refine goesL_ (some 23) rfl rfl Tryz.func126 krT_ rfl #[.int .i64 (rd l0 x4_1)] rfl agT_ ?_;(with_reducible refine (spec_SetText.calls k1 (rd l0 x4_1) t195 _ A9.out).mono ?_);rintro e w11 ⟨rfl,hb⟩;refine ⟨_,rfl,?_⟩;replace HO_3:=Aside0.mk (Kd.R_below (kRC_ HO_3.out) hb);replace HB:=s_HB HB.out hb;(try clear hb))|((with_reducible refine gate_builtin (b:=.append) (xs:=#[.tmp 18,.tmp 24]) rfl ?_);at_builtin;refine Kd.R_append Kd.string (w0:=w) w.heap.size rfl (.tmp 18) (.tmp 24) 79 9 (.string ⟨#[]⟩) 16 rfl Tryz.underlying79 info9 rfl (by decide) (by omega) u3 x3_1 t195 [.string t195] (fun _=>True) (fun _=>False) rfl rfl ?aP (fun _ hk=>hk.elim) ?aF ?aO ?aB ?aS ?aL ?_;(case aP=>exact rfl);(case aB=>exact (h_HB HB.out));(case aF=>exact (fun _ _=>trivial));(case aO=>exact (kRC_ HO_3.out));(case aS=>exact (below_size (h_HB HB.out)));(case aL=>have:=LMc10.out;omega);intro v197 w12 ho hb hg hat;rw [← Ny196.out] at ho;replace HB:=Aside0.mk (hb);have HO198:=Aside0.mk (ho);clear HO_3;clear ho hb hg hat))
 go_roundg k1
 case measure=>have:=HK1.out;omega
 case rel=>exact ⟨(y196),(wrap64 (x4_1+1)),sT_,H',⟨by have:=HK1.out;omega⟩,⟨kRC_ HO198.out⟩,⟨h_HB HB.out⟩⟩
mutual
def spec_ParseFamily.l0:Nat→Int→ByteArray→List Int→List ByteArray→Int→Option (List Int × Bool)
 | 0,_,_,_,_,_=>none
 | k+1,x0,x1,x6,x7,x8=>if x8<(x7.length:Int) then (spec_ParseFamily.j1 k x0 x1 x6 x7 x8 (x1.toList != ([110,111,110,101]:List UInt8))) else (spec_ParseFamily.j1 k x0 x1 x6 x7 x8 false)
def spec_ParseFamily.j1:Nat→Int→ByteArray→List Int→List ByteArray→Int→Bool→Option (List Int × Bool)
 | 0,_,_,_,_,_,_=>none
 | k+1,x0,x1,x6,x7,x8,x21=>if x21=true then (if 0≤x8 then (if x8<(x7.length:Int) then ((spec_ParseSet.f k (rdOf ByteArray.empty x7 x8)).bind fun bt207=>(if bt207.2=true then (if x6.length<17592186044416 then (spec_ParseFamily.l0 k x0 x1 (x6++[bt207.1]) x7 (wrap64 (x8+1))) else (none)) else (some ((([]:List Int)),false)))) else (none)) else (none)) else ((spec_IsFamily.f k x0 x6).bind fun t215=>(if t215=true then ((spec_FamilyText.f k x6).bind fun t216=>(if t216.toList=x1.toList then (some (x6,true)) else (some ((([]:List Int)),false)))) else (some ((([]:List Int)),false))))
end
def spec_ParseFamily.f (k:Nat) (a0:Int) (a1:ByteArray):Option (List Int × Bool):=(spec_SplitByte.f k a1 44).bind fun t203=>(spec_ParseFamily.l0 k a0 a1 (([]:List Int)) t203 0)
theorem spec_ParseFamily.calls (k:Nat) (a0:Int) (a1:ByteArray) (r1:List Int) (r2:Bool) (w:World) (h:spec_ParseFamily.f k a0 a1=some (r1,r2)) :
    Calls Tryz.prog 101 #[.int .i64 a0,.string a1] w fun e w'=>∃ v0_:Value,e=.returned (.tuple #[v0_,.bool r2])∧Kd.R (Kd.int .i64) 3 w' w.heap.size (fun _=>True) v0_ r1∧Below w.heap.size w w':=by
 have HB:=Aside0.mk (Below.refl w.heap.size w)
 have H:((spec_SplitByte.f k a1 44).bind fun t203=>(spec_ParseFamily.l0 k a0 a1 (([]:List Int)) t203 0))=some (r1,r2):=h
 clear h
 obtain ⟨y200,hy200⟩:∃ y_:List Int,y_=(([]:List Int)):=⟨_,rfl⟩
 rw [← hy200] at H
 have Ny200:=Aside0.mk hy200
 clear hy200
 replace H:=bnd_ H;obtain ⟨t203,A3,H⟩:=H
 have H':=Aside0.mk H
 clear H
 go_enter Tryz.func101,Tryz.ntmps101
 go_wp2_with (first|((with_reducible refine gate_dst (N:=11) rfl ?_);refine Kd.R_lit (Kd.int .i64) _ 3 ?hg (N:=11) ?hd (xs:=([]:List Int)) (inner:=[]) (ok:=fun _=>True) (okp:=fun _=>True) ?hr ?hp (fun _ hk=>hk) trivial (Below.refl _ _) (Nat.le_refl _) (by simp) ?_;(case hd=>rfl);(case hg=>rfl);(case hr=>exact hrT_);(case hp=>exact (Reps.none _ _));intro v201 w4 ho5 hb hg_ hnew_;clear hg_ hnew_;(first|rw [← Ny200.out] at ho5|(simp only [Int.reduceToNat] at ho5;rw [← Ny200.out] at ho5));have HO202:=Aside0.mk (Kd.R_lower ho5 (below_size (h_HB HB.out)));replace HB:=s_HB HB.out hb;clear hb ho5)|((with_reducible refine gate_callee (f:=99) rfl ?_);refine goesL_ (some 13) rfl rfl Tryz.func99 krT_ rfl #[.string a1,.int .u8 44] rfl agT_ ?_;(with_reducible refine (spec_SplitByte.calls k a1 44 t203 _ A3.out).mono ?_);rintro e w6 ⟨v204,rfl,ho0,hb⟩;refine ⟨_,rfl,?_⟩;replace HO202:=Aside0.mk (Kd.R_below (kRC_ HO202.out) hb);have HO205:=Aside0.mk (Kd.R_lower ho0 (below_size (h_HB HB.out)));replace HB:=s_HB HB.out hb;(try clear hb);(try clear ho0)))
 go_loopg [6,8] k (fun kq v6 v8 w'=>∃ (x6_1:List Int) (x8_1:Int),v8=.int .i64 x8_1∧Aside0 (spec_ParseFamily.l0 kq a0 a1 x6_1 t203 x8_1=some (r1,r2))∧Aside0 (kq≤k)∧Aside0 (Kd.R (Kd.int .i64) 3 w' w.heap.size (fun _=>True) v6 x6_1)∧Aside0 (Kd.R Kd.string 9 w' w.heap.size (fun _=>True) v204 t203)∧Aside0 (Below w.heap.size w w'))
 case atStart=>exact ⟨(y200),(0),sT_,H',⟨Nat.le_refl _⟩,⟨kRC_ HO202.out⟩,⟨kRC_ HO205.out⟩,⟨h_HB HB.out⟩⟩
 case round =>
 clear H'
 try clear c1
 try clear p2
 obtain ⟨x6_1,x8_1,rfl,HA,HK1,HO_6,HO_7,HB⟩:=hrel
 cases gk with
 | zero=>exact absurd HA.out (by simp [spec_ParseFamily.l0])
 | succ k1 =>
 have H:=HA.out
 clear HA
 simp only [spec_ParseFamily.l0] at H
 have HC7:=Aside0.mk H
 clear H
 go_upto_region 4 with (fail)
 go_cut [21] (fun v21 wc=>∃ (kq:Nat) (x21_6:Bool),v21=.bool x21_6∧Aside0 (spec_ParseFamily.j1 kq a0 a1 x6_1 t203 x8_1 x21_6=some (r1,r2))∧Aside0 (kq≤k1)∧Aside0 (Kd.R (Kd.int .i64) 3 wc w.heap.size (fun _=>True) u6 x6_1)∧Aside0 (Kd.R Kd.string 9 wc w.heap.size (fun _=>True) v204 t203)∧Aside0 (Below w.heap.size w wc))
 case first =>
  have H:=HC7.out
  clear HC7
  replace H:=gsb_ H;rcases H with ⟨c8b0,H⟩|⟨c8b0,H⟩
  ·(first|rw [c8b0]|(simp only [i64_w,i32_w];rw [c8b0])|skip)
   have H':=Aside0.mk H
   clear H
   obtain ⟨Ao9,co9,eo9⟩:=Kd.R_slice HO_7.out
   subst eo9
   go_wp2
   go_meet
   case rel=>exact ⟨_,((a1.toList != ([110,111,110,101]:List UInt8))),sT_,H',⟨by have:=HK1.out;first|omega|exact Nat.le_refl _⟩,⟨kRC_ HO_6.out⟩,⟨kRC_ HO_7.out⟩,⟨h_HB HB.out⟩⟩
  (first|rw [c8b0]|(simp only [i64_w,i32_w];rw [c8b0])|skip)
  have H':=Aside0.mk H
  clear H
  obtain ⟨Ao10,co10,eo10⟩:=Kd.R_slice HO_7.out
  subst eo10
  go_wp2
  go_meet
  case rel=>exact ⟨_,(false),sT_,H',⟨by have:=HK1.out;first|omega|exact Nat.le_refl _⟩,⟨kRC_ HO_6.out⟩,⟨kRC_ HO_7.out⟩,⟨h_HB HB.out⟩⟩
 case rest =>
 clear HC7
 try clear c1
 try clear p2
 try clear c8
 try clear c8b0
 try clear c9
 try clear c10
 try clear p2
 obtain ⟨kq,x21_6,rfl,HA,HJ6,HO_6,HO_7,HB⟩:=hcut
 cases kq with
 | zero=>exact absurd HA.out (by simp [spec_ParseFamily.j1])
 | succ kj6 =>
 have H:=HA.out
 clear HA
 simp only [spec_ParseFamily.j1] at H
 replace H:=gst_ H;rcases H with ⟨rfl,H⟩|⟨rfl,H⟩
 ·replace H:=gsm_ H;obtain ⟨c12b0,H⟩:=H
  replace H:=gsm_ H;obtain ⟨c13b0,H⟩:=H
  replace H:=bnd_ H;obtain ⟨⟨t207,t208⟩,A14,H⟩:=H;dsimp only at H
  replace H:=(gst_ H).symm;rcases H with ⟨rfl,H⟩|⟨rfl,H⟩
  ·obtain ⟨y212,hy212⟩:∃ y_:List Int,y_=(([]:List Int)):=⟨_,rfl⟩
   rw [← hy212] at H
   have Ny212:=Aside0.mk hy212
   clear hy212
   simp only [Option.some.injEq,Prod.mk.injEq] at H
   obtain ⟨rfl,rfl⟩:=H
   obtain ⟨Ao20,co20,eo20⟩:=Kd.R_slice HO_7.out
   subst eo20
   obtain ⟨ad206,e206,hx206_0,p206,q206⟩:=aiS_ (Kd.R_reads' HO_7.out).2.2 x8_1
   cases e206
   go_wp2_with (first|((with_reducible refine gate_callee (f:=116) rfl ?_);refine goesL_ (some 29) rfl rfl Tryz.func116 krT_ rfl #[.string (rdOf ByteArray.empty t203 x8_1)] rfl agT_ ?_;(with_reducible refine (spec_ParseSet.calls kj6 (rdOf ByteArray.empty t203 x8_1) t207 false _ A14.out).mono ?_);rintro e w21 ⟨rfl,hb⟩;refine ⟨_,rfl,?_⟩;replace HO_6:=Aside0.mk (Kd.R_below (kRC_ HO_6.out) hb);replace HO_7:=Aside0.mk (Kd.R_below (kRC_ HO_7.out) hb);replace HB:=s_HB HB.out hb;(try clear hb))|((with_reducible refine gate_dst (N:=34) rfl ?_);refine Kd.R_lit (Kd.int .i64) _ 3 ?hg (N:=34) ?hd (xs:=([]:List Int)) (inner:=[]) (ok:=fun _=>True) (okp:=fun _=>True) ?hr ?hp (fun _ hk=>hk) trivial (Below.refl _ _) (Nat.le_refl _) (by simp) ?_;(case hd=>rfl);(case hg=>rfl);(case hr=>exact hrT_);(case hp=>exact (Reps.none _ _));intro v213 w22 ho23 hb hg_ hnew_;clear hg_ hnew_;(first|rw [← Ny212.out] at ho23|(simp only [Int.reduceToNat] at ho23;rw [← Ny212.out] at ho23));replace HO_7:=Aside0.mk (Kd.R_below (kRC_ HO_7.out) hb);have HO214:=Aside0.mk (Kd.R_lower (Kd.R_new' ho23 (Kd.R_lt (kRC_ HO_6.out))) (below_size (h_HB HB.out)));replace HO_6:=Aside0.mk (Kd.R_elder' (kRC_ HO_6.out) (Kd.R_base ho23) hb);replace HB:=s_HB HB.out hb;clear hb ho23))
   go_ret2
   exact ⟨_,eT_,by (with_reducible repeat (first|apply Kd.R_alloc|apply Kd.R_drewN|apply Kd.R_drew));exact Kd.R_mono HO214.out (fun _ hk=>trivial),h_HB HB.out⟩
  replace H:=gsl_ H;obtain ⟨LMc16,H⟩:=H
  obtain ⟨y209,hy209⟩:∃ y_:List Int,y_=(x6_1++[t207]):=⟨_,rfl⟩
  rw [← hy209] at H
  have Ny209:=Aside0.mk hy209
  clear hy209
  have H':=Aside0.mk H
  clear H
  obtain ⟨Ao17,co17,eo17⟩:=Kd.R_slice HO_7.out
  subst eo17
  obtain ⟨ad206,e206,hx206_0,p206,q206⟩:=aiS_ (Kd.R_reads' HO_7.out).2.2 x8_1
  cases e206
  go_wp2_with (first|((with_reducible refine gate_callee (f:=116) rfl ?_);refine goesL_ (some 29) rfl rfl Tryz.func116 krT_ rfl #[.string (rdOf ByteArray.empty t203 x8_1)] rfl agT_ ?_;(with_reducible refine (spec_ParseSet.calls kj6 (rdOf ByteArray.empty t203 x8_1) t207 true _ A14.out).mono ?_);rintro e w18 ⟨rfl,hb⟩;refine ⟨_,rfl,?_⟩;replace HO_6:=Aside0.mk (Kd.R_below (kRC_ HO_6.out) hb);replace HO_7:=Aside0.mk (Kd.R_below (kRC_ HO_7.out) hb);replace HB:=s_HB HB.out hb;(try clear hb))|((with_reducible refine gate_builtin (b:=.append) (xs:=#[.tmp 35,.tmp 37]) rfl ?_);at_builtin;refine Kd.R_append (Kd.int .i64) (w0:=w) w.heap.size rfl (.tmp 35) (.tmp 37) 24 3 (.int .i64 0) 8 rfl Tryz.underlying24 info3 rfl (by decide) (by omega) u6 x6_1 t207 [.int .i64 t207] (fun _=>True) (fun _=>False) rfl rfl ?aP (fun _ hk=>hk.elim) ?aF ?aO ?aB ?aS ?aL ?_;(case aP=>exact rfl);(case aB=>exact (h_HB HB.out));(case aF=>exact (fun _ _=>trivial));(case aO=>exact (kRC_ HO_6.out));(case aS=>exact (below_size (h_HB HB.out)));(case aL=>have:=LMc16.out;omega);intro v210 w19 ho hb hg hat;rw [← Ny209.out] at ho;replace HO_7:=Aside0.mk (Kd.R_over' (kRC_ HO_7.out) (Kd.R_typed (kRC_ HO_6.out)) (by decide) hg);replace HB:=Aside0.mk (hb);have HO211:=Aside0.mk (ho);clear HO_6;clear ho hb hg hat))
  go_roundg kj6
  case measure=>have:=HK1.out;have:=HJ6.out;omega
  case rel=>exact ⟨(y209),(wrap64 (x8_1+1)),sT_,H',⟨by have:=HK1.out;have:=HJ6.out;omega⟩,⟨kRC_ HO211.out⟩,⟨kRC_ HO_7.out⟩,⟨h_HB HB.out⟩⟩
 replace H:=bnd_ H;obtain ⟨t215,A24,H⟩:=H
 replace H:=(gst_ H).symm;rcases H with ⟨rfl,H⟩|⟨rfl,H⟩
 ·obtain ⟨y220,hy220⟩:∃ y_:List Int,y_=(([]:List Int)):=⟨_,rfl⟩
  rw [← hy220] at H
  have Ny220:=Aside0.mk hy220
  clear hy220
  simp only [Option.some.injEq,Prod.mk.injEq] at H
  obtain ⟨rfl,rfl⟩:=H
  obtain ⟨Ao34,co34,eo34⟩:=Kd.R_slice HO_6.out
  subst eo34
  go_wp2_with (first|((with_reducible refine gate_callee (f:=36) rfl ?_);refine goesL_ (some 41) rfl rfl Tryz.func36 krT_ rfl #[.int .i64 a0,.slice Ao34 x6_1.length co34] rfl agT_ ?_;(with_reducible refine (spec_IsFamily.calls kj6 a0 _ _ x6_1 false _ ?side1 ?side2 A24.out).mono ?_);(case side1=>repeat (first|exact (Kd.R_reads' HO_6.out).2.2|(with_reducible refine Kd.C_alloc ?_ _)|(with_reducible refine Kd.C_drewN ?_ _)|(with_reducible refine Kd.C_drew ?_)));(case side2=>exact (Kd.R_reads' HO_6.out).2.1);rintro e w' ⟨rfl,⟨nd,rfl⟩⟩;refine ⟨_,rfl,?_⟩)|((with_reducible refine gate_dst (N:=49) rfl ?_);refine Kd.R_lit (Kd.int .i64) _ 3 ?hg (N:=49) ?hd (xs:=([]:List Int)) (inner:=[]) (ok:=fun _=>True) (okp:=fun _=>True) ?hr ?hp (fun _ hk=>hk) trivial (Below.refl _ _) (Nat.le_refl _) (by simp) ?_;(case hd=>rfl);(case hg=>rfl);(case hr=>exact hrT_);(case hp=>exact (Reps.none _ _));intro v221 w35 ho36 hb hg_ hnew_;clear hg_ hnew_;(first|rw [← Ny220.out] at ho36|(simp only [Int.reduceToNat] at ho36;rw [← Ny220.out] at ho36));replace HO_7:=Aside0.mk (Kd.R_below (kRC_ HO_7.out) hb);have HO222:=Aside0.mk (Kd.R_lower (Kd.R_new' ho36 (Kd.R_lt (kRC_ HO_6.out))) (below_size (h_HB HB.out)));replace HO_6:=Aside0.mk (Kd.R_elder' (kRC_ HO_6.out) (Kd.R_base ho36) hb);replace HB:=s_HB HB.out hb;clear hb ho36))
  go_ret2
  exact ⟨_,eT_,by (with_reducible repeat (first|apply Kd.R_alloc|apply Kd.R_drewN|apply Kd.R_drew));exact Kd.R_mono HO222.out (fun _ hk=>trivial),h_HB HB.out⟩
 replace H:=bnd_ H;obtain ⟨t216,A26,H⟩:=H
 replace H:=gse_ H;rcases H with ⟨c27b0,c27b1,H⟩|⟨c27b0,c27b1,c27,H⟩
 ·simp only [Option.some.injEq,Prod.mk.injEq] at H
  obtain ⟨rfl,rfl⟩:=H
  obtain ⟨Ao28,co28,eo28⟩:=Kd.R_slice HO_6.out
  subst eo28
  go_wp2_with (first|((with_reducible refine gate_callee (f:=36) rfl ?_);refine goesL_ (some 41) rfl rfl Tryz.func36 krT_ rfl #[.int .i64 a0,.slice Ao28 x6_1.length co28] rfl agT_ ?_;(with_reducible refine (spec_IsFamily.calls kj6 a0 _ _ x6_1 true _ ?side1 ?side2 A24.out).mono ?_);(case side1=>repeat (first|exact (Kd.R_reads' HO_6.out).2.2|(with_reducible refine Kd.C_alloc ?_ _)|(with_reducible refine Kd.C_drewN ?_ _)|(with_reducible refine Kd.C_drew ?_)));(case side2=>exact (Kd.R_reads' HO_6.out).2.1);rintro e w' ⟨rfl,⟨nd,rfl⟩⟩;refine ⟨_,rfl,?_⟩)|(go_at_call 117;(with_reducible refine (spec_FamilyText.calls kj6 _ _ x6_1 t216 _ ?side1 ?side2 A26.out).mono ?_);(case side1=>repeat (first|exact (Kd.R_reads' HO_6.out).2.2|(with_reducible refine Kd.C_alloc ?_ _)|(with_reducible refine Kd.C_drewN ?_ _)|(with_reducible refine Kd.C_drew ?_)));(case side2=>exact (Kd.R_reads' HO_6.out).2.1);rintro e w29 ⟨rfl,hb⟩;replace HO_6:=Aside0.mk (Kd.R_below (kRC_ HO_6.out) hb);replace HO_7:=Aside0.mk (Kd.R_below (kRC_ HO_7.out) hb);replace HB:=s_HB HB.out hb;(try clear hb)))
  go_ret2
  exact ⟨_,eT_,kRC_ HO_6.out,h_HB HB.out⟩
 obtain ⟨y217,hy217⟩:∃ y_:List Int,y_=(([]:List Int)):=⟨_,rfl⟩
 rw [← hy217] at H
 have Ny217:=Aside0.mk hy217
 clear hy217
 simp only [Option.some.injEq,Prod.mk.injEq] at H
 obtain ⟨rfl,rfl⟩:=H
 obtain ⟨Ao30,co30,eo30⟩:=Kd.R_slice HO_6.out
 subst eo30
 go_wp2_with (first|((with_reducible refine gate_callee (f:=36) rfl ?_);refine goesL_ (some 41) rfl rfl Tryz.func36 krT_ rfl #[.int .i64 a0,.slice Ao30 x6_1.length co30] rfl agT_ ?_;(with_reducible refine (spec_IsFamily.calls kj6 a0 _ _ x6_1 true _ ?side1 ?side2 A24.out).mono ?_);(case side1=>repeat (first|exact (Kd.R_reads' HO_6.out).2.2|(with_reducible refine Kd.C_alloc ?_ _)|(with_reducible refine Kd.C_drewN ?_ _)|(with_reducible refine Kd.C_drew ?_)));(case side2=>exact (Kd.R_reads' HO_6.out).2.1);rintro e w' ⟨rfl,⟨nd,rfl⟩⟩;refine ⟨_,rfl,?_⟩)|(go_at_call 117;(with_reducible refine (spec_FamilyText.calls kj6 _ _ x6_1 t216 _ ?side1 ?side2 A26.out).mono ?_);(case side1=>repeat (first|exact (Kd.R_reads' HO_6.out).2.2|(with_reducible refine Kd.C_alloc ?_ _)|(with_reducible refine Kd.C_drewN ?_ _)|(with_reducible refine Kd.C_drew ?_)));(case side2=>exact (Kd.R_reads' HO_6.out).2.1);rintro e w31 ⟨rfl,hb⟩;replace HO_6:=Aside0.mk (Kd.R_below (kRC_ HO_6.out) hb);replace HO_7:=Aside0.mk (Kd.R_below (kRC_ HO_7.out) hb);replace HB:=s_HB HB.out hb;(try clear hb))|((with_reducible refine gate_dst (N:=49) rfl ?_);refine Kd.R_lit (Kd.int .i64) _ 3 ?hg (N:=49) ?hd (xs:=([]:List Int)) (inner:=[]) (ok:=fun _=>True) (okp:=fun _=>True) ?hr ?hp (fun _ hk=>hk) trivial (Below.refl _ _) (Nat.le_refl _) (by simp) ?_;(case hd=>rfl);(case hg=>rfl);(case hr=>exact hrT_);(case hp=>exact (Reps.none _ _));intro v218 w32 ho33 hb hg_ hnew_;clear hg_ hnew_;(first|rw [← Ny217.out] at ho33|(simp only [Int.reduceToNat] at ho33;rw [← Ny217.out] at ho33));replace HO_7:=Aside0.mk (Kd.R_below (kRC_ HO_7.out) hb);have HO219:=Aside0.mk (Kd.R_lower (Kd.R_new' ho33 (Kd.R_lt (kRC_ HO_6.out))) (below_size (h_HB HB.out)));replace HO_6:=Aside0.mk (Kd.R_elder' (kRC_ HO_6.out) (Kd.R_base ho33) hb);replace HB:=s_HB HB.out hb;clear hb ho33))
 go_ret2
 exact ⟨_,eT_,by (with_reducible repeat (first|apply Kd.R_alloc|apply Kd.R_drewN|apply Kd.R_drew));exact Kd.R_mono HO219.out (fun _ hk=>trivial),h_HB HB.out⟩
def spec_HasSet.l0:Nat→List Int→Int→Int→Option (Bool)
 | 0,_,_,_=>none
 | k+1,x0,x1,x5=>if x5<(x0.length:Int) then (if 0≤x5 then (if (rd x0 x5)=x1 then (some true) else (spec_HasSet.l0 k x0 x1 (wrap64 (x5+1)))) else (none)) else (some false)
def spec_HasSet.f (k:Nat) (l0:List Int) (a1:Int):Option (Bool):=spec_HasSet.l0 k l0 a1 0
theorem spec_HasSet.calls (k:Nat) (A0:Option Addr) (c0:Nat) (l0:List Int) (a1:Int) (r:Bool) (w:World) (hr0:Kd.C (Kd.int .i64) w A0 l0.length l0) (hc0:l0.length≤c0) (h:spec_HasSet.f k l0 a1=some r) :
    Calls Tryz.prog 21 #[.slice A0 l0.length c0,.int .i64 a1] w fun e w'=>e=.returned (.bool r)∧Drawn0 w w':=by
 have HR0:=Aside0.mk hr0
 have HC0:=Aside0.mk hc0
 clear hr0 hc0
 have H:(spec_HasSet.l0 k l0 a1 0)=some r:=h
 clear h
 have H':=Aside0.mk H
 clear H
 go_enter Tryz.func21,Tryz.ntmps21
 go_wp2
 go_loopg [5] k (fun kq v5 w'=>∃ (x5_1:Int),v5=.int .i64 x5_1∧Aside0 (spec_HasSet.l0 kq l0 a1 x5_1=some r)∧Aside0 (kq≤k)∧Drawn0 w w')
 case atStart=>exact ⟨(0),sT_,H',⟨Nat.le_refl _⟩,dT_⟩
 case round =>
 clear H'
 try clear c2
 try clear p2
 obtain ⟨x5_1,rfl,HA,HK1,⟨m1,rfl⟩⟩:=hrel
 cases gk with
 | zero=>exact absurd HA.out (by simp [spec_HasSet.l0])
 | succ k1 =>
 have H:=HA.out
 clear HA
 simp only [spec_HasSet.l0] at H
 replace H:=gsn_ H;rcases H with ⟨c3b0,H⟩|⟨c3b0,H⟩
 ·obtain rfl:=Option.some.inj H
  go_wp2
  go_ret
  exact ⟨sT_,dT_⟩
 replace H:=gsm_ H;obtain ⟨c4b0,H⟩:=H
 replace H:=gse_ H;rcases H with ⟨c5b0,c5b1,H⟩|⟨c5b0,c5b1,c5,H⟩
 ·obtain rfl:=Option.some.inj H
  obtain ⟨ad223,e223,hx223_0,p223,q223⟩:=aiI_ HR0.out x5_1
  cases e223
  go_wp2
  go_ret
  exact ⟨sT_,dT_⟩
 have H':=Aside0.mk H
 clear H
 obtain ⟨ad223,e223,hx223_0,p223,q223⟩:=aiI_ HR0.out x5_1
 cases e223
 go_wp2
 go_roundg k1
 case measure=>have:=HK1.out;omega
 case rel=>exact ⟨(wrap64 (x5_1+1)),sT_,H',⟨by have:=HK1.out;omega⟩,dT_⟩
end Go.Proofs.YtekegbacnagbcaaGreat.P
