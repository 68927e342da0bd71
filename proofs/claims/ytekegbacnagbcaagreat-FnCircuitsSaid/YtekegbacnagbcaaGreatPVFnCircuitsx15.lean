-- written by gprint (a program of this session's, round the kit's print), out of the translation and hand-written texts
import Derived.Test.YtekegbacnagbcaaGreatPVFnCircuitsx0
import Derived.Test.YtekegbacnagbcaaGreatPVFnCircuitsx2
import Derived.Test.YtekegbacnagbcaaGreatPVFnCircuitsx4
import Derived.Test.YtekegbacnagbcaaGreatPVFnCircuitsx6
import Derived.Test.YtekegbacnagbcaaGreatPVFnCircuitsx9
import Derived.Test.YtekegbacnagbcaaGreatPVFnCircuitsx10
import Derived.Test.YtekegbacnagbcaaGreatPVFnCircuitsx11
import Derived.Test.YtekegbacnagbcaaGreatPVFnCircuitsx14
namespace Go.Proofs.YtekegbacnagbcaaGreat.P
open Go.RowKit Go.Proofs.YtekegbacnagbcaaGreatW.PrintWords Go.Proofs.YtekegbacnagbcaaGreatW.PrintLast Go.Proofs.YtekegbacnagbcaaGreatW.PrintMore
attribute [local go_sem] max2_int min2_int max_two min_two max_three min_three max_four min_four
set_option linter.unusedVariables false
set_option maxHeartbeats 8000000
set_option maxRecDepth 100000
set_option linter.unusedSimpArgs false
mutual
def spec_MinimalSets.l0:Nat→List Int→List Int→Int→Option (List Int)
 | 0,_,_,_=>none
 | k+1,x0,x3,x4=>if x4<(x0.length:Int) then (spec_MinimalSets.l1 k x0 x3 x4 true 0) else ((spec_SortSets.f k x3).bind fun t600=>(some t600))
def spec_MinimalSets.l1:Nat→List Int→List Int→Int→Bool→Int→Option (List Int)
 | 0,_,_,_,_,_=>none
 | k+1,x0,x3,x4,x5,x6=>if x6<(x0.length:Int) then (if x5=true then (if 0≤x6 then (if 0≤x4 then (if x4<(x0.length:Int) then (if (rd x0 x6)=(rd x0 x4) then (spec_MinimalSets.l1 k x0 x3 x4 true (wrap64 (x6+1))) else (spec_MinimalSets.l1 k x0 x3 x4 ((Go.bits .and .i64 (rd x0 x6) (rd x0 x4)) != (rd x0 x6)) (wrap64 (x6+1)))) else (none)) else (none)) else (none)) else (spec_MinimalSets.l1 k x0 x3 x4 false (wrap64 (x6+1)))) else (if x5=true then (if 0≤x4 then (if x4<(x0.length:Int) then (if x3.length<17592186044416 then (spec_MinimalSets.l0 k x0 (x3++[rd x0 x4]) (wrap64 (x4+1))) else (none)) else (none)) else (none)) else (spec_MinimalSets.l0 k x0 x3 (wrap64 (x4+1))))
end
def spec_MinimalSets.f (k:Nat) (l0:List Int):Option (List Int):=(some (([]:List Int):List Int)).bind fun y596=>((spec_l3Sets.f k 8 l0).bind fun t599=>(if t599=true then (spec_MinimalSets.l0 k l0 y596 0) else (some y596)))
theorem spec_MinimalSets.calls (k:Nat) (A0:Option Addr) (c0:Nat) (l0:List Int) (r:List Int) (w:World) (hr0:Kd.C (Kd.int .i64) w A0 l0.length l0) (hc0:l0.length≤c0) (h:spec_MinimalSets.f k l0=some r) :
    Calls Tryz.prog 84 #[.slice A0 l0.length c0] w fun e w'=>∃ v0_:Value,e=.returned (v0_)∧Kd.R (Kd.int .i64) 3 w' w.heap.size (fun _=>True) v0_ r∧Below w.heap.size w w':=by
 have HR0:=Aside0.mk hr0
 have HC0:=Aside0.mk hc0
 clear hr0 hc0
 have HB:=Aside0.mk (Below.refl w.heap.size w)
 unfold spec_MinimalSets.f at h
 have H:=h
 clear h
 replace H:=sy_ H;obtain ⟨y596,Ny596,H⟩:=H
 replace H:=bnd_ H;obtain ⟨t599,A2,H⟩:=H
 replace H:=(gst_ H).symm;rcases H with ⟨rfl,H⟩|⟨rfl,H⟩
 ·obtain rfl:=Option.some.inj H
  go_enter Tryz.func84,Tryz.ntmps84
  go_wp2_with (first|((with_reducible refine gate_dst (N:=7) rfl ?_);refine Kd.R_lit (Kd.int .i64) _ 3 ?hg (N:=7) ?hd (xs:=([]:List Int)) (inner:=[]) (ok:=fun _=>True) (okp:=fun _=>True) ?hr ?hp (fun _ hk=>hk) trivial (Below.refl _ _) (Nat.le_refl _) (by simp) ?_;(case hd=>rfl);(case hg=>rfl);(case hr=>exact hrT_);(case hp=>exact (Reps.none _ _));intro v597 w21 ho22 hb hg_ hnew_;clear hg_ hnew_;(first|rw [← Ny596.out] at ho22|(simp only [Int.reduceToNat] at ho22;rw [← Ny596.out] at ho22));have HO598:=Aside0.mk (Kd.R_lower ho22 (below_size (h_HB HB.out)));replace HB:=s_HB HB.out hb;clear hb ho22)|(go_at_call 76;(with_reducible refine (spec_l3Sets.calls k 8 _ _ l0 false _ ?side1 ?side2 A2.out).mono ?_);(case side1=>exact cC_ HR0.out);(case side2=>exact HC0.out);rintro e w' ⟨rfl,⟨nd,rfl⟩⟩;(try first|exact ⟨rfl,_,World.drewN_drewN _ _ _⟩|exact ⟨rfl,_,Eq.trans (World.drewN_drewN _ _ _) (congrArg (World.drewN _) (Nat.add_assoc _ _ _))⟩)))
  repeat (go_quiet (first|((with_reducible refine gate_dst (N:=7) rfl ?_);refine Kd.R_lit (Kd.int .i64) _ 3 ?hg (N:=7) ?hd (xs:=([]:List Int)) (inner:=[]) (ok:=fun _=>True) (okp:=fun _=>True) ?hr ?hp (fun _ hk=>hk) trivial (Below.refl _ _) (Nat.le_refl _) (by simp) ?_;(case hd=>rfl);(case hg=>rfl);(case hr=>exact hrT_);(case hp=>exact (Reps.none _ _));intro v597 w21 ho22 hb hg_ hnew_;clear hg_ hnew_;(first|rw [← Ny596.out] at ho22|(simp only [Int.reduceToNat] at ho22;rw [← Ny596.out] at ho22));have HO598:=Aside0.mk (Kd.R_lower ho22 (below_size (h_HB HB.out)));replace HB:=s_HB HB.out hb;clear hb ho22)|(go_at_call 76;(with_reducible refine (spec_l3Sets.calls k 8 _ _ l0 false _ ?side1 ?side2 A2.out).mono ?_);(case side1=>exact cC_ HR0.out);(case side2=>exact HC0.out);rintro e w' ⟨rfl,⟨nd,rfl⟩⟩;(try first|exact ⟨rfl,_,World.drewN_drewN _ _ _⟩|exact ⟨rfl,_,Eq.trans (World.drewN_drewN _ _ _) (congrArg (World.drewN _) (Nat.add_assoc _ _ _))⟩)));try go_wp2_with (first|((with_reducible refine gate_dst (N:=7) rfl ?_);refine Kd.R_lit (Kd.int .i64) _ 3 ?hg (N:=7) ?hd (xs:=([]:List Int)) (inner:=[]) (ok:=fun _=>True) (okp:=fun _=>True) ?hr ?hp (fun _ hk=>hk) trivial (Below.refl _ _) (Nat.le_refl _) (by simp) ?_;(case hd=>rfl);(case hg=>rfl);(case hr=>exact hrT_);(case hp=>exact (Reps.none _ _));intro v597 w21 ho22 hb hg_ hnew_;clear hg_ hnew_;(first|rw [← Ny596.out] at ho22|(simp only [Int.reduceToNat] at ho22;rw [← Ny596.out] at ho22));have HO598:=Aside0.mk (Kd.R_lower ho22 (below_size (h_HB HB.out)));replace HB:=s_HB HB.out hb;clear hb ho22)|(go_at_call 76;(with_reducible refine (spec_l3Sets.calls k 8 _ _ l0 false _ ?side1 ?side2 A2.out).mono ?_);(case side1=>exact cC_ HR0.out);(case side2=>exact HC0.out);rintro e w' ⟨rfl,⟨nd,rfl⟩⟩;(try first|exact ⟨rfl,_,World.drewN_drewN _ _ _⟩|exact ⟨rfl,_,Eq.trans (World.drewN_drewN _ _ _) (congrArg (World.drewN _) (Nat.add_assoc _ _ _))⟩))))
  go_ret
  exact ⟨_,eT_,kRC_ HO598.out,h_HB HB.out⟩
 have H':=Aside0.mk H
 clear H
 go_enter Tryz.func84,Tryz.ntmps84
 go_wp2_with (first|((with_reducible refine gate_dst (N:=7) rfl ?_);refine Kd.R_lit (Kd.int .i64) _ 3 ?hg (N:=7) ?hd (xs:=([]:List Int)) (inner:=[]) (ok:=fun _=>True) (okp:=fun _=>True) ?hr ?hp (fun _ hk=>hk) trivial (Below.refl _ _) (Nat.le_refl _) (by simp) ?_;(case hd=>rfl);(case hg=>rfl);(case hr=>exact hrT_);(case hp=>exact (Reps.none _ _));intro v597 w4 ho5 hb hg_ hnew_;clear hg_ hnew_;(first|rw [← Ny596.out] at ho5|(simp only [Int.reduceToNat] at ho5;rw [← Ny596.out] at ho5));have HO598:=Aside0.mk (Kd.R_lower ho5 (below_size (h_HB HB.out)));replace HB:=s_HB HB.out hb;clear hb ho5)|(go_at_call 76;(with_reducible refine (spec_l3Sets.calls k 8 _ _ l0 true _ ?side1 ?side2 A2.out).mono ?_);(case side1=>exact cC_ HR0.out);(case side2=>exact HC0.out);rintro e w' ⟨rfl,⟨nd,rfl⟩⟩;(try first|exact ⟨rfl,_,World.drewN_drewN _ _ _⟩|exact ⟨rfl,_,Eq.trans (World.drewN_drewN _ _ _) (congrArg (World.drewN _) (Nat.add_assoc _ _ _))⟩)))
 repeat (go_quiet (first|((with_reducible refine gate_dst (N:=7) rfl ?_);refine Kd.R_lit (Kd.int .i64) _ 3 ?hg (N:=7) ?hd (xs:=([]:List Int)) (inner:=[]) (ok:=fun _=>True) (okp:=fun _=>True) ?hr ?hp (fun _ hk=>hk) trivial (Below.refl _ _) (Nat.le_refl _) (by simp) ?_;(case hd=>rfl);(case hg=>rfl);(case hr=>exact hrT_);(case hp=>exact (Reps.none _ _));intro v597 w4 ho5 hb hg_ hnew_;clear hg_ hnew_;(first|rw [← Ny596.out] at ho5|(simp only [Int.reduceToNat] at ho5;rw [← Ny596.out] at ho5));have HO598:=Aside0.mk (Kd.R_lower ho5 (below_size (h_HB HB.out)));replace HB:=s_HB HB.out hb;clear hb ho5)|(go_at_call 76;(with_reducible refine (spec_l3Sets.calls k 8 _ _ l0 true _ ?side1 ?side2 A2.out).mono ?_);(case side1=>exact cC_ HR0.out);(case side2=>exact HC0.out);rintro e w' ⟨rfl,⟨nd,rfl⟩⟩;(try first|exact ⟨rfl,_,World.drewN_drewN _ _ _⟩|exact ⟨rfl,_,Eq.trans (World.drewN_drewN _ _ _) (congrArg (World.drewN _) (Nat.add_assoc _ _ _))⟩)));try go_wp2_with (first|((with_reducible refine gate_dst (N:=7) rfl ?_);refine Kd.R_lit (Kd.int .i64) _ 3 ?hg (N:=7) ?hd (xs:=([]:List Int)) (inner:=[]) (ok:=fun _=>True) (okp:=fun _=>True) ?hr ?hp (fun _ hk=>hk) trivial (Below.refl _ _) (Nat.le_refl _) (by simp) ?_;(case hd=>rfl);(case hg=>rfl);(case hr=>exact hrT_);(case hp=>exact (Reps.none _ _));intro v597 w4 ho5 hb hg_ hnew_;clear hg_ hnew_;(first|rw [← Ny596.out] at ho5|(simp only [Int.reduceToNat] at ho5;rw [← Ny596.out] at ho5));have HO598:=Aside0.mk (Kd.R_lower ho5 (below_size (h_HB HB.out)));replace HB:=s_HB HB.out hb;clear hb ho5)|(go_at_call 76;(with_reducible refine (spec_l3Sets.calls k 8 _ _ l0 true _ ?side1 ?side2 A2.out).mono ?_);(case side1=>exact cC_ HR0.out);(case side2=>exact HC0.out);rintro e w' ⟨rfl,⟨nd,rfl⟩⟩;(try first|exact ⟨rfl,_,World.drewN_drewN _ _ _⟩|exact ⟨rfl,_,Eq.trans (World.drewN_drewN _ _ _) (congrArg (World.drewN _) (Nat.add_assoc _ _ _))⟩))))
 go_loopg [3,4] k (fun kq v3 v4 w'=>∃ (x3_1:List Int) (x4_1:Int),v4=.int .i64 x4_1∧Aside0 (spec_MinimalSets.l0 kq l0 x3_1 x4_1=some r)∧Aside0 (kq≤k)∧Aside0 (Kd.R (Kd.int .i64) 3 w' w.heap.size (fun _=>True) v3 x3_1)∧Aside0 (Below w.heap.size w w'))
 case atStart=>exact ⟨(y596),(0),sT_,H',⟨Nat.le_refl _⟩,⟨kRC_ HO598.out⟩,⟨h_HB HB.out⟩⟩
 case round =>
 clear H'
 try clear p2
 try clear c3
 obtain ⟨x3_1,x4_1,rfl,HA,HK1,HO_3,HB⟩:=hrel
 cases gk with
 | zero=>exact absurd HA.out (by simp [spec_MinimalSets.l0])
 | succ k1 =>
 have H:=HA.out
 clear HA
 simp only [spec_MinimalSets.l0] at H
 replace H:=gsn_ H;rcases H with ⟨c6b0,H⟩|⟨c6b0,H⟩
 ·replace H:=bnd_ H;obtain ⟨t600,A18,H⟩:=H
  obtain rfl:=Option.some.inj H
  obtain ⟨Ao19,co19,eo19⟩:=Kd.R_slice HO_3.out
  subst eo19
  go_wp2_with (first|(go_at_call 60;(with_reducible refine (spec_SortSets.calls k1 _ _ x3_1 t600 _ ?side1 ?side2 A18.out).mono ?_);(case side1=>repeat (first|exact (Kd.R_reads' HO_3.out).2.2|(with_reducible refine Kd.C_alloc ?_ _)|(with_reducible refine Kd.C_drewN ?_ _)|(with_reducible refine Kd.C_drew ?_)));(case side2=>exact (Kd.R_reads' HO_3.out).2.1);rintro e w20 ⟨v601,rfl,ho0,hb⟩;have HO602:=Aside0.mk (Kd.R_lower (Kd.R_new' ho0 (Kd.R_lt (kRC_ HO_3.out))) (below_size (h_HB HB.out)));replace HO_3:=Aside0.mk (Kd.R_elder' (kRC_ HO_3.out) (Kd.R_base ho0) hb);replace HB:=s_HB HB.out hb;(try clear hb);(try clear ho0)))
  repeat (go_quiet (first|(go_at_call 60;(with_reducible refine (spec_SortSets.calls k1 _ _ x3_1 t600 _ ?side1 ?side2 A18.out).mono ?_);(case side1=>repeat (first|exact (Kd.R_reads' HO_3.out).2.2|(with_reducible refine Kd.C_alloc ?_ _)|(with_reducible refine Kd.C_drewN ?_ _)|(with_reducible refine Kd.C_drew ?_)));(case side2=>exact (Kd.R_reads' HO_3.out).2.1);rintro e w20 ⟨v601,rfl,ho0,hb⟩;have HO602:=Aside0.mk (Kd.R_lower (Kd.R_new' ho0 (Kd.R_lt (kRC_ HO_3.out))) (below_size (h_HB HB.out)));replace HO_3:=Aside0.mk (Kd.R_elder' (kRC_ HO_3.out) (Kd.R_base ho0) hb);replace HB:=s_HB HB.out hb;(try clear hb);(try clear ho0)));try go_wp2_with (first|(go_at_call 60;(with_reducible refine (spec_SortSets.calls k1 _ _ x3_1 t600 _ ?side1 ?side2 A18.out).mono ?_);(case side1=>repeat (first|exact (Kd.R_reads' HO_3.out).2.2|(with_reducible refine Kd.C_alloc ?_ _)|(with_reducible refine Kd.C_drewN ?_ _)|(with_reducible refine Kd.C_drew ?_)));(case side2=>exact (Kd.R_reads' HO_3.out).2.1);rintro e w20 ⟨v601,rfl,ho0,hb⟩;have HO602:=Aside0.mk (Kd.R_lower (Kd.R_new' ho0 (Kd.R_lt (kRC_ HO_3.out))) (below_size (h_HB HB.out)));replace HO_3:=Aside0.mk (Kd.R_elder' (kRC_ HO_3.out) (Kd.R_base ho0) hb);replace HB:=s_HB HB.out hb;(try clear hb);(try clear ho0))))
  go_ret
  exact ⟨_,eT_,by (with_reducible repeat (first|apply Kd.R_alloc|apply Kd.R_drewN|apply Kd.R_drew));exact Kd.R_mono HO602.out (fun _ hk=>trivial),h_HB HB.out⟩
 have H':=Aside0.mk H
 clear H
 go_wp2
 repeat (go_quiet (fail);try go_wp2)
 go_loopg [5,6] k1 (fun kq v5 v6 w'=>∃ (x5_2:Bool) (x6_2:Int),v5=.bool x5_2∧v6=.int .i64 x6_2∧Aside0 (spec_MinimalSets.l1 kq l0 x3_1 x4_1 x5_2 x6_2=some r)∧Aside0 (kq≤k1)∧Aside0 (Kd.R (Kd.int .i64) 3 w' w.heap.size (fun _=>True) u3 x3_1)∧Aside0 (Below w.heap.size w w'))
 case atStart=>exact ⟨(true),(0),sT_,sT_,H',⟨Nat.le_refl _⟩,⟨kRC_ HO_3.out⟩,⟨h_HB HB.out⟩⟩
 case round =>
 clear H'
 try clear p2
 try clear c3
 try clear c6
 try clear c6b0
 try clear p2
 obtain ⟨x5_2,x6_2,rfl,rfl,HA,HK2,HO_3,HB⟩:=hrel
 cases gk with
 | zero=>exact absurd HA.out (by simp [spec_MinimalSets.l1])
 | succ k2 =>
 have H:=HA.out
 clear HA
 simp only [spec_MinimalSets.l1] at H
 replace H:=gsn_ H;rcases H with ⟨c7b0,H⟩|⟨c7b0,H⟩
 ·replace H:=(gst_ H).symm;rcases H with ⟨rfl,H⟩|⟨rfl,H⟩
  ·have H':=Aside0.mk H
   clear H
   go_wp2
   repeat (go_quiet (fail);try go_wp2)
   go_roundg k2
   case measure=>have:=HK1.out;have:=HK2.out;omega
   case rel=>exact ⟨(x3_1),(wrap64 (x4_1+1)),sT_,H',⟨by have:=HK1.out;have:=HK2.out;omega⟩,⟨kRC_ HO_3.out⟩,⟨h_HB HB.out⟩⟩
  replace H:=gsm_ H;obtain ⟨c14b0,H⟩:=H
  replace H:=gsm_ H;obtain ⟨c15b0,H⟩:=H
  replace H:=gsl_ H;obtain ⟨LMc16,H⟩:=H
  obtain ⟨y609,hy609⟩:∃ y_:List Int,y_=(x3_1++[rd l0 x4_1]):=⟨_,rfl⟩
  rw [← hy609] at H
  have Ny609:=Aside0.mk hy609
  clear hy609
  have H':=Aside0.mk H
  clear H
  obtain ⟨ad608,e608,hx608_0,p608,q608⟩:=aiI_ HR0.out x4_1
  cases e608
  replace hx608_0:=(HB.out.cell (World.block_lt_of_cell? w _ hx608_0)).trans hx608_0
  go_wp2_with (first|((with_reducible refine gate_builtin (b:=.append) (xs:=#[.tmp 53,.tmp 58]) rfl ?_);at_builtin;refine Kd.R_append (Kd.int .i64) (w0:=w) w.heap.size rfl (.tmp 53) (.tmp 58) 24 3 (.int .i64 0) 8 rfl Tryz.underlying24 info3 rfl (by decide) (by omega) u3 x3_1 (rd l0 x4_1) [.int .i64 (rd l0 x4_1)] (fun _=>True) (fun _=>False) rfl rfl ?aP (fun _ hk=>hk.elim) ?aF ?aO ?aB ?aS ?aL ?_;(case aP=>exact rfl);(case aB=>exact (h_HB HB.out));(case aF=>exact (fun _ _=>trivial));(case aO=>exact (kRC_ HO_3.out));(case aS=>exact (below_size (h_HB HB.out)));(case aL=>have:=LMc16.out;omega);intro v610 w17 ho hb hg hat;rw [← Ny609.out] at ho;replace HB:=Aside0.mk (hb);have HO611:=Aside0.mk (ho);clear HO_3;clear ho hb hg hat))
  repeat (go_quiet (first|((with_reducible refine gate_builtin (b:=.append) (xs:=#[.tmp 53,.tmp 58]) rfl ?_);at_builtin;refine Kd.R_append (Kd.int .i64) (w0:=w) w.heap.size rfl (.tmp 53) (.tmp 58) 24 3 (.int .i64 0) 8 rfl Tryz.underlying24 info3 rfl (by decide) (by omega) u3 x3_1 (rd l0 x4_1) [.int .i64 (rd l0 x4_1)] (fun _=>True) (fun _=>False) rfl rfl ?aP (fun _ hk=>hk.elim) ?aF ?aO ?aB ?aS ?aL ?_;(case aP=>exact rfl);(case aB=>exact (h_HB HB.out));(case aF=>exact (fun _ _=>trivial));(case aO=>exact (kRC_ HO_3.out));(case aS=>exact (below_size (h_HB HB.out)));(case aL=>have:=LMc16.out;omega);intro v610 w17 ho hb hg hat;rw [← Ny609.out] at ho;replace HB:=Aside0.mk (hb);have HO611:=Aside0.mk (ho);clear HO_3;clear ho hb hg hat));try go_wp2_with (first|((with_reducible refine gate_builtin (b:=.append) (xs:=#[.tmp 53,.tmp 58]) rfl ?_);at_builtin;refine Kd.R_append (Kd.int .i64) (w0:=w) w.heap.size rfl (.tmp 53) (.tmp 58) 24 3 (.int .i64 0) 8 rfl Tryz.underlying24 info3 rfl (by decide) (by omega) u3 x3_1 (rd l0 x4_1) [.int .i64 (rd l0 x4_1)] (fun _=>True) (fun _=>False) rfl rfl ?aP (fun _ hk=>hk.elim) ?aF ?aO ?aB ?aS ?aL ?_;(case aP=>exact rfl);(case aB=>exact (h_HB HB.out));(case aF=>exact (fun _ _=>trivial));(case aO=>exact (kRC_ HO_3.out));(case aS=>exact (below_size (h_HB HB.out)));(case aL=>have:=LMc16.out;omega);intro v610 w17 ho hb hg hat;rw [← Ny609.out] at ho;replace HB:=Aside0.mk (hb);have HO611:=Aside0.mk (ho);clear HO_3;clear ho hb hg hat)))
  go_roundg k2
  case measure=>have:=HK1.out;have:=HK2.out;omega
  case rel=>exact ⟨(y609),(wrap64 (x4_1+1)),sT_,H',⟨by have:=HK1.out;have:=HK2.out;omega⟩,⟨kRC_ HO611.out⟩,⟨h_HB HB.out⟩⟩
 replace H:=(gst_ H).symm;rcases H with ⟨rfl,H⟩|⟨rfl,H⟩
 ·have H':=Aside0.mk H
  clear H
  go_wp2
  repeat (go_quiet (fail);try go_wp2)
  go_roundg k2
  case measure=>have:=HK1.out;have:=HK2.out;omega
  case rel=>exact ⟨(false),(wrap64 (x6_2+1)),sT_,sT_,H',⟨by have:=HK1.out;have:=HK2.out;omega⟩,⟨kRC_ HO_3.out⟩,⟨h_HB HB.out⟩⟩
 replace H:=gsm_ H;obtain ⟨c9b0,H⟩:=H
 replace H:=gsm_ H;obtain ⟨c10b0,H⟩:=H
 replace H:=gsm_ H;obtain ⟨c11b0,H⟩:=H
 replace H:=gse_ H;rcases H with ⟨c12b0,c12b1,H⟩|⟨c12b0,c12b1,c12,H⟩
 ·have H':=Aside0.mk H
  clear H
  obtain ⟨ad603,e603,hx603_0,p603,q603⟩:=aiI_ HR0.out x6_2
  cases e603
  replace hx603_0:=(HB.out.cell (World.block_lt_of_cell? w _ hx603_0)).trans hx603_0
  obtain ⟨ad604,e604,hx604_0,p604,q604⟩:=aiI_ HR0.out x4_1
  obtain rfl:ad603=ad604:=(by injection e604)
  replace hx604_0:=(HB.out.cell (World.block_lt_of_cell? w _ hx604_0)).trans hx604_0
  go_wp2
  repeat (go_quiet (fail);try go_wp2)
  go_roundg k2
  case measure=>have:=HK1.out;have:=HK2.out;omega
  case rel=>exact ⟨(true),(wrap64 (x6_2+1)),sT_,sT_,H',⟨by have:=HK1.out;have:=HK2.out;omega⟩,⟨kRC_ HO_3.out⟩,⟨h_HB HB.out⟩⟩
 have H':=Aside0.mk H
 clear H
 obtain ⟨ad603,e603,hx603_0,p603,q603⟩:=aiI_ HR0.out x6_2
 cases e603
 replace hx603_0:=(HB.out.cell (World.block_lt_of_cell? w _ hx603_0)).trans hx603_0
 obtain ⟨ad604,e604,hx604_0,p604,q604⟩:=aiI_ HR0.out x4_1
 obtain rfl:ad603=ad604:=(by injection e604)
 replace hx604_0:=(HB.out.cell (World.block_lt_of_cell? w _ hx604_0)).trans hx604_0
 obtain ⟨ad605,e605,hx605_0,p605,q605⟩:=aiI_ HR0.out x6_2
 obtain rfl:ad603=ad605:=(by injection e605)
 replace hx605_0:=(HB.out.cell (World.block_lt_of_cell? w _ hx605_0)).trans hx605_0
 obtain ⟨ad606,e606,hx606_0,p606,q606⟩:=aiI_ HR0.out x4_1
 obtain rfl:ad603=ad606:=(by injection e606)
 replace hx606_0:=(HB.out.cell (World.block_lt_of_cell? w _ hx606_0)).trans hx606_0
 obtain ⟨ad607,e607,hx607_0,p607,q607⟩:=aiI_ HR0.out x6_2
 obtain rfl:ad603=ad607:=(by injection e607)
 replace hx607_0:=(HB.out.cell (World.block_lt_of_cell? w _ hx607_0)).trans hx607_0
 go_wp2
 repeat (go_quiet (fail);try go_wp2)
 go_roundg k2
 case measure=>have:=HK1.out;have:=HK2.out;omega
 case rel=>exact ⟨(((Go.bits .and .i64 (rd l0 x6_2) (rd l0 x4_1)) != (rd l0 x6_2))),(wrap64 (x6_2+1)),sT_,sT_,H',⟨by have:=HK1.out;have:=HK2.out;omega⟩,⟨kRC_ HO_3.out⟩,⟨h_HB HB.out⟩⟩
def spec_l6Circuits.l0:Nat→List Int→Int→Int→List Int→Option (List Int)
 | 0,_,_,_,_=>none
 | k+1,x3,x4,x613000,x613001=>(spec_FullSet.f x613000).bind fun t616=>(if x4≤t616 then ((spec_l5Rank.f k x613000 x613001 x4).bind fun t620=>((spec_CountOf.f k x4).bind fun t621=>(if t620<t621 then (if x3.length<17592186044416 then (spec_l6Circuits.l0 k (x3++[x4]) (wrap64 (x4+1)) x613000 x613001) else (none)) else (spec_l6Circuits.l0 k x3 (wrap64 (x4+1)) x613000 x613001)))) else ((spec_MinimalSets.f k x3).bind fun t617=>(some t617)))
def spec_l6Circuits.f (k:Nat) (a0_0:Int) (l0_1:List Int):Option (List Int):=spec_l6Circuits.l0 k (([]:List Int)) 0 a0_0 l0_1
theorem spec_l6Circuits.calls (k:Nat) (a0_0:Int) (A0_1:Option Addr) (c0_1:Nat) (l0_1:List Int) (r:List Int) (w:World) (hr0_1:Kd.C (Kd.int .i64) w A0_1 l0_1.length l0_1) (hc0_1:l0_1.length≤c0_1) (h:spec_l6Circuits.f k a0_0 l0_1=some r) :
    Calls Tryz.prog 52 #[.agg #[.int .i64 a0_0,.slice A0_1 l0_1.length c0_1]] w fun e w'=>∃ v0_:Value,e=.returned (v0_)∧Kd.R (Kd.int .i64) 3 w' w.heap.size (fun _=>True) v0_ r∧Below w.heap.size w w':=by
 have hu26:=Tryz.underlying26
 have HR0_1:=Aside0.mk hr0_1
 have HC0_1:=Aside0.mk hc0_1
 clear hr0_1 hc0_1
 have HB:=Aside0.mk (Below.refl w.heap.size w)
 have H:(spec_l6Circuits.l0 k (([]:List Int)) 0 a0_0 l0_1)=some r:=h
 clear h
 obtain ⟨y613,hy613⟩:∃ y_:List Int,y_=(([]:List Int)):=⟨_,rfl⟩
 rw [← hy613] at H
 have Ny613:=Aside0.mk hy613
 clear hy613
 have H':=Aside0.mk H
 clear H
 go_enter Tryz.func52,Tryz.ntmps52
 go_wp2_with (first|((with_reducible refine gate_dst (N:=1) rfl ?_);refine bx_ (N:=1) (cs:=#[.int .i64 a0_0,.slice A0_1 l0_1.length c0_1]) (t:=26) ?_;intro gb612 hg w2 hbox hb;have BK612:=Aside0.mk (hbox);have GW612:=Aside0.mk (gw_ hg (h_HB HB.out));have GE612:=GW612;replace HB:=s_HB HB.out hb;clear hb hbox hg)|((with_reducible refine gate_dst (N:=5) rfl ?_);refine Kd.R_lit (Kd.int .i64) _ 3 ?hg (N:=5) ?hd (xs:=([]:List Int)) (inner:=[]) (ok:=fun _=>True) (okp:=fun _=>True) ?hr ?hp (fun _ hk=>hk) trivial (Below.refl _ _) (Nat.le_refl _) (by simp) ?_;(case hd=>rfl);(case hg=>rfl);(case hr=>exact hrT_);(case hp=>exact (Reps.none _ _));intro v614 w3 ho4 hb hg_ hnew_;clear hg_ hnew_;(first|rw [← Ny613.out] at ho4|(simp only [Int.reduceToNat] at ho4;rw [← Ny613.out] at ho4));have HO615:=Aside0.mk (Kd.R_lower ho4 (below_size (h_HB HB.out)));replace BK612:=sBK_ BK612.out hb;replace HB:=s_HB HB.out hb;clear hb ho4))
 go_loopg [3,4] k (fun kq v3 v4 w'=>∃ (x3_1:List Int) (x4_1:Int),v4=.int .i64 x4_1∧Aside0 (spec_l6Circuits.l0 kq x3_1 x4_1 a0_0 l0_1=some r)∧Aside0 (kq≤k)∧Aside0 (Kd.R (Kd.int .i64) 3 w' w.heap.size (fun _=>True) v3 x3_1)∧Aside0 (w'.heap[gb612]?=some (.cells #[.int .i64 a0_0,(.slice A0_1 l0_1.length c0_1)] 26 (0,0)))∧Aside0 (Below w.heap.size w w'))
 case atStart=>exact ⟨(y613),(0),sT_,H',⟨Nat.le_refl _⟩,⟨kRC_ HO615.out⟩,⟨bkC_ BK612.out⟩,⟨h_HB HB.out⟩⟩
 case round =>
 clear H'
 try clear p2
 obtain ⟨x3_1,x4_1,rfl,HA,HK1,HO_3,BK612,HB⟩:=hrel
 cases gk with
 | zero=>exact absurd HA.out (by simp [spec_l6Circuits.l0])
 | succ k1 =>
 have H:=HA.out
 clear HA
 simp only [spec_l6Circuits.l0] at H
 replace H:=bnd_ H;obtain ⟨t616,A5,H⟩:=H
 replace H:=gsn_ H;rcases H with ⟨c6b0,H⟩|⟨c6b0,H⟩
 ·replace H:=bnd_ H;obtain ⟨t617,A16,H⟩:=H
  obtain rfl:=Option.some.inj H
  obtain ⟨hcz17_0,hcz17_1,hfz17_0,hfz17_1⟩:=bz2_ BK612.out
  go_wp2_with (first|((with_reducible refine gate_callee (f:=42) rfl ?_);refine goesL_ (some 9) rfl rfl Tryz.func42 krT_ rfl #[.int .i64 a0_0] rfl agT_ ?_;(with_reducible refine (spec_FullSet.calls a0_0 t616 _ A5.out).mono ?_);rintro e w' ⟨rfl,⟨nd,rfl⟩⟩;refine ⟨_,rfl,?_⟩;obtain ⟨Ao18,co18,eo18⟩:=Kd.R_slice HO_3.out;subst eo18)|((with_reducible refine gate_callee (f:=84) rfl ?_);refine goesL_ (some 24) rfl rfl Tryz.func84 krT_ rfl #[.slice Ao18 x3_1.length co18] rfl agT_ ?_;(with_reducible refine (spec_MinimalSets.calls k1 _ _ x3_1 t617 _ ?side1 ?side2 A16.out).mono ?_);(case side1=>repeat (first|exact (Kd.R_reads' HO_3.out).2.2|(with_reducible refine Kd.C_alloc ?_ _)|(with_reducible refine Kd.C_drewN ?_ _)|(with_reducible refine Kd.C_drew ?_)));(case side2=>exact (Kd.R_reads' HO_3.out).2.1);rintro e w19 ⟨v618,rfl,ho0,hb⟩;refine ⟨_,rfl,?_⟩;have HO619:=Aside0.mk (Kd.R_lower (Kd.R_new' ho0 (Kd.R_lt (kRC_ HO_3.out))) (below_size (h_HB HB.out)));replace HO_3:=Aside0.mk (Kd.R_elder' (kRC_ HO_3.out) (Kd.R_base ho0) hb);replace BK612:=sBK_ BK612.out hb;replace HB:=s_HB HB.out hb;(try clear hb);(try clear ho0)))
  go_ret
  exact ⟨_,eT_,by (with_reducible repeat (first|apply Kd.R_alloc|apply Kd.R_drewN|apply Kd.R_drew));exact Kd.R_mono HO619.out (fun _ hk=>trivial),h_HB HB.out⟩
 replace H:=bnd_ H;obtain ⟨t620,A7,H⟩:=H
 replace H:=bnd_ H;obtain ⟨t621,A8,H⟩:=H
 replace H:=gsn_ H;rcases H with ⟨c9b0,H⟩|⟨c9b0,H⟩
 ·have H':=Aside0.mk H
  clear H
  obtain ⟨hcz14_0,hcz14_1,hfz14_0,hfz14_1⟩:=bz2_ BK612.out
  go_wp2_with (first|((with_reducible refine gate_callee (f:=42) rfl ?_);refine goesL_ (some 9) rfl rfl Tryz.func42 krT_ rfl #[.int .i64 a0_0] rfl agT_ ?_;(with_reducible refine (spec_FullSet.calls a0_0 t616 _ A5.out).mono ?_);rintro e w' ⟨rfl,⟨nd,rfl⟩⟩;refine ⟨_,rfl,?_⟩)|((with_reducible refine gate_callee (f:=83) rfl ?_);refine goesL_ (some 15) rfl rfl Tryz.func83 krT_ rfl #[.agg #[.int .i64 a0_0,.slice A0_1 l0_1.length c0_1],.int .i64 x4_1] rfl agT_ ?_;(with_reducible refine (spec_l5Rank.calls k1 a0_0 _ _ l0_1 x4_1 t620 _ ?side1 ?side2 A7.out).mono ?_);(case side1=>repeat (first|exact (Kd.C_below HR0_1.out (h_HB HB.out))|(with_reducible refine Kd.C_alloc ?_ _)|(with_reducible refine Kd.C_drewN ?_ _)|(with_reducible refine Kd.C_drew ?_)));(case side2=>exact HC0_1.out);rintro e w15 ⟨rfl,hb⟩;refine ⟨_,rfl,?_⟩;replace HO_3:=Aside0.mk (Kd.R_below (kRC_ HO_3.out) hb);replace BK612:=sBK_ BK612.out hb;replace HB:=s_HB HB.out hb;(try clear hb))|((with_reducible refine gate_callee (f:=56) rfl ?_);refine goesL_ (some 17) rfl rfl Tryz.func56 krT_ rfl #[.int .i64 x4_1] rfl agT_ ?_;(with_reducible refine (spec_CountOf.calls k1 x4_1 t621 _ A8.out).mono ?_);rintro e w' ⟨rfl,⟨nd,rfl⟩⟩;refine ⟨_,rfl,?_⟩))
  go_roundg k1
  case measure=>have:=HK1.out;omega
  case rel=>exact ⟨(x3_1),(wrap64 (x4_1+1)),sT_,H',⟨by have:=HK1.out;omega⟩,⟨kRC_ HO_3.out⟩,⟨bkC_ BK612.out⟩,⟨h_HB HB.out⟩⟩
 replace H:=gsl_ H;obtain ⟨LMc10,H⟩:=H
 obtain ⟨y622,hy622⟩:∃ y_:List Int,y_=(x3_1++[x4_1]):=⟨_,rfl⟩
 rw [← hy622] at H
 have Ny622:=Aside0.mk hy622
 clear hy622
 have H':=Aside0.mk H
 clear H
 obtain ⟨hcz11_0,hcz11_1,hfz11_0,hfz11_1⟩:=bz2_ BK612.out
 go_wp2_with (first|((with_reducible refine gate_callee (f:=42) rfl ?_);refine goesL_ (some 9) rfl rfl Tryz.func42 krT_ rfl #[.int .i64 a0_0] rfl agT_ ?_;(with_reducible refine (spec_FullSet.calls a0_0 t616 _ A5.out).mono ?_);rintro e w' ⟨rfl,⟨nd,rfl⟩⟩;refine ⟨_,rfl,?_⟩)|((with_reducible refine gate_callee (f:=83) rfl ?_);refine goesL_ (some 15) rfl rfl Tryz.func83 krT_ rfl #[.agg #[.int .i64 a0_0,.slice A0_1 l0_1.length c0_1],.int .i64 x4_1] rfl agT_ ?_;(with_reducible refine (spec_l5Rank.calls k1 a0_0 _ _ l0_1 x4_1 t620 _ ?side1 ?side2 A7.out).mono ?_);(case side1=>repeat (first|exact (Kd.C_below HR0_1.out (h_HB HB.out))|(with_reducible refine Kd.C_alloc ?_ _)|(with_reducible refine Kd.C_drewN ?_ _)|(with_reducible refine Kd.C_drew ?_)));(case side2=>exact HC0_1.out);rintro e w12 ⟨rfl,hb⟩;refine ⟨_,rfl,?_⟩;replace HO_3:=Aside0.mk (Kd.R_below (kRC_ HO_3.out) hb);replace BK612:=sBK_ BK612.out hb;replace HB:=s_HB HB.out hb;(try clear hb))|((with_reducible refine gate_callee (f:=56) rfl ?_);refine goesL_ (some 17) rfl rfl Tryz.func56 krT_ rfl #[.int .i64 x4_1] rfl agT_ ?_;(with_reducible refine (spec_CountOf.calls k1 x4_1 t621 _ A8.out).mono ?_);rintro e w' ⟨rfl,⟨nd,rfl⟩⟩;refine ⟨_,rfl,?_⟩)|((with_reducible refine gate_builtin (b:=.append) (xs:=#[.tmp 19,.tmp 21]) rfl ?_);at_builtin;refine Kd.R_append (Kd.int .i64) (w0:=w) w.heap.size rfl (.tmp 19) (.tmp 21) 24 3 (.int .i64 0) 8 rfl Tryz.underlying24 info3 rfl (by decide) (by omega) u3 x3_1 x4_1 [.int .i64 x4_1] (fun _=>True) (fun _=>False) rfl rfl ?aP (fun _ hk=>hk.elim) ?aF ?aO ?aB ?aS ?aL ?_;(case aP=>exact rfl);(case aB=>exact (h_HB HB.out));(case aF=>exact (fun _ _=>trivial));(case aO=>exact (kRC_ HO_3.out));(case aS=>exact (below_size (h_HB HB.out)));(case aL=>have:=LMc10.out;omega);intro v623 w13 ho hb hg hat;rw [← Ny622.out] at ho;replace BK612:=Aside0.mk (blk_grown (bkC_ BK612.out) hg (Kd.R_ne HO_3.out BK612.out (by decide)));replace HB:=Aside0.mk (hb);have HO624:=Aside0.mk (ho);clear HO_3;clear ho hb hg hat))
 go_roundg k1
 case measure=>have:=HK1.out;omega
 case rel=>exact ⟨(y622),(wrap64 (x4_1+1)),sT_,H',⟨by have:=HK1.out;omega⟩,⟨kRC_ HO624.out⟩,⟨bkC_ BK612.out⟩,⟨h_HB HB.out⟩⟩
def spec_Circuits.f (k:Nat) (a0_0:Int) (l0_1:List Int):Option (List Int):=(spec_IsMatroid.f k a0_0 l0_1).bind fun t626=>(if t626=true then ((spec_l6Circuits.f k a0_0 l0_1).bind fun t627=>(some t627)) else (some (([]:List Int))))
theorem spec_Circuits.calls (k:Nat) (a0_0:Int) (A0_1:Option Addr) (c0_1:Nat) (l0_1:List Int) (r:List Int) (w:World) (hr0_1:Kd.C (Kd.int .i64) w A0_1 l0_1.length l0_1) (hc0_1:l0_1.length≤c0_1) (h:spec_Circuits.f k a0_0 l0_1=some r) :
    Calls Tryz.prog 15 #[.agg #[.int .i64 a0_0,.slice A0_1 l0_1.length c0_1]] w fun e w'=>∃ v0_:Value,e=.returned (v0_)∧Kd.R (Kd.int .i64) 3 w' w.heap.size (fun _=>True) v0_ r∧Below w.heap.size w w':=by
 have hu26:=Tryz.underlying26
 have HR0_1:=Aside0.mk hr0_1
 have HC0_1:=Aside0.mk hc0_1
 clear hr0_1 hc0_1
 have HB:=Aside0.mk (Below.refl w.heap.size w)
 unfold spec_Circuits.f at h
 have H:=h
 clear h
 replace H:=bnd_ H;obtain ⟨t626,A2,H⟩:=H
 replace H:=gst_ H;rcases H with ⟨rfl,H⟩|⟨rfl,H⟩
 ·replace H:=bnd_ H;obtain ⟨t627,A4,H⟩:=H
  obtain rfl:=Option.some.inj H
  go_enter Tryz.func15,Tryz.ntmps15
  go_wp2_with (first|((with_reducible refine gate_dst (N:=1) rfl ?_);refine bx_ (N:=1) (cs:=#[.int .i64 a0_0,.slice A0_1 l0_1.length c0_1]) (t:=26) ?_;intro gb625 hg w5 hbox hb;have BK625:=Aside0.mk (hbox);have GW625:=Aside0.mk (gw_ hg (h_HB HB.out));have GE625:=GW625;replace HB:=s_HB HB.out hb;clear hb hbox hg;obtain ⟨hcz6_0,hcz6_1,hfz6_0,hfz6_1⟩:=bz2_ BK625.out)|((with_reducible refine gate_callee (f:=20) rfl ?_);refine goesL_ (some 4) rfl rfl Tryz.func20 krT_ rfl #[.agg #[.int .i64 a0_0,.slice A0_1 l0_1.length c0_1]] rfl agT_ ?_;(with_reducible refine (spec_IsMatroid.calls k a0_0 _ _ l0_1 true _ ?side1 ?side2 A2.out).mono ?_);(case side1=>exact cC_ HR0_1.out);(case side2=>exact HC0_1.out);rintro e w7 ⟨rfl,hb⟩;refine ⟨_,rfl,?_⟩;replace BK625:=sBK_ BK625.out hb;replace HB:=s_HB HB.out hb;(try clear hb);obtain ⟨hcz8_0,hcz8_1,hfz8_0,hfz8_1⟩:=bz2_ BK625.out)|((with_reducible refine gate_callee (f:=52) rfl ?_);refine goesL_ (some 8) rfl rfl Tryz.func52 krT_ rfl #[.agg #[.int .i64 a0_0,.slice A0_1 l0_1.length c0_1]] rfl agT_ ?_;(with_reducible refine (spec_l6Circuits.calls k a0_0 _ _ l0_1 t627 _ ?side1 ?side2 A4.out).mono ?_);(case side1=>exact cC_ HR0_1.out);(case side2=>exact HC0_1.out);rintro e w9 ⟨v628,rfl,ho0,hb⟩;refine ⟨_,rfl,?_⟩;have HO629:=Aside0.mk (Kd.R_lower ho0 (below_size (h_HB HB.out)));replace BK625:=sBK_ BK625.out hb;replace HB:=s_HB HB.out hb;(try clear hb);(try clear ho0)))
  go_ret
  exact ⟨_,eT_,kRC_ HO629.out,h_HB HB.out⟩
 obtain ⟨y630,hy630⟩:∃ y_:List Int,y_=(([]:List Int)):=⟨_,rfl⟩
 rw [← hy630] at H
 have Ny630:=Aside0.mk hy630
 clear hy630
 obtain rfl:=Option.some.inj H
 go_enter Tryz.func15,Tryz.ntmps15
 go_wp2_with (first|((with_reducible refine gate_dst (N:=1) rfl ?_);refine bx_ (N:=1) (cs:=#[.int .i64 a0_0,.slice A0_1 l0_1.length c0_1]) (t:=26) ?_;intro gb625 hg w10 hbox hb;have BK625:=Aside0.mk (hbox);have GW625:=Aside0.mk (gw_ hg (h_HB HB.out));have GE625:=GW625;replace HB:=s_HB HB.out hb;clear hb hbox hg;obtain ⟨hcz11_0,hcz11_1,hfz11_0,hfz11_1⟩:=bz2_ BK625.out)|((with_reducible refine gate_callee (f:=20) rfl ?_);refine goesL_ (some 4) rfl rfl Tryz.func20 krT_ rfl #[.agg #[.int .i64 a0_0,.slice A0_1 l0_1.length c0_1]] rfl agT_ ?_;(with_reducible refine (spec_IsMatroid.calls k a0_0 _ _ l0_1 false _ ?side1 ?side2 A2.out).mono ?_);(case side1=>exact cC_ HR0_1.out);(case side2=>exact HC0_1.out);rintro e w12 ⟨rfl,hb⟩;refine ⟨_,rfl,?_⟩;replace BK625:=sBK_ BK625.out hb;replace HB:=s_HB HB.out hb;(try clear hb))|((with_reducible refine gate_dst (N:=6) rfl ?_);refine Kd.R_lit (Kd.int .i64) _ 3 ?hg (N:=6) ?hd (xs:=([]:List Int)) (inner:=[]) (ok:=fun _=>True) (okp:=fun _=>True) ?hr ?hp (fun _ hk=>hk) trivial (Below.refl _ _) (Nat.le_refl _) (by simp) ?_;(case hd=>rfl);(case hg=>rfl);(case hr=>exact hrT_);(case hp=>exact (Reps.none _ _));intro v631 w13 ho14 hb hg_ hnew_;clear hg_ hnew_;(first|rw [← Ny630.out] at ho14|(simp only [Int.reduceToNat] at ho14;rw [← Ny630.out] at ho14));have HO632:=Aside0.mk (Kd.R_lower ho14 (below_size (h_HB HB.out)));replace BK625:=sBK_ BK625.out hb;replace HB:=s_HB HB.out hb;clear hb ho14))
 go_ret
 exact ⟨_,eT_,kRC_ HO632.out,h_HB HB.out⟩
def spec_l3Bent.f (k:Nat) (s0_0:List Int) (s0_1:Int) (s0_2:Int) (a1:Int):Option (List Int × Int × Int):=(spec_l3Draw.f k s0_0 s0_1 s0_2 a1).bind fun bt633=>((spec_l1Below.f s0_0 bt633.2.1 bt633.2.2 5).bind fun bt638=>(if bt638.1=0 then ((spec_l2Bent.f s0_0 bt638.2.1 bt638.2.2).bind fun bt641=>(if bt633.1.length<17592186044416 then (some ((bt633.1++[bt641.1]),bt641.2.1,bt641.2.2)) else (none))) else (if bt638.1=1 then (some (bt633.1,bt638.2.1,bt638.2.2)) else ((spec_SortSets.f k bt633.1).bind fun t647=>(some (t647,bt638.2.1,bt638.2.2))))))
theorem spec_l3Bent.calls (k:Nat) (g:Nat) (s0_0:List Int) (s0_1:Int) (s0_2:Int) (a1:Int) (r1:List Int) (r2:Int) (r3:Int) (w0 w:World) (hI:IsS68 w0 w g s0_0 s0_1 s0_2) (hB:Below w0.heap.size w0 w) (h:spec_l3Bent.f k s0_0 s0_1 s0_2 a1=some (r1,r2,r3)) :
    Calls Tryz.prog 69 #[.pointer (some ⟨g,0,none⟩),.int .i64 a1] w fun e w'=>∃ v0_:Value,e=.returned (v0_)∧Kd.R (Kd.int .i64) 3 w' w.heap.size (fun _=>True) v0_ r1∧IsS68 w0 w' g s0_0 r2 r3∧Below w0.heap.size w0 w'∧KeepBut w w' g none:=by
 have HI0:=Aside0.mk hI
 have HK:=Aside0.mk (KeepBut.refl w g none)
 have HL:=Aside0.mk hB.size
 clear hI
 have HW0:=Aside0.mk hB.size
 have HB:=Aside0.mk hB
 clear hB
 unfold spec_l3Bent.f at h
 have H:=h
 clear h
 replace H:=bnd_ H;obtain ⟨⟨t633,t636,t637⟩,A3,H⟩:=H;dsimp only at H
 replace H:=bnd_ H;obtain ⟨⟨t638,t639,t640⟩,A4,H⟩:=H;dsimp only at H
 replace H:=gse_ H;rcases H with ⟨c5b0,c5b1,H⟩|⟨c5b0,c5b1,c5,H⟩
 ·replace H:=bnd_ H;obtain ⟨⟨t641,t642,t643⟩,A6,H⟩:=H;dsimp only at H
  replace H:=gsl_ H;obtain ⟨LMc7,H⟩:=H
  obtain ⟨y644,hy644⟩:∃ y_:List Int,y_=(t633++[t641]):=⟨_,rfl⟩
  rw [← hy644] at H
  have Ny644:=Aside0.mk hy644
  clear hy644
  simp only [Option.some.injEq,Prod.mk.injEq] at H
  obtain ⟨rfl,rfl,rfl⟩:=H
  go_enter Tryz.func69,Tryz.ntmps69
  go_wp2_with (first|((with_reducible refine gate_callee (f:=61) rfl ?_);refine goesL_ (some 8) rfl rfl Tryz.func61 krT_ rfl #[.pointer (some ⟨g,0,none⟩),.int .i64 a1] rfl agT_ ?_;(with_reducible refine (spec_l3Draw.calls k g s0_0 s0_1 s0_2 a1 t633 t636 t637 w0 _ ?side1 ?side2 A3.out).mono ?_);(case side1=>exact h_HI0 HI0.out);(case side2=>exact h_HB HB.out);rintro e w8 ⟨v634,rfl,ho0,hi,hb,hk⟩;refine ⟨_,rfl,?_⟩;have HO635:=Aside0.mk (Kd.R_lower ho0 (keep_size (w:=w) (g:=g) (row:=none) (h_HK HK.out)));replace HK:=Aside0.mk (KeepBut.trans (h_HK HK.out) hk (.inl rfl));replace HB:=Aside0.mk (hb);replace HI0:=Aside0.mk (hi);(try clear hb);(try clear hk);(try clear hi);(try clear ho0))|((with_reducible refine gate_callee (f:=46) rfl ?_);refine goesL_ (some 10) rfl rfl Tryz.func46 krT_ rfl #[.pointer (some ⟨g,0,none⟩),.int .i64 5] rfl agT_ ?_;(with_reducible refine (spec_l1Below.calls g s0_0 t636 t637 5 t638 t639 t640 w0 _ ?side1 ?side2 A4.out).mono ?_);(case side1=>exact h_HI0 HI0.out);(case side2=>exact h_HB HB.out);rintro e w9 ⟨rfl,hi,hb,hk⟩;refine ⟨_,rfl,?_⟩;replace HO635:=Aside0.mk (Kd.R_mono (Kd.R_keep (IsS68.apart (show IsS68 w0 _ g s0_0 t636 t637 from h_HI0 HI0.out) (kRC_ HO635.out) (by decide)) hk (fun _ h=>h.2)) (fun _ h=>h.1));replace HK:=Aside0.mk (KeepBut.trans (h_HK HK.out) hk (.inl rfl));replace HB:=Aside0.mk (hb);replace HI0:=Aside0.mk (hi);(try clear hb);(try clear hk);(try clear hi))|((with_reducible refine gate_callee (f:=48) rfl ?_);refine goesL_ (some 15) rfl rfl Tryz.func48 krT_ rfl #[.pointer (some ⟨g,0,none⟩)] rfl agT_ ?_;(with_reducible refine (spec_l2Bent.calls g s0_0 t639 t640 t641 t642 t643 w0 _ ?side1 ?side2 A6.out).mono ?_);(case side1=>exact h_HI0 HI0.out);(case side2=>exact h_HB HB.out);rintro e w10 ⟨rfl,hi,hb,hk⟩;refine ⟨_,rfl,?_⟩;replace HO635:=Aside0.mk (Kd.R_mono (Kd.R_keep (IsS68.apart (show IsS68 w0 _ g s0_0 t639 t640 from h_HI0 HI0.out) (kRC_ HO635.out) (by decide)) hk (fun _ h=>h.2)) (fun _ h=>h.1));replace HK:=Aside0.mk (KeepBut.trans (h_HK HK.out) hk (.inl rfl));replace HB:=Aside0.mk (hb);replace HI0:=Aside0.mk (hi);(try clear hb);(try clear hk);(try clear hi))|((with_reducible refine gate_builtin (b:=.append) (xs:=#[.tmp 13,.tmp 16]) rfl ?_);at_builtin;refine Kd.R_append (Kd.int .i64) w.heap.size rfl (.tmp 13) (.tmp 16) 24 3 (.int .i64 0) 8 rfl Tryz.underlying24 info3 rfl (by decide) (by omega) v634 t633 t641 [.int .i64 t641] (fun _=>True) (fun _=>False) rfl rfl ?aP (fun _ hk=>hk.elim) ?aF ?aO (Below.refl _ _) ?aS ?aL ?_;(case aP=>exact rfl);(case aF=>exact (fun _ _=>trivial));(case aO=>exact (kRC_ HO635.out));(case aS=>exact (keep_size (w:=w) (g:=g) (row:=none) (h_HK HK.out)));(case aL=>have:=LMc7.out;omega);intro v645 w11 ho hb hg hat;rw [← Ny644.out] at ho;replace HI0:=Aside0.mk (IsS68.grown (h_HI0 HI0.out) hg (IsS68.own_ne HI0.out HO635.out (by decide)));replace HB:=Aside0.mk (below_weaken (h_HB HB.out) HL.out hb);replace HK:=Aside0.mk (KeepBut.trans (h_HK HK.out) (KeepBut.of_grown hg g) (Kd.R_base2 HO635.out));have HO646:=Aside0.mk (ho);clear HO635;clear ho hb hg hat))
  go_ret
  exact ⟨_,eT_,kRC_ HO646.out,h_HI0 HI0.out,h_HB HB.out,h_HK HK.out⟩
 replace H:=gse_ H;rcases H with ⟨c12b0,c12b1,H⟩|⟨c12b0,c12b1,c12,H⟩
 ·simp only [Option.some.injEq,Prod.mk.injEq] at H
  obtain ⟨rfl,rfl,rfl⟩:=H
  go_enter Tryz.func69,Tryz.ntmps69
  go_wp2_with (first|((with_reducible refine gate_callee (f:=61) rfl ?_);refine goesL_ (some 8) rfl rfl Tryz.func61 krT_ rfl #[.pointer (some ⟨g,0,none⟩),.int .i64 a1] rfl agT_ ?_;(with_reducible refine (spec_l3Draw.calls k g s0_0 s0_1 s0_2 a1 t633 t636 t637 w0 _ ?side1 ?side2 A3.out).mono ?_);(case side1=>exact h_HI0 HI0.out);(case side2=>exact h_HB HB.out);rintro e w13 ⟨v634,rfl,ho0,hi,hb,hk⟩;refine ⟨_,rfl,?_⟩;have HO635:=Aside0.mk (Kd.R_lower ho0 (keep_size (w:=w) (g:=g) (row:=none) (h_HK HK.out)));replace HK:=Aside0.mk (KeepBut.trans (h_HK HK.out) hk (.inl rfl));replace HB:=Aside0.mk (hb);replace HI0:=Aside0.mk (hi);(try clear hb);(try clear hk);(try clear hi);(try clear ho0))|((with_reducible refine gate_callee (f:=46) rfl ?_);refine goesL_ (some 10) rfl rfl Tryz.func46 krT_ rfl #[.pointer (some ⟨g,0,none⟩),.int .i64 5] rfl agT_ ?_;(with_reducible refine (spec_l1Below.calls g s0_0 t636 t637 5 t638 t639 t640 w0 _ ?side1 ?side2 A4.out).mono ?_);(case side1=>exact h_HI0 HI0.out);(case side2=>exact h_HB HB.out);rintro e w14 ⟨rfl,hi,hb,hk⟩;refine ⟨_,rfl,?_⟩;replace HO635:=Aside0.mk (Kd.R_mono (Kd.R_keep (IsS68.apart (show IsS68 w0 _ g s0_0 t636 t637 from h_HI0 HI0.out) (kRC_ HO635.out) (by decide)) hk (fun _ h=>h.2)) (fun _ h=>h.1));replace HK:=Aside0.mk (KeepBut.trans (h_HK HK.out) hk (.inl rfl));replace HB:=Aside0.mk (hb);replace HI0:=Aside0.mk (hi);(try clear hb);(try clear hk);(try clear hi)))
  go_ret
  exact ⟨_,eT_,kRC_ HO635.out,h_HI0 HI0.out,h_HB HB.out,h_HK HK.out⟩
 replace H:=bnd_ H;obtain ⟨t647,A15,H⟩:=H
 simp only [Option.some.injEq,Prod.mk.injEq] at H
 obtain ⟨rfl,rfl,rfl⟩:=H
 go_enter Tryz.func69,Tryz.ntmps69
 go_wp2_with (first|((with_reducible refine gate_callee (f:=61) rfl ?_);refine goesL_ (some 8) rfl rfl Tryz.func61 krT_ rfl #[.pointer (some ⟨g,0,none⟩),.int .i64 a1] rfl agT_ ?_;(with_reducible refine (spec_l3Draw.calls k g s0_0 s0_1 s0_2 a1 t633 t636 t637 w0 _ ?side1 ?side2 A3.out).mono ?_);(case side1=>exact h_HI0 HI0.out);(case side2=>exact h_HB HB.out);rintro e w16 ⟨v634,rfl,ho0,hi,hb,hk⟩;refine ⟨_,rfl,?_⟩;have HO635:=Aside0.mk (Kd.R_lower ho0 (keep_size (w:=w) (g:=g) (row:=none) (h_HK HK.out)));replace HK:=Aside0.mk (KeepBut.trans (h_HK HK.out) hk (.inl rfl));replace HB:=Aside0.mk (hb);replace HI0:=Aside0.mk (hi);(try clear hb);(try clear hk);(try clear hi);(try clear ho0))|((with_reducible refine gate_callee (f:=46) rfl ?_);refine goesL_ (some 10) rfl rfl Tryz.func46 krT_ rfl #[.pointer (some ⟨g,0,none⟩),.int .i64 5] rfl agT_ ?_;(with_reducible refine (spec_l1Below.calls g s0_0 t636 t637 5 t638 t639 t640 w0 _ ?side1 ?side2 A4.out).mono ?_);(case side1=>exact h_HI0 HI0.out);(case side2=>exact h_HB HB.out);rintro e w17 ⟨rfl,hi,hb,hk⟩;refine ⟨_,rfl,?_⟩;replace HO635:=Aside0.mk (Kd.R_mono (Kd.R_keep (IsS68.apart (show IsS68 w0 _ g s0_0 t636 t637 from h_HI0 HI0.out) (kRC_ HO635.out) (by decide)) hk (fun _ h=>h.2)) (fun _ h=>h.1));replace HK:=Aside0.mk (KeepBut.trans (h_HK HK.out) hk (.inl rfl));replace HB:=Aside0.mk (hb);replace HI0:=Aside0.mk (hi);(try clear hb);(try clear hk);(try clear hi);obtain ⟨Ao18,co18,eo18⟩:=Kd.R_slice HO635.out;subst eo18)|((with_reducible refine gate_callee (f:=60) rfl ?_);refine goesL_ (some 22) rfl rfl Tryz.func60 krT_ rfl #[.slice Ao18 t633.length co18] rfl agT_ ?_;(with_reducible refine (spec_SortSets.calls k _ _ t633 t647 _ ?side1 ?side2 A15.out).mono ?_);(case side1=>repeat (first|exact (Kd.R_reads' HO635.out).2.2|(with_reducible refine Kd.C_alloc ?_ _)|(with_reducible refine Kd.C_drewN ?_ _)|(with_reducible refine Kd.C_drew ?_)));(case side2=>exact (Kd.R_reads' HO635.out).2.1);rintro e w19 ⟨v648,rfl,ho0,hb⟩;refine ⟨_,rfl,?_⟩;have HO649:=Aside0.mk (Kd.R_lower (Kd.R_new' ho0 (Kd.R_lt (kRC_ HO635.out))) (keep_size (w:=w) (g:=g) (row:=none) (h_HK HK.out)));replace HO635:=Aside0.mk (Kd.R_elder' (kRC_ HO635.out) (Kd.R_base ho0) hb);replace HI0:=Aside0.mk (IsS68.below (h_HI0 HI0.out) hb);replace HK:=Aside0.mk (KeepBut.trans (h_HK HK.out) (KeepBut.of_below hb g none) (.inl rfl));replace HB:=s_HB HB.out hb;(try clear hb);(try clear ho0)))
 go_ret
 exact ⟨_,eT_,by (with_reducible repeat (first|apply Kd.R_alloc|apply Kd.R_drewN|apply Kd.R_drew));exact Kd.R_mono HO649.out (fun _ hk=>trivial),h_HI0 HI0.out,h_HB HB.out,h_HK HK.out⟩
end Go.Proofs.YtekegbacnagbcaaGreat.P
