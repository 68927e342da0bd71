-- written by gprint (a program of this session's, round the kit's print), out of the translation and hand-written texts
import Derived.Test.YtekegbacnagbcaaGreatPVFnCircuitsx0
import Derived.Test.YtekegbacnagbcaaGreatPVFnCircuitsx2
import Derived.Test.YtekegbacnagbcaaGreatPVFnCircuitsx11
import Derived.Test.YtekegbacnagbcaaGreatPVFnCircuitsx12
import Derived.Test.YtekegbacnagbcaaGreatPVFnCircuitsx13
namespace Go.Proofs.YtekegbacnagbcaaGreat.P
open Go.RowKit Go.Proofs.YtekegbacnagbcaaGreatW.PrintWords Go.Proofs.YtekegbacnagbcaaGreatW.PrintLast Go.Proofs.YtekegbacnagbcaaGreatW.PrintMore
attribute [local go_sem] max2_int min2_int max_two min_two max_three min_three max_four min_four
set_option linter.unusedVariables false
set_option maxHeartbeats 8000000
set_option maxRecDepth 100000
set_option linter.unusedSimpArgs false
-- needs impl.IsSubset
-- needs slices.ContainsFunc[[]int,int]
def impl_MinimalSets_1.f (s x:Int):Option Bool:=if x=s then some false else impl_IsSubset.f x s
set_option maxHeartbeats 4000000 in
theorem impl_MinimalSets_1.quiet (s:Int) (w:World) (g1:Nat) (b1:w.heap[g1]?=some (.cells #[.int .i64 s] 3 (0,0))) :
  Quiet1 67 #[.pointer (some ⟨g1,0,none⟩)] w (impl_MinimalSets_1.f s):=by
 intro x b n h
 have q1:(w.drewN n).cell? ⟨g1,0,none⟩=some (.int .i64 s):=(blk_cell b1 0).trans rfl
 clear b1
 unfold impl_MinimalSets_1.f at h
 show Calls Tryz.prog 67 #[.int .i64 x,.pointer (some ⟨g1,0,none⟩)] (w.drewN n) _
 by_cases hx:x=s
 ·rw [if_pos hx] at h
  obtain rfl:=Option.some.inj h
  have hd:decide (x=s)=true:=decide_eq_true hx
  have hd2:(x==s)=true:=beq_iff_eq.mpr hx
  generalize w.drewN n=W at q1 ⊢
  go_enter Tryz.func67,Tryz.ntmps67
  go_wp2
  go_ret
  exact ⟨by first|rfl|(simp;done)|(simp [hx];done),dT_⟩
 rw [if_neg hx] at h
 have hd:decide (x=s)=false:=decide_eq_false hx
 have hd2:(x==s)=false:=beq_eq_false_iff_ne.mpr hx
 have HS:=Aside0.mk (fun n'=>impl_IsSubset.calls x s b ((w.drewN n).drewN n') h)
 clear h
 generalize w.drewN n=W at q1 HS ⊢
 go_enter Tryz.func67,Tryz.ntmps67
 go_wp2_with ((go_at_call 32;refine (HS.out 0).mono ?_;rintro e w' ⟨rfl,⟨q,rfl⟩⟩))
 go_ret
 exact ⟨by first|rfl|(simp;done)|(simp [hx];done),dT_⟩
def on_impl_MinimalSets_1.f (k:Nat) (l0:List Int) (s:Int):Option Bool:=anyL (impl_MinimalSets_1.f s) l0 k 0
theorem on_impl_MinimalSets_1.calls (k:Nat) (A0:Option Addr) (c0:Nat) (l0:List Int) (s:Int) (r:Bool) (w:World) (hr0:Kd.C (Kd.int .i64) w A0 l0.length l0) (hc0:l0.length≤c0)
  (h:on_impl_MinimalSets_1.f k l0 s=some r) (g1:Nat) (b1:w.heap[g1]?=some (.cells #[.int .i64 s] 3 (0,0))) :
    Calls Tryz.prog 34 #[.slice A0 l0.length c0,.func (.func 67) #[] #[.pointer (some ⟨g1,0,none⟩)]] w fun e w'=>e=.returned (.bool r)∧Drawn0 w w' :=
 containsFunc_calls _ _ (g_enters Tryz.func67 krT_ rfl) _ k A0 c0 l0 r w hr0 (impl_MinimalSets_1.quiet s w g1 b1) h
def impl_MinimalSets.l0:Nat→List Int→List Int→List Int→Int→Int→Option (List Int)
 | 0,_,_,_,_,_=>none
 | k+1,x0,x3,x11,x12,x13=>if x13<x12 then (if 0≤x13 then (if x13<(x11.length:Int) then ((on_impl_MinimalSets_1.f k x0 (rd x11 x13)).bind fun t576=>(if t576=true then (impl_MinimalSets.l0 k x0 x3 x11 x12 (wrap64 (x13+1))) else (if x3.length<17592186044416 then (impl_MinimalSets.l0 k x0 (x3++[rd x11 x13]) x11 x12 (wrap64 (x13+1))) else (none)))) else (none)) else (none)) else (some x3)
def impl_MinimalSets.f (k:Nat) (l0:List Int):Option (List Int):=(impl_areSets.f k l0).bind fun t570=>(if t570=true then ((impl_SortSets.f l0).bind fun t571=>(impl_MinimalSets.l0 k l0 (([]:List Int)) t571 (t571.length:Int) 0)) else (some ([]:List Int)))
theorem impl_MinimalSets.calls (k:Nat) (A0:Option Addr) (c0:Nat) (l0:List Int) (r:List Int) (w:World) (hr0:Kd.C (Kd.int .i64) w A0 l0.length l0) (hc0:l0.length≤c0) (h:impl_MinimalSets.f k l0=some r) :
    Calls Tryz.prog 26 #[.slice A0 l0.length c0] w fun e w'=>∃ v0_:Value,e=.returned (v0_)∧Kd.R (Kd.int .i64) 3 w' w.heap.size (fun _=>True) v0_ r∧Below w.heap.size w w':=by
 have HR0:=Aside0.mk hr0
 have HC0:=Aside0.mk hc0
 clear hr0 hc0
 have HB:=Aside0.mk (Below.refl w.heap.size w)
 unfold impl_MinimalSets.f at h
 have H:=h
 clear h
 obtain ⟨y567,hy567⟩:∃ y_:List Int,y_=(([]:List Int)):=⟨_,rfl⟩
 replace H:((impl_areSets.f k l0).bind fun t570=>(if t570=true then ((impl_SortSets.f l0).bind fun t571=>(impl_MinimalSets.l0 k l0 y567 t571 (t571.length:Int) 0)) else (some ([]:List Int))))=some r:=by first|(rw [hy567];with_reducible exact H)|(have H2_:=(Option.bind_some _ _).symm.trans H;rw [hy567];with_reducible exact H2_)|(have H2_:=(Option.bind_some _ _).symm.trans H;with_reducible exact H2_)|with_reducible exact H|(rw [hy567];exact H)|exact H
 have Ny567:=Aside0.mk hy567
 clear hy567
 replace H:=bnd_ H;obtain ⟨t570,A2,H⟩:=H
 replace H:=(gst_ H).symm;rcases H with ⟨rfl,H⟩|⟨rfl,H⟩
 ·obtain rfl:=Option.some.inj H
  go_enter Tryz.func26,Tryz.ntmps26
  go_wp2_with (first|((with_reducible refine gate_dst (N:=6) rfl ?_);refine Kd.R_lit (Kd.int .i64) _ 3 ?hg (N:=6) ?hd (xs:=([]:List Int)) (inner:=[]) (ok:=fun _=>True) (okp:=fun _=>True) ?hr ?hp (fun _ hk=>hk) trivial (Below.refl _ _) (Nat.le_refl _) (by simp) ?_;(case hd=>rfl);(case hg=>rfl);(case hr=>exact hrT_);(case hp=>exact (Reps.none _ _));intro v568 w20 ho21 hb hg_ hnew_;clear hg_ hnew_;(first|rw [← Ny567.out] at ho21|(simp only [Int.reduceToNat] at ho21;rw [← Ny567.out] at ho21));have HO569:=Aside0.mk (Kd.R_lower ho21 (below_size (h_HB HB.out)));replace HB:=s_HB HB.out hb;clear hb ho21)|((with_reducible refine gate_callee (f:=65) rfl ?_);refine goesL_ (some 8) rfl rfl Tryz.func65 krT_ rfl #[.slice A0 l0.length c0] rfl agT_ ?_;(with_reducible refine (impl_areSets.calls k _ _ l0 false _ ?side1 ?side2 A2.out).mono ?_);(case side1=>exact cC_ HR0.out);(case side2=>exact HC0.out);rintro e w' ⟨rfl,⟨nd,rfl⟩⟩;refine ⟨_,rfl,?_⟩))
  go_ret
  exact ⟨_,eT_,by first|exact Kd.R_nil _ _ _ _ _|exact Kd.N_nil _ _ _ _ _|exact Kd.V_nil _ _ _ _ _|exact Kd.Q_nil _ _ _ _ _|exact Kd.S_nil _ _ _ _ _,h_HB HB.out⟩
 replace H:=bnd_ H;obtain ⟨t571,A4,H⟩:=H
 have H':=Aside0.mk H
 clear H
 go_enter Tryz.func26,Tryz.ntmps26
 go_wp2_with (first|((with_reducible refine gate_dst (N:=6) rfl ?_);refine Kd.R_lit (Kd.int .i64) _ 3 ?hg (N:=6) ?hd (xs:=([]:List Int)) (inner:=[]) (ok:=fun _=>True) (okp:=fun _=>True) ?hr ?hp (fun _ hk=>hk) trivial (Below.refl _ _) (Nat.le_refl _) (by simp) ?_;(case hd=>rfl);(case hg=>rfl);(case hr=>exact hrT_);(case hp=>exact (Reps.none _ _));intro v568 w5 ho6 hb hg_ hnew_;clear hg_ hnew_;(first|rw [← Ny567.out] at ho6|(simp only [Int.reduceToNat] at ho6;rw [← Ny567.out] at ho6));have HO569:=Aside0.mk (Kd.R_lower ho6 (below_size (h_HB HB.out)));replace HB:=s_HB HB.out hb;clear hb ho6)|((with_reducible refine gate_callee (f:=65) rfl ?_);refine goesL_ (some 8) rfl rfl Tryz.func65 krT_ rfl #[.slice A0 l0.length c0] rfl agT_ ?_;(with_reducible refine (impl_areSets.calls k _ _ l0 true _ ?side1 ?side2 A2.out).mono ?_);(case side1=>exact cC_ HR0.out);(case side2=>exact HC0.out);rintro e w' ⟨rfl,⟨nd,rfl⟩⟩;refine ⟨_,rfl,?_⟩)|((with_reducible refine gate_callee (f:=66) rfl ?_);refine goesL_ (some 11) rfl rfl Tryz.func66 krT_ rfl #[.slice A0 l0.length c0] rfl agT_ ?_;(with_reducible refine (impl_SortSets.calls _ _ l0 t571 _ ?side1 ?side2 A4.out).mono ?_);(case side1=>repeat (first|exact (Kd.C_below HR0.out (h_HB HB.out))|(with_reducible refine Kd.C_alloc ?_ _)|(with_reducible refine Kd.C_drewN ?_ _)|(with_reducible refine Kd.C_drew ?_)));(case side2=>exact HC0.out);rintro e w7 ⟨v572,rfl,ho0,hb⟩;refine ⟨_,rfl,?_⟩;have HO573:=Aside0.mk (Kd.R_lower (Kd.R_new' ho0 (Kd.R_lt (kRC_ HO569.out))) (below_size (h_HB HB.out)));replace HO569:=Aside0.mk (Kd.R_elder' (kRC_ HO569.out) (Kd.R_base ho0) hb);replace HB:=s_HB HB.out hb;(try clear hb);(try clear ho0);obtain ⟨Ao8,co8,eo8⟩:=Kd.R_slice HO573.out;subst eo8))
 go_loopg [3,13] k (fun kq v3 v13 w'=>∃ (x3_1:List Int) (x13_1:Int),v13=.int .i64 x13_1∧Aside0 (impl_MinimalSets.l0 kq l0 x3_1 t571 (t571.length:Int) x13_1=some r)∧Aside0 (kq≤k)∧Aside0 (Kd.R (Kd.int .i64) 3 w' w.heap.size (fun k_=>some k_≠((.slice Ao8 t571.length co8):Value).ownBlock) v3 x3_1)∧Aside0 (Kd.R (Kd.int .i64) 3 w' w.heap.size (fun k_=>some k_≠(v3:Value).ownBlock) (.slice Ao8 t571.length co8) t571)∧Aside0 (Below w.heap.size w w'))
 case atStart=>exact ⟨(y567),(0),sT_,H',⟨Nat.le_refl _⟩,⟨by (with_reducible repeat (first|apply Kd.R_alloc|apply Kd.R_drewN|apply Kd.R_drew));exact Kd.R_mono HO569.out (fun _ hk=>hk.2)⟩,⟨by (with_reducible repeat (first|apply Kd.R_alloc|apply Kd.R_drewN|apply Kd.R_drew));exact Kd.R_mono HO573.out (fun _ hk=>hk.2)⟩,⟨h_HB HB.out⟩⟩
 case round =>
 clear H'
 try clear c2
 try clear p2
 try clear c3
 try clear c6
 obtain ⟨x3_1,x13_1,rfl,HA,HK1,HO_3,HO_11,HB⟩:=hrel
 cases gk with
 | zero=>exact absurd HA.out (by simp [impl_MinimalSets.l0])
 | succ k1 =>
 have H:=HA.out
 clear HA
 simp only [impl_MinimalSets.l0] at H
 replace H:=gsn_ H;rcases H with ⟨c9b0,H⟩|⟨c9b0,H⟩
 ·obtain rfl:=Option.some.inj H
  go_wp2
  go_ret
  exact ⟨_,eT_,by (with_reducible repeat (first|apply Kd.R_alloc|apply Kd.R_drewN|apply Kd.R_drew));exact Kd.R_mono HO_3.out (fun _ hk=>trivial),h_HB HB.out⟩
 replace H:=gsm_ H;obtain ⟨c10b0,H⟩:=H
 replace H:=gsm_ H;obtain ⟨c11b0,H⟩:=H
 replace H:=bnd_ H;obtain ⟨t576,A12,H⟩:=H
 replace H:=gst_ H;rcases H with ⟨rfl,H⟩|⟨rfl,H⟩
 ·have H':=Aside0.mk H
  clear H
  obtain ⟨ad574,e574,hx574_0,p574,q574⟩:=aiI_ (Kd.R_reads' HO_11.out).2.2 x13_1
  cases e574
  go_wp2_with (first|((with_reducible refine gate_dst (N:=5) rfl ?_);refine bx_ (N:=5) (cs:=#[.int .i64 0]) (t:=3) ?_;intro gb575 hg w14 hbox hb;replace HO_3:=Aside0.mk (Kd.R_below (Kd.R_elderB (kRC_ HO_3.out) gb575 (Nat.le_of_eq hg.symm)) hb);replace HO_11:=Aside0.mk (Kd.R_below (Kd.R_elderB (kRC_ HO_11.out) gb575 (Nat.le_of_eq hg.symm)) hb);have BK575:=Aside0.mk (hbox);have GW575:=Aside0.mk (gw_ hg (h_HB HB.out));have GE575:=GW575;replace HB:=s_HB HB.out hb;clear hb hbox hg;obtain ⟨hcz15_0,hfz15_0⟩:=bz1_ BK575.out)|((with_reducible refine gate_callee (f:=34) rfl ?_);refine goesL_ (some 19) rfl rfl Tryz.func34 krT_ rfl #[.slice A0 l0.length c0,.func (.func 67) #[] #[.pointer (some ⟨gb575,0,none⟩)]] rfl agT_ ?_;(with_reducible refine (on_impl_MinimalSets_1.calls k1 _ _ l0 (rd t571 x13_1) true _ ?side1 ?side2 A12.out gb575 ?side3).mono ?_);(case side1=>exact Kd.C_below HR0.out (h_HB HB.out));(case side2=>exact HC0.out);(case side3=>exact (by (with_reducible repeat (first|refine blk_drewN ?_ _|refine blk_drew ?_|refine blk_alloc ?_ _));refine blk_put (cs:=#[.int .i64 0]) ?_ 0 _ rfl;exact bkC_ BK575.out));rintro e w' ⟨rfl,⟨nd,rfl⟩⟩;refine ⟨_,rfl,?_⟩))
  go_roundg k1
  case measure=>have:=HK1.out;omega
  case rel=>exact ⟨(x3_1),(wrap64 (x13_1+1)),sT_,H',⟨by have:=HK1.out;omega⟩,⟨by (with_reducible repeat (first|apply Kd.R_alloc|apply Kd.R_drewN|apply Kd.R_drew));exact Kd.R_mono (Kd.R_far (p:=⟨gb575,0,none⟩) (Kd.R_mono HO_3.out (fun k_ hk=>(⟨hk,hk.2⟩:_∧k_≠gb575))) (fun _ hk=>hk.2) (.int .i64 (rd t571 x13_1))) (fun _ hk=>hk.1.1)⟩,⟨by (with_reducible repeat (first|apply Kd.R_alloc|apply Kd.R_drewN|apply Kd.R_drew));exact Kd.R_mono (Kd.R_far (p:=⟨gb575,0,none⟩) (Kd.R_mono HO_11.out (fun k_ hk=>(⟨hk,hk.2⟩:_∧k_≠gb575))) (fun _ hk=>hk.2) (.int .i64 (rd t571 x13_1))) (fun _ hk=>hk.1.1)⟩,⟨h_HB HB.out⟩⟩
 replace H:=gsl_ H;obtain ⟨LMc16,H⟩:=H
 obtain ⟨y577,hy577⟩:∃ y_:List Int,y_=(x3_1++[rd t571 x13_1]):=⟨_,rfl⟩
 rw [← hy577] at H
 have Ny577:=Aside0.mk hy577
 clear hy577
 have H':=Aside0.mk H
 clear H
 obtain ⟨ad574,e574,hx574_0,p574,q574⟩:=aiI_ (Kd.R_reads' HO_11.out).2.2 x13_1
 cases e574
 go_wp2_with (first|((with_reducible refine gate_dst (N:=5) rfl ?_);refine bx_ (N:=5) (cs:=#[.int .i64 0]) (t:=3) ?_;intro gb575 hg w17 hbox hb;replace HO_3:=Aside0.mk (Kd.R_below (Kd.R_elderB (kRC_ HO_3.out) gb575 (Nat.le_of_eq hg.symm)) hb);replace HO_11:=Aside0.mk (Kd.R_below (Kd.R_elderB (kRC_ HO_11.out) gb575 (Nat.le_of_eq hg.symm)) hb);have BK575:=Aside0.mk (hbox);have GW575:=Aside0.mk (gw_ hg (h_HB HB.out));have GE575:=GW575;replace HB:=s_HB HB.out hb;clear hb hbox hg;obtain ⟨hcz18_0,hfz18_0⟩:=bz1_ BK575.out)|((with_reducible refine gate_callee (f:=34) rfl ?_);refine goesL_ (some 19) rfl rfl Tryz.func34 krT_ rfl #[.slice A0 l0.length c0,.func (.func 67) #[] #[.pointer (some ⟨gb575,0,none⟩)]] rfl agT_ ?_;(with_reducible refine (on_impl_MinimalSets_1.calls k1 _ _ l0 (rd t571 x13_1) false _ ?side1 ?side2 A12.out gb575 ?side3).mono ?_);(case side1=>exact Kd.C_below HR0.out (h_HB HB.out));(case side2=>exact HC0.out);(case side3=>exact (by (with_reducible repeat (first|refine blk_drewN ?_ _|refine blk_drew ?_|refine blk_alloc ?_ _));refine blk_put (cs:=#[.int .i64 0]) ?_ 0 _ rfl;exact bkC_ BK575.out));rintro e w' ⟨rfl,⟨nd,rfl⟩⟩;refine ⟨_,rfl,?_⟩)|((with_reducible refine gate_builtin (b:=.append) (xs:=#[.tmp 21,.tmp 23]) rfl ?_);at_builtin;refine Kd.R_append (Kd.int .i64) (w0:=w) w.heap.size rfl (.tmp 21) (.tmp 23) 24 3 (.int .i64 0) 8 rfl Tryz.underlying24 info3 rfl (by decide) (by omega) u3 x3_1 (rd t571 x13_1) [.int .i64 (rd t571 x13_1)] (fun k_=>some k_≠(.slice (some ad574) t571.length co8:Value).ownBlock∧k_≠gb575) (fun _=>False) rfl (by first|(go_simp;done)|(go_simp;rfl)) ?aP (fun _ hk=>hk.elim) ?aF ?aO ?aB ?aS ?aL ?_;(case aP=>exact rfl);(case aB=>exact (h_HB HB.out));(case aF=>exact (fun k_ hk=>⟨Kd.fresh' (Kd.R_lt (by (with_reducible repeat (first|apply Kd.R_alloc|apply Kd.R_drewN|apply Kd.R_drew));exact (Kd.R_mono (Kd.R_far (p:=⟨gb575,0,none⟩) (Kd.R_mono HO_11.out (fun k_ hk=>(⟨hk,hk.2⟩:_∧k_≠gb575))) (fun _ hk=>hk.2) (.int .i64 (rd t571 x13_1))) (fun _ h_=>h_.1)))) k_ hk,Kd.freshB (g:=gb575) (o:=.cells #[.int .i64 (rd t571 x13_1)] 3 (0,0)) (by (with_reducible repeat (first|refine blk_drewN ?_ _|refine blk_drew ?_|refine blk_alloc ?_ _));refine blk_put (cs:=#[.int .i64 0]) ?_ 0 _ rfl;exact bkC_ BK575.out) k_ hk⟩));(case aO=>exact (by (with_reducible repeat (first|apply Kd.R_alloc|apply Kd.R_drewN|apply Kd.R_drew));exact Kd.R_mono (Kd.R_far (p:=⟨gb575,0,none⟩) (Kd.R_mono HO_3.out (fun k_ hk=>(⟨hk,hk.2⟩:_∧k_≠gb575))) (fun _ hk=>hk.2) (.int .i64 (rd t571 x13_1))) (fun _ hk=>by first|exact ⟨hk.1.1,hk.1.2⟩|(simp [hk];done))));(case aS=>exact (below_size (h_HB HB.out)));(case aL=>have:=LMc16.out;omega);intro v578 w19 ho hb hg hat;rw [← Ny577.out] at ho;replace HO_11:=Aside0.mk (Kd.R_after (ok:=(fun k_=>k_≠gb575)) (by (with_reducible repeat (first|apply Kd.R_alloc|apply Kd.R_drewN|apply Kd.R_drew));exact Kd.R_mono (Kd.R_far (p:=⟨gb575,0,none⟩) (Kd.R_mono HO_11.out (fun k_ hk=>(⟨hk,hk.2⟩:_∧k_≠gb575))) (fun _ hk=>hk.2) (.int .i64 (rd t571 x13_1))) (fun _ hk=>by first|exact ⟨hk.1.2,hk.1.1⟩|(simp [hk];done))) hg hat);replace BK575:=Aside0.mk (blk_grown (g:=gb575) (o:=.cells #[.int .i64 (rd t571 x13_1)] 3 (0,0)) (by (with_reducible repeat (first|refine blk_drewN ?_ _|refine blk_drew ?_|refine blk_alloc ?_ _));refine blk_put (cs:=#[.int .i64 0]) ?_ 0 _ rfl;exact bkC_ BK575.out) hg (Kd.R_away HO_3.out (fun _ hk=>hk.2)));replace HB:=Aside0.mk (hb);have HO579:=Aside0.mk (ho);clear HO_3;clear ho hb hg hat))
 go_roundg k1
 case measure=>have:=HK1.out;omega
 case rel=>exact ⟨(y577),(wrap64 (x13_1+1)),sT_,H',⟨by have:=HK1.out;omega⟩,⟨by (with_reducible repeat (first|apply Kd.R_alloc|apply Kd.R_drewN|apply Kd.R_drew));exact Kd.R_mono HO579.out (fun _ hk=>hk.1)⟩,⟨by (with_reducible repeat (first|apply Kd.R_alloc|apply Kd.R_drewN|apply Kd.R_drew));exact Kd.R_mono HO_11.out (fun _ hk=>hk.2)⟩,⟨h_HB HB.out⟩⟩
def impl_FullSet.f (a0:Int):Option (Int):=(impl_isSize.f a0).bind fun t580=>(if t580=true then (if 0≤a0 then (some (wrap64 ((shl .i64 1 a0)-1))) else (none)) else (some 0))
theorem impl_FullSet.calls (a0:Int) (r:Int) (w:World) (h:impl_FullSet.f a0=some r) :
    Calls Tryz.prog 68 #[.int .i64 a0] w fun e w'=>e=.returned (.int .i64 r)∧Drawn0 w w':=by
 unfold impl_FullSet.f at h
 have H:=h
 clear h
 replace H:=bnd_ H;obtain ⟨t580,A2,H⟩:=H
 replace H:=(gst_ H).symm;rcases H with ⟨rfl,H⟩|⟨rfl,H⟩
 ·obtain rfl:=Option.some.inj H
  go_enter Tryz.func68,Tryz.ntmps68
  go_wp2_with (first|((with_reducible refine gate_callee (f:=71) rfl ?_);refine goesL_ (some 4) rfl rfl Tryz.func71 krT_ rfl #[.int .i64 a0] rfl agT_ ?_;(with_reducible refine (impl_isSize.calls a0 false _ A2.out).mono ?_);rintro e w' ⟨rfl,⟨nd,rfl⟩⟩;refine ⟨_,rfl,?_⟩))
  go_ret
  exact ⟨sT_,dT_⟩
 replace H:=gsp_ H;obtain ⟨c4,H⟩:=H
 have c4b0:=eq_true c4
 have c4b1:decide (0≤a0)=true:=decide_eq_true c4
 clear c4
 obtain ⟨ji5,hji5⟩:∃ j_:Int,(shl .i64 1 a0)=j_:=⟨_,rfl⟩
 first |rw [hji5] at H|simp only [hji5] at H
 (try rw [hji5] at A2)
 have hji5_:(IntKind.i64.wrap (1*2 ^ min a0.toNat 64))=ji5:=hji5
 have hji5z:a0≤64→(IntKind.i64.wrap (1*2 ^ a0.toNat))=ji5:=shl_small hji5
 have hji5u:(IntKind.i64.wrap (2 ^ min a0.toNat 64))=ji5:=by have h_:=hji5_;rw [Int.one_mul] at h_;exact h_
 have hji5v:a0≤64→(IntKind.i64.wrap (2 ^ a0.toNat))=ji5:=fun hle_=>by have h_:=hji5z hle_;rw [Int.one_mul] at h_;exact h_
 have hji5y:(wrap64 (1*2 ^ min a0.toNat 64))=ji5:=(i64_w _).symm.trans hji5_
 have hji5x:a0≤64→(wrap64 (1*2 ^ a0.toNat))=ji5:=fun h_=>(i64_w _).symm.trans (hji5z h_)
 obtain rfl:=Option.some.inj H
 go_enter Tryz.func68,Tryz.ntmps68
 go_wp2_with (first|((with_reducible refine gate_callee (f:=71) rfl ?_);refine goesL_ (some 4) rfl rfl Tryz.func71 krT_ rfl #[.int .i64 a0] rfl agT_ ?_;(with_reducible refine (impl_isSize.calls a0 true _ A2.out).mono ?_);rintro e w' ⟨rfl,⟨nd,rfl⟩⟩;refine ⟨_,rfl,?_⟩))
 go_ret
 exact ⟨by first|rfl|(simp;done)|(simp only [← hji5]<;>(first|rfl|simp))|(simp [*];done),dT_⟩
-- needs impl.FullSet
/-- All sets of n elements of which p holds, as Go's loop gathers them (k: its rounds). -/
def setsL (n:Int) (p:Int→Option Bool):Nat→List Int→Int→Option (List Int)
 | 0,_,_=>none
 | k+1,out,s=>(impl_FullSet.f n).bind fun t=>(if s≤t then ((p s).bind fun b=>(if b=true then (if out.length<17592186044416 then (setsL n p k (out++[s]) (wrap64 (s+1))) else (none)) else (setsL n p k out (wrap64 (s+1))))) else (some out))
theorem setsL_mono {p q:Int→Option Bool} (n:Int) (h:∀ x,LeO (p x) (q x)):∀ k out s,LeO (setsL n p k out s) (setsL n q (k+1) out s)
 | 0,_,_=>fun r hr=>by simp [setsL] at hr
 | k+1,out,s=>by
  unfold setsL
  refine LeO.bind (LeO.refl _) (fun t=>?_)
  refine LeO.ite ?_ (LeO.refl _)
  refine LeO.bind (h _) (fun b=>?_)
  exact LeO.ite (LeO.ite (setsL_mono n h k _ _) (LeO.refl _)) (setsL_mono n h k _ _)
/-- A function value that takes a whole number, answers as p does, and leaves what was there alone. -/
def Makes1 (g:Nat) (lb:Array Value) (w:World) (p:Int→Option Bool):Prop :=
 ∀ (x:Int) (b:Bool) (W:World),Below w.heap.size w W→p x=some b→Calls Tryz.prog g (#[.int .i64 x]++lb) W fun e w'=>e=.returned (.bool b)∧Below W.heap.size W w'
theorem s_enters {f : FuncId} {fn : Func} {c : Code} (hf : Tryz.prog.funcs[f]? = some fn) (hname : (fn.name == "runtime.NumGoroutine") = false) (hb : fn.body = some c) : ∀ args w, (callFunc f args).run Tryz.prog w = .ok (.enter f args) w := by
 intro args w
 have h1 : fn.name ≠ "runtime.NumGoroutine" := by simpa using hname
 simp [callFunc,hf,h1,hb,mark]
theorem setsOf_calls (g:Nat) (lb:Array Value) (eg:∀ args w,(callFunc g args).run Tryz.prog w=.ok (.enter g args) w) (n:Int) (p:Int→Option Bool) (k:Nat) (r:List Int) (w:World) (hp:Makes1 g lb w p) (h:setsL n p k [] 0=some r) :
    Calls Tryz.prog 27 #[.int .i64 n,.func (.func g) #[] lb] w fun e w'=>∃ v0_:Value,e=.returned (v0_)∧Kd.R (Kd.int .i64) 3 w' w.heap.size (fun _=>True) v0_ r∧Below w.heap.size w w':=by
 have HB:=Aside0.mk (Below.refl w.heap.size w)
 have HP:=Aside0.mk hp
 clear hp
 have H':=Aside0.mk h
 clear h
 go_enter Tryz.func27,Tryz.ntmps27
 go_wp2_with (first|((with_reducible refine gate_dst (N:=7) rfl ?_);refine Kd.R_lit (Kd.int .i64) _ 3 ?hg (N:=7) ?hd (xs:=([]:List Int)) (inner:=[]) (ok:=fun _=>True) (okp:=fun _=>True) ?hr ?hp (fun _ hk=>hk) trivial (Below.refl _ _) (Nat.le_refl _) (by simp) ?_;(case hd=>rfl);(case hg=>rfl);(case hr=>exact hrT_);(case hp=>exact (Reps.none _ _));intro v141 w2 ho3 hb hg_ hnew_;clear hg_ hnew_;have HO142:=Aside0.mk (Kd.R_lower ho3 (below_size (h_HB HB.out)));replace HB:=s_HB HB.out hb;clear hb ho3))
 go_loopg [5,6] k (fun kq v5 v6 w'=>∃ (x5_1:List Int) (x6_1:Int),v6=.int .i64 x6_1∧Aside0 (setsL n p kq x5_1 x6_1=some r)∧Aside0 (kq≤k)∧Aside0 (Kd.R (Kd.int .i64) 3 w' w.heap.size (fun _=>True) v5 x5_1)∧Aside0 (Below w.heap.size w w'))
 case atStart=>exact ⟨[],0,rfl,H',⟨Nat.le_refl _⟩,⟨kRC_ HO142.out⟩,⟨h_HB HB.out⟩⟩
 case round =>
  clear H'
  obtain ⟨x5_1,x6_1,rfl,HA,HK1,HO_5,HB⟩:=hrel
  cases gk with
  | zero=>exact absurd HA.out (by simp [setsL])
  | succ k1 =>
   have H:=HA.out
   clear HA
   simp only [setsL] at H
   replace H:=Option.bind_eq_some_iff.mp H
   obtain ⟨t,A50,H⟩:=H
   have A5:=Aside0.mk A50
   clear A50
   replace H:=gsb_ H;rcases H with ⟨c4b0,H⟩|⟨c4b0,H⟩
   ·replace H:=Option.bind_eq_some_iff.mp H
    obtain ⟨b,hb,H⟩:=H
    have HC:=Aside0.mk (fun W hW=>HP.out x6_1 b W hW hb)
    clear hb
    cases b with
    | true =>
     rw [if_pos rfl] at H
     by_cases c7:x5_1.length<17592186044416
     ·rw [if_pos c7] at H
      have LMc7:=Aside0.mk c7
      clear c7
      have H':=Aside0.mk H
      clear H
      go_wp2_with (first|(go_at_call 68;(with_reducible refine (impl_FullSet.calls n t _ A5.out).mono ?_);rintro e w' ⟨rfl,⟨nd,rfl⟩⟩)|((with_reducible refine (HC.out _ ?hW).mono ?_);(case hW=>exact h_HB HB.out);rintro e w9 ⟨rfl,hb⟩;have n0_:=Aside0.mk (Kd.R_below (kRC_ HO_5.out) hb);have n1_:=s_HB HB.out hb;clear HO_5;clear HB;have HO_5:=n0_;have HB:=n1_;clear n0_ n1_ hb)|((with_reducible refine gate_builtin (b:=.append) (xs:=#[.tmp 17,.tmp 19]) rfl ?_);at_builtin;refine Kd.R_append (Kd.int .i64) (w0:=w) w.heap.size rfl (.tmp 17) (.tmp 19) 24 3 (.int .i64 0) 8 rfl Tryz.underlying24 info3 rfl (by decide) (by omega) u5 x5_1 x6_1 [.int .i64 x6_1] (fun _=>True) (fun _=>False) rfl rfl ?aP (fun _ hk=>hk.elim) ?aF ?aO ?aB ?aS ?aL ?_;(case aP=>exact rfl);(case aB=>exact (h_HB HB.out));(case aF=>exact (fun _ _=>trivial));(case aO=>exact (kRC_ HO_5.out));(case aS=>exact (below_size (h_HB HB.out)));(case aL=>have:=LMc7.out;omega);intro v145 w8 ho hb hg hat;replace HB:=Aside0.mk (hb);have HO146:=Aside0.mk (ho);clear HO_5;clear ho hb hg hat))
      go_roundg k1
      case measure=>have:=HK1.out;omega
      case rel=>exact ⟨(x5_1++[x6_1]),(wrap64 (x6_1+1)),(by first|rfl|(simp;done)),H',⟨by have:=HK1.out;omega⟩,⟨kRC_ HO146.out⟩,⟨h_HB HB.out⟩⟩
     ·rw [if_neg c7] at H
      exact absurd H (by simp)
    | false =>
     rw [if_neg (by decide)] at H
     have H':=Aside0.mk H
     clear H
     go_wp2_with (first|(go_at_call 68;(with_reducible refine (impl_FullSet.calls n t _ A5.out).mono ?_);rintro e w' ⟨rfl,⟨nd,rfl⟩⟩)|((with_reducible refine (HC.out _ ?hW).mono ?_);(case hW=>exact h_HB HB.out);rintro e w9 ⟨rfl,hb⟩;have n0_:=Aside0.mk (Kd.R_below (kRC_ HO_5.out) hb);have n1_:=s_HB HB.out hb;clear HO_5;clear HB;have HO_5:=n0_;have HB:=n1_;clear n0_ n1_ hb))
     go_roundg k1
     case measure=>have:=HK1.out;omega
     case rel=>exact ⟨x5_1,(wrap64 (x6_1+1)),(by first|rfl|(simp;done)),H',⟨by have:=HK1.out;omega⟩,⟨kRC_ HO_5.out⟩,⟨h_HB HB.out⟩⟩
   ·obtain rfl:=Option.some.inj H
    go_wp2_with (first|(go_at_call 68;(with_reducible refine (impl_FullSet.calls n t _ A5.out).mono ?_);rintro e w' ⟨rfl,⟨nd,rfl⟩⟩))
    go_ret
    exact ⟨_,by first|rfl|(simp;done),kRC_ HO_5.out,h_HB HB.out⟩
def impl_independent.l0:Nat→Int→List Int→Int→Int→Option (Bool)
 | 0,_,_,_,_=>none
 | k+1,x1,x8,x9,x10=>if x10<x9 then (if 0≤x10 then (if x10<(x8.length:Int) then ((impl_IsSubset.f x1 (rd x8 x10)).bind fun t583=>(if t583=true then (some true) else (impl_independent.l0 k x1 x8 x9 (wrap64 (x10+1))))) else (none)) else (none)) else (some false)
def impl_independent.f (k:Nat) (a0_0:Int) (l0_1:List Int) (a1:Int):Option (Bool):=impl_independent.l0 k a1 l0_1 (l0_1.length:Int) 0
theorem impl_independent.calls (k:Nat) (a0_0:Int) (A0_1:Option Addr) (c0_1:Nat) (l0_1:List Int) (a1:Int) (r:Bool) (w:World) (hr0_1:Kd.C (Kd.int .i64) w A0_1 l0_1.length l0_1) (hc0_1:l0_1.length≤c0_1) (h:impl_independent.f k a0_0 l0_1 a1=some r) :
    Calls Tryz.prog 29 #[.agg #[.int .i64 a0_0,.slice A0_1 l0_1.length c0_1],.int .i64 a1] w fun e w'=>e=.returned (.bool r)∧Below w.heap.size w w':=by
 have hu26:=Tryz.underlying26
 have HR0_1:=Aside0.mk hr0_1
 have HC0_1:=Aside0.mk hc0_1
 clear hr0_1 hc0_1
 have HB:=Aside0.mk (Below.refl w.heap.size w)
 have H:(impl_independent.l0 k a1 l0_1 (l0_1.length:Int) 0)=some r:=h
 clear h
 have H':=Aside0.mk H
 clear H
 go_enter Tryz.func29,Tryz.ntmps29
 go_wp2_with (first|((with_reducible refine gate_dst (N:=2) rfl ?_);refine bx_ (N:=2) (cs:=#[.int .i64 a0_0,.slice A0_1 l0_1.length c0_1]) (t:=26) ?_;intro gb581 hg w3 hbox hb;have BK581:=Aside0.mk (hbox);have GW581:=Aside0.mk (gw_ hg (h_HB HB.out));have GE581:=GW581;replace HB:=s_HB HB.out hb;clear hb hbox hg;obtain ⟨hcz4_0,hcz4_1,hfz4_0,hfz4_1⟩:=bz2_ BK581.out))
 go_loopg [10] k (fun kq v10 w'=>∃ (x10_1:Int),v10=.int .i64 x10_1∧Aside0 (impl_independent.l0 kq a1 l0_1 (l0_1.length:Int) x10_1=some r)∧Aside0 (kq≤k)∧Aside0 (w'.heap[gb581]?=some (.cells #[.int .i64 a0_0,(.slice A0_1 l0_1.length c0_1)] 26 (0,0)))∧Aside0 (Below w.heap.size w w'))
 case atStart=>exact ⟨(0),sT_,H',⟨Nat.le_refl _⟩,⟨bkC_ BK581.out⟩,⟨h_HB HB.out⟩⟩
 case round =>
 clear H'
 try clear c2
 try clear p2
 try clear hcz4_0
 try clear hcz4_1
 try clear hfz4_0
 try clear hfz4_1
 obtain ⟨x10_1,rfl,HA,HK1,BK581,HB⟩:=hrel
 cases gk with
 | zero=>exact absurd HA.out (by simp [impl_independent.l0])
 | succ k1 =>
 have H:=HA.out
 clear HA
 simp only [impl_independent.l0] at H
 replace H:=gsn_ H;rcases H with ⟨c5b0,H⟩|⟨c5b0,H⟩
 ·obtain rfl:=Option.some.inj H
  go_wp2
  go_ret
  exact ⟨eT_,h_HB HB.out⟩
 replace H:=gsm_ H;obtain ⟨c6b0,H⟩:=H
 replace H:=gsm_ H;obtain ⟨c7b0,H⟩:=H
 replace H:=bnd_ H;obtain ⟨t583,A8,H⟩:=H
 replace H:=gst_ H;rcases H with ⟨rfl,H⟩|⟨rfl,H⟩
 ·obtain rfl:=Option.some.inj H
  obtain ⟨ad582,e582,hx582_0,p582,q582⟩:=aiI_ HR0_1.out x10_1
  cases e582
  replace hx582_0:=(HB.out.cell (World.block_lt_of_cell? w _ hx582_0)).trans hx582_0
  go_wp2_with (first|((with_reducible refine gate_callee (f:=32) rfl ?_);refine goesL_ (some 16) rfl rfl Tryz.func32 krT_ rfl #[.int .i64 a1,.int .i64 (rd l0_1 x10_1)] rfl agT_ ?_;(with_reducible refine (impl_IsSubset.calls a1 (rd l0_1 x10_1) true _ A8.out).mono ?_);rintro e w' ⟨rfl,⟨nd,rfl⟩⟩;refine ⟨_,rfl,?_⟩))
  go_ret
  exact ⟨eT_,h_HB HB.out⟩
 have H':=Aside0.mk H
 clear H
 obtain ⟨ad582,e582,hx582_0,p582,q582⟩:=aiI_ HR0_1.out x10_1
 cases e582
 replace hx582_0:=(HB.out.cell (World.block_lt_of_cell? w _ hx582_0)).trans hx582_0
 go_wp2_with (first|((with_reducible refine gate_callee (f:=32) rfl ?_);refine goesL_ (some 16) rfl rfl Tryz.func32 krT_ rfl #[.int .i64 a1,.int .i64 (rd l0_1 x10_1)] rfl agT_ ?_;(with_reducible refine (impl_IsSubset.calls a1 (rd l0_1 x10_1) false _ A8.out).mono ?_);rintro e w' ⟨rfl,⟨nd,rfl⟩⟩;refine ⟨_,rfl,?_⟩))
 go_roundg k1
 case measure=>have:=HK1.out;omega
 case rel=>exact ⟨(wrap64 (x10_1+1)),sT_,H',⟨by have:=HK1.out;omega⟩,⟨bkC_ BK581.out⟩,⟨h_HB HB.out⟩⟩
-- needs impl.independent
-- needs impl.setsOf
def impl_Circuits_1.f (k:Nat) (m0:Int) (m1:List Int) (x:Int):Option Bool:=(impl_independent.f k m0 m1 x).bind fun t=>some (!t)
set_option maxHeartbeats 4000000 in
theorem impl_Circuits_1.makes (k:Nat) (m0:Int) (A1:Option Addr) (c1:Nat) (m1:List Int) (w:World) (hr1:Kd.C (Kd.int .i64) w A1 m1.length m1) (hc1:m1.length≤c1) (g1:Nat)
  (b1:w.heap[g1]?=some (.cells #[.int .i64 m0,.slice A1 m1.length c1] 26 (0,0))) :
  Makes1 28 #[.pointer (some ⟨g1,0,none⟩)] w (impl_Circuits_1.f k m0 m1):=by
 intro x b W hW h
 obtain ⟨t,h,ht⟩:=Option.bind_eq_some_iff.mp h
 have HT:=Aside0.mk (Option.some.inj ht)
 clear ht
 have hu:=Tryz.underlying26
 have q1:W.cell? ⟨g1,0,none⟩=some (.int .i64 m0):=(blk_cell (blk_below b1 hW) 0).trans rfl
 have q2:W.cell? ⟨g1,1,none⟩=some (.slice A1 m1.length c1):=(blk_cell (blk_below b1 hW) 1).trans rfl
 have HS:=Aside0.mk (fun n'=>impl_independent.calls k m0 A1 c1 m1 x t (W.drewN n') (Kd.C_drewN (Kd.C_below hr1 hW) n') hc1 h)
 clear h b1 hr1 hc1 hW
 show Calls Tryz.prog 28 #[.int .i64 x,.pointer (some ⟨g1,0,none⟩)] W _
 go_enter Tryz.func28,Tryz.ntmps28
 go_wp2_with (go_at_call 29;(first|refine (HS.out 0).mono ?_|refine (HS.out 1).mono ?_|refine (HS.out _).mono ?_);rintro e w' ⟨rfl,hb⟩;have HB:=Aside0.mk hb;clear hb)
 go_ret
 exact ⟨by rw [← HT.out];first|rfl|(simp;done),by repeat (first|exact HB.out|apply pw_below_drewN)⟩
def on_impl_Circuits_1.f (k:Nat) (n m0:Int) (m1:List Int):Option (List Int):=setsL n (impl_Circuits_1.f k m0 m1) k [] 0
theorem on_impl_Circuits_1.calls (k:Nat) (n m0:Int) (A1:Option Addr) (c1:Nat) (m1:List Int) (r:List Int) (w:World) (hr1:Kd.C (Kd.int .i64) w A1 m1.length m1) (hc1:m1.length≤c1) (h:on_impl_Circuits_1.f k n m0 m1=some r) (g1:Nat)
  (b1:w.heap[g1]?=some (.cells #[.int .i64 m0,.slice A1 m1.length c1] 26 (0,0))) :
    Calls Tryz.prog 27 #[.int .i64 n,.func (.func 28) #[] #[.pointer (some ⟨g1,0,none⟩)]] w fun e w'=>∃ v0_:Value,e=.returned (v0_)∧Kd.R (Kd.int .i64) 3 w' w.heap.size (fun _=>True) v0_ r∧Below w.heap.size w w' :=
 setsOf_calls _ _ (s_enters Tryz.func28 krT_ rfl) n _ k r w (impl_Circuits_1.makes k m0 A1 c1 m1 w hr1 hc1 g1 b1) h
def impl_Circuits.f (k:Nat) (a0_0:Int) (l0_1:List Int):Option (List Int):=(impl_IsMatroid.f k a0_0 l0_1).bind fun t585=>(if t585=true then ((on_impl_Circuits_1.f k a0_0 a0_0 l0_1).bind fun t586=>((impl_MinimalSets.f k t586).bind fun t589=>(some t589))) else (some ([]:List Int)))
theorem impl_Circuits.calls (k:Nat) (a0_0:Int) (A0_1:Option Addr) (c0_1:Nat) (l0_1:List Int) (r:List Int) (w:World) (hr0_1:Kd.C (Kd.int .i64) w A0_1 l0_1.length l0_1) (hc0_1:l0_1.length≤c0_1) (h:impl_Circuits.f k a0_0 l0_1=some r) :
    Calls Tryz.prog 6 #[.agg #[.int .i64 a0_0,.slice A0_1 l0_1.length c0_1]] w fun e w'=>∃ v0_:Value,e=.returned (v0_)∧Kd.R (Kd.int .i64) 3 w' w.heap.size (fun _=>True) v0_ r∧Below w.heap.size w w':=by
 have hu26:=Tryz.underlying26
 have HR0_1:=Aside0.mk hr0_1
 have HC0_1:=Aside0.mk hc0_1
 clear hr0_1 hc0_1
 have HB:=Aside0.mk (Below.refl w.heap.size w)
 unfold impl_Circuits.f at h
 have H:=h
 clear h
 replace H:=bnd_ H;obtain ⟨t585,A2,H⟩:=H
 replace H:=(gst_ H).symm;rcases H with ⟨rfl,H⟩|⟨rfl,H⟩
 ·obtain rfl:=Option.some.inj H
  go_enter Tryz.func6,Tryz.ntmps6
  go_wp2_with (first|((with_reducible refine gate_dst (N:=1) rfl ?_);refine bx_ (N:=1) (cs:=#[.int .i64 a0_0,.slice A0_1 l0_1.length c0_1]) (t:=26) ?_;intro gb584 hg w13 hbox hb;have BK584:=Aside0.mk (hbox);have GW584:=Aside0.mk (gw_ hg (h_HB HB.out));have GE584:=GW584;replace HB:=s_HB HB.out hb;clear hb hbox hg;obtain ⟨hcz14_0,hcz14_1,hfz14_0,hfz14_1⟩:=bz2_ BK584.out)|((with_reducible refine gate_callee (f:=25) rfl ?_);refine goesL_ (some 4) rfl rfl Tryz.func25 krT_ rfl #[.agg #[.int .i64 a0_0,.slice A0_1 l0_1.length c0_1]] rfl agT_ ?_;(with_reducible refine (impl_IsMatroid.calls k a0_0 _ _ l0_1 false _ ?side1 ?side2 A2.out).mono ?_);(case side1=>exact cC_ HR0_1.out);(case side2=>exact HC0_1.out);rintro e w15 ⟨rfl,hb⟩;refine ⟨_,rfl,?_⟩;replace BK584:=sBK_ BK584.out hb;replace HB:=s_HB HB.out hb;(try clear hb)))
  go_ret
  exact ⟨_,eT_,by first|exact Kd.R_nil _ _ _ _ _|exact Kd.N_nil _ _ _ _ _|exact Kd.V_nil _ _ _ _ _|exact Kd.Q_nil _ _ _ _ _|exact Kd.S_nil _ _ _ _ _,h_HB HB.out⟩
 replace H:=bnd_ H;obtain ⟨t586,A4,H⟩:=H
 replace H:=bnd_ H;obtain ⟨t589,A5,H⟩:=H
 obtain rfl:=Option.some.inj H
 go_enter Tryz.func6,Tryz.ntmps6
 go_wp2_with (first|((with_reducible refine gate_dst (N:=1) rfl ?_);refine bx_ (N:=1) (cs:=#[.int .i64 a0_0,.slice A0_1 l0_1.length c0_1]) (t:=26) ?_;intro gb584 hg w6 hbox hb;have BK584:=Aside0.mk (hbox);have GW584:=Aside0.mk (gw_ hg (h_HB HB.out));have GE584:=GW584;replace HB:=s_HB HB.out hb;clear hb hbox hg;obtain ⟨hcz7_0,hcz7_1,hfz7_0,hfz7_1⟩:=bz2_ BK584.out)|((with_reducible refine gate_callee (f:=25) rfl ?_);refine goesL_ (some 4) rfl rfl Tryz.func25 krT_ rfl #[.agg #[.int .i64 a0_0,.slice A0_1 l0_1.length c0_1]] rfl agT_ ?_;(with_reducible refine (impl_IsMatroid.calls k a0_0 _ _ l0_1 true _ ?side1 ?side2 A2.out).mono ?_);(case side1=>exact cC_ HR0_1.out);(case side2=>exact HC0_1.out);rintro e w8 ⟨rfl,hb⟩;refine ⟨_,rfl,?_⟩;replace BK584:=sBK_ BK584.out hb;replace HB:=s_HB HB.out hb;(try clear hb);obtain ⟨hcz9_0,hcz9_1,hfz9_0,hfz9_1⟩:=bz2_ BK584.out)|((with_reducible refine gate_callee (f:=27) rfl ?_);refine goesL_ (some 9) rfl rfl Tryz.func27 krT_ rfl #[.int .i64 a0_0,.func (.func 28) #[] #[.pointer (some ⟨gb584,0,none⟩)]] rfl agT_ ?_;(with_reducible refine (on_impl_Circuits_1.calls k a0_0 a0_0 A0_1 c0_1 l0_1 t586 _ ?side1 ?side2 A4.out gb584 ?side3).mono ?_);(case side1=>exact cC_ HR0_1.out);(case side2=>exact HC0_1.out);(case side3=>exact (bkC_ BK584.out));rintro e w10 ⟨v587,rfl,ho0,hb⟩;refine ⟨_,rfl,?_⟩;have HO588:=Aside0.mk (Kd.R_lower ho0 (below_size (h_HB HB.out)));replace BK584:=sBK_ BK584.out hb;replace HB:=s_HB HB.out hb;(try clear hb);(try clear ho0);obtain ⟨Ao11,co11,eo11⟩:=Kd.R_slice HO588.out;subst eo11)|((with_reducible refine gate_callee (f:=26) rfl ?_);refine goesL_ (some 10) rfl rfl Tryz.func26 krT_ rfl #[.slice Ao11 t586.length co11] rfl agT_ ?_;(with_reducible refine (impl_MinimalSets.calls k _ _ t586 t589 _ ?side1 ?side2 A5.out).mono ?_);(case side1=>repeat (first|exact (Kd.R_reads' HO588.out).2.2|(with_reducible refine Kd.C_alloc ?_ _)|(with_reducible refine Kd.C_drewN ?_ _)|(with_reducible refine Kd.C_drew ?_)));(case side2=>exact (Kd.R_reads' HO588.out).2.1);rintro e w12 ⟨v590,rfl,ho0,hb⟩;refine ⟨_,rfl,?_⟩;have HO591:=Aside0.mk (Kd.R_lower (Kd.R_new' ho0 (Kd.R_lt (kRC_ HO588.out))) (below_size (h_HB HB.out)));replace HO588:=Aside0.mk (Kd.R_elder' (kRC_ HO588.out) (Kd.R_base ho0) hb);replace BK584:=sBK_ BK584.out hb;replace HB:=s_HB HB.out hb;(try clear hb);(try clear ho0)))
 go_ret
 exact ⟨_,eT_,by (with_reducible repeat (first|apply Kd.R_alloc|apply Kd.R_drewN|apply Kd.R_drew));exact Kd.R_mono HO591.out (fun _ hk=>trivial),h_HB HB.out⟩
def spec_l5Rank.l0:Nat→Int→Int→Int→Int→List Int→Option (Int)
 | 0,_,_,_,_,_=>none
 | k+1,x1,x5,x6,x593000,x593001=>if x6<(x593001.length:Int) then (if 0≤x6 then ((spec_CountOf.f k (Go.bits .and .i64 (rd x593001 x6) x1)).bind fun t594=>((spec_l1Max.f x5 t594).bind fun t595=>(spec_l5Rank.l0 k x1 t595 (wrap64 (x6+1)) x593000 x593001))) else (none)) else (some x5)
def spec_l5Rank.f (k:Nat) (a0_0:Int) (l0_1:List Int) (a1:Int):Option (Int):=spec_l5Rank.l0 k a1 0 0 a0_0 l0_1
theorem spec_l5Rank.calls (k:Nat) (a0_0:Int) (A0_1:Option Addr) (c0_1:Nat) (l0_1:List Int) (a1:Int) (r:Int) (w:World) (hr0_1:Kd.C (Kd.int .i64) w A0_1 l0_1.length l0_1) (hc0_1:l0_1.length≤c0_1) (h:spec_l5Rank.f k a0_0 l0_1 a1=some r) :
    Calls Tryz.prog 83 #[.agg #[.int .i64 a0_0,.slice A0_1 l0_1.length c0_1],.int .i64 a1] w fun e w'=>e=.returned (.int .i64 r)∧Below w.heap.size w w':=by
 have hu26:=Tryz.underlying26
 have HR0_1:=Aside0.mk hr0_1
 have HC0_1:=Aside0.mk hc0_1
 clear hr0_1 hc0_1
 have HB:=Aside0.mk (Below.refl w.heap.size w)
 have H:(spec_l5Rank.l0 k a1 0 0 a0_0 l0_1)=some r:=h
 clear h
 have H':=Aside0.mk H
 clear H
 go_enter Tryz.func83,Tryz.ntmps83
 go_wp2_with (first|((with_reducible refine gate_dst (N:=2) rfl ?_);refine bx_ (N:=2) (cs:=#[.int .i64 a0_0,.slice A0_1 l0_1.length c0_1]) (t:=26) ?_;intro gb592 hg w3 hbox hb;have BK592:=Aside0.mk (hbox);have GW592:=Aside0.mk (gw_ hg (h_HB HB.out));have GE592:=GW592;replace HB:=s_HB HB.out hb;clear hb hbox hg))
 go_loopg [5,6] k (fun kq v5 v6 w'=>∃ (x5_1:Int) (x6_1:Int),v5=.int .i64 x5_1∧v6=.int .i64 x6_1∧Aside0 (spec_l5Rank.l0 kq a1 x5_1 x6_1 a0_0 l0_1=some r)∧Aside0 (kq≤k)∧Aside0 (w'.heap[gb592]?=some (.cells #[.int .i64 a0_0,(.slice A0_1 l0_1.length c0_1)] 26 (0,0)))∧Aside0 (Below w.heap.size w w'))
 case atStart=>exact ⟨(0),(0),sT_,sT_,H',⟨Nat.le_refl _⟩,⟨bkC_ BK592.out⟩,⟨h_HB HB.out⟩⟩
 case round =>
 clear H'
 try clear p2
 obtain ⟨x5_1,x6_1,rfl,rfl,HA,HK1,BK592,HB⟩:=hrel
 cases gk with
 | zero=>exact absurd HA.out (by simp [spec_l5Rank.l0])
 | succ k1 =>
 have H:=HA.out
 clear HA
 simp only [spec_l5Rank.l0] at H
 replace H:=gsn_ H;rcases H with ⟨c4b0,H⟩|⟨c4b0,H⟩
 ·obtain rfl:=Option.some.inj H
  obtain ⟨hcz9_0,hcz9_1,hfz9_0,hfz9_1⟩:=bz2_ BK592.out
  go_wp2
  go_ret
  exact ⟨eT_,h_HB HB.out⟩
 replace H:=gsm_ H;obtain ⟨c5b0,H⟩:=H
 replace H:=bnd_ H;obtain ⟨t594,A6,H⟩:=H
 replace H:=bnd_ H;obtain ⟨t595,A7,H⟩:=H
 have H':=Aside0.mk H
 clear H
 obtain ⟨hcz8_0,hcz8_1,hfz8_0,hfz8_1⟩:=bz2_ BK592.out
 obtain ⟨ad593,e593,hx593_0,p593,q593⟩:=aiI_ HR0_1.out x6_1
 cases e593
 replace hx593_0:=(HB.out.cell (World.block_lt_of_cell? w _ hx593_0)).trans hx593_0
 go_wp2_with (first|((with_reducible refine gate_callee (f:=56) rfl ?_);refine goesL_ (some 22) rfl rfl Tryz.func56 krT_ rfl #[.int .i64 (Go.bits .and .i64 (rd l0_1 x6_1) a1)] rfl agT_ ?_;(with_reducible refine (spec_CountOf.calls k1 (Go.bits .and .i64 (rd l0_1 x6_1) a1) t594 _ A6.out).mono ?_);rintro e w' ⟨rfl,⟨nd,rfl⟩⟩;refine ⟨_,rfl,?_⟩)|((with_reducible refine gate_callee (f:=62) rfl ?_);refine goesL_ (some 23) rfl rfl Tryz.func62 krT_ rfl #[.int .i64 x5_1,.int .i64 t594] rfl agT_ ?_;(with_reducible refine (spec_l1Max.calls x5_1 t594 t595 _ A7.out).mono ?_);rintro e w' ⟨rfl,⟨nd,rfl⟩⟩;refine ⟨_,rfl,?_⟩))
 go_roundg k1
 case measure=>have:=HK1.out;omega
 case rel=>exact ⟨(t595),(wrap64 (x6_1+1)),sT_,sT_,H',⟨by have:=HK1.out;omega⟩,⟨bkC_ BK592.out⟩,⟨h_HB HB.out⟩⟩
end Go.Proofs.YtekegbacnagbcaaGreat.P
