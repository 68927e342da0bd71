-- written by gprint (a program of this session's, round the kit's print), out of the translation and hand-written texts
import Derived.Test.YtekegbacnagbcaaGreatPVFnCircuitsx0
import Derived.Test.YtekegbacnagbcaaGreatPVFnCircuitsx12
import Derived.Test.YtekegbacnagbcaaGreatPVFnCircuitsx13
import Derived.Test.YtekegbacnagbcaaGreatPVFnCircuitsx14
namespace Go.Proofs.YtekegbacnagbcaaGreat.P
open Go.RowKit Go.Proofs.YtekegbacnagbcaaGreatW.PrintWords Go.Proofs.YtekegbacnagbcaaGreatW.PrintLast Go.Proofs.YtekegbacnagbcaaGreatW.PrintMore
attribute [local go_sem] max2_int min2_int max_two min_two max_three min_three max_four min_four
set_option linter.unusedVariables false
set_option maxHeartbeats 8000000
set_option maxRecDepth 100000
set_option linter.unusedSimpArgs false
-- needs impl.IsSubset
-- needs slices.ContainsFunc[[]int,int]
def impl_MaximalSets_1.f (s x:Int):Option Bool:=if x=s then some false else impl_IsSubset.f s x
set_option maxHeartbeats 4000000 in
theorem impl_MaximalSets_1.quiet (s:Int) (w:World) (g1:Nat) (b1:w.heap[g1]?=some (.cells #[.int .i64 s] 3 (0,0))) :
  Quiet1 90 #[.pointer (some ⟨g1,0,none⟩)] w (impl_MaximalSets_1.f s):=by
 intro x b n h
 have q1:(w.drewN n).cell? ⟨g1,0,none⟩=some (.int .i64 s):=(blk_cell b1 0).trans rfl
 clear b1
 unfold impl_MaximalSets_1.f at h
 show Calls Tryz.prog 90 #[.int .i64 x,.pointer (some ⟨g1,0,none⟩)] (w.drewN n) _
 by_cases hx:x=s
 ·rw [if_pos hx] at h
  obtain rfl:=Option.some.inj h
  have hd:decide (x=s)=true:=decide_eq_true hx
  have hd2:(x==s)=true:=beq_iff_eq.mpr hx
  generalize w.drewN n=W at q1 ⊢
  go_enter Tryz.func90,Tryz.ntmps90
  go_wp2
  go_ret
  exact ⟨by first|rfl|(simp;done)|(simp [hx];done),dT_⟩
 rw [if_neg hx] at h
 have hd:decide (x=s)=false:=decide_eq_false hx
 have hd2:(x==s)=false:=beq_eq_false_iff_ne.mpr hx
 have HS:=Aside0.mk (fun n'=>impl_IsSubset.calls s x b ((w.drewN n).drewN n') h)
 clear h
 generalize w.drewN n=W at q1 HS ⊢
 go_enter Tryz.func90,Tryz.ntmps90
 go_wp2_with ((go_at_call 32;refine (HS.out 0).mono ?_;rintro e w' ⟨rfl,⟨q,rfl⟩⟩))
 go_ret
 exact ⟨by first|rfl|(simp;done)|(simp [hx];done),dT_⟩
def on_impl_MaximalSets_1.f (k:Nat) (l0:List Int) (s:Int):Option Bool:=anyL (impl_MaximalSets_1.f s) l0 k 0
theorem on_impl_MaximalSets_1.calls (k:Nat) (A0:Option Addr) (c0:Nat) (l0:List Int) (s:Int) (r:Bool) (w:World) (hr0:Kd.C (Kd.int .i64) w A0 l0.length l0) (hc0:l0.length≤c0)
  (h:on_impl_MaximalSets_1.f k l0 s=some r) (g1:Nat) (b1:w.heap[g1]?=some (.cells #[.int .i64 s] 3 (0,0))) :
    Calls Tryz.prog 34 #[.slice A0 l0.length c0,.func (.func 90) #[] #[.pointer (some ⟨g1,0,none⟩)]] w fun e w'=>e=.returned (.bool r)∧Drawn0 w w' :=
 containsFunc_calls _ _ (g_enters Tryz.func90 krT_ rfl) _ k A0 c0 l0 r w hr0 (impl_MaximalSets_1.quiet s w g1 b1) h
def impl_MaximalSets.l0:Nat→List Int→List Int→List Int→Int→Int→Option (List Int)
 | 0,_,_,_,_,_=>none
 | k+1,x0,x3,x11,x12,x13=>if x13<x12 then (if 0≤x13 then (if x13<(x11.length:Int) then ((on_impl_MaximalSets_1.f k x0 (rd x11 x13)).bind fun t718=>(if t718=true then (impl_MaximalSets.l0 k x0 x3 x11 x12 (wrap64 (x13+1))) else (if x3.length<17592186044416 then (impl_MaximalSets.l0 k x0 (x3++[rd x11 x13]) x11 x12 (wrap64 (x13+1))) else (none)))) else (none)) else (none)) else (some x3)
def impl_MaximalSets.f (k:Nat) (l0:List Int):Option (List Int):=(impl_areSets.f k l0).bind fun t712=>(if t712=true then ((impl_SortSets.f l0).bind fun t713=>(impl_MaximalSets.l0 k l0 (([]:List Int)) t713 (t713.length:Int) 0)) else (some ([]:List Int)))
theorem impl_MaximalSets.calls (k:Nat) (A0:Option Addr) (c0:Nat) (l0:List Int) (r:List Int) (w:World) (hr0:Kd.C (Kd.int .i64) w A0 l0.length l0) (hc0:l0.length≤c0) (h:impl_MaximalSets.f k l0=some r) :
    Calls Tryz.prog 75 #[.slice A0 l0.length c0] w fun e w'=>∃ v0_:Value,e=.returned (v0_)∧Kd.R (Kd.int .i64) 3 w' w.heap.size (fun _=>True) v0_ r∧Below w.heap.size w w':=by
 have HR0:=Aside0.mk hr0
 have HC0:=Aside0.mk hc0
 clear hr0 hc0
 have HB:=Aside0.mk (Below.refl w.heap.size w)
 unfold impl_MaximalSets.f at h
 have H:=h
 clear h
 obtain ⟨y709,hy709⟩:∃ y_:List Int,y_=(([]:List Int)):=⟨_,rfl⟩
 replace H:((impl_areSets.f k l0).bind fun t712=>(if t712=true then ((impl_SortSets.f l0).bind fun t713=>(impl_MaximalSets.l0 k l0 y709 t713 (t713.length:Int) 0)) else (some ([]:List Int))))=some r:=by first|(rw [hy709];with_reducible exact H)|(have H2_:=(Option.bind_some _ _).symm.trans H;rw [hy709];with_reducible exact H2_)|(have H2_:=(Option.bind_some _ _).symm.trans H;with_reducible exact H2_)|with_reducible exact H|(rw [hy709];exact H)|exact H
 have Ny709:=Aside0.mk hy709
 clear hy709
 replace H:=bnd_ H;obtain ⟨t712,A2,H⟩:=H
 replace H:=(gst_ H).symm;rcases H with ⟨rfl,H⟩|⟨rfl,H⟩
 ·obtain rfl:=Option.some.inj H
  go_enter Tryz.func75,Tryz.ntmps75
  go_wp2_with (first|((with_reducible refine gate_dst (N:=6) rfl ?_);refine Kd.R_lit (Kd.int .i64) _ 3 ?hg (N:=6) ?hd (xs:=([]:List Int)) (inner:=[]) (ok:=fun _=>True) (okp:=fun _=>True) ?hr ?hp (fun _ hk=>hk) trivial (Below.refl _ _) (Nat.le_refl _) (by simp) ?_;(case hd=>rfl);(case hg=>rfl);(case hr=>exact hrT_);(case hp=>exact (Reps.none _ _));intro v710 w20 ho21 hb hg_ hnew_;clear hg_ hnew_;(first|rw [← Ny709.out] at ho21|(simp only [Int.reduceToNat] at ho21;rw [← Ny709.out] at ho21));have HO711:=Aside0.mk (Kd.R_lower ho21 (below_size (h_HB HB.out)));replace HB:=s_HB HB.out hb;clear hb ho21)|((with_reducible refine gate_callee (f:=65) rfl ?_);refine goesL_ (some 8) rfl rfl Tryz.func65 krT_ rfl #[.slice A0 l0.length c0] rfl agT_ ?_;(with_reducible refine (impl_areSets.calls k _ _ l0 false _ ?side1 ?side2 A2.out).mono ?_);(case side1=>exact cC_ HR0.out);(case side2=>exact HC0.out);rintro e w' ⟨rfl,⟨nd,rfl⟩⟩;refine ⟨_,rfl,?_⟩))
  go_ret
  exact ⟨_,eT_,by first|exact Kd.R_nil _ _ _ _ _|exact Kd.N_nil _ _ _ _ _|exact Kd.V_nil _ _ _ _ _|exact Kd.Q_nil _ _ _ _ _|exact Kd.S_nil _ _ _ _ _,h_HB HB.out⟩
 replace H:=bnd_ H;obtain ⟨t713,A4,H⟩:=H
 have H':=Aside0.mk H
 clear H
 go_enter Tryz.func75,Tryz.ntmps75
 go_wp2_with (first|((with_reducible refine gate_dst (N:=6) rfl ?_);refine Kd.R_lit (Kd.int .i64) _ 3 ?hg (N:=6) ?hd (xs:=([]:List Int)) (inner:=[]) (ok:=fun _=>True) (okp:=fun _=>True) ?hr ?hp (fun _ hk=>hk) trivial (Below.refl _ _) (Nat.le_refl _) (by simp) ?_;(case hd=>rfl);(case hg=>rfl);(case hr=>exact hrT_);(case hp=>exact (Reps.none _ _));intro v710 w5 ho6 hb hg_ hnew_;clear hg_ hnew_;(first|rw [← Ny709.out] at ho6|(simp only [Int.reduceToNat] at ho6;rw [← Ny709.out] at ho6));have HO711:=Aside0.mk (Kd.R_lower ho6 (below_size (h_HB HB.out)));replace HB:=s_HB HB.out hb;clear hb ho6)|((with_reducible refine gate_callee (f:=65) rfl ?_);refine goesL_ (some 8) rfl rfl Tryz.func65 krT_ rfl #[.slice A0 l0.length c0] rfl agT_ ?_;(with_reducible refine (impl_areSets.calls k _ _ l0 true _ ?side1 ?side2 A2.out).mono ?_);(case side1=>exact cC_ HR0.out);(case side2=>exact HC0.out);rintro e w' ⟨rfl,⟨nd,rfl⟩⟩;refine ⟨_,rfl,?_⟩)|((with_reducible refine gate_callee (f:=66) rfl ?_);refine goesL_ (some 11) rfl rfl Tryz.func66 krT_ rfl #[.slice A0 l0.length c0] rfl agT_ ?_;(with_reducible refine (impl_SortSets.calls _ _ l0 t713 _ ?side1 ?side2 A4.out).mono ?_);(case side1=>repeat (first|exact (Kd.C_below HR0.out (h_HB HB.out))|(with_reducible refine Kd.C_alloc ?_ _)|(with_reducible refine Kd.C_drewN ?_ _)|(with_reducible refine Kd.C_drew ?_)));(case side2=>exact HC0.out);rintro e w7 ⟨v714,rfl,ho0,hb⟩;refine ⟨_,rfl,?_⟩;have HO715:=Aside0.mk (Kd.R_lower (Kd.R_new' ho0 (Kd.R_lt (kRC_ HO711.out))) (below_size (h_HB HB.out)));replace HO711:=Aside0.mk (Kd.R_elder' (kRC_ HO711.out) (Kd.R_base ho0) hb);replace HB:=s_HB HB.out hb;(try clear hb);(try clear ho0);obtain ⟨Ao8,co8,eo8⟩:=Kd.R_slice HO715.out;subst eo8))
 go_loopg [3,13] k (fun kq v3 v13 w'=>∃ (x3_1:List Int) (x13_1:Int),v13=.int .i64 x13_1∧Aside0 (impl_MaximalSets.l0 kq l0 x3_1 t713 (t713.length:Int) x13_1=some r)∧Aside0 (kq≤k)∧Aside0 (Kd.R (Kd.int .i64) 3 w' w.heap.size (fun k_=>some k_≠((.slice Ao8 t713.length co8):Value).ownBlock) v3 x3_1)∧Aside0 (Kd.R (Kd.int .i64) 3 w' w.heap.size (fun k_=>some k_≠(v3:Value).ownBlock) (.slice Ao8 t713.length co8) t713)∧Aside0 (Below w.heap.size w w'))
 case atStart=>exact ⟨(y709),(0),sT_,H',⟨Nat.le_refl _⟩,⟨by (with_reducible repeat (first|apply Kd.R_alloc|apply Kd.R_drewN|apply Kd.R_drew));exact Kd.R_mono HO711.out (fun _ hk=>hk.2)⟩,⟨by (with_reducible repeat (first|apply Kd.R_alloc|apply Kd.R_drewN|apply Kd.R_drew));exact Kd.R_mono HO715.out (fun _ hk=>hk.2)⟩,⟨h_HB HB.out⟩⟩
 case round =>
 clear H'
 try clear p2
 try clear c3
 try clear c6
 try clear c7
 obtain ⟨x3_1,x13_1,rfl,HA,HK1,HO_3,HO_11,HB⟩:=hrel
 cases gk with
 | zero=>exact absurd HA.out (by simp [impl_MaximalSets.l0])
 | succ k1 =>
 have H:=HA.out
 clear HA
 simp only [impl_MaximalSets.l0] at H
 replace H:=gsn_ H;rcases H with ⟨c9b0,H⟩|⟨c9b0,H⟩
 ·obtain rfl:=Option.some.inj H
  go_wp2
  go_ret
  exact ⟨_,eT_,by (with_reducible repeat (first|apply Kd.R_alloc|apply Kd.R_drewN|apply Kd.R_drew));exact Kd.R_mono HO_3.out (fun _ hk=>trivial),h_HB HB.out⟩
 replace H:=gsm_ H;obtain ⟨c10b0,H⟩:=H
 replace H:=gsm_ H;obtain ⟨c11b0,H⟩:=H
 replace H:=bnd_ H;obtain ⟨t718,A12,H⟩:=H
 replace H:=gst_ H;rcases H with ⟨rfl,H⟩|⟨rfl,H⟩
 ·have H':=Aside0.mk H
  clear H
  obtain ⟨ad716,e716,hx716_0,p716,q716⟩:=aiI_ (Kd.R_reads' HO_11.out).2.2 x13_1
  cases e716
  go_wp2_with (first|((with_reducible refine gate_dst (N:=5) rfl ?_);refine bx_ (N:=5) (cs:=#[.int .i64 0]) (t:=3) ?_;intro gb717 hg w14 hbox hb;replace HO_3:=Aside0.mk (Kd.R_below (Kd.R_elderB (kRC_ HO_3.out) gb717 (Nat.le_of_eq hg.symm)) hb);replace HO_11:=Aside0.mk (Kd.R_below (Kd.R_elderB (kRC_ HO_11.out) gb717 (Nat.le_of_eq hg.symm)) hb);have BK717:=Aside0.mk (hbox);have GW717:=Aside0.mk (gw_ hg (h_HB HB.out));have GE717:=GW717;replace HB:=s_HB HB.out hb;clear hb hbox hg;obtain ⟨hcz15_0,hfz15_0⟩:=bz1_ BK717.out)|((with_reducible refine gate_callee (f:=34) rfl ?_);refine goesL_ (some 19) rfl rfl Tryz.func34 krT_ rfl #[.slice A0 l0.length c0,.func (.func 90) #[] #[.pointer (some ⟨gb717,0,none⟩)]] rfl agT_ ?_;(with_reducible refine (on_impl_MaximalSets_1.calls k1 _ _ l0 (rd t713 x13_1) true _ ?side1 ?side2 A12.out gb717 ?side3).mono ?_);(case side1=>exact Kd.C_below HR0.out (h_HB HB.out));(case side2=>exact HC0.out);(case side3=>exact (by (with_reducible repeat (first|refine blk_drewN ?_ _|refine blk_drew ?_|refine blk_alloc ?_ _));refine blk_put (cs:=#[.int .i64 0]) ?_ 0 _ rfl;exact bkC_ BK717.out));rintro e w' ⟨rfl,⟨nd,rfl⟩⟩;refine ⟨_,rfl,?_⟩))
  go_roundg k1
  case measure=>have:=HK1.out;omega
  case rel=>exact ⟨(x3_1),(wrap64 (x13_1+1)),sT_,H',⟨by have:=HK1.out;omega⟩,⟨by (with_reducible repeat (first|apply Kd.R_alloc|apply Kd.R_drewN|apply Kd.R_drew));exact Kd.R_mono (Kd.R_far (p:=⟨gb717,0,none⟩) (Kd.R_mono HO_3.out (fun k_ hk=>(⟨hk,hk.2⟩:_∧k_≠gb717))) (fun _ hk=>hk.2) (.int .i64 (rd t713 x13_1))) (fun _ hk=>hk.1.1)⟩,⟨by (with_reducible repeat (first|apply Kd.R_alloc|apply Kd.R_drewN|apply Kd.R_drew));exact Kd.R_mono (Kd.R_far (p:=⟨gb717,0,none⟩) (Kd.R_mono HO_11.out (fun k_ hk=>(⟨hk,hk.2⟩:_∧k_≠gb717))) (fun _ hk=>hk.2) (.int .i64 (rd t713 x13_1))) (fun _ hk=>hk.1.1)⟩,⟨h_HB HB.out⟩⟩
 replace H:=gsl_ H;obtain ⟨LMc16,H⟩:=H
 obtain ⟨y719,hy719⟩:∃ y_:List Int,y_=(x3_1++[rd t713 x13_1]):=⟨_,rfl⟩
 rw [← hy719] at H
 have Ny719:=Aside0.mk hy719
 clear hy719
 have H':=Aside0.mk H
 clear H
 obtain ⟨ad716,e716,hx716_0,p716,q716⟩:=aiI_ (Kd.R_reads' HO_11.out).2.2 x13_1
 cases e716
 go_wp2_with (first|((with_reducible refine gate_dst (N:=5) rfl ?_);refine bx_ (N:=5) (cs:=#[.int .i64 0]) (t:=3) ?_;intro gb717 hg w17 hbox hb;replace HO_3:=Aside0.mk (Kd.R_below (Kd.R_elderB (kRC_ HO_3.out) gb717 (Nat.le_of_eq hg.symm)) hb);replace HO_11:=Aside0.mk (Kd.R_below (Kd.R_elderB (kRC_ HO_11.out) gb717 (Nat.le_of_eq hg.symm)) hb);have BK717:=Aside0.mk (hbox);have GW717:=Aside0.mk (gw_ hg (h_HB HB.out));have GE717:=GW717;replace HB:=s_HB HB.out hb;clear hb hbox hg;obtain ⟨hcz18_0,hfz18_0⟩:=bz1_ BK717.out)|((with_reducible refine gate_callee (f:=34) rfl ?_);refine goesL_ (some 19) rfl rfl Tryz.func34 krT_ rfl #[.slice A0 l0.length c0,.func (.func 90) #[] #[.pointer (some ⟨gb717,0,none⟩)]] rfl agT_ ?_;(with_reducible refine (on_impl_MaximalSets_1.calls k1 _ _ l0 (rd t713 x13_1) false _ ?side1 ?side2 A12.out gb717 ?side3).mono ?_);(case side1=>exact Kd.C_below HR0.out (h_HB HB.out));(case side2=>exact HC0.out);(case side3=>exact (by (with_reducible repeat (first|refine blk_drewN ?_ _|refine blk_drew ?_|refine blk_alloc ?_ _));refine blk_put (cs:=#[.int .i64 0]) ?_ 0 _ rfl;exact bkC_ BK717.out));rintro e w' ⟨rfl,⟨nd,rfl⟩⟩;refine ⟨_,rfl,?_⟩)|((with_reducible refine gate_builtin (b:=.append) (xs:=#[.tmp 21,.tmp 23]) rfl ?_);at_builtin;refine Kd.R_append (Kd.int .i64) (w0:=w) w.heap.size rfl (.tmp 21) (.tmp 23) 24 3 (.int .i64 0) 8 rfl Tryz.underlying24 info3 rfl (by decide) (by omega) u3 x3_1 (rd t713 x13_1) [.int .i64 (rd t713 x13_1)] (fun k_=>some k_≠(.slice (some ad716) t713.length co8:Value).ownBlock∧k_≠gb717) (fun _=>False) rfl (by first|(go_simp;done)|(go_simp;rfl)) ?aP (fun _ hk=>hk.elim) ?aF ?aO ?aB ?aS ?aL ?_;(case aP=>exact rfl);(case aB=>exact (h_HB HB.out));(case aF=>exact (fun k_ hk=>⟨Kd.fresh' (Kd.R_lt (by (with_reducible repeat (first|apply Kd.R_alloc|apply Kd.R_drewN|apply Kd.R_drew));exact (Kd.R_mono (Kd.R_far (p:=⟨gb717,0,none⟩) (Kd.R_mono HO_11.out (fun k_ hk=>(⟨hk,hk.2⟩:_∧k_≠gb717))) (fun _ hk=>hk.2) (.int .i64 (rd t713 x13_1))) (fun _ h_=>h_.1)))) k_ hk,Kd.freshB (g:=gb717) (o:=.cells #[.int .i64 (rd t713 x13_1)] 3 (0,0)) (by (with_reducible repeat (first|refine blk_drewN ?_ _|refine blk_drew ?_|refine blk_alloc ?_ _));refine blk_put (cs:=#[.int .i64 0]) ?_ 0 _ rfl;exact bkC_ BK717.out) k_ hk⟩));(case aO=>exact (by (with_reducible repeat (first|apply Kd.R_alloc|apply Kd.R_drewN|apply Kd.R_drew));exact Kd.R_mono (Kd.R_far (p:=⟨gb717,0,none⟩) (Kd.R_mono HO_3.out (fun k_ hk=>(⟨hk,hk.2⟩:_∧k_≠gb717))) (fun _ hk=>hk.2) (.int .i64 (rd t713 x13_1))) (fun _ hk=>by first|exact ⟨hk.1.1,hk.1.2⟩|(simp [hk];done))));(case aS=>exact (below_size (h_HB HB.out)));(case aL=>have:=LMc16.out;omega);intro v720 w19 ho hb hg hat;rw [← Ny719.out] at ho;replace HO_11:=Aside0.mk (Kd.R_after (ok:=(fun k_=>k_≠gb717)) (by (with_reducible repeat (first|apply Kd.R_alloc|apply Kd.R_drewN|apply Kd.R_drew));exact Kd.R_mono (Kd.R_far (p:=⟨gb717,0,none⟩) (Kd.R_mono HO_11.out (fun k_ hk=>(⟨hk,hk.2⟩:_∧k_≠gb717))) (fun _ hk=>hk.2) (.int .i64 (rd t713 x13_1))) (fun _ hk=>by first|exact ⟨hk.1.2,hk.1.1⟩|(simp [hk];done))) hg hat);replace BK717:=Aside0.mk (blk_grown (g:=gb717) (o:=.cells #[.int .i64 (rd t713 x13_1)] 3 (0,0)) (by (with_reducible repeat (first|refine blk_drewN ?_ _|refine blk_drew ?_|refine blk_alloc ?_ _));refine blk_put (cs:=#[.int .i64 0]) ?_ 0 _ rfl;exact bkC_ BK717.out) hg (Kd.R_away HO_3.out (fun _ hk=>hk.2)));replace HB:=Aside0.mk (hb);have HO721:=Aside0.mk (ho);clear HO_3;clear ho hb hg hat))
 go_roundg k1
 case measure=>have:=HK1.out;omega
 case rel=>exact ⟨(y719),(wrap64 (x13_1+1)),sT_,H',⟨by have:=HK1.out;omega⟩,⟨by (with_reducible repeat (first|apply Kd.R_alloc|apply Kd.R_drewN|apply Kd.R_drew));exact Kd.R_mono HO721.out (fun _ hk=>hk.1)⟩,⟨by (with_reducible repeat (first|apply Kd.R_alloc|apply Kd.R_drewN|apply Kd.R_drew));exact Kd.R_mono HO_11.out (fun _ hk=>hk.2)⟩,⟨h_HB HB.out⟩⟩
def impl_fromIndependent.f (k:Nat) (a0:Int) (l1:List Int):Option (Int × List Int × Bool):=(impl_MaximalSets.f k l1).bind fun t723=>((impl_IsMatroid.f k a0 t723).bind fun t727=>(if t727=true then (some (a0,t723,true)) else (some (0,([]:List Int),false))))
theorem impl_fromIndependent.calls (k:Nat) (a0:Int) (A1:Option Addr) (c1:Nat) (l1:List Int) (r1:Int) (r2:List Int) (r3:Bool) (w:World) (hr1:Kd.C (Kd.int .i64) w A1 l1.length l1) (hc1:l1.length≤c1) (h:impl_fromIndependent.f k a0 l1=some (r1,r2,r3)) :
    Calls Tryz.prog 38 #[.int .i64 a0,.slice A1 l1.length c1] w fun e w'=>∃ v1_:Value,e=.returned (.tuple #[.agg #[.int .i64 r1,v1_],.bool r3])∧Kd.R (Kd.int .i64) 3 w' w.heap.size (fun _=>True) v1_ r2∧Below w.heap.size w w':=by
 have hu26:=Tryz.underlying26
 have HR1:=Aside0.mk hr1
 have HC1:=Aside0.mk hc1
 clear hr1 hc1
 have HB:=Aside0.mk (Below.refl w.heap.size w)
 unfold impl_fromIndependent.f at h
 have H:=h
 clear h
 replace H:=bnd_ H;obtain ⟨t723,A3,H⟩:=H
 replace H:=bnd_ H;obtain ⟨t727,A4,H⟩:=H
 replace H:=gst_ H;rcases H with ⟨rfl,H⟩|⟨rfl,H⟩
 ·simp only [Option.some.injEq,Prod.mk.injEq] at H
  obtain ⟨rfl,rfl,rfl⟩:=H
  go_enter Tryz.func38,Tryz.ntmps38
  go_wp2_with (first|((with_reducible refine gate_dst (N:=4) rfl ?_);refine bx_ (N:=4) (cs:=#[.int .i64 0,.slice none 0 0]) (t:=26) ?_;intro gb722 hg w6 hbox hb;have BK722:=Aside0.mk (hbox);have GW722:=Aside0.mk (gw_ hg (h_HB HB.out));have GE722:=GW722;replace HB:=s_HB HB.out hb;clear hb hbox hg)|((with_reducible refine gate_callee (f:=75) rfl ?_);refine goesL_ (some 9) rfl rfl Tryz.func75 krT_ rfl #[.slice A1 l1.length c1] rfl agT_ ?_;(with_reducible refine (impl_MaximalSets.calls k _ _ l1 t723 _ ?side1 ?side2 A3.out).mono ?_);(case side1=>exact cC_ HR1.out);(case side2=>exact HC1.out);rintro e w7 ⟨v724,rfl,ho0,hb⟩;refine ⟨_,rfl,?_⟩;have HO725:=Aside0.mk (Kd.R_lower ho0 (below_size (h_HB HB.out)));replace BK722:=sBK_ BK722.out hb;replace HB:=s_HB HB.out hb;(try clear hb);(try clear ho0);obtain ⟨Ao8,co8,eo8⟩:=Kd.R_slice HO725.out;subst eo8)|((with_reducible refine gate_dst (N:=6) rfl ?_);refine bx_ (N:=6) (cs:=#[.int .i64 0,.slice none 0 0]) (t:=26) ?_;intro gb726 hg w9 hbox hb;replace HO725:=Aside0.mk (Kd.R_below (kRC_ HO725.out) hb);have BK726:=Aside0.mk (hbox);have GW726:=Aside0.mk (gw_ hg (h_HB HB.out));have GE726:=GW726;replace HB:=s_HB HB.out hb;have NB722_726:=Aside0.mk (nbl_ hg (bkC_ BK722.out));have NB726_722:=Aside0.mk NB722_726.out.symm;replace BK722:=sBK_ BK722.out hb;clear hb hbox hg;have hnb10:=NB726_722.out;have hnc10:=NB722_726.out;obtain ⟨hcz11_0,hcz11_1,hfz11_0,hfz11_1⟩:=bz2_ BK726.out)|((with_reducible refine gate_callee (f:=25) rfl ?_);refine goesL_ (some 12) rfl rfl Tryz.func25 krT_ rfl #[.agg #[.int .i64 a0,.slice Ao8 t723.length co8]] rfl agT_ ?_;(with_reducible refine (impl_IsMatroid.calls k a0 _ _ t723 true _ ?side1 ?side2 A4.out).mono ?_);(case side1=>refine (Kd.R_reads' (e:=3) (base:=w.heap.size) (ok:=fun k_=>True) (n:=t723.length) (c:=co8) ?_).2.2;exact (kRF_ HO725.out));(case side2=>exact (Kd.R_reads' HO725.out).2.1);rintro e w12 ⟨rfl,hb⟩;refine ⟨_,rfl,?_⟩;replace HO725:=Aside0.mk (Kd.R_below (kRF_ HO725.out) hb);replace BK722:=sBK_ BK722.out hb;replace BK726:=Aside0.mk (blk_below (g:=gb726) (o:=.cells #[.int .i64 a0,.slice Ao8 t723.length co8] 26 (0,0)) (by (with_reducible repeat (first|refine blk_drewN ?_ _|refine blk_drew ?_|refine blk_alloc ?_ _));exact bp2_ (bkC_ BK726.out)) hb);replace HB:=s_HB HB.out hb;(try clear hb);obtain ⟨hcz13_0,hcz13_1,hfz13_0,hfz13_1⟩:=bz2_ BK726.out;obtain ⟨hcz14_0,hcz14_1,hfz14_0,hfz14_1⟩:=bz2_ BK722.out))
  refine bodyPost_ret (results_ct rfl _ _ gb722 26 #[.int .i64 a0,.slice Ao8 t723.length co8] (0,0) _ rfl (by (with_reducible repeat (first|refine blk_drewN ?_ _|refine blk_drew ?_|refine blk_alloc ?_ _));exact bp2_ (bkC_ BK722.out)) Tryz.underlying26 rfl krT_) rfl ?_
  exact ⟨_,eT_,by (with_reducible repeat (first|apply Kd.R_alloc|apply Kd.R_drewN|apply Kd.R_drew));exact Kd.R_mono (Kd.R_far (p:=⟨gb722,1,none⟩) (Kd.R_far (p:=⟨gb722,0,none⟩) (Kd.R_types HO725.out BK722.out (by decide)) (fun _ hk=>hk.2) (.int .i64 a0)) (fun _ hk=>hk.2) (.slice Ao8 t723.length co8)) (fun _ hk=>trivial),h_HB HB.out⟩
 simp only [Option.some.injEq,Prod.mk.injEq] at H
 obtain ⟨rfl,rfl,rfl⟩:=H
 go_enter Tryz.func38,Tryz.ntmps38
 go_wp2_with (first|((with_reducible refine gate_dst (N:=4) rfl ?_);refine bx_ (N:=4) (cs:=#[.int .i64 0,.slice none 0 0]) (t:=26) ?_;intro gb722 hg w15 hbox hb;have BK722:=Aside0.mk (hbox);have GW722:=Aside0.mk (gw_ hg (h_HB HB.out));have GE722:=GW722;replace HB:=s_HB HB.out hb;clear hb hbox hg)|((with_reducible refine gate_callee (f:=75) rfl ?_);refine goesL_ (some 9) rfl rfl Tryz.func75 krT_ rfl #[.slice A1 l1.length c1] rfl agT_ ?_;(with_reducible refine (impl_MaximalSets.calls k _ _ l1 t723 _ ?side1 ?side2 A3.out).mono ?_);(case side1=>exact cC_ HR1.out);(case side2=>exact HC1.out);rintro e w16 ⟨v724,rfl,ho0,hb⟩;refine ⟨_,rfl,?_⟩;have HO725:=Aside0.mk (Kd.R_lower ho0 (below_size (h_HB HB.out)));replace BK722:=sBK_ BK722.out hb;replace HB:=s_HB HB.out hb;(try clear hb);(try clear ho0);obtain ⟨Ao17,co17,eo17⟩:=Kd.R_slice HO725.out;subst eo17)|((with_reducible refine gate_dst (N:=6) rfl ?_);refine bx_ (N:=6) (cs:=#[.int .i64 0,.slice none 0 0]) (t:=26) ?_;intro gb726 hg w18 hbox hb;replace HO725:=Aside0.mk (Kd.R_below (kRC_ HO725.out) hb);have BK726:=Aside0.mk (hbox);have GW726:=Aside0.mk (gw_ hg (h_HB HB.out));have GE726:=GW726;replace HB:=s_HB HB.out hb;have NB722_726:=Aside0.mk (nbl_ hg (bkC_ BK722.out));have NB726_722:=Aside0.mk NB722_726.out.symm;replace BK722:=sBK_ BK722.out hb;clear hb hbox hg;have hnb19:=NB726_722.out;have hnc19:=NB722_726.out;obtain ⟨hcz20_0,hcz20_1,hfz20_0,hfz20_1⟩:=bz2_ BK726.out)|((with_reducible refine gate_callee (f:=25) rfl ?_);refine goesL_ (some 12) rfl rfl Tryz.func25 krT_ rfl #[.agg #[.int .i64 a0,.slice Ao17 t723.length co17]] rfl agT_ ?_;(with_reducible refine (impl_IsMatroid.calls k a0 _ _ t723 false _ ?side1 ?side2 A4.out).mono ?_);(case side1=>refine (Kd.R_reads' (e:=3) (base:=w.heap.size) (ok:=fun k_=>True) (n:=t723.length) (c:=co17) ?_).2.2;exact (kRF_ HO725.out));(case side2=>exact (Kd.R_reads' HO725.out).2.1);rintro e w21 ⟨rfl,hb⟩;refine ⟨_,rfl,?_⟩;replace HO725:=Aside0.mk (Kd.R_below (kRF_ HO725.out) hb);replace BK722:=sBK_ BK722.out hb;replace BK726:=Aside0.mk (blk_below (g:=gb726) (o:=.cells #[.int .i64 a0,.slice Ao17 t723.length co17] 26 (0,0)) (by (with_reducible repeat (first|refine blk_drewN ?_ _|refine blk_drew ?_|refine blk_alloc ?_ _));exact bp2_ (bkC_ BK726.out)) hb);replace HB:=s_HB HB.out hb;(try clear hb);obtain ⟨hcz22_0,hcz22_1,hfz22_0,hfz22_1⟩:=bz2_ BK722.out))
 refine bodyPost_ret (results_ct rfl _ _ gb722 26 #[.int .i64 0,.slice none 0 0] (0,0) _ rfl (by (with_reducible repeat (first|refine blk_drewN ?_ _|refine blk_drew ?_|refine blk_alloc ?_ _));exact bp2_ (bkC_ BK722.out)) Tryz.underlying26 rfl krT_) rfl ?_
 exact ⟨_,eT_,by first|exact Kd.R_nil _ _ _ _ _|exact Kd.N_nil _ _ _ _ _|exact Kd.V_nil _ _ _ _ _|exact Kd.Q_nil _ _ _ _ _|exact Kd.S_nil _ _ _ _ _,h_HB HB.out⟩
-- needs impl.IsSubset
-- needs slices.ContainsFunc[[]int,int]
def impl_FromCircuits_1_1.f (rest x:Int):Option Bool:=impl_IsSubset.f x rest
set_option maxHeartbeats 4000000 in
theorem impl_FromCircuits_1_1.quiet (rest:Int) (w:World) (g1:Nat) (b1:w.heap[g1]?=some (.cells #[.int .i64 rest] 3 (0,0))) :
  Quiet1 40 #[.pointer (some ⟨g1,0,none⟩)] w (impl_FromCircuits_1_1.f rest):=by
 intro x b n h
 have q1:(w.drewN n).cell? ⟨g1,0,none⟩=some (.int .i64 rest):=(blk_cell b1 0).trans rfl
 clear b1
 have HS:=Aside0.mk (fun n'=>impl_IsSubset.calls x rest b ((w.drewN n).drewN n') h)
 clear h
 show Calls Tryz.prog 40 #[.int .i64 x,.pointer (some ⟨g1,0,none⟩)] (w.drewN n) _
 generalize w.drewN n=W at q1 HS ⊢
 go_enter Tryz.func40,Tryz.ntmps40
 go_wp2_with ((go_at_call 32;refine (HS.out 0).mono ?_;rintro e w' ⟨rfl,⟨q,rfl⟩⟩))
 try (go_quiet ((go_at_call 32;exact drawn_quiet (HS.out _)));go_wp2)
 go_ret
 exact ⟨by first|rfl|(simp;done),dT_⟩
def on_impl_FromCircuits_1_1.f (k:Nat) (l0:List Int) (rest:Int):Option Bool:=anyL (impl_FromCircuits_1_1.f rest) l0 k 0
theorem on_impl_FromCircuits_1_1.calls (k:Nat) (A0:Option Addr) (c0:Nat) (l0:List Int) (rest:Int) (r:Bool) (w:World) (hr0:Kd.C (Kd.int .i64) w A0 l0.length l0) (hc0:l0.length≤c0)
  (h:on_impl_FromCircuits_1_1.f k l0 rest=some r) (g1:Nat) (b1:w.heap[g1]?=some (.cells #[.int .i64 rest] 3 (0,0))) :
    Calls Tryz.prog 34 #[.slice A0 l0.length c0,.func (.func 40) #[] #[.pointer (some ⟨g1,0,none⟩)]] w fun e w'=>e=.returned (.bool r)∧Drawn0 w w' :=
 containsFunc_calls _ _ (g_enters Tryz.func40 krT_ rfl) _ k A0 c0 l0 r w hr0 (impl_FromCircuits_1_1.quiet rest w g1 b1) h
-- needs impl.FromCircuits$1$1
-- needs slices.ContainsFunc[[]int,int]
-- needs impl.setsOf
def impl_FromCircuits_1.f (k:Nat) (l1:List Int) (x:Int):Option Bool:=(on_impl_FromCircuits_1_1.f k l1 x).bind fun t=>some (!t)
set_option maxHeartbeats 4000000 in
theorem impl_FromCircuits_1.makes (k:Nat) (A1:Option Addr) (c1:Nat) (l1:List Int) (w:World) (hr1:Kd.C (Kd.int .i64) w A1 l1.length l1) (hc1:l1.length≤c1) (g1:Nat)
  (b1:w.heap[g1]?=some (.cells #[.slice A1 l1.length c1] 24 (0,0))) :
  Makes1 39 #[.pointer (some ⟨g1,0,none⟩)] w (impl_FromCircuits_1.f k l1):=by
 intro x b W hW h
 obtain ⟨t,h,ht⟩:=Option.bind_eq_some_iff.mp h
 have HT:=Aside0.mk (Option.some.inj ht)
 clear ht
 have q1:W.cell? ⟨g1,0,none⟩=some (.slice A1 l1.length c1):=(blk_cell (blk_below b1 hW) 0).trans rfl
 have HR:=Aside0.mk (Kd.C_below hr1 hW)
 have HC:=Aside0.mk hc1
 have H:=Aside0.mk h
 have HB:=Aside0.mk (Below.refl W.heap.size W)
 clear h b1 hr1 hc1 hW
 show Calls Tryz.prog 39 #[.int .i64 x,.pointer (some ⟨g1,0,none⟩)] W _
 go_enter Tryz.func39,Tryz.ntmps39
 go_wp2_with (first|((with_reducible refine gate_dst (N:=2) rfl ?_);refine bx_ (N:=2) (cs:=#[.int .i64 x]) (t:=3) ?_;intro gb hg w5 hbox hb;have q5:=(hb.cell (World.block_lt_of_cell? _ _ q1)).trans q1;replace HR:=Aside0.mk (Kd.C_below HR.out hb);replace HB:=Aside0.mk (below_step HB.out hb);have BK:=Aside0.mk hbox;clear q1 hb hbox hg)|(go_at_call 34;(with_reducible refine (on_impl_FromCircuits_1_1.calls k A1 c1 l1 x t _ ?s1 HC.out H.out _ ?s2).mono ?_);(case s1=>repeat (first|exact HR.out|(with_reducible refine Kd.C_drewN ?_ _)|(with_reducible refine Kd.C_drew ?_)));(case s2=>exact BK.out);rintro e w' ⟨rfl,⟨q,rfl⟩⟩))
 go_ret
 exact ⟨by rw [← HT.out];first|rfl|(simp;done),by repeat (first|exact HB.out|apply pw_below_drewN|apply below_drew1)⟩
def on_impl_FromCircuits_1.f (k:Nat) (n:Int) (l1:List Int):Option (List Int):=setsL n (impl_FromCircuits_1.f k l1) k [] 0
theorem on_impl_FromCircuits_1.calls (k:Nat) (n:Int) (A1:Option Addr) (c1:Nat) (l1:List Int) (o:List Int) (w:World) (hr1:Kd.C (Kd.int .i64) w A1 l1.length l1) (hc1:l1.length≤c1) (h:on_impl_FromCircuits_1.f k n l1=some o) (g1:Nat)
  (b1:w.heap[g1]?=some (.cells #[.slice A1 l1.length c1] 24 (0,0))) :
    Calls Tryz.prog 27 #[.int .i64 n,.func (.func 39) #[] #[.pointer (some ⟨g1,0,none⟩)]] w fun e w'=>∃ v0_:Value,e=.returned (v0_)∧Kd.R (Kd.int .i64) 3 w' w.heap.size (fun _=>True) v0_ o∧Below w.heap.size w w' :=
 setsOf_calls _ _ (s_enters Tryz.func39 krT_ rfl) n _ k o w (impl_FromCircuits_1.makes k A1 c1 l1 w hr1 hc1 g1 b1) h
def slices_Equal_int_int.l0:Nat→List Int→List Int→Int→Int→Option (Bool)
 | 0,_,_,_,_=>none
 | k+1,x0,x1,x12,x13=>if x13<x12 then (if 0≤x13 then (if x13<(x0.length:Int) then (if x13<(x1.length:Int) then (if (rd x0 x13)=(rd x1 x13) then (slices_Equal_int_int.l0 k x0 x1 x12 (wrap64 (x13+1))) else (some false)) else (none)) else (none)) else (none)) else (some true)
def slices_Equal_int_int.f (k:Nat) (l0:List Int) (l1:List Int):Option (Bool):=if (l0.length:Int)=(l1.length:Int) then (slices_Equal_int_int.l0 k l0 l1 (l0.length:Int) 0) else (some false)
theorem slices_Equal_int_int.calls (k:Nat) (A0:Option Addr) (c0:Nat) (l0:List Int) (A1:Option Addr) (c1:Nat) (l1:List Int) (r:Bool) (w:World) (hr0:Kd.C (Kd.int .i64) w A0 l0.length l0) (hc0:l0.length≤c0) (hr1:Kd.C (Kd.int .i64) w A1 l1.length l1) (hc1:l1.length≤c1) (h:slices_Equal_int_int.f k l0 l1=some r) :
    Calls Tryz.prog 41 #[.slice A0 l0.length c0,.slice A1 l1.length c1] w fun e w'=>e=.returned (.bool r)∧Drawn0 w w':=by
 have HR0:=Aside0.mk hr0
 have HC0:=Aside0.mk hc0
 clear hr0 hc0
 have HR1:=Aside0.mk hr1
 have HC1:=Aside0.mk hc1
 clear hr1 hc1
 unfold slices_Equal_int_int.f at h
 have H:=h
 clear h
 replace H:=(gsq_ H).symm;rcases H with ⟨c3,H⟩|⟨c3,H⟩
 ·have c3b0:((l0.length:Int)==(l1.length:Int))=false:=beq_eq_false_iff_ne.mpr c3
  have c3b1:((l0.length:Int) != (l1.length:Int))=true:=bne_iff_ne.mpr c3
  have c3b2:(l0.length==l1.length)=false:=by first|simpa using c3|(simp at c3 ⊢;omega)
  obtain rfl:=Option.some.inj H
  go_enter Tryz.func41,Tryz.ntmps41
  go_wp2
  repeat (go_quiet (fail);try go_wp2)
  go_ret
  exact ⟨sT_,dT_⟩
 have c3b0:((l0.length:Int)==(l1.length:Int))=true:=beq_iff_eq.mpr c3
 have c3b1:((l0.length:Int) != (l1.length:Int))=false:=bne_eq_false_iff_eq.mpr c3
 have c3b2:(l0.length==l1.length)=true:=by first|simpa using c3|(simp at c3 ⊢;omega)
 clear c3
 have H':=Aside0.mk H
 clear H
 go_enter Tryz.func41,Tryz.ntmps41
 go_wp2
 repeat (go_quiet (fail);try go_wp2)
 go_loopg [13] k (fun kq v13 w'=>∃ (x13_1:Int),v13=.int .i64 x13_1∧Aside0 (slices_Equal_int_int.l0 kq l0 l1 (l0.length:Int) x13_1=some r)∧Aside0 (kq≤k)∧Drawn0 w w')
 case atStart=>exact ⟨(0),sT_,H',⟨Nat.le_refl _⟩,dT_⟩
 case round =>
 clear H'
 try clear c1
 try clear p2
 try clear c3
 try clear c3b0
 try clear c3b1
 try clear c3b2
 obtain ⟨x13_1,rfl,HA,HK1,⟨m1,rfl⟩⟩:=hrel
 cases gk with
 | zero=>exact absurd HA.out (by simp [slices_Equal_int_int.l0])
 | succ k1 =>
 have H:=HA.out
 clear HA
 simp only [slices_Equal_int_int.l0] at H
 replace H:=gsn_ H;rcases H with ⟨c4b0,H⟩|⟨c4b0,H⟩
 ·obtain rfl:=Option.some.inj H
  go_wp2
  repeat (go_quiet (fail);try go_wp2)
  go_ret
  exact ⟨sT_,dT_⟩
 replace H:=gsm_ H;obtain ⟨c5b0,H⟩:=H
 replace H:=gsm_ H;obtain ⟨c6b0,H⟩:=H
 replace H:=gsm_ H;obtain ⟨c7b0,H⟩:=H
 replace H:=(gse_ H).symm;rcases H with ⟨c8b0,c8b1,c8,H⟩|⟨c8b0,c8b1,H⟩
 ·obtain rfl:=Option.some.inj H
  obtain ⟨ad728,e728,hx728_0,p728,q728⟩:=aiI_ HR0.out x13_1
  cases e728
  obtain ⟨ad729,e729,hx729_0,p729,q729⟩:=aiI_ HR1.out x13_1
  cases e729
  go_wp2
  repeat (go_quiet (fail);try go_wp2)
  go_ret
  exact ⟨sT_,dT_⟩
 have H':=Aside0.mk H
 clear H
 obtain ⟨ad728,e728,hx728_0,p728,q728⟩:=aiI_ HR0.out x13_1
 cases e728
 obtain ⟨ad729,e729,hx729_0,p729,q729⟩:=aiI_ HR1.out x13_1
 cases e729
 go_wp2
 repeat (go_quiet (fail);try go_wp2)
 go_roundg k1
 case measure=>have:=HK1.out;omega
 case rel=>exact ⟨(wrap64 (x13_1+1)),sT_,H',⟨by have:=HK1.out;omega⟩,dT_⟩
end Go.Proofs.YtekegbacnagbcaaGreat.P
