-- written by gprint (a program of this session's, round the kit's print), out of the translation and hand-written texts
import Derived.Test.YtekegbacnagbcaaPVFnRanksx0
import Derived.Test.YtekegbacnagbcaaPVFnRanksx1
import Derived.Test.YtekegbacnagbcaaPVFnRanksx11
import Derived.Test.YtekegbacnagbcaaPVFnRanksx12
import Derived.Test.YtekegbacnagbcaaPVFnRanksx13
namespace Go.Proofs.Ytekegbacnagbcaa.P
open Go.RowKit Go.Proofs.YtekegbacnagbcaaW.PrintWords Go.Proofs.YtekegbacnagbcaaW.PrintLast Go.Proofs.YtekegbacnagbcaaW.PrintMore
attribute [local go_sem] max2_int min2_int max_two min_two max_three min_three max_four min_four   -- for this text's walks alone
set_option linter.unusedVariables false
set_option linter.unusedSimpArgs false
/-! ### impl_closure: function 33 -/
def impl_closure.l0:Nat→Int→Int→Int→Int→Int→List Int→Option (Int)
 | 0,_,_,_,_,_,_=>none
 | k+1,x1,x5,x6,x7,x599000,x599001=>if x7<x599000 then (if 0≤x7 then ((impl_rankIn.f k x599000 x599001 (Go.bits .or .i64 x1 (shl .i64 1 x7))).bind fun t600=>(if t600=x5 then (impl_closure.l0 k x1 x5 (Go.bits .or .i64 x6 (shl .i64 1 x7)) (wrap64 (x7+1)) x599000 x599001) else (impl_closure.l0 k x1 x5 x6 (wrap64 (x7+1)) x599000 x599001))) else (none)) else (some x6)
def impl_closure.f (k:Nat) (a0_0:Int) (l0_1:List Int) (a1:Int):Option (Int):=(impl_rankIn.f k a0_0 l0_1 a1).bind fun t599=>(impl_closure.l0 k a1 t599 0 0 a0_0 l0_1)
def impl_closure.T6:Bool × List (List Nat × List Nat):=(true,[([],[]),([],[]),([],[]),([2],[2]),([1,3],[1,3]),([0,4],[0,4]),([],[]),([5,6],[5,6])])
def impl_closure.B6:List Nat:=[0,0,0,4,14,31,0,127]
theorem impl_closure.tab6:rtab .any (opsOf Try.f33 6)=impl_closure.T6:=by kernel_rfl
theorem impl_closure.bits6:waitsOk impl_closure.T6.2 impl_closure.B6=true:=by kernel_rfl
set_option maxHeartbeats 8000000 in
set_option maxRecDepth 100000 in
theorem impl_closure.calls (k:Nat) (a0_0:Int) (A0_1:Option Addr) (c0_1:Nat) (l0_1:List Int) (a1:Int) (r:Int) (w:World) (hr0_1:Kd.C (Kd.int .i64) w A0_1 l0_1.length l0_1) (hc0_1:l0_1.length≤c0_1) (h:impl_closure.f k a0_0 l0_1 a1=some r) :
    Calls Try.prog 33 #[.agg #[.int .i64 a0_0,.slice A0_1 l0_1.length c0_1],.int .i64 a1] w fun e w'=>e=.returned (.int .i64 r)∧Below w.heap.size w w':=by
 have hu26:=Try.underlying26
 have HR0_1:=Aside0.mk hr0_1
 have HC0_1:=Aside0.mk hc0_1
 clear hr0_1 hc0_1
 have HB:=Aside0.mk (Below.refl w.heap.size w)
 have H:((impl_rankIn.f k a0_0 l0_1 a1).bind fun t599=>(impl_closure.l0 k a1 t599 0 0 a0_0 l0_1))=some r:=h
 clear h
 replace H:=bnd_ H;obtain ⟨t599,A3,H⟩:=H
 have H':=Aside0.mk H
 clear H
 go_enter Try.func33,Try.ntmps33
 go_wp2_with (first|((with_reducible refine gate_dst (N:=2) rfl ?_);refine bx_ (N:=2) (cs:=#[.int .i64 a0_0,.slice A0_1 l0_1.length c0_1]) (t:=26) ?_;intro gb598 hg w4 hbox hb;have BK598:=Aside0.mk (hbox);have GW598:=Aside0.mk (gw_ hg (h_HB HB.out));have GE598:=Aside0.mk (gw_ hg (h_HB HB.out));replace HB:=Aside0.mk (below_step (h_HB HB.out) hb);clear hb hbox hg;obtain ⟨hcz5_0,hcz5_1,hfz5_0,hfz5_1⟩:=bz2_ BK598.out)|((with_reducible refine gate_callee (f:=32) rfl ?_);refine goesL_ (some 10) rfl rfl Try.func32 krT_ rfl #[.agg #[.int .i64 a0_0,.slice A0_1 l0_1.length c0_1],.int .i64 a1] rfl agT_ ?_;(with_reducible refine (impl_rankIn.calls k a0_0 _ _ l0_1 a1 t599 _ ?side1 ?side2 A3.out).mono ?_);(case side1=>exact cC_ HR0_1.out);(case side2=>exact HC0_1.out);rintro e w6 ⟨rfl,hb⟩;refine ⟨_,rfl,?_⟩;replace BK598:=Aside0.mk (blkB_ BK598.out hb);replace HB:=Aside0.mk (below_step (h_HB HB.out) hb);(try clear hb)))
 go_loopg [6,7] k (fun kq v6 v7 w'=>∃ (x6_1:Int) (x7_1:Int),v6=.int .i64 x6_1∧v7=.int .i64 x7_1∧Aside0 (impl_closure.l0 kq a1 t599 x6_1 x7_1 a0_0 l0_1=some r)∧Aside0 (kq≤k)∧Aside0 (w'.heap[gb598]?=some (.cells #[.int .i64 a0_0,(.slice A0_1 l0_1.length c0_1)] 26 (0,0)))∧Aside0 (Below w.heap.size w w'))
 case atStart=>exact ⟨(0),(0),sT_,sT_,H',⟨Nat.le_refl _⟩,⟨bkC_ BK598.out⟩,⟨h_HB HB.out⟩⟩
 case round =>
 clear H'
 try clear p2
 try clear c3
 try clear hcz5_0
 try clear hcz5_1
 try clear hfz5_0
 try clear hfz5_1
 obtain ⟨x6_1,x7_1,rfl,rfl,HA,HK1,BK598,HB⟩:=hrel
 cases gk with
 | zero=>exact absurd HA.out (by simp [impl_closure.l0])
 | succ k1 =>
 have H:=HA.out
 clear HA
 simp only [impl_closure.l0] at H
 rcases gsn_ H with ⟨c7b0,H⟩|⟨c7b0,H⟩
 ·obtain rfl:=Option.some.inj H
  obtain ⟨hcz19_0,hcz19_1,hfz19_0,hfz19_1⟩:=bz2_ BK598.out
  go_wp2
  go_ret
  exact ⟨eT_,h_HB HB.out⟩
 by_cases c8:0≤x7_1
 rotate_left
 ·rw [if_neg c8] at H
  exact absurd H (by simp)
 rw [if_pos c8] at H
 have c8b0:=eq_true c8
 have c8b1:decide (0≤x7_1)=true:=decide_eq_true c8
 clear c8
 obtain ⟨ji9,hji9⟩:∃ j_:Int,(shl .i64 1 x7_1)=j_:=⟨_,rfl⟩
 replace H:((impl_rankIn.f k1 a0_0 l0_1 (Go.bits .or .i64 a1 (ji9))).bind fun t600=>(if t600=t599 then (impl_closure.l0 k1 a1 t599 (Go.bits .or .i64 x6_1 (ji9)) (wrap64 (x7_1+1)) a0_0 l0_1) else (impl_closure.l0 k1 a1 t599 x6_1 (wrap64 (x7_1+1)) a0_0 l0_1)))=some r:=by first|(rw [hji9] at H;exact H)|(simp only [hji9] at H ⊢;exact H)
 have hji9_:(IntKind.i64.wrap (1*2 ^ min x7_1.toNat 64))=ji9:=hji9
 have hji9z:x7_1≤64→(IntKind.i64.wrap (1*2 ^ x7_1.toNat))=ji9:=shl_small hji9
 have hji9u:(IntKind.i64.wrap (2 ^ min x7_1.toNat 64))=ji9:=by have h_:=hji9_;rw [Int.one_mul] at h_;exact h_
 have hji9v:x7_1≤64→(IntKind.i64.wrap (2 ^ x7_1.toNat))=ji9:=fun hle_=>by have h_:=hji9z hle_;rw [Int.one_mul] at h_;exact h_
 have hji9y:(wrap64 (1*2 ^ min x7_1.toNat 64))=ji9:=(i64_w _).symm.trans hji9_
 have hji9x:x7_1≤64→(wrap64 (1*2 ^ x7_1.toNat))=ji9:=fun h_=>(i64_w _).symm.trans (hji9z h_)
 replace H:=bnd_ H;obtain ⟨t600,A10,H⟩:=H
 by_cases c11:t600=t599
 ·rw [if_pos c11] at H
  have c11b0:(t600==t599)=true:=beq_iff_eq.mpr c11
  have c11b1:(t600 != t599)=false:=bne_eq_false_iff_eq.mpr c11
  clear c11
  have c12b0:=eq_true (odT_:0≤x7_1)
  have H':=Aside0.mk H
  clear H
  obtain ⟨hcz13_0,hcz13_1,hfz13_0,hfz13_1⟩:=bz2_ BK598.out
  try go_wp2
  replace BK598:=Aside0.mk (blk_drew BK598.out);replace HB:=Aside0.mk (below_drew1 HB.out)
  refine start_ (n:=8) (S:=fun w'=>w'.cell? ⟨gb598,0,none⟩=some (.int .i64 a0_0)∧w'.cell? ⟨gb598,1,none⟩=some (.slice A0_1 l0_1.length c0_1)) (ds:=[]) #[F_,F_,F_,F_,F_,F_,F_,F_] krT_ rfl rfl ⟨(blk_cell BK598.out 0).trans rfl,(blk_cell BK598.out 1).trans rfl⟩ (fun hHeld=>?_);refine with_tabW impl_closure.tab6 impl_closure.bits6 (fun HT_ HW_=>?_)
  generalize wr.drew=w14 at BK598 HB hHeld ⊢
  refine pu_ 1 (some 18) (bm_ 8 2) rfl rfl HT_.out ?_
  refine pu_ 2 (some 19) (bm_ 8 6) rfl rfl HT_.out ?_
  refine pu_ 3 (some 20) (bm_ 8 14) rfl rfl HT_.out ?_
  refine pu_ 4 (some 21) (bm_ 8 30) rfl rfl HT_.out ?_
  refine pu_ 6 (some 23) (bm_ 8 94) rfl rfl HT_.out ?_
  refine take_ (i:=0) (N:=some 17) (v:=?_) (a':=?_) (bm_ 8 95) rfl rfl (take_ofW HT_.out HW_.out krT_) (fun _ _ _ h=>h) (Or.inl ⟨by rfl,?_⟩) hHeld ?_ ?_
  rotate_left
  ·rintro w' ⟨s0,s1⟩
   go_simp
   with_reducible rfl
  rotate_left;exact apT_
  refine one_ (i:=5) (N:=some 22) (bm_ 8 127) rfl rfl (one_of HT_.out krT_) (by decide) (fun K hK=>?_)
  refine goes_ Try.func32 krT_ rfl #[.agg #[.int .i64 a0_0,.slice A0_1 l0_1.length c0_1],.int .i64 (Go.bits .or .i64 a1 (ji9))] (by rfl) rfl rfl (by (try simp only [List.map_toArray,List.map_cons,List.map_nil]);first|done|(simp only [hji9];rfl)|rfl|(simp only [List.length_drop,List.length_take];rfl)) ?_
  with_reducible refine (impl_rankIn.calls k1 a0_0 _ _ l0_1 (Go.bits .or .i64 a1 (ji9)) t600 _ ?side1 ?side2 A10.out).mono ?_
  (case side1=>exact cC_ HR0_1.out)
  (case side2=>exact HC0_1.out)
  rintro e w15 ⟨rfl,hb⟩
  refine ⟨_,rfl,?_⟩
  replace BK598:=Aside0.mk (blkB_ BK598.out hb);replace HB:=Aside0.mk (below_step (h_HB HB.out) hb)
  (try clear hb)
  (try clear hb2)
  (try clear hk)
  (try clear hi)
  refine hK.out _ _ ⟨(blk_cell BK598.out 0).trans rfl,(blk_cell BK598.out 1).trans rfl⟩ (fun hHeld=>?_)
  clear hK K
  refine norm_ (a':=?_) ?_ ?_
  rotate_left
  ·show Act.put _ (some 22) _=_
   simp only [Act.put,List.setIfInBounds_toArray,List.set_cons_zero,List.set_cons_succ,i64_w,i32_w]
   rfl
  refine pu_ 7 (some 24) (bm_ 8 255) rfl rfl HT_.out ?_
  refine done_ (done_of HT_.out krT_) ?_
  try go_wp2
  go_roundg k1
  case measure=>have:=HK1.out;omega
  case rel=>exact ⟨(Go.bits .or .i64 x6_1 (ji9)),(wrap64 (x7_1+1)),(by first|rfl|(simp;done)|(simp only [← hji9]<;>(first|rfl|simp))|(simp [*];done)),sT_,H',⟨by have:=HK1.out;omega⟩,⟨bkC_ BK598.out⟩,⟨h_HB HB.out⟩⟩
 ·rw [if_neg c11] at H
  have c11b0:(t600==t599)=false:=beq_eq_false_iff_ne.mpr c11
  have c11b1:(t600 != t599)=true:=bne_iff_ne.mpr c11
  have H':=Aside0.mk H
  clear H
  obtain ⟨hcz16_0,hcz16_1,hfz16_0,hfz16_1⟩:=bz2_ BK598.out
  try go_wp2
  replace BK598:=Aside0.mk (blk_drew BK598.out);replace HB:=Aside0.mk (below_drew1 HB.out)
  refine start_ (n:=8) (S:=fun w'=>w'.cell? ⟨gb598,0,none⟩=some (.int .i64 a0_0)∧w'.cell? ⟨gb598,1,none⟩=some (.slice A0_1 l0_1.length c0_1)) (ds:=[]) #[F_,F_,F_,F_,F_,F_,F_,F_] krT_ rfl rfl ⟨(blk_cell BK598.out 0).trans rfl,(blk_cell BK598.out 1).trans rfl⟩ (fun hHeld=>?_);refine with_tabW impl_closure.tab6 impl_closure.bits6 (fun HT_ HW_=>?_)
  generalize wr.drew=w17 at BK598 HB hHeld ⊢
  refine pu_ 1 (some 18) (bm_ 8 2) rfl rfl HT_.out ?_
  refine pu_ 2 (some 19) (bm_ 8 6) rfl rfl HT_.out ?_
  refine pu_ 3 (some 20) (bm_ 8 14) rfl rfl HT_.out ?_
  refine pu_ 4 (some 21) (bm_ 8 30) rfl rfl HT_.out ?_
  refine pu_ 6 (some 23) (bm_ 8 94) rfl rfl HT_.out ?_
  refine take_ (i:=0) (N:=some 17) (v:=?_) (a':=?_) (bm_ 8 95) rfl rfl (take_ofW HT_.out HW_.out krT_) (fun _ _ _ h=>h) (Or.inl ⟨by rfl,?_⟩) hHeld ?_ ?_
  rotate_left
  ·rintro w' ⟨s0,s1⟩
   go_simp
   with_reducible rfl
  rotate_left;exact apT_
  refine one_ (i:=5) (N:=some 22) (bm_ 8 127) rfl rfl (one_of HT_.out krT_) (by decide) (fun K hK=>?_)
  refine goes_ Try.func32 krT_ rfl #[.agg #[.int .i64 a0_0,.slice A0_1 l0_1.length c0_1],.int .i64 (Go.bits .or .i64 a1 (ji9))] (by rfl) rfl rfl (by (try simp only [List.map_toArray,List.map_cons,List.map_nil]);first|done|(simp only [hji9];rfl)|rfl|(simp only [List.length_drop,List.length_take];rfl)) ?_
  with_reducible refine (impl_rankIn.calls k1 a0_0 _ _ l0_1 (Go.bits .or .i64 a1 (ji9)) t600 _ ?side1 ?side2 A10.out).mono ?_
  (case side1=>exact cC_ HR0_1.out)
  (case side2=>exact HC0_1.out)
  rintro e w18 ⟨rfl,hb⟩
  refine ⟨_,rfl,?_⟩
  replace BK598:=Aside0.mk (blkB_ BK598.out hb);replace HB:=Aside0.mk (below_step (h_HB HB.out) hb)
  (try clear hb)
  (try clear hb2)
  (try clear hk)
  (try clear hi)
  refine hK.out _ _ ⟨(blk_cell BK598.out 0).trans rfl,(blk_cell BK598.out 1).trans rfl⟩ (fun hHeld=>?_)
  clear hK K
  refine norm_ (a':=?_) ?_ ?_
  rotate_left
  ·show Act.put _ (some 22) _=_
   simp only [Act.put,List.setIfInBounds_toArray,List.set_cons_zero,List.set_cons_succ,i64_w,i32_w]
   rfl
  refine pu_ 7 (some 24) (bm_ 8 255) rfl rfl HT_.out ?_
  refine done_ (done_of HT_.out krT_) ?_
  try go_wp2
  go_roundg k1
  case measure=>have:=HK1.out;omega
  case rel=>exact ⟨(x6_1),(wrap64 (x7_1+1)),sT_,sT_,H',⟨by have:=HK1.out;omega⟩,⟨bkC_ BK598.out⟩,⟨h_HB HB.out⟩⟩
/-! ### impl_ClosureOf: function 8 -/
def impl_ClosureOf.f (k:Nat) (a0_0:Int) (l0_1:List Int) (a1:Int):Option (Int):=(impl_knows.f k a0_0 l0_1 a1).bind fun t602=>(if t602=true then ((impl_closure.f k a0_0 l0_1 a1).bind fun t603=>(some t603)) else (some a1))
set_option maxHeartbeats 8000000 in
set_option maxRecDepth 100000 in
theorem impl_ClosureOf.calls (k:Nat) (a0_0:Int) (A0_1:Option Addr) (c0_1:Nat) (l0_1:List Int) (a1:Int) (r:Int) (w:World) (hr0_1:Kd.C (Kd.int .i64) w A0_1 l0_1.length l0_1) (hc0_1:l0_1.length≤c0_1) (h:impl_ClosureOf.f k a0_0 l0_1 a1=some r) :
    Calls Try.prog 8 #[.agg #[.int .i64 a0_0,.slice A0_1 l0_1.length c0_1],.int .i64 a1] w fun e w'=>e=.returned (.int .i64 r)∧Below w.heap.size w w':=by
 have hu26:=Try.underlying26
 have HR0_1:=Aside0.mk hr0_1
 have HC0_1:=Aside0.mk hc0_1
 clear hr0_1 hc0_1
 have HB:=Aside0.mk (Below.refl w.heap.size w)
 unfold impl_ClosureOf.f at h
 have H:=h
 clear h
 replace H:=bnd_ H;obtain ⟨t602,A3,H⟩:=H
 by_cases c4:t602=true
 ·subst c4
  replace H:=bT_ H
  replace H:=bnd_ H;obtain ⟨t603,A5,H⟩:=H
  obtain rfl:=Option.some.inj H
  go_enter Try.func8,Try.ntmps8
  go_wp2_with (first|((with_reducible refine gate_dst (N:=2) rfl ?_);refine bx_ (N:=2) (cs:=#[.int .i64 a0_0,.slice A0_1 l0_1.length c0_1]) (t:=26) ?_;intro gb601 hg w6 hbox hb;have BK601:=Aside0.mk (hbox);have GW601:=Aside0.mk (gw_ hg (h_HB HB.out));have GE601:=Aside0.mk (gw_ hg (h_HB HB.out));replace HB:=Aside0.mk (below_step (h_HB HB.out) hb);clear hb hbox hg;obtain ⟨hcz7_0,hcz7_1,hfz7_0,hfz7_1⟩:=bz2_ BK601.out)|((with_reducible refine gate_callee (f:=31) rfl ?_);refine goesL_ (some 7) rfl rfl Try.func31 krT_ rfl #[.agg #[.int .i64 a0_0,.slice A0_1 l0_1.length c0_1],.int .i64 a1] rfl agT_ ?_;(with_reducible refine (impl_knows.calls k a0_0 _ _ l0_1 a1 true _ ?side1 ?side2 A3.out).mono ?_);(case side1=>exact cC_ HR0_1.out);(case side2=>exact HC0_1.out);rintro e w8 ⟨rfl,hb⟩;refine ⟨_,rfl,?_⟩;replace BK601:=Aside0.mk (blkB_ BK601.out hb);replace HB:=Aside0.mk (below_step (h_HB HB.out) hb);(try clear hb);obtain ⟨hcz9_0,hcz9_1,hfz9_0,hfz9_1⟩:=bz2_ BK601.out)|((with_reducible refine gate_callee (f:=33) rfl ?_);refine goesL_ (some 12) rfl rfl Try.func33 krT_ rfl #[.agg #[.int .i64 a0_0,.slice A0_1 l0_1.length c0_1],.int .i64 a1] rfl agT_ ?_;(with_reducible refine (impl_closure.calls k a0_0 _ _ l0_1 a1 t603 _ ?side1 ?side2 A5.out).mono ?_);(case side1=>exact cC_ HR0_1.out);(case side2=>exact HC0_1.out);rintro e w10 ⟨rfl,hb⟩;refine ⟨_,rfl,?_⟩;replace BK601:=Aside0.mk (blkB_ BK601.out hb);replace HB:=Aside0.mk (below_step (h_HB HB.out) hb);(try clear hb)))
  go_ret
  exact ⟨eT_,h_HB HB.out⟩
 replace c4:=Bool.eq_false_iff.mpr c4
 subst c4
 replace H:=bF_ H
 obtain rfl:=Option.some.inj H
 go_enter Try.func8,Try.ntmps8
 go_wp2_with (first|((with_reducible refine gate_dst (N:=2) rfl ?_);refine bx_ (N:=2) (cs:=#[.int .i64 a0_0,.slice A0_1 l0_1.length c0_1]) (t:=26) ?_;intro gb601 hg w11 hbox hb;have BK601:=Aside0.mk (hbox);have GW601:=Aside0.mk (gw_ hg (h_HB HB.out));have GE601:=Aside0.mk (gw_ hg (h_HB HB.out));replace HB:=Aside0.mk (below_step (h_HB HB.out) hb);clear hb hbox hg;obtain ⟨hcz12_0,hcz12_1,hfz12_0,hfz12_1⟩:=bz2_ BK601.out)|((with_reducible refine gate_callee (f:=31) rfl ?_);refine goesL_ (some 7) rfl rfl Try.func31 krT_ rfl #[.agg #[.int .i64 a0_0,.slice A0_1 l0_1.length c0_1],.int .i64 a1] rfl agT_ ?_;(with_reducible refine (impl_knows.calls k a0_0 _ _ l0_1 a1 false _ ?side1 ?side2 A3.out).mono ?_);(case side1=>exact cC_ HR0_1.out);(case side2=>exact HC0_1.out);rintro e w13 ⟨rfl,hb⟩;refine ⟨_,rfl,?_⟩;replace BK601:=Aside0.mk (blkB_ BK601.out hb);replace HB:=Aside0.mk (below_step (h_HB HB.out) hb);(try clear hb)))
 go_ret
 exact ⟨eT_,h_HB HB.out⟩
/-! ### spec_DrawIndependentSets: function 9 -/
def spec_DrawIndependentSets.f (k:Nat) (l0:List Int):Option (Int × List Int):=(spec_l1New.f k l0).bind fun bt605=>((spec_l4Bent.f k bt605.1 bt605.2.1 bt605.2.2 6).bind fun bt609=>(some (bt609.1,bt609.2.1)))
set_option maxHeartbeats 8000000 in
set_option maxRecDepth 100000 in
theorem spec_DrawIndependentSets.calls (k:Nat) (A0:Option Addr) (c0:Nat) (l0:List Int) (r1:Int) (r2:List Int) (w:World) (hr0:Kd.C (Kd.int .u8) w A0 l0.length l0) (hc0:l0.length≤c0) (h:spec_DrawIndependentSets.f k l0=some (r1,r2)) :
    Calls Try.prog 9 #[.slice A0 l0.length c0] w fun e w'=>∃ v1_:Value,e=.returned (.agg #[.int .i64 r1,v1_])∧Kd.R (Kd.int .i64) 3 w' w.heap.size (fun _=>True) v1_ r2∧Below w.heap.size w w':=by
 have hu26:=Try.underlying26
 have HR0:=Aside0.mk hr0
 have HC0:=Aside0.mk hc0
 clear hr0 hc0
 have HB:=Aside0.mk (Below.refl w.heap.size w)
 unfold spec_DrawIndependentSets.f at h
 have H:=h
 clear h
 replace H:=bnd_ H;obtain ⟨⟨t605,t606,t607⟩,A2,H⟩:=H;dsimp only at H
 replace H:=bnd_ H;obtain ⟨⟨t609,t610,t613,t614⟩,A3,H⟩:=H;dsimp only at H
 simp only [Option.some.injEq,Prod.mk.injEq] at H
 obtain ⟨rfl,rfl⟩:=H
 go_enter Try.func9,Try.ntmps9
 go_wp2_with (first|((with_reducible refine gate_dst (N:=2) rfl ?_);refine bx_ (N:=2) (cs:=#[.int .i64 0,.slice none 0 0]) (t:=26) ?_;intro gb604 hg w4 hbox hb;have BK604:=Aside0.mk (hbox);have GW604:=Aside0.mk (gw_ hg (h_HB HB.out));have GE604:=Aside0.mk (gw_ hg (h_HB HB.out));replace HB:=Aside0.mk (below_step (h_HB HB.out) hb);clear hb hbox hg)|((with_reducible refine gate_callee (f:=29) rfl ?_);refine goesL_ (some 4) rfl rfl Try.func29 krT_ rfl #[.slice A0 l0.length c0] rfl agT_ ?_;(with_reducible refine (spec_l1New.calls k _ _ l0 t605 t606 t607 w _ ?side1 ?side2 ?side3 A2.out).mono ?_);(case side1=>exact h_HB HB.out);(case side2=>exact HR0.out);(case side3=>exact HC0.out);rintro e w5 ⟨g608,rfl,hi,hb,hb2⟩;refine ⟨_,rfl,?_⟩;replace HB:=Aside0.mk (hb);have HI608:=Aside0.mk (hi);have NB608_604:=Aside0.mk (IsS52.ne_blk hi (blk_below (bkC_ BK604.out) hb2) (by decide));have NB604_608:=Aside0.mk (Ne.symm (IsS52.ne_blk hi (blk_below (bkC_ BK604.out) hb2) (by decide)));replace BK604:=Aside0.mk (blk_below (bkC_ BK604.out) hb2);(try clear hb);(try clear hb2);(try clear hk);(try clear hi))|((with_reducible refine gate_callee (f:=34) rfl ?_);refine goesL_ (some 5) rfl rfl Try.func34 krT_ rfl #[.pointer (some ⟨g608,0,none⟩),.int .i64 6] rfl agT_ ?_;(with_reducible refine (spec_l4Bent.calls k g608 t605 t606 t607 6 t609 t610 t613 t614 w _ ?side1 ?side2 A3.out).mono ?_);(case side1=>repeat (first|(with_reducible first|exact HI608.out|apply IsS52.alloc|apply IsS52.drewN|apply IsS52.drew|apply IsS52.set_1|apply IsS52.set_2|refine IsS52.far ?_ NB608_604.out _)|exact HI608.out));(case side2=>exact h_HB HB.out);rintro e w6 ⟨v611,rfl,ho0,hi,hb,hk⟩;refine ⟨_,rfl,?_⟩;replace BK604:=Aside0.mk (KeepBut.blk hk (bkC_ BK604.out) NB604_608.out (by simp));have HO612:=Aside0.mk (Kd.R_lower ho0 (below_size (h_HB HB.out)));replace HB:=Aside0.mk (hb);replace HI608:=Aside0.mk (hi);(try clear hb);(try clear hb2);(try clear hk);(try clear hi);(try clear ho0);have hnb7:=NB604_608.out;have hnc7:=NB608_604.out;obtain ⟨hcz8_0,hcz8_1,hfz8_0,hfz8_1⟩:=bz2_ BK604.out;obtain ⟨Ao9,co9,eo9⟩:=Kd.R_slice HO612.out;subst eo9))
 refine bodyPost_ret (results_cell_row rfl _ _ gb604 26 #[.int .i64 t609,.slice Ao9 t610.length co9] (0,0) _ rfl (by (with_reducible repeat (first|refine blk_drewN ?_ _|refine blk_drew ?_|refine blk_alloc ?_ _));refine blk_put (cs:=#[.int .i64 t609,.slice none 0 0]) ?_ 1 _ rfl;(with_reducible repeat (first|refine blk_drewN ?_ _|refine blk_drew ?_|refine blk_alloc ?_ _));refine blk_put (cs:=#[.int .i64 0,.slice none 0 0]) ?_ 0 _ rfl;exact bkC_ BK604.out) Try.underlying26 rfl krT_) rfl ?_
 exact ⟨_,eT_,by (with_reducible repeat (first|apply Kd.R_alloc|apply Kd.R_drewN|apply Kd.R_drew));exact Kd.R_mono (Kd.R_far (p:=⟨gb604,1,none⟩) (Kd.R_far (p:=⟨gb604,0,none⟩) (Kd.R_types HO612.out BK604.out (by decide)) (fun _ hk=>hk.2) (.int .i64 t609)) (fun _ hk=>hk.2) (.slice Ao9 t610.length co9)) (fun _ hk=>trivial),h_HB HB.out⟩
/-! ### impl_FullSet: function 48 -/
def impl_FullSet.f (a0:Int):Option (Int):=(impl_isSize.f a0).bind fun t615=>(if t615=true then (if 0≤a0 then (some (wrap64 ((shl .i64 1 a0)-1))) else (none)) else (some 0))
set_option maxHeartbeats 8000000 in
set_option maxRecDepth 100000 in
theorem impl_FullSet.calls (a0:Int) (r:Int) (w:World) (h:impl_FullSet.f a0=some r) :
    Calls Try.prog 48 #[.int .i64 a0] w fun e w'=>e=.returned (.int .i64 r)∧Drawn0 w w':=by
 unfold impl_FullSet.f at h
 have H:=h
 clear h
 replace H:=bnd_ H;obtain ⟨t615,A2,H⟩:=H
 by_cases c3:t615=true
 rotate_left
 ·replace c3:=Bool.eq_false_iff.mpr c3
  subst c3
  replace H:=bF_ H
  obtain rfl:=Option.some.inj H
  go_enter Try.func48,Try.ntmps48
  go_wp2_with (first|((with_reducible refine gate_callee (f:=65) rfl ?_);refine goesL_ (some 4) rfl rfl Try.func65 krT_ rfl #[.int .i64 a0] rfl agT_ ?_;(with_reducible refine (impl_isSize.calls a0 false _ A2.out).mono ?_);rintro e w' ⟨rfl,⟨nd,rfl⟩⟩;refine ⟨_,rfl,?_⟩))
  go_ret
  exact ⟨sT_,dT_⟩
 subst c3
 replace H:=bT_ H
 by_cases c4:0≤a0
 rotate_left
 ·rw [if_neg c4] at H
  exact absurd H (by simp)
 rw [if_pos c4] at H
 have c4b0:=eq_true c4
 have c4b1:decide (0≤a0)=true:=decide_eq_true c4
 clear c4
 obtain ⟨ji5,hji5⟩:∃ j_:Int,(shl .i64 1 a0)=j_:=⟨_,rfl⟩
 replace H:(some (wrap64 ((ji5)-1)))=some r:=by first|(rw [hji5] at H;exact H)|(simp only [hji5] at H ⊢;exact H)
 (try rw [hji5] at A2)
 have hji5_:(IntKind.i64.wrap (1*2 ^ min a0.toNat 64))=ji5:=hji5
 have hji5z:a0≤64→(IntKind.i64.wrap (1*2 ^ a0.toNat))=ji5:=shl_small hji5
 have hji5u:(IntKind.i64.wrap (2 ^ min a0.toNat 64))=ji5:=by have h_:=hji5_;rw [Int.one_mul] at h_;exact h_
 have hji5v:a0≤64→(IntKind.i64.wrap (2 ^ a0.toNat))=ji5:=fun hle_=>by have h_:=hji5z hle_;rw [Int.one_mul] at h_;exact h_
 have hji5y:(wrap64 (1*2 ^ min a0.toNat 64))=ji5:=(i64_w _).symm.trans hji5_
 have hji5x:a0≤64→(wrap64 (1*2 ^ a0.toNat))=ji5:=fun h_=>(i64_w _).symm.trans (hji5z h_)
 obtain rfl:=Option.some.inj H
 go_enter Try.func48,Try.ntmps48
 go_wp2_with (first|((with_reducible refine gate_callee (f:=65) rfl ?_);refine goesL_ (some 4) rfl rfl Try.func65 krT_ rfl #[.int .i64 a0] rfl agT_ ?_;(with_reducible refine (impl_isSize.calls a0 true _ A2.out).mono ?_);rintro e w' ⟨rfl,⟨nd,rfl⟩⟩;refine ⟨_,rfl,?_⟩))
 go_ret
 exact ⟨by first|rfl|(simp;done)|(simp only [← hji5]<;>(first|rfl|simp))|(simp [*];done),dT_⟩
/-! ### impl_setsOf: function 35 -/
-- needs impl.FullSet
/-- All sets of n elements of which p holds, as Go's loop gathers them (k: its rounds). -/
def setsL (n:Int) (p:Int→Option Bool):Nat→List Int→Int→Option (List Int)
 | 0,_,_=>none
 | k+1,out,s=>(impl_FullSet.f n).bind fun t=>(if s≤t then ((p s).bind fun b=>(if b=true then (if out.length<17592186044416 then (setsL n p k (out++[s]) (wrap64 (s+1))) else (none)) else (setsL n p k out (wrap64 (s+1))))) else (some out))
theorem setsL_mono {p q:Int→Option Bool} (n:Int) (h:∀ x,LeO (p x) (q x)):∀ k out s,LeO (setsL n p k out s) (setsL n q (k+1) out s)
 | 0,_,_=>fun r hr=>by simp [setsL] at hr
 | k+1,out,s=>by
  unfold setsL
  refine LeO.bind (LeO.refl _) (fun t=>?_)
  refine LeO.ite ?_ (LeO.refl _)
  refine LeO.bind (h _) (fun b=>?_)
  exact LeO.ite (LeO.ite (setsL_mono n h k _ _) (LeO.refl _)) (setsL_mono n h k _ _)
/-- A function value that takes a whole number, answers as p does, and leaves what was there alone. -/
def Makes1 (g:Nat) (lb:Array Value) (w:World) (p:Int→Option Bool):Prop :=
 ∀ (x:Int) (b:Bool) (W:World),Below w.heap.size w W→p x=some b→Calls Try.prog g (#[.int .i64 x]++lb) W fun e w'=>e=.returned (.bool b)∧Below W.heap.size W w'
theorem s_enters {f : FuncId} {fn : Func} {c : Code} (hf : Try.prog.funcs[f]? = some fn) (hname : (fn.name == "runtime.NumGoroutine") = false) (hb : fn.body = some c) : ∀ args w, (callFunc f args).run Try.prog w = .ok (.enter f args) w := by
 intro args w
 have h1 : fn.name ≠ "runtime.NumGoroutine" := by simpa using hname
 simp [callFunc,hf,h1,hb,mark]
set_option maxHeartbeats 8000000 in
set_option maxRecDepth 100000 in
theorem setsOf_calls (g:Nat) (lb:Array Value) (eg:∀ args w,(callFunc g args).run Try.prog w=.ok (.enter g args) w) (n:Int) (p:Int→Option Bool) (k:Nat) (r:List Int) (w:World) (hp:Makes1 g lb w p) (h:setsL n p k [] 0=some r) :
    Calls Try.prog 35 #[.int .i64 n,.func (.func g) #[] lb] w fun e w'=>∃ v0_:Value,e=.returned (v0_)∧Kd.R (Kd.int .i64) 3 w' w.heap.size (fun _=>True) v0_ r∧Below w.heap.size w w':=by
 have HB:=Aside0.mk (Below.refl w.heap.size w)
 have HP:=Aside0.mk hp
 clear hp
 have H':=Aside0.mk h
 clear h
 go_enter Try.func35,Try.ntmps35
 go_wp2_with (first|((with_reducible refine gate_dst (N:=7) rfl ?_);refine Kd.R_lit (Kd.int .i64) _ 3 ?hg (N:=7) ?hd (xs:=([]:List Int)) (inner:=[]) (ok:=fun _=>True) (okp:=fun _=>True) ?hr ?hp (fun _ hk=>hk) trivial (Below.refl _ _) (Nat.le_refl _) (by simp) ?_;(case hd=>rfl);(case hg=>rfl);(case hr=>exact hrT_);(case hp=>exact (Reps.none _ _));intro v141 w2 ho3 hb hg_ hnew_;clear hg_ hnew_;have HO142:=Aside0.mk (Kd.R_lower ho3 (below_size (h_HB HB.out)));replace HB:=Aside0.mk (below_step (h_HB HB.out) hb);clear hb ho3))
 go_loopg [5,6] k (fun kq v5 v6 w'=>∃ (x5_1:List Int) (x6_1:Int),v6=.int .i64 x6_1∧Aside0 (setsL n p kq x5_1 x6_1=some r)∧Aside0 (kq≤k)∧Aside0 (Kd.R (Kd.int .i64) 3 w' w.heap.size (fun _=>True) v5 x5_1)∧Aside0 (Below w.heap.size w w'))
 case atStart=>exact ⟨[],0,rfl,H',⟨Nat.le_refl _⟩,⟨kRC_ HO142.out⟩,⟨h_HB HB.out⟩⟩
 case round =>
  clear H'
  obtain ⟨x5_1,x6_1,rfl,HA,HK1,HO_5,HB⟩:=hrel
  cases gk with
  | zero=>exact absurd HA.out (by simp [setsL])
  | succ k1 =>
   have H:=HA.out
   clear HA
   simp only [setsL] at H
   replace H:=Option.bind_eq_some_iff.mp H
   obtain ⟨t,A50,H⟩:=H
   have A5:=Aside0.mk A50
   clear A50
   rcases gsb_ H with ⟨c4b0,H⟩|⟨c4b0,H⟩
   ·replace H:=Option.bind_eq_some_iff.mp H
    obtain ⟨b,hb,H⟩:=H
    have HC:=Aside0.mk (fun W hW=>HP.out x6_1 b W hW hb)
    clear hb
    cases b with
    | true =>
     rw [if_pos rfl] at H
     by_cases c7:x5_1.length<17592186044416
     ·rw [if_pos c7] at H
      have LMc7:=Aside0.mk c7
      clear c7
      have H':=Aside0.mk H
      clear H
      go_wp2_with (first|(go_at_call 48;(with_reducible refine (impl_FullSet.calls n t _ A5.out).mono ?_);rintro e w' ⟨rfl,⟨nd,rfl⟩⟩)|((with_reducible refine (HC.out _ ?hW).mono ?_);(case hW=>exact h_HB HB.out);rintro e w9 ⟨rfl,hb⟩;have n0_:=Aside0.mk (Kd.R_below (kRC_ HO_5.out) hb);have n1_:=Aside0.mk (below_step (h_HB HB.out) hb);clear HO_5;clear HB;have HO_5:=n0_;have HB:=n1_;clear n0_ n1_ hb)|((with_reducible refine gate_builtin (b:=.append) (xs:=#[.tmp 17,.tmp 19]) rfl ?_);at_builtin;refine Kd.R_append (Kd.int .i64) (w0:=w) w.heap.size rfl (.tmp 17) (.tmp 19) 24 3 (.int .i64 0) 8 rfl Try.underlying24 info3 rfl (by decide) (by omega) u5 x5_1 x6_1 [.int .i64 x6_1] (fun _=>True) (fun _=>False) rfl rfl ?aP (fun _ hk=>hk.elim) ?aF ?aO ?aB ?aS ?aL ?_;(case aP=>exact rfl);(case aB=>exact (h_HB HB.out));(case aF=>exact (fun _ _=>trivial));(case aO=>exact (kRC_ HO_5.out));(case aS=>exact (below_size (h_HB HB.out)));(case aL=>have:=LMc7.out;omega);intro v145 w8 ho hb hg hat;replace HB:=Aside0.mk (hb);have HO146:=Aside0.mk (ho);clear HO_5;clear ho hb hg hat))
      go_roundg k1
      case measure=>have:=HK1.out;omega
      case rel=>exact ⟨(x5_1++[x6_1]),(wrap64 (x6_1+1)),(by first|rfl|(simp;done)),H',⟨by have:=HK1.out;omega⟩,⟨kRC_ HO146.out⟩,⟨h_HB HB.out⟩⟩
     ·rw [if_neg c7] at H
      exact absurd H (by simp)
    | false =>
     rw [if_neg (by decide)] at H
     have H':=Aside0.mk H
     clear H
     go_wp2_with (first|(go_at_call 48;(with_reducible refine (impl_FullSet.calls n t _ A5.out).mono ?_);rintro e w' ⟨rfl,⟨nd,rfl⟩⟩)|((with_reducible refine (HC.out _ ?hW).mono ?_);(case hW=>exact h_HB HB.out);rintro e w9 ⟨rfl,hb⟩;have n0_:=Aside0.mk (Kd.R_below (kRC_ HO_5.out) hb);have n1_:=Aside0.mk (below_step (h_HB HB.out) hb);clear HO_5;clear HB;have HO_5:=n0_;have HB:=n1_;clear n0_ n1_ hb))
     go_roundg k1
     case measure=>have:=HK1.out;omega
     case rel=>exact ⟨x5_1,(wrap64 (x6_1+1)),(by first|rfl|(simp;done)),H',⟨by have:=HK1.out;omega⟩,⟨kRC_ HO_5.out⟩,⟨h_HB HB.out⟩⟩
   ·obtain rfl:=Option.some.inj H
    go_wp2_with (first|(go_at_call 48;(with_reducible refine (impl_FullSet.calls n t _ A5.out).mono ?_);rintro e w' ⟨rfl,⟨nd,rfl⟩⟩))
    go_ret
    exact ⟨_,by first|rfl|(simp;done),kRC_ HO_5.out,h_HB HB.out⟩
/-! ### impl_IsSubset: function 37 -/
def impl_IsSubset.f (a0:Int) (a1:Int):Option (Bool):=(impl_isAny.f a0).bind fun t616=>(if t616=true then ((impl_isAny.f a1).bind fun t617=>(if t617=true then (some ((Go.bits .andNot .i64 a0 a1)==0)) else (some false))) else (some false))
set_option maxHeartbeats 8000000 in
set_option maxRecDepth 100000 in
theorem impl_IsSubset.calls (a0:Int) (a1:Int) (r:Bool) (w:World) (h:impl_IsSubset.f a0 a1=some r) :
    Calls Try.prog 37 #[.int .i64 a0,.int .i64 a1] w fun e w'=>e=.returned (.bool r)∧Drawn0 w w':=by
 unfold impl_IsSubset.f at h
 have H:=h
 clear h
 replace H:=bnd_ H;obtain ⟨t616,A3,H⟩:=H
 by_cases c4:t616=true
 ·subst c4
  replace H:=bT_ H
  replace H:=bnd_ H;obtain ⟨t617,A5,H⟩:=H
  by_cases c6:t617=true
  ·subst c6
   replace H:=bT_ H
   obtain rfl:=Option.some.inj H
   go_enter Try.func37,Try.ntmps37
   go_wp2_with (first|((with_reducible refine gate_callee (f:=59) rfl ?_);refine goesL_ (some 6) rfl rfl Try.func59 krT_ rfl #[.int .i64 a0] rfl agT_ ?_;(with_reducible refine (impl_isAny.calls a0 true _ A3.out).mono ?_);rintro e w' ⟨rfl,⟨nd,rfl⟩⟩;refine ⟨_,rfl,?_⟩)|(go_at_call 59;(with_reducible refine (impl_isAny.calls a1 true _ A5.out).mono ?_);rintro e w' ⟨rfl,⟨nd,rfl⟩⟩))
   go_ret
   exact ⟨sT_,dT_⟩
  replace c6:=Bool.eq_false_iff.mpr c6
  subst c6
  replace H:=bF_ H
  obtain rfl:=Option.some.inj H
  go_enter Try.func37,Try.ntmps37
  go_wp2_with (first|((with_reducible refine gate_callee (f:=59) rfl ?_);refine goesL_ (some 6) rfl rfl Try.func59 krT_ rfl #[.int .i64 a0] rfl agT_ ?_;(with_reducible refine (impl_isAny.calls a0 true _ A3.out).mono ?_);rintro e w' ⟨rfl,⟨nd,rfl⟩⟩;refine ⟨_,rfl,?_⟩)|(go_at_call 59;(with_reducible refine (impl_isAny.calls a1 false _ A5.out).mono ?_);rintro e w' ⟨rfl,⟨nd,rfl⟩⟩))
  go_ret
  exact ⟨sT_,dT_⟩
 ·replace c4:=Bool.eq_false_iff.mpr c4
  subst c4
  replace H:=bF_ H
  obtain rfl:=Option.some.inj H
  go_enter Try.func37,Try.ntmps37
  go_wp2_with (first|((with_reducible refine gate_callee (f:=59) rfl ?_);refine goesL_ (some 6) rfl rfl Try.func59 krT_ rfl #[.int .i64 a0] rfl agT_ ?_;(with_reducible refine (impl_isAny.calls a0 false _ A3.out).mono ?_);rintro e w' ⟨rfl,⟨nd,rfl⟩⟩;refine ⟨_,rfl,?_⟩))
  go_ret
  exact ⟨sT_,dT_⟩
/-! ### impl_independent: function 39 -/
def impl_independent.l0:Nat→Int→List Int→Int→Int→Option (Bool)
 | 0,_,_,_,_=>none
 | k+1,x1,x8,x9,x10=>if x10<x9 then (if 0≤x10 then (if x10<(x8.length:Int) then ((impl_IsSubset.f x1 (rd x8 x10)).bind fun t620=>(if t620=true then (some true) else (impl_independent.l0 k x1 x8 x9 (wrap64 (x10+1))))) else (none)) else (none)) else (some false)
def impl_independent.f (k:Nat) (a0_0:Int) (l0_1:List Int) (a1:Int):Option (Bool):=impl_independent.l0 k a1 l0_1 (l0_1.length:Int) 0
set_option maxHeartbeats 8000000 in
set_option maxRecDepth 100000 in
theorem impl_independent.calls (k:Nat) (a0_0:Int) (A0_1:Option Addr) (c0_1:Nat) (l0_1:List Int) (a1:Int) (r:Bool) (w:World) (hr0_1:Kd.C (Kd.int .i64) w A0_1 l0_1.length l0_1) (hc0_1:l0_1.length≤c0_1) (h:impl_independent.f k a0_0 l0_1 a1=some r) :
    Calls Try.prog 39 #[.agg #[.int .i64 a0_0,.slice A0_1 l0_1.length c0_1],.int .i64 a1] w fun e w'=>e=.returned (.bool r)∧Below w.heap.size w w':=by
 have hu26:=Try.underlying26
 have HR0_1:=Aside0.mk hr0_1
 have HC0_1:=Aside0.mk hc0_1
 clear hr0_1 hc0_1
 have HB:=Aside0.mk (Below.refl w.heap.size w)
 have H:(impl_independent.l0 k a1 l0_1 (l0_1.length:Int) 0)=some r:=h
 clear h
 have H':=Aside0.mk H
 clear H
 go_enter Try.func39,Try.ntmps39
 go_wp2_with (first|((with_reducible refine gate_dst (N:=2) rfl ?_);refine bx_ (N:=2) (cs:=#[.int .i64 a0_0,.slice A0_1 l0_1.length c0_1]) (t:=26) ?_;intro gb618 hg w3 hbox hb;have BK618:=Aside0.mk (hbox);have GW618:=Aside0.mk (gw_ hg (h_HB HB.out));have GE618:=Aside0.mk (gw_ hg (h_HB HB.out));replace HB:=Aside0.mk (below_step (h_HB HB.out) hb);clear hb hbox hg;obtain ⟨hcz4_0,hcz4_1,hfz4_0,hfz4_1⟩:=bz2_ BK618.out))
 go_loopg [10] k (fun kq v10 w'=>∃ (x10_1:Int),v10=.int .i64 x10_1∧Aside0 (impl_independent.l0 kq a1 l0_1 (l0_1.length:Int) x10_1=some r)∧Aside0 (kq≤k)∧Aside0 (w'.heap[gb618]?=some (.cells #[.int .i64 a0_0,(.slice A0_1 l0_1.length c0_1)] 26 (0,0)))∧Aside0 (Below w.heap.size w w'))
 case atStart=>exact ⟨(0),sT_,H',⟨Nat.le_refl _⟩,⟨bkC_ BK618.out⟩,⟨h_HB HB.out⟩⟩
 case round =>
  clear H'
  try clear p2
  try clear c3
  try clear hcz4_0
  try clear hcz4_1
  try clear hfz4_0
  try clear hfz4_1
  obtain ⟨x10_1,rfl,HA,HK1,BK618,HB⟩:=hrel
  cases gk with
  | zero=>exact absurd HA.out (by simp [impl_independent.l0])
  | succ k1 =>
   have H:=HA.out
   clear HA
   simp only [impl_independent.l0] at H
   rcases gsb_ H with ⟨c5b0,H⟩|⟨c5b0,H⟩
   ·replace H:=gsm_ H;obtain ⟨c6b0,H⟩:=H
    replace H:=gsm_ H;obtain ⟨c7b0,H⟩:=H
    replace H:=bnd_ H;obtain ⟨t620,A8,H⟩:=H
    by_cases c9:t620=true
    ·subst c9
     replace H:=bT_ H
     obtain rfl:=Option.some.inj H
     obtain ⟨ad619,e619,hx619_0,p619,q619⟩:=aiI_ HR0_1.out x10_1
     cases e619
     replace hx619_0:=(HB.out.cell (World.block_lt_of_cell? w _ hx619_0)).trans hx619_0
     go_wp2_with (first|((with_reducible refine gate_callee (f:=37) rfl ?_);refine goesL_ (some 16) rfl rfl Try.func37 krT_ rfl #[.int .i64 a1,.int .i64 (rd l0_1 x10_1)] rfl agT_ ?_;(with_reducible refine (impl_IsSubset.calls a1 (rd l0_1 x10_1) true _ A8.out).mono ?_);rintro e w' ⟨rfl,⟨nd,rfl⟩⟩;refine ⟨_,rfl,?_⟩))
     go_ret
     exact ⟨eT_,h_HB HB.out⟩
    ·replace c9:=Bool.eq_false_iff.mpr c9
     subst c9
     replace H:=bF_ H
     have H':=Aside0.mk H
     clear H
     obtain ⟨ad619,e619,hx619_0,p619,q619⟩:=aiI_ HR0_1.out x10_1
     cases e619
     replace hx619_0:=(HB.out.cell (World.block_lt_of_cell? w _ hx619_0)).trans hx619_0
     go_wp2_with (first|((with_reducible refine gate_callee (f:=37) rfl ?_);refine goesL_ (some 16) rfl rfl Try.func37 krT_ rfl #[.int .i64 a1,.int .i64 (rd l0_1 x10_1)] rfl agT_ ?_;(with_reducible refine (impl_IsSubset.calls a1 (rd l0_1 x10_1) false _ A8.out).mono ?_);rintro e w' ⟨rfl,⟨nd,rfl⟩⟩;refine ⟨_,rfl,?_⟩))
     go_roundg k1
     case measure=>have:=HK1.out;omega
     case rel=>exact ⟨(wrap64 (x10_1+1)),sT_,H',⟨by have:=HK1.out;omega⟩,⟨bkC_ BK618.out⟩,⟨h_HB HB.out⟩⟩
   ·obtain rfl:=Option.some.inj H
    go_wp2
    go_ret
    exact ⟨eT_,h_HB HB.out⟩
end Go.Proofs.Ytekegbacnagbcaa.P
