-- written by gprint (a program of this session's, round the kit's print), out of the translation and hand-written texts
import Derived.Test.YtekegbacnagbcaaPVFnRanksx0
import Derived.Test.YtekegbacnagbcaaPVFnRanksx3
import Derived.Test.YtekegbacnagbcaaPVFnRanksx7
import Derived.Test.YtekegbacnagbcaaPVFnRanksx10
import Derived.Test.YtekegbacnagbcaaPVFnRanksx13
import Derived.Test.YtekegbacnagbcaaPVFnRanksx14
namespace Go.Proofs.Ytekegbacnagbcaa.P
open Go.RowKit Go.Proofs.YtekegbacnagbcaaW.PrintWords Go.Proofs.YtekegbacnagbcaaW.PrintLast Go.Proofs.YtekegbacnagbcaaW.PrintMore
attribute [local go_sem] max2_int min2_int max_two min_two max_three min_three max_four min_four   -- for this text's walks alone
set_option linter.unusedVariables false
set_option linter.unusedSimpArgs false
/-! ### impl_BasesOf_1: function 36 -/
-- needs impl.independent
-- needs impl.IsSubset
-- needs impl.CountOf
-- needs impl.setsOf
def impl_BasesOf_1.f (k:Nat) (s r m0:Int) (m1:List Int) (x:Int):Option Bool:=(impl_IsSubset.f x s).bind fun t1=>if t1=true then ((impl_CountOf.f x).bind fun t2=>if t2=r then impl_independent.f k m0 m1 x else some false) else some false
def impl_BasesOf_1.T1:Bool × List (List Nat × List Nat):=(true,[([],[]),([],[]),([0,1],[0,1]),([2,2],[2]),([3],[3]),([4,3,3],[3,4]),([3],[3]),([5,6,3],[3,5,6]),([3,7],[3,7]),([8,5],[8]),([9],[9]),([9],[9]),([10,11,9,9],[9,10,11]),([9,12],[9,12]),([13,12,0,1,2,3,4,5,6,7,8,9,10,11,12,13],[13])])
def impl_BasesOf_1.B1:List Nat:=[0,0,3,7,15,31,15,127,255,511,1023,1023,4095,8191,16383]
theorem impl_BasesOf_1.tab1:rtab .any (opsOf Try.f36 1)=impl_BasesOf_1.T1:=by kernel_rfl
theorem impl_BasesOf_1.bits1:waitsOk impl_BasesOf_1.T1.2 impl_BasesOf_1.B1=true:=by kernel_rfl
set_option maxHeartbeats 4000000 in
set_option maxRecDepth 100000 in
theorem impl_BasesOf_1.makes (k:Nat) (s r m0:Int) (A1:Option Addr) (c1:Nat) (m1:List Int) (w:World) (hr1:Kd.C (Kd.int .i64) w A1 m1.length m1) (hc1:m1.length≤c1) (g1 g2 g3:Nat)
  (b1:w.heap[g1]?=some (.cells #[.int .i64 s] 3 (0,0))) (b2:w.heap[g2]?=some (.cells #[.int .i64 r] 3 (0,0))) (b3:w.heap[g3]?=some (.cells #[.int .i64 m0,.slice A1 m1.length c1] 26 (0,0))) :
  Makes1 36 #[.pointer (some ⟨g1,0,none⟩),.pointer (some ⟨g2,0,none⟩),.pointer (some ⟨g3,0,none⟩)] w (impl_BasesOf_1.f k s r m0 m1):=by
 intro x b W hW h
 have hu:=Try.underlying26
 have q1:W.cell? ⟨g1,0,none⟩=some (.int .i64 s):=(blk_cell (blk_below b1 hW) 0).trans rfl
 have q2:W.cell? ⟨g2,0,none⟩=some (.int .i64 r):=(blk_cell (blk_below b2 hW) 0).trans rfl
 have q3:W.cell? ⟨g3,0,none⟩=some (.int .i64 m0):=(blk_cell (blk_below b3 hW) 0).trans rfl
 have q4:W.cell? ⟨g3,1,none⟩=some (.slice A1 m1.length c1):=(blk_cell (blk_below b3 hW) 1).trans rfl
 obtain ⟨t1,h1,h⟩:=Option.bind_eq_some_iff.mp h
 have H1:=Aside0.mk h1
 have HR:=Aside0.mk (Kd.C_below hr1 hW)
 have HC:=Aside0.mk hc1
 clear h1 b1 b2 b3 hr1 hc1 hW
 show Calls Try.prog 36 #[.int .i64 x,.pointer (some ⟨g1,0,none⟩),.pointer (some ⟨g2,0,none⟩),.pointer (some ⟨g3,0,none⟩)] W _
 cases t1 with
 | false =>
  rw [if_neg (by decide)] at h
  obtain rfl:=Option.some.inj h
  clear h
  go_enter Try.func36,Try.ntmps36
  go_wp2
  replace q1:W.drew.cell? ⟨g1,0,none⟩=_:=q1
  replace q2:W.drew.cell? ⟨g2,0,none⟩=_:=q2
  replace q3:W.drew.cell? ⟨g3,0,none⟩=_:=q3
  replace q4:W.drew.cell? ⟨g3,1,none⟩=_:=q4
  have n0_:=Aside0.mk (Kd.C_drew HR.out)
  have HB:=Aside0.mk (below_drew1 (Below.refl W.heap.size W))
  clear HR
  have HR:=n0_
  clear n0_
  refine start_ (n:=15) (S:=fun w'=>w'.cell? ⟨g1,0,none⟩=some (.int .i64 s)∧w'.cell? ⟨g2,0,none⟩=some (.int .i64 r)∧w'.cell? ⟨g3,0,none⟩=some (.int .i64 m0)∧w'.cell? ⟨g3,1,none⟩=some (.slice A1 m1.length c1)) (ds:=[]) #[F_,F_,F_,F_,F_,F_,F_,F_,F_,F_,F_,F_,F_,F_,F_] krT_ rfl rfl ⟨q1,q2,q3,q4⟩ (fun hHeld=>?_);refine with_tabW impl_BasesOf_1.tab1 impl_BasesOf_1.bits1 (fun HT_ HW_=>?_)
  generalize W.drew=w9 at q1 q2 q3 q4 HR HB hHeld ⊢
  refine pu_ 0 (some 6) (bm_ 15 1) rfl rfl HT_.out ?_
  refine take_ (i:=1) (N:=some 7) (v:=?_) (a':=?_) (bm_ 15 3) rfl rfl (take_ofW HT_.out HW_.out krT_) (fun _ _ _ h=>h) (Or.inl ⟨by rfl,?_⟩) hHeld ?_ ?_
  rotate_left
  ·rintro w' ⟨s0,s1,s2,s3⟩
   go_simp
   with_reducible rfl
  rotate_left;exact apT_
  refine one_ (i:=2) (N:=some 8) (bm_ 15 7) rfl rfl (one_of HT_.out krT_) (by decide) (fun K hK=>?_)
  refine goes_ Try.func37 krT_ rfl #[.int .i64 x,.int .i64 s] (by rfl) rfl rfl (by (try simp only [List.map_toArray,List.map_cons,List.map_nil]);first|done|rfl) ?_
  with_reducible refine (impl_IsSubset.calls x s false _ H1.out).mono ?_
  rintro e w' ⟨rfl,⟨nd,rfl⟩⟩
  refine ⟨_,rfl,?_⟩
  refine hK.out _ _ ⟨q1,q2,q3,q4⟩ (fun hHeld=>?_)
  clear hK K
  refine norm_ (a':=?_) ?_ ?_
  rotate_left
  ·show Act.put _ (some 8) _=_
   simp only [Act.put,List.setIfInBounds_toArray,List.set_cons_zero,List.set_cons_succ,i64_w,i32_w]
   rfl
  refine pu_ 3 (some 9) (bm_ 15 15) rfl rfl HT_.out ?_
  refine pure_ (i:=4) (N:=some 10) (v:=undef) (a':=?_) (bm_ 15 31) rfl rfl (any_of HT_.out krT_) (fun _ _ _ h=>h) (Or.inr ⟨by rfl,rfl⟩) ?_ ?_
  rotate_left;exact apT_
  refine pure_ (i:=5) (N:=some 11) (v:=undef) (a':=?_) (bm_ 15 63) rfl rfl (any_of HT_.out krT_) (fun _ _ _ h=>h) (Or.inr ⟨by rfl,rfl⟩) ?_ ?_
  rotate_left;exact apT_
  refine pure_ (i:=6) (N:=some 12) (v:=undef) (a':=?_) (bm_ 15 127) rfl rfl (any_of HT_.out krT_) (fun _ _ _ h=>h) (Or.inr ⟨by rfl,rfl⟩) ?_ ?_
  rotate_left;exact apT_
  refine pure_ (i:=7) (N:=some 13) (v:=undef) (a':=?_) (bm_ 15 255) rfl rfl (any_of HT_.out krT_) (fun _ _ _ h=>h) (Or.inr ⟨by rfl,rfl⟩) ?_ ?_
  rotate_left;exact apT_
  refine pu_ 8 (some 14) (bm_ 15 511) rfl rfl HT_.out ?_
  refine pu_ 9 (some 15) (bm_ 15 1023) rfl rfl HT_.out ?_
  refine pure_ (i:=10) (N:=some 16) (v:=undef) (a':=?_) (bm_ 15 2047) rfl rfl (any_of HT_.out krT_) (fun _ _ _ h=>h) (Or.inr ⟨by rfl,rfl⟩) ?_ ?_
  rotate_left;exact apT_
  refine pure_ (i:=11) (N:=some 17) (v:=undef) (a':=?_) (bm_ 15 4095) rfl rfl (any_of HT_.out krT_) (fun _ _ _ h=>h) (Or.inr ⟨by rfl,rfl⟩) ?_ ?_
  rotate_left;exact apT_
  refine pure_ (i:=12) (N:=some 18) (v:=undef) (a':=?_) (bm_ 15 8191) rfl rfl (any_of HT_.out krT_) (fun _ _ _ h=>h) (Or.inr ⟨by rfl,rfl⟩) ?_ ?_
  rotate_left;exact apT_
  refine pu_ 13 (some 19) (bm_ 15 16383) rfl rfl HT_.out ?_
  refine pu_ 14 (some 5) (bm_ 15 32767) rfl rfl HT_.out ?_
  refine done_ (done_of HT_.out krT_) ?_
  try go_wp2
  go_ret
  exact ⟨by first|rfl|(simp;done),h_HB HB.out⟩
 | true =>
  rw [if_pos rfl] at h
  obtain ⟨t2,h2,h⟩:=Option.bind_eq_some_iff.mp h
  have H2:=Aside0.mk h2
  clear h2
  by_cases hr:t2=r
  ·rw [if_pos hr] at h
   have hd2:(t2==r)=true:=beq_iff_eq.mpr hr
   have H:=Aside0.mk h
   clear h hr
   go_enter Try.func36,Try.ntmps36
   go_wp2
   replace q1:W.drew.cell? ⟨g1,0,none⟩=_:=q1
   replace q2:W.drew.cell? ⟨g2,0,none⟩=_:=q2
   replace q3:W.drew.cell? ⟨g3,0,none⟩=_:=q3
   replace q4:W.drew.cell? ⟨g3,1,none⟩=_:=q4
   have n0_:=Aside0.mk (Kd.C_drew HR.out)
   have HB:=Aside0.mk (below_drew1 (Below.refl W.heap.size W))
   clear HR
   have HR:=n0_
   clear n0_
   refine start_ (n:=15) (S:=fun w'=>w'.cell? ⟨g1,0,none⟩=some (.int .i64 s)∧w'.cell? ⟨g2,0,none⟩=some (.int .i64 r)∧w'.cell? ⟨g3,0,none⟩=some (.int .i64 m0)∧w'.cell? ⟨g3,1,none⟩=some (.slice A1 m1.length c1)) (ds:=[]) #[F_,F_,F_,F_,F_,F_,F_,F_,F_,F_,F_,F_,F_,F_,F_] krT_ rfl rfl ⟨q1,q2,q3,q4⟩ (fun hHeld=>?_);refine with_tabW impl_BasesOf_1.tab1 impl_BasesOf_1.bits1 (fun HT_ HW_=>?_)
   generalize W.drew=w9 at q1 q2 q3 q4 HR HB hHeld ⊢
   refine pu_ 0 (some 6) (bm_ 15 1) rfl rfl HT_.out ?_
   refine take_ (i:=1) (N:=some 7) (v:=?_) (a':=?_) (bm_ 15 3) rfl rfl (take_ofW HT_.out HW_.out krT_) (fun _ _ _ h=>h) (Or.inl ⟨by rfl,?_⟩) hHeld ?_ ?_
   rotate_left
   ·rintro w' ⟨s0,s1,s2,s3⟩
    go_simp
    with_reducible rfl
   rotate_left;exact apT_
   refine one_ (i:=2) (N:=some 8) (bm_ 15 7) rfl rfl (one_of HT_.out krT_) (by decide) (fun K hK=>?_)
   refine goes_ Try.func37 krT_ rfl #[.int .i64 x,.int .i64 s] (by rfl) rfl rfl (by (try simp only [List.map_toArray,List.map_cons,List.map_nil]);first|done|rfl) ?_
   with_reducible refine (impl_IsSubset.calls x s true _ H1.out).mono ?_
   rintro e w' ⟨rfl,⟨nd,rfl⟩⟩
   refine ⟨_,rfl,?_⟩
   refine hK.out _ _ ⟨q1,q2,q3,q4⟩ (fun hHeld=>?_)
   clear hK K
   refine norm_ (a':=?_) ?_ ?_
   rotate_left
   ·show Act.put _ (some 8) _=_
    simp only [Act.put,List.setIfInBounds_toArray,List.set_cons_zero,List.set_cons_succ,i64_w,i32_w]
    rfl
   refine pu_ 3 (some 9) (bm_ 15 15) rfl rfl HT_.out ?_
   refine pu_ 4 (some 10) (bm_ 15 31) rfl rfl HT_.out ?_
   refine take_ (i:=6) (N:=some 12) (v:=?_) (a':=?_) (bm_ 15 95) rfl rfl (take_ofW HT_.out HW_.out krT_) (fun _ _ _ h=>h) (Or.inl ⟨by rfl,?_⟩) hHeld ?_ ?_
   rotate_left
   ·rintro w' ⟨s0,s1,s2,s3⟩
    go_simp
    with_reducible rfl
   rotate_left;exact apT_
   refine one_ (i:=5) (N:=some 11) (bm_ 15 127) rfl rfl (one_of HT_.out krT_) (by decide) (fun K hK=>?_)
   refine goes_ Try.func38 krT_ rfl #[.int .i64 x] (by rfl) rfl rfl (by (try simp only [List.map_toArray,List.map_cons,List.map_nil]);first|done|rfl) ?_
   with_reducible refine (impl_CountOf.calls x t2 _ H2.out).mono ?_
   rintro e w' ⟨rfl,⟨nd,rfl⟩⟩
   refine ⟨_,rfl,?_⟩
   refine hK.out _ _ ⟨q1,q2,q3,q4⟩ (fun hHeld=>?_)
   clear hK K
   refine norm_ (a':=?_) ?_ ?_
   rotate_left
   ·show Act.put _ (some 11) _=_
    simp only [Act.put,List.setIfInBounds_toArray,List.set_cons_zero,List.set_cons_succ,i64_w,i32_w]
    rfl
   refine pure_ (i:=7) (N:=some 13) (v:=.bool true) (a':=?_) (bm_ 15 255) rfl rfl (any_of HT_.out krT_) (fun _ _ _ h=>h) (Or.inl ⟨by rfl,?_⟩) ?_ ?_
   ·intro w'
    go_simp
    try first|done|(with_reducible rfl)|rw [hd2]
   rotate_left;exact apT_
   refine pu_ 8 (some 14) (bm_ 15 511) rfl rfl HT_.out ?_
   refine pu_ 9 (some 15) (bm_ 15 1023) rfl rfl HT_.out ?_
   refine take_ (i:=10) (N:=some 16) (v:=?_) (a':=?_) (bm_ 15 2047) rfl rfl (take_ofW HT_.out HW_.out krT_) (fun _ _ _ h=>h) (Or.inl ⟨by rfl,?_⟩) hHeld ?_ ?_
   rotate_left
   ·rintro w' ⟨s0,s1,s2,s3⟩
    go_simp
    with_reducible rfl
   rotate_left;exact apT_
   refine pu_ 11 (some 17) (bm_ 15 4095) rfl rfl HT_.out ?_
   refine one_ (i:=12) (N:=some 18) (bm_ 15 8191) rfl rfl (one_of HT_.out krT_) (by decide) (fun K hK=>?_)
   refine goes_ Try.func39 krT_ rfl #[.agg #[.int .i64 m0,.slice A1 m1.length c1],.int .i64 x] (by rfl) rfl rfl (by (try simp only [List.map_toArray,List.map_cons,List.map_nil]);first|done|rfl) ?_
   with_reducible refine (impl_independent.calls k m0 _ _ m1 x b _ ?side1 ?side2 H.out).mono ?_
   (case side1=>repeat (first|exact HR.out|(with_reducible refine Kd.C_alloc ?_ _)|(with_reducible refine Kd.C_drewN ?_ _)|(with_reducible refine Kd.C_drew ?_)))
   (case side2=>exact HC.out)
   rintro e w10 ⟨rfl,hb⟩
   refine ⟨_,rfl,?_⟩
   replace q1:w10.cell? ⟨g1,0,none⟩=_:=(hb.cell (World.block_lt_of_cell? _ _ q1)).trans q1
   replace q2:w10.cell? ⟨g2,0,none⟩=_:=(hb.cell (World.block_lt_of_cell? _ _ q2)).trans q2
   replace q3:w10.cell? ⟨g3,0,none⟩=_:=(hb.cell (World.block_lt_of_cell? _ _ q3)).trans q3
   replace q4:w10.cell? ⟨g3,1,none⟩=_:=(hb.cell (World.block_lt_of_cell? _ _ q4)).trans q4
   have n1_:=Aside0.mk (below_step (h_HB HB.out) hb)
   clear HB hb
   have HB:=n1_
   clear n1_
   refine hK.out _ _ ⟨q1,q2,q3,q4⟩ (fun hHeld=>?_)
   clear hK K
   refine norm_ (a':=?_) ?_ ?_
   rotate_left
   ·show Act.put _ (some 18) _=_
    simp only [Act.put,List.setIfInBounds_toArray,List.set_cons_zero,List.set_cons_succ,i64_w,i32_w]
    rfl
   refine pu_ 13 (some 19) (bm_ 15 16383) rfl rfl HT_.out ?_
   refine pu_ 14 (some 5) (bm_ 15 32767) rfl rfl HT_.out ?_
   refine done_ (done_of HT_.out krT_) ?_
   try go_wp2
   go_ret
   exact ⟨by first|rfl|(simp;done),h_HB HB.out⟩
  ·rw [if_neg hr] at h
   obtain rfl:=Option.some.inj h
   have hd2:(t2==r)=false:=beq_eq_false_iff_ne.mpr hr
   clear h hr
   go_enter Try.func36,Try.ntmps36
   go_wp2
   replace q1:W.drew.cell? ⟨g1,0,none⟩=_:=q1
   replace q2:W.drew.cell? ⟨g2,0,none⟩=_:=q2
   replace q3:W.drew.cell? ⟨g3,0,none⟩=_:=q3
   replace q4:W.drew.cell? ⟨g3,1,none⟩=_:=q4
   have n0_:=Aside0.mk (Kd.C_drew HR.out)
   have HB:=Aside0.mk (below_drew1 (Below.refl W.heap.size W))
   clear HR
   have HR:=n0_
   clear n0_
   refine start_ (n:=15) (S:=fun w'=>w'.cell? ⟨g1,0,none⟩=some (.int .i64 s)∧w'.cell? ⟨g2,0,none⟩=some (.int .i64 r)∧w'.cell? ⟨g3,0,none⟩=some (.int .i64 m0)∧w'.cell? ⟨g3,1,none⟩=some (.slice A1 m1.length c1)) (ds:=[]) #[F_,F_,F_,F_,F_,F_,F_,F_,F_,F_,F_,F_,F_,F_,F_] krT_ rfl rfl ⟨q1,q2,q3,q4⟩ (fun hHeld=>?_);refine with_tabW impl_BasesOf_1.tab1 impl_BasesOf_1.bits1 (fun HT_ HW_=>?_)
   generalize W.drew=w9 at q1 q2 q3 q4 HR HB hHeld ⊢
   refine pu_ 0 (some 6) (bm_ 15 1) rfl rfl HT_.out ?_
   refine take_ (i:=1) (N:=some 7) (v:=?_) (a':=?_) (bm_ 15 3) rfl rfl (take_ofW HT_.out HW_.out krT_) (fun _ _ _ h=>h) (Or.inl ⟨by rfl,?_⟩) hHeld ?_ ?_
   rotate_left
   ·rintro w' ⟨s0,s1,s2,s3⟩
    go_simp
    with_reducible rfl
   rotate_left;exact apT_
   refine one_ (i:=2) (N:=some 8) (bm_ 15 7) rfl rfl (one_of HT_.out krT_) (by decide) (fun K hK=>?_)
   refine goes_ Try.func37 krT_ rfl #[.int .i64 x,.int .i64 s] (by rfl) rfl rfl (by (try simp only [List.map_toArray,List.map_cons,List.map_nil]);first|done|rfl) ?_
   with_reducible refine (impl_IsSubset.calls x s true _ H1.out).mono ?_
   rintro e w' ⟨rfl,⟨nd,rfl⟩⟩
   refine ⟨_,rfl,?_⟩
   refine hK.out _ _ ⟨q1,q2,q3,q4⟩ (fun hHeld=>?_)
   clear hK K
   refine norm_ (a':=?_) ?_ ?_
   rotate_left
   ·show Act.put _ (some 8) _=_
    simp only [Act.put,List.setIfInBounds_toArray,List.set_cons_zero,List.set_cons_succ,i64_w,i32_w]
    rfl
   refine pu_ 3 (some 9) (bm_ 15 15) rfl rfl HT_.out ?_
   refine pu_ 4 (some 10) (bm_ 15 31) rfl rfl HT_.out ?_
   refine take_ (i:=6) (N:=some 12) (v:=?_) (a':=?_) (bm_ 15 95) rfl rfl (take_ofW HT_.out HW_.out krT_) (fun _ _ _ h=>h) (Or.inl ⟨by rfl,?_⟩) hHeld ?_ ?_
   rotate_left
   ·rintro w' ⟨s0,s1,s2,s3⟩
    go_simp
    with_reducible rfl
   rotate_left;exact apT_
   refine one_ (i:=5) (N:=some 11) (bm_ 15 127) rfl rfl (one_of HT_.out krT_) (by decide) (fun K hK=>?_)
   refine goes_ Try.func38 krT_ rfl #[.int .i64 x] (by rfl) rfl rfl (by (try simp only [List.map_toArray,List.map_cons,List.map_nil]);first|done|rfl) ?_
   with_reducible refine (impl_CountOf.calls x t2 _ H2.out).mono ?_
   rintro e w' ⟨rfl,⟨nd,rfl⟩⟩
   refine ⟨_,rfl,?_⟩
   refine hK.out _ _ ⟨q1,q2,q3,q4⟩ (fun hHeld=>?_)
   clear hK K
   refine norm_ (a':=?_) ?_ ?_
   rotate_left
   ·show Act.put _ (some 11) _=_
    simp only [Act.put,List.setIfInBounds_toArray,List.set_cons_zero,List.set_cons_succ,i64_w,i32_w]
    rfl
   refine pure_ (i:=7) (N:=some 13) (v:=.bool false) (a':=?_) (bm_ 15 255) rfl rfl (any_of HT_.out krT_) (fun _ _ _ h=>h) (Or.inl ⟨by rfl,?_⟩) ?_ ?_
   ·intro w'
    go_simp
    try first|done|(with_reducible rfl)|rw [hd2]
   rotate_left;exact apT_
   refine pu_ 8 (some 14) (bm_ 15 511) rfl rfl HT_.out ?_
   refine pu_ 9 (some 15) (bm_ 15 1023) rfl rfl HT_.out ?_
   refine pure_ (i:=10) (N:=some 16) (v:=undef) (a':=?_) (bm_ 15 2047) rfl rfl (any_of HT_.out krT_) (fun _ _ _ h=>h) (Or.inr ⟨by rfl,rfl⟩) ?_ ?_
   rotate_left;exact apT_
   refine pure_ (i:=11) (N:=some 17) (v:=undef) (a':=?_) (bm_ 15 4095) rfl rfl (any_of HT_.out krT_) (fun _ _ _ h=>h) (Or.inr ⟨by rfl,rfl⟩) ?_ ?_
   rotate_left;exact apT_
   refine pure_ (i:=12) (N:=some 18) (v:=undef) (a':=?_) (bm_ 15 8191) rfl rfl (any_of HT_.out krT_) (fun _ _ _ h=>h) (Or.inr ⟨by rfl,rfl⟩) ?_ ?_
   rotate_left;exact apT_
   refine pu_ 13 (some 19) (bm_ 15 16383) rfl rfl HT_.out ?_
   refine pu_ 14 (some 5) (bm_ 15 32767) rfl rfl HT_.out ?_
   refine done_ (done_of HT_.out krT_) ?_
   try go_wp2
   go_ret
   exact ⟨by first|rfl|(simp;done),h_HB HB.out⟩
def on_impl_BasesOf_1.f (k:Nat) (n s r m0:Int) (m1:List Int):Option (List Int):=setsL n (impl_BasesOf_1.f k s r m0 m1) k [] 0
theorem on_impl_BasesOf_1.calls (k:Nat) (n s r m0:Int) (A1:Option Addr) (c1:Nat) (m1:List Int) (o:List Int) (w:World) (hr1:Kd.C (Kd.int .i64) w A1 m1.length m1) (hc1:m1.length≤c1) (h:on_impl_BasesOf_1.f k n s r m0 m1=some o) (g1 g2 g3:Nat)
  (b1:w.heap[g1]?=some (.cells #[.int .i64 s] 3 (0,0))) (b2:w.heap[g2]?=some (.cells #[.int .i64 r] 3 (0,0))) (b3:w.heap[g3]?=some (.cells #[.int .i64 m0,.slice A1 m1.length c1] 26 (0,0))) :
    Calls Try.prog 35 #[.int .i64 n,.func (.func 36) #[] #[.pointer (some ⟨g1,0,none⟩),.pointer (some ⟨g2,0,none⟩),.pointer (some ⟨g3,0,none⟩)]] w fun e w'=>∃ v0_:Value,e=.returned (v0_)∧Kd.R (Kd.int .i64) 3 w' w.heap.size (fun _=>True) v0_ o∧Below w.heap.size w w' :=
 setsOf_calls _ _ (s_enters Try.func36 krT_ rfl) n _ k o w (impl_BasesOf_1.makes k s r m0 A1 c1 m1 w hr1 hc1 g1 g2 g3 b1 b2 b3) h
/-! ### impl_BasesOf: function 10 -/
def impl_BasesOf.f (k:Nat) (a0_0:Int) (l0_1:List Int) (a1:Int):Option (List Int):=(impl_knows.f k a0_0 l0_1 a1).bind fun t623=>(if t623=true then ((impl_rankIn.f k a0_0 l0_1 a1).bind fun t624=>((on_impl_BasesOf_1.f k a0_0 a1 t624 a0_0 l0_1).bind fun t626=>(some t626))) else (some ([]:List Int)))
set_option maxHeartbeats 8000000 in
set_option maxRecDepth 100000 in
theorem impl_BasesOf.calls (k:Nat) (a0_0:Int) (A0_1:Option Addr) (c0_1:Nat) (l0_1:List Int) (a1:Int) (r:List Int) (w:World) (hr0_1:Kd.C (Kd.int .i64) w A0_1 l0_1.length l0_1) (hc0_1:l0_1.length≤c0_1) (h:impl_BasesOf.f k a0_0 l0_1 a1=some r) :
    Calls Try.prog 10 #[.agg #[.int .i64 a0_0,.slice A0_1 l0_1.length c0_1],.int .i64 a1] w fun e w'=>∃ v0_:Value,e=.returned (v0_)∧Kd.R (Kd.int .i64) 3 w' w.heap.size (fun _=>True) v0_ r∧Below w.heap.size w w':=by
 have hu26:=Try.underlying26
 have HR0_1:=Aside0.mk hr0_1
 have HC0_1:=Aside0.mk hc0_1
 clear hr0_1 hc0_1
 have HB:=Aside0.mk (Below.refl w.heap.size w)
 unfold impl_BasesOf.f at h
 have H:=h
 clear h
 replace H:=bnd_ H;obtain ⟨t623,A3,H⟩:=H
 by_cases c4:t623=true
 ·subst c4
  replace H:=bT_ H
  replace H:=bnd_ H;obtain ⟨t624,A5,H⟩:=H
  replace H:=bnd_ H;obtain ⟨t626,A6,H⟩:=H
  obtain rfl:=Option.some.inj H
  go_enter Try.func10,Try.ntmps10
  go_wp2_with (first|((with_reducible refine gate_dst (N:=2) rfl ?_);refine bx_ (N:=2) (cs:=#[.int .i64 a0_0,.slice A0_1 l0_1.length c0_1]) (t:=26) ?_;intro gb621 hg w7 hbox hb;have BK621:=Aside0.mk (hbox);have GW621:=Aside0.mk (gw_ hg (h_HB HB.out));have GE621:=Aside0.mk (gw_ hg (h_HB HB.out));replace HB:=Aside0.mk (below_step (h_HB HB.out) hb);clear hb hbox hg)|((with_reducible refine gate_dst (N:=3) rfl ?_);refine bx_ (N:=3) (cs:=#[.int .i64 a1]) (t:=3) ?_;intro gb622 hg w8 hbox hb;have BK622:=Aside0.mk (hbox);have GW622:=Aside0.mk (gw_ hg (h_HB HB.out));have GE622:=Aside0.mk (gw_ hg (h_HB HB.out));replace HB:=Aside0.mk (below_step (h_HB HB.out) hb);have NB621_622:=Aside0.mk (nbl_ hg (bkC_ BK621.out));have NB622_621:=Aside0.mk (nbg_ hg (bkC_ BK621.out));replace BK621:=Aside0.mk (blkB_ BK621.out hb);clear hb hbox hg;have hnb9:=NB621_622.out;have hnc9:=NB622_621.out;obtain ⟨hcz10_0,hcz10_1,hfz10_0,hfz10_1⟩:=bz2_ BK621.out;obtain ⟨hcz11_0,hfz11_0⟩:=bz1_ BK622.out)|((with_reducible refine gate_callee (f:=31) rfl ?_);refine goesL_ (some 8) rfl rfl Try.func31 krT_ rfl #[.agg #[.int .i64 a0_0,.slice A0_1 l0_1.length c0_1],.int .i64 a1] rfl agT_ ?_;(with_reducible refine (impl_knows.calls k a0_0 _ _ l0_1 a1 true _ ?side1 ?side2 A3.out).mono ?_);(case side1=>exact cC_ HR0_1.out);(case side2=>exact HC0_1.out);rintro e w12 ⟨rfl,hb⟩;refine ⟨_,rfl,?_⟩;replace BK621:=Aside0.mk (blkB_ BK621.out hb);replace BK622:=Aside0.mk (blkB_ BK622.out hb);replace HB:=Aside0.mk (below_step (h_HB HB.out) hb);(try clear hb);obtain ⟨hcz13_0,hcz13_1,hfz13_0,hfz13_1⟩:=bz2_ BK621.out;obtain ⟨hcz14_0,hfz14_0⟩:=bz1_ BK622.out)|((with_reducible refine gate_callee (f:=32) rfl ?_);refine goesL_ (some 12) rfl rfl Try.func32 krT_ rfl #[.agg #[.int .i64 a0_0,.slice A0_1 l0_1.length c0_1],.int .i64 a1] rfl agT_ ?_;(with_reducible refine (impl_rankIn.calls k a0_0 _ _ l0_1 a1 t624 _ ?side1 ?side2 A5.out).mono ?_);(case side1=>exact cC_ HR0_1.out);(case side2=>exact HC0_1.out);rintro e w15 ⟨rfl,hb⟩;refine ⟨_,rfl,?_⟩;replace BK621:=Aside0.mk (blkB_ BK621.out hb);replace BK622:=Aside0.mk (blkB_ BK622.out hb);replace HB:=Aside0.mk (below_step (h_HB HB.out) hb);(try clear hb))|((with_reducible refine gate_dst (N:=5) rfl ?_);refine bx_ (N:=5) (cs:=#[.int .i64 0]) (t:=3) ?_;intro gb625 hg w16 hbox hb;have BK625:=Aside0.mk (hbox);have GW625:=Aside0.mk (gw_ hg (h_HB HB.out));have GE625:=Aside0.mk (gw_ hg (h_HB HB.out));replace HB:=Aside0.mk (below_step (h_HB HB.out) hb);have NB621_625:=Aside0.mk (nbl_ hg (bkC_ BK621.out));have NB625_621:=Aside0.mk (nbg_ hg (bkC_ BK621.out));replace BK621:=Aside0.mk (blkB_ BK621.out hb);have NB622_625:=Aside0.mk (nbl_ hg (bkC_ BK622.out));have NB625_622:=Aside0.mk (nbg_ hg (bkC_ BK622.out));replace BK622:=Aside0.mk (blkB_ BK622.out hb);clear hb hbox hg;have hnb17:=NB625_621.out;have hnc17:=NB621_625.out;have hnb18:=NB625_622.out;have hnc18:=NB622_625.out;obtain ⟨hcz19_0,hfz19_0⟩:=bz1_ BK625.out;obtain ⟨hcz20_0,hcz20_1,hfz20_0,hfz20_1⟩:=bz2_ BK621.out)|((with_reducible refine gate_callee (f:=35) rfl ?_);refine goesL_ (some 16) rfl rfl Try.func35 krT_ rfl #[.int .i64 a0_0,.func (.func 36) #[] #[.pointer (some ⟨gb622,0,none⟩),.pointer (some ⟨gb625,0,none⟩),.pointer (some ⟨gb621,0,none⟩)]] rfl agT_ ?_;(with_reducible refine (on_impl_BasesOf_1.calls k a0_0 a1 t624 a0_0 A0_1 c0_1 l0_1 t626 _ ?side1 ?side2 A6.out gb622 gb625 gb621 ?side3 ?side4 ?side5).mono ?_);(case side1=>exact Kd.C_below HR0_1.out (h_HB HB.out));(case side2=>exact HC0_1.out);(case side3=>exact (bkC_ BK622.out));(case side4=>exact (by (with_reducible repeat (first|refine blk_drewN ?_ _|refine blk_drew ?_|refine blk_alloc ?_ _));refine blk_put (cs:=#[.int .i64 0]) ?_ 0 _ rfl;exact bkC_ BK625.out));(case side5=>exact (bkC_ BK621.out));rintro e w21 ⟨v627,rfl,ho0,hb⟩;refine ⟨_,rfl,?_⟩;have HO628:=Aside0.mk (Kd.R_lower (Kd.R_newB (Kd.R_newB ho0 (bkC_ BK622.out)) (g:=gb625) (o:=.cells #[.int .i64 t624] 3 (0,0)) (by (with_reducible repeat (first|refine blk_drewN ?_ _|refine blk_drew ?_|refine blk_alloc ?_ _));refine blk_put (cs:=#[.int .i64 0]) ?_ 0 _ rfl;exact bkC_ BK625.out)) (below_size (h_HB HB.out)));replace BK621:=Aside0.mk (blkB_ BK621.out hb);replace BK622:=Aside0.mk (blkB_ BK622.out hb);replace BK625:=Aside0.mk (blk_below (g:=gb625) (o:=.cells #[.int .i64 t624] 3 (0,0)) (by (with_reducible repeat (first|refine blk_drewN ?_ _|refine blk_drew ?_|refine blk_alloc ?_ _));refine blk_put (cs:=#[.int .i64 0]) ?_ 0 _ rfl;exact bkC_ BK625.out) hb);replace HB:=Aside0.mk (below_step (h_HB HB.out) hb);(try clear hb);(try clear hb2);(try clear hk);(try clear hi);(try clear ho0)))
  go_ret
  exact ⟨_,eT_,by (with_reducible repeat (first|apply Kd.R_alloc|apply Kd.R_drewN|apply Kd.R_drew));exact Kd.R_mono HO628.out (fun _ hk=>trivial),h_HB HB.out⟩
 ·replace c4:=Bool.eq_false_iff.mpr c4
  subst c4
  replace H:=bF_ H
  obtain rfl:=Option.some.inj H
  go_enter Try.func10,Try.ntmps10
  go_wp2_with (first|((with_reducible refine gate_dst (N:=2) rfl ?_);refine bx_ (N:=2) (cs:=#[.int .i64 a0_0,.slice A0_1 l0_1.length c0_1]) (t:=26) ?_;intro gb621 hg w22 hbox hb;have BK621:=Aside0.mk (hbox);have GW621:=Aside0.mk (gw_ hg (h_HB HB.out));have GE621:=Aside0.mk (gw_ hg (h_HB HB.out));replace HB:=Aside0.mk (below_step (h_HB HB.out) hb);clear hb hbox hg)|((with_reducible refine gate_dst (N:=3) rfl ?_);refine bx_ (N:=3) (cs:=#[.int .i64 a1]) (t:=3) ?_;intro gb622 hg w23 hbox hb;have BK622:=Aside0.mk (hbox);have GW622:=Aside0.mk (gw_ hg (h_HB HB.out));have GE622:=Aside0.mk (gw_ hg (h_HB HB.out));replace HB:=Aside0.mk (below_step (h_HB HB.out) hb);have NB621_622:=Aside0.mk (nbl_ hg (bkC_ BK621.out));have NB622_621:=Aside0.mk (nbg_ hg (bkC_ BK621.out));replace BK621:=Aside0.mk (blkB_ BK621.out hb);clear hb hbox hg;have hnb24:=NB621_622.out;have hnc24:=NB622_621.out;obtain ⟨hcz25_0,hcz25_1,hfz25_0,hfz25_1⟩:=bz2_ BK621.out;obtain ⟨hcz26_0,hfz26_0⟩:=bz1_ BK622.out)|((with_reducible refine gate_callee (f:=31) rfl ?_);refine goesL_ (some 8) rfl rfl Try.func31 krT_ rfl #[.agg #[.int .i64 a0_0,.slice A0_1 l0_1.length c0_1],.int .i64 a1] rfl agT_ ?_;(with_reducible refine (impl_knows.calls k a0_0 _ _ l0_1 a1 false _ ?side1 ?side2 A3.out).mono ?_);(case side1=>exact cC_ HR0_1.out);(case side2=>exact HC0_1.out);rintro e w27 ⟨rfl,hb⟩;refine ⟨_,rfl,?_⟩;replace BK621:=Aside0.mk (blkB_ BK621.out hb);replace BK622:=Aside0.mk (blkB_ BK622.out hb);replace HB:=Aside0.mk (below_step (h_HB HB.out) hb);(try clear hb)))
  go_ret
  exact ⟨_,eT_,by first|exact Kd.R_nil _ _ _ _ _|exact Kd.N_nil _ _ _ _ _|exact Kd.V_nil _ _ _ _ _|exact Kd.Q_nil _ _ _ _ _|exact Kd.S_nil _ _ _ _ _,h_HB HB.out⟩
/-! ### spec_l5Rank: function 42 -/
def spec_l5Rank.l0:Nat→Int→Int→Int→Int→List Int→Option (Int)
 | 0,_,_,_,_,_=>none
 | k+1,x1,x5,x6,x630000,x630001=>if x6<(x630001.length:Int) then (if 0≤x6 then ((spec_CountOf.f k (Go.bits .and .i64 (rd x630001 x6) x1)).bind fun t631=>((spec_l1Max.f x5 t631).bind fun t632=>(spec_l5Rank.l0 k x1 t632 (wrap64 (x6+1)) x630000 x630001))) else (none)) else (some x5)
def spec_l5Rank.f (k:Nat) (a0_0:Int) (l0_1:List Int) (a1:Int):Option (Int):=spec_l5Rank.l0 k a1 0 0 a0_0 l0_1
set_option maxHeartbeats 8000000 in
set_option maxRecDepth 100000 in
theorem spec_l5Rank.calls (k:Nat) (a0_0:Int) (A0_1:Option Addr) (c0_1:Nat) (l0_1:List Int) (a1:Int) (r:Int) (w:World) (hr0_1:Kd.C (Kd.int .i64) w A0_1 l0_1.length l0_1) (hc0_1:l0_1.length≤c0_1) (h:spec_l5Rank.f k a0_0 l0_1 a1=some r) :
    Calls Try.prog 42 #[.agg #[.int .i64 a0_0,.slice A0_1 l0_1.length c0_1],.int .i64 a1] w fun e w'=>e=.returned (.int .i64 r)∧Below w.heap.size w w':=by
 have hu26:=Try.underlying26
 have HR0_1:=Aside0.mk hr0_1
 have HC0_1:=Aside0.mk hc0_1
 clear hr0_1 hc0_1
 have HB:=Aside0.mk (Below.refl w.heap.size w)
 have H:(spec_l5Rank.l0 k a1 0 0 a0_0 l0_1)=some r:=h
 clear h
 have H':=Aside0.mk H
 clear H
 go_enter Try.func42,Try.ntmps42
 go_wp2_with (first|((with_reducible refine gate_dst (N:=2) rfl ?_);refine bx_ (N:=2) (cs:=#[.int .i64 a0_0,.slice A0_1 l0_1.length c0_1]) (t:=26) ?_;intro gb629 hg w3 hbox hb;have BK629:=Aside0.mk (hbox);have GW629:=Aside0.mk (gw_ hg (h_HB HB.out));have GE629:=Aside0.mk (gw_ hg (h_HB HB.out));replace HB:=Aside0.mk (below_step (h_HB HB.out) hb);clear hb hbox hg))
 go_loopg [5,6] k (fun kq v5 v6 w'=>∃ (x5_1:Int) (x6_1:Int),v5=.int .i64 x5_1∧v6=.int .i64 x6_1∧Aside0 (spec_l5Rank.l0 kq a1 x5_1 x6_1 a0_0 l0_1=some r)∧Aside0 (kq≤k)∧Aside0 (w'.heap[gb629]?=some (.cells #[.int .i64 a0_0,(.slice A0_1 l0_1.length c0_1)] 26 (0,0)))∧Aside0 (Below w.heap.size w w'))
 case atStart=>exact ⟨(0),(0),sT_,sT_,H',⟨Nat.le_refl _⟩,⟨bkC_ BK629.out⟩,⟨h_HB HB.out⟩⟩
 case round =>
 clear H'
 try clear p2
 obtain ⟨x5_1,x6_1,rfl,rfl,HA,HK1,BK629,HB⟩:=hrel
 cases gk with
 | zero=>exact absurd HA.out (by simp [spec_l5Rank.l0])
 | succ k1 =>
 have H:=HA.out
 clear HA
 simp only [spec_l5Rank.l0] at H
 rcases gsn_ H with ⟨c4b0,H⟩|⟨c4b0,H⟩
 ·obtain rfl:=Option.some.inj H
  obtain ⟨hcz9_0,hcz9_1,hfz9_0,hfz9_1⟩:=bz2_ BK629.out
  go_wp2
  go_ret
  exact ⟨eT_,h_HB HB.out⟩
 replace H:=gsm_ H;obtain ⟨c5b0,H⟩:=H
 replace H:=bnd_ H;obtain ⟨t631,A6,H⟩:=H
 replace H:=bnd_ H;obtain ⟨t632,A7,H⟩:=H
 have H':=Aside0.mk H
 clear H
 obtain ⟨hcz8_0,hcz8_1,hfz8_0,hfz8_1⟩:=bz2_ BK629.out
 obtain ⟨ad630,e630,hx630_0,p630,q630⟩:=aiI_ HR0_1.out x6_1
 cases e630
 replace hx630_0:=(HB.out.cell (World.block_lt_of_cell? w _ hx630_0)).trans hx630_0
 go_wp2_with (first|((with_reducible refine gate_callee (f:=26) rfl ?_);refine goesL_ (some 22) rfl rfl Try.func26 krT_ rfl #[.int .i64 (Go.bits .and .i64 (rd l0_1 x6_1) a1)] rfl agT_ ?_;(with_reducible refine (spec_CountOf.calls k1 (Go.bits .and .i64 (rd l0_1 x6_1) a1) t631 _ A6.out).mono ?_);rintro e w' ⟨rfl,⟨nd,rfl⟩⟩;refine ⟨_,rfl,?_⟩)|((with_reducible refine gate_callee (f:=57) rfl ?_);refine goesL_ (some 23) rfl rfl Try.func57 krT_ rfl #[.int .i64 x5_1,.int .i64 t631] rfl agT_ ?_;(with_reducible refine (spec_l1Max.calls x5_1 t631 t632 _ A7.out).mono ?_);rintro e w' ⟨rfl,⟨nd,rfl⟩⟩;refine ⟨_,rfl,?_⟩))
 go_roundg k1
 case measure=>have:=HK1.out;omega
 case rel=>exact ⟨(t632),(wrap64 (x6_1+1)),sT_,sT_,H',⟨by have:=HK1.out;omega⟩,⟨bkC_ BK629.out⟩,⟨h_HB HB.out⟩⟩
/-! ### spec_RankOf: function 11 -/
def spec_RankOf.f (k:Nat) (a0_0:Int) (l0_1:List Int) (a1:Int):Option (Int):=(spec_IsMatroid.f k a0_0 l0_1).bind fun t634=>(if t634=true then ((spec_IsSet.f a0_0 a1).bind fun t635=>(if t635=true then ((spec_l5Rank.f k a0_0 l0_1 a1).bind fun t636=>(some t636)) else (some (-1)))) else (some (-1)))
set_option maxHeartbeats 8000000 in
set_option maxRecDepth 100000 in
theorem spec_RankOf.calls (k:Nat) (a0_0:Int) (A0_1:Option Addr) (c0_1:Nat) (l0_1:List Int) (a1:Int) (r:Int) (w:World) (hr0_1:Kd.C (Kd.int .i64) w A0_1 l0_1.length l0_1) (hc0_1:l0_1.length≤c0_1) (h:spec_RankOf.f k a0_0 l0_1 a1=some r) :
    Calls Try.prog 11 #[.agg #[.int .i64 a0_0,.slice A0_1 l0_1.length c0_1],.int .i64 a1] w fun e w'=>e=.returned (.int .i64 r)∧Below w.heap.size w w':=by
 have hu26:=Try.underlying26
 have HR0_1:=Aside0.mk hr0_1
 have HC0_1:=Aside0.mk hc0_1
 clear hr0_1 hc0_1
 have HB:=Aside0.mk (Below.refl w.heap.size w)
 unfold spec_RankOf.f at h
 have H:=h
 clear h
 replace H:=bnd_ H;obtain ⟨t634,A3,H⟩:=H
 by_cases c4:t634=true
 ·subst c4
  replace H:=bT_ H
  replace H:=bnd_ H;obtain ⟨t635,A5,H⟩:=H
  by_cases c6:t635=true
  ·subst c6
   replace H:=bT_ H
   replace H:=bnd_ H;obtain ⟨t636,A7,H⟩:=H
   obtain rfl:=Option.some.inj H
   go_enter Try.func11,Try.ntmps11
   go_wp2_with (first|((with_reducible refine gate_dst (N:=2) rfl ?_);refine bx_ (N:=2) (cs:=#[.int .i64 a0_0,.slice A0_1 l0_1.length c0_1]) (t:=26) ?_;intro gb633 hg w8 hbox hb;have BK633:=Aside0.mk (hbox);have GW633:=Aside0.mk (gw_ hg (h_HB HB.out));have GE633:=Aside0.mk (gw_ hg (h_HB HB.out));replace HB:=Aside0.mk (below_step (h_HB HB.out) hb);clear hb hbox hg;obtain ⟨hcz9_0,hcz9_1,hfz9_0,hfz9_1⟩:=bz2_ BK633.out)|((with_reducible refine gate_callee (f:=40) rfl ?_);refine goesL_ (some 6) rfl rfl Try.func40 krT_ rfl #[.agg #[.int .i64 a0_0,.slice A0_1 l0_1.length c0_1]] rfl agT_ ?_;(with_reducible refine (spec_IsMatroid.calls k a0_0 _ _ l0_1 true _ ?side1 ?side2 A3.out).mono ?_);(case side1=>exact cC_ HR0_1.out);(case side2=>exact HC0_1.out);rintro e w10 ⟨rfl,hb⟩;refine ⟨_,rfl,?_⟩;replace BK633:=Aside0.mk (blkB_ BK633.out hb);replace HB:=Aside0.mk (below_step (h_HB HB.out) hb);(try clear hb);obtain ⟨hcz11_0,hcz11_1,hfz11_0,hfz11_1⟩:=bz2_ BK633.out)|(go_at_call 41;(with_reducible refine (spec_IsSet.calls a0_0 a1 true _ A5.out).mono ?_);rintro e w' ⟨rfl,⟨nd,rfl⟩⟩)|((with_reducible refine gate_callee (f:=42) rfl ?_);refine goesL_ (some 17) rfl rfl Try.func42 krT_ rfl #[.agg #[.int .i64 a0_0,.slice A0_1 l0_1.length c0_1],.int .i64 a1] rfl agT_ ?_;(with_reducible refine (spec_l5Rank.calls k a0_0 _ _ l0_1 a1 t636 _ ?side1 ?side2 A7.out).mono ?_);(case side1=>repeat (first|exact (Kd.C_below HR0_1.out (h_HB HB.out))|(with_reducible refine Kd.C_alloc ?_ _)|(with_reducible refine Kd.C_drewN ?_ _)|(with_reducible refine Kd.C_drew ?_)));(case side2=>exact HC0_1.out);rintro e w12 ⟨rfl,hb⟩;refine ⟨_,rfl,?_⟩;replace BK633:=Aside0.mk (blkB_ BK633.out hb);replace HB:=Aside0.mk (below_step (h_HB HB.out) hb);(try clear hb)))
   go_ret
   exact ⟨eT_,h_HB HB.out⟩
  replace c6:=Bool.eq_false_iff.mpr c6
  subst c6
  replace H:=bF_ H
  obtain rfl:=Option.some.inj H
  go_enter Try.func11,Try.ntmps11
  go_wp2_with (first|((with_reducible refine gate_dst (N:=2) rfl ?_);refine bx_ (N:=2) (cs:=#[.int .i64 a0_0,.slice A0_1 l0_1.length c0_1]) (t:=26) ?_;intro gb633 hg w13 hbox hb;have BK633:=Aside0.mk (hbox);have GW633:=Aside0.mk (gw_ hg (h_HB HB.out));have GE633:=Aside0.mk (gw_ hg (h_HB HB.out));replace HB:=Aside0.mk (below_step (h_HB HB.out) hb);clear hb hbox hg;obtain ⟨hcz14_0,hcz14_1,hfz14_0,hfz14_1⟩:=bz2_ BK633.out)|((with_reducible refine gate_callee (f:=40) rfl ?_);refine goesL_ (some 6) rfl rfl Try.func40 krT_ rfl #[.agg #[.int .i64 a0_0,.slice A0_1 l0_1.length c0_1]] rfl agT_ ?_;(with_reducible refine (spec_IsMatroid.calls k a0_0 _ _ l0_1 true _ ?side1 ?side2 A3.out).mono ?_);(case side1=>exact cC_ HR0_1.out);(case side2=>exact HC0_1.out);rintro e w15 ⟨rfl,hb⟩;refine ⟨_,rfl,?_⟩;replace BK633:=Aside0.mk (blkB_ BK633.out hb);replace HB:=Aside0.mk (below_step (h_HB HB.out) hb);(try clear hb);obtain ⟨hcz16_0,hcz16_1,hfz16_0,hfz16_1⟩:=bz2_ BK633.out)|(go_at_call 41;(with_reducible refine (spec_IsSet.calls a0_0 a1 false _ A5.out).mono ?_);rintro e w' ⟨rfl,⟨nd,rfl⟩⟩))
  go_ret
  exact ⟨eT_,h_HB HB.out⟩
 ·replace c4:=Bool.eq_false_iff.mpr c4
  subst c4
  replace H:=bF_ H
  obtain rfl:=Option.some.inj H
  go_enter Try.func11,Try.ntmps11
  go_wp2_with (first|((with_reducible refine gate_dst (N:=2) rfl ?_);refine bx_ (N:=2) (cs:=#[.int .i64 a0_0,.slice A0_1 l0_1.length c0_1]) (t:=26) ?_;intro gb633 hg w17 hbox hb;have BK633:=Aside0.mk (hbox);have GW633:=Aside0.mk (gw_ hg (h_HB HB.out));have GE633:=Aside0.mk (gw_ hg (h_HB HB.out));replace HB:=Aside0.mk (below_step (h_HB HB.out) hb);clear hb hbox hg;obtain ⟨hcz18_0,hcz18_1,hfz18_0,hfz18_1⟩:=bz2_ BK633.out)|((with_reducible refine gate_callee (f:=40) rfl ?_);refine goesL_ (some 6) rfl rfl Try.func40 krT_ rfl #[.agg #[.int .i64 a0_0,.slice A0_1 l0_1.length c0_1]] rfl agT_ ?_;(with_reducible refine (spec_IsMatroid.calls k a0_0 _ _ l0_1 false _ ?side1 ?side2 A3.out).mono ?_);(case side1=>exact cC_ HR0_1.out);(case side2=>exact HC0_1.out);rintro e w19 ⟨rfl,hb⟩;refine ⟨_,rfl,?_⟩;replace BK633:=Aside0.mk (blkB_ BK633.out hb);replace HB:=Aside0.mk (below_step (h_HB HB.out) hb);(try clear hb)))
  go_ret
  exact ⟨eT_,h_HB HB.out⟩
/-! ### spec_l5Closure: function 43 -/
def spec_l5Closure.l0:Nat→Int→Int→Int→Int→Int→List Int→Option (Int)
 | 0,_,_,_,_,_,_=>none
 | k+1,x1,x5,x6,x7,x638000,x638001=>if x7<x638000 then (if 0≤(IntKind.u64.wrap (x7)) then ((spec_l5Rank.f k x638000 x638001 (Go.bits .or .i64 x1 (shl .i64 1 (IntKind.u64.wrap (x7))))).bind fun t639=>(if t639=x6 then (spec_l5Closure.l0 k x1 (Go.bits .or .i64 x5 (shl .i64 1 (IntKind.u64.wrap (x7)))) x6 (wrap64 (x7+1)) x638000 x638001) else (spec_l5Closure.l0 k x1 x5 x6 (wrap64 (x7+1)) x638000 x638001))) else (none)) else (some x5)
def spec_l5Closure.f (k:Nat) (a0_0:Int) (l0_1:List Int) (a1:Int):Option (Int):=(spec_l5Rank.f k a0_0 l0_1 a1).bind fun t638=>(spec_l5Closure.l0 k a1 a1 t638 0 a0_0 l0_1)
set_option maxHeartbeats 8000000 in
set_option maxRecDepth 100000 in
theorem spec_l5Closure.calls (k:Nat) (a0_0:Int) (A0_1:Option Addr) (c0_1:Nat) (l0_1:List Int) (a1:Int) (r:Int) (w:World) (hr0_1:Kd.C (Kd.int .i64) w A0_1 l0_1.length l0_1) (hc0_1:l0_1.length≤c0_1) (h:spec_l5Closure.f k a0_0 l0_1 a1=some r) :
    Calls Try.prog 43 #[.agg #[.int .i64 a0_0,.slice A0_1 l0_1.length c0_1],.int .i64 a1] w fun e w'=>e=.returned (.int .i64 r)∧Below w.heap.size w w':=by
 have hu26:=Try.underlying26
 have HR0_1:=Aside0.mk hr0_1
 have HC0_1:=Aside0.mk hc0_1
 clear hr0_1 hc0_1
 have HB:=Aside0.mk (Below.refl w.heap.size w)
 have H:((spec_l5Rank.f k a0_0 l0_1 a1).bind fun t638=>(spec_l5Closure.l0 k a1 a1 t638 0 a0_0 l0_1))=some r:=h
 clear h
 replace H:=bnd_ H;obtain ⟨t638,A3,H⟩:=H
 have H':=Aside0.mk H
 clear H
 go_enter Try.func43,Try.ntmps43
 go_wp2_with (first|((with_reducible refine gate_dst (N:=2) rfl ?_);refine bx_ (N:=2) (cs:=#[.int .i64 a0_0,.slice A0_1 l0_1.length c0_1]) (t:=26) ?_;intro gb637 hg w4 hbox hb;have BK637:=Aside0.mk (hbox);have GW637:=Aside0.mk (gw_ hg (h_HB HB.out));have GE637:=Aside0.mk (gw_ hg (h_HB HB.out));replace HB:=Aside0.mk (below_step (h_HB HB.out) hb);clear hb hbox hg;obtain ⟨hcz5_0,hcz5_1,hfz5_0,hfz5_1⟩:=bz2_ BK637.out)|((with_reducible refine gate_callee (f:=42) rfl ?_);refine goesL_ (some 11) rfl rfl Try.func42 krT_ rfl #[.agg #[.int .i64 a0_0,.slice A0_1 l0_1.length c0_1],.int .i64 a1] rfl agT_ ?_;(with_reducible refine (spec_l5Rank.calls k a0_0 _ _ l0_1 a1 t638 _ ?side1 ?side2 A3.out).mono ?_);(case side1=>exact cC_ HR0_1.out);(case side2=>exact HC0_1.out);rintro e w6 ⟨rfl,hb⟩;refine ⟨_,rfl,?_⟩;replace BK637:=Aside0.mk (blkB_ BK637.out hb);replace HB:=Aside0.mk (below_step (h_HB HB.out) hb);(try clear hb)))
 go_loopg [5,7] k (fun kq v5 v7 w'=>∃ (x5_1:Int) (x7_1:Int),v5=.int .i64 x5_1∧v7=.int .i64 x7_1∧Aside0 (spec_l5Closure.l0 kq a1 x5_1 t638 x7_1 a0_0 l0_1=some r)∧Aside0 (kq≤k)∧Aside0 (w'.heap[gb637]?=some (.cells #[.int .i64 a0_0,(.slice A0_1 l0_1.length c0_1)] 26 (0,0)))∧Aside0 (Below w.heap.size w w'))
 case atStart=>exact ⟨(a1),(0),sT_,sT_,H',⟨Nat.le_refl _⟩,⟨bkC_ BK637.out⟩,⟨h_HB HB.out⟩⟩
 case round =>
  clear H'
  try clear p2
  try clear c4
  try clear hcz5_0
  try clear hcz5_1
  try clear hfz5_0
  try clear hfz5_1
  obtain ⟨x5_1,x7_1,rfl,rfl,HA,HK1,BK637,HB⟩:=hrel
  cases gk with
  | zero=>exact absurd HA.out (by simp [spec_l5Closure.l0])
  | succ k1 =>
   have H:=HA.out
   clear HA
   simp only [spec_l5Closure.l0] at H
   rcases gsb_ H with ⟨c7b0,H⟩|⟨c7b0,H⟩
   ·obtain ⟨ji8,hji8⟩:∃ j_:Int,(IntKind.u64.wrap (x7_1))=j_:=⟨_,rfl⟩
    replace H:(if 0≤(ji8) then ((spec_l5Rank.f k1 a0_0 l0_1 (Go.bits .or .i64 a1 (shl .i64 1 (ji8)))).bind fun t639=>(if t639=t638 then (spec_l5Closure.l0 k1 a1 (Go.bits .or .i64 x5_1 (shl .i64 1 (ji8))) t638 (wrap64 (x7_1+1)) a0_0 l0_1) else (spec_l5Closure.l0 k1 a1 x5_1 t638 (wrap64 (x7_1+1)) a0_0 l0_1))) else (none))=some r:=by first|(rw [hji8] at H;exact H)|(simp only [hji8] at H ⊢;exact H)
    by_cases c9:0≤(ji8)
    ·rw [if_pos c9] at H
     have c9b0:=eq_true c9
     have c9b1:decide (0≤(ji8))=true:=decide_eq_true c9
     clear c9
     obtain ⟨ji10,hji10⟩:∃ j_:Int,(shl .i64 1 (ji8))=j_:=⟨_,rfl⟩
     replace H:((spec_l5Rank.f k1 a0_0 l0_1 (Go.bits .or .i64 a1 (ji10))).bind fun t639=>(if t639=t638 then (spec_l5Closure.l0 k1 a1 (Go.bits .or .i64 x5_1 (ji10)) t638 (wrap64 (x7_1+1)) a0_0 l0_1) else (spec_l5Closure.l0 k1 a1 x5_1 t638 (wrap64 (x7_1+1)) a0_0 l0_1)))=some r:=by first|(rw [hji10] at H;exact H)|(simp only [hji10] at H ⊢;exact H)
     have hji10_:(IntKind.i64.wrap (1*2 ^ min (ji8).toNat 64))=ji10:=hji10
     have hji10z:(ji8)≤64→(IntKind.i64.wrap (1*2 ^ (ji8).toNat))=ji10:=shl_small hji10
     have hji10u:(IntKind.i64.wrap (2 ^ min (ji8).toNat 64))=ji10:=by have h_:=hji10_;rw [Int.one_mul] at h_;exact h_
     have hji10v:(ji8)≤64→(IntKind.i64.wrap (2 ^ (ji8).toNat))=ji10:=fun hle_=>by have h_:=hji10z hle_;rw [Int.one_mul] at h_;exact h_
     have hji10y:(wrap64 (1*2 ^ min (ji8).toNat 64))=ji10:=(i64_w _).symm.trans hji10_
     have hji10x:(ji8)≤64→(wrap64 (1*2 ^ (ji8).toNat))=ji10:=fun h_=>(i64_w _).symm.trans (hji10z h_)
     replace H:=bnd_ H;obtain ⟨t639,A11,H⟩:=H
     by_cases c12:t639=t638
     ·rw [if_pos c12] at H
      have c12b0:(t639==t638)=true:=beq_iff_eq.mpr c12
      have c12b1:(t639 != t638)=false:=bne_eq_false_iff_eq.mpr c12
      clear c12
      have c13b0:=eq_true (odT_:0≤(ji8))
      have H':=Aside0.mk H
      clear H
      obtain ⟨hcz14_0,hcz14_1,hfz14_0,hfz14_1⟩:=bz2_ BK637.out
      go_wp2_with (first|((with_reducible refine gate_callee (f:=42) rfl ?_);refine goesL_ (some 24) rfl rfl Try.func42 krT_ rfl #[.agg #[.int .i64 a0_0,.slice A0_1 l0_1.length c0_1],.int .i64 (Go.bits .or .i64 a1 (ji10))] rfl (by (try simp only [List.map_toArray,List.map_cons,List.map_nil]);first|done|(simp only [hji10];rfl)|rfl|(simp only [List.length_drop,List.length_take];rfl)) ?_;(with_reducible refine (spec_l5Rank.calls k1 a0_0 _ _ l0_1 (Go.bits .or .i64 a1 (ji10)) t639 _ ?side1 ?side2 A11.out).mono ?_);(case side1=>exact cC_ HR0_1.out);(case side2=>exact HC0_1.out);rintro e w15 ⟨rfl,hb⟩;refine ⟨_,rfl,?_⟩;replace BK637:=Aside0.mk (blkB_ BK637.out hb);replace HB:=Aside0.mk (below_step (h_HB HB.out) hb);(try clear hb)))
      go_roundg k1
      case measure=>have:=HK1.out;omega
      case rel=>exact ⟨(Go.bits .or .i64 x5_1 (ji10)),(wrap64 (x7_1+1)),(by first|rfl|(simp;done)|(simp only [← hji10]<;>(first|rfl|simp))|(simp [*];done)),sT_,H',⟨by have:=HK1.out;omega⟩,⟨bkC_ BK637.out⟩,⟨h_HB HB.out⟩⟩
     ·rw [if_neg c12] at H
      have c12b0:(t639==t638)=false:=beq_eq_false_iff_ne.mpr c12
      have c12b1:(t639 != t638)=true:=bne_iff_ne.mpr c12
      have H':=Aside0.mk H
      clear H
      obtain ⟨hcz16_0,hcz16_1,hfz16_0,hfz16_1⟩:=bz2_ BK637.out
      go_wp2_with (first|((with_reducible refine gate_callee (f:=42) rfl ?_);refine goesL_ (some 24) rfl rfl Try.func42 krT_ rfl #[.agg #[.int .i64 a0_0,.slice A0_1 l0_1.length c0_1],.int .i64 (Go.bits .or .i64 a1 (ji10))] rfl (by (try simp only [List.map_toArray,List.map_cons,List.map_nil]);first|done|(simp only [hji10];rfl)|rfl|(simp only [List.length_drop,List.length_take];rfl)) ?_;(with_reducible refine (spec_l5Rank.calls k1 a0_0 _ _ l0_1 (Go.bits .or .i64 a1 (ji10)) t639 _ ?side1 ?side2 A11.out).mono ?_);(case side1=>exact cC_ HR0_1.out);(case side2=>exact HC0_1.out);rintro e w17 ⟨rfl,hb⟩;refine ⟨_,rfl,?_⟩;replace BK637:=Aside0.mk (blkB_ BK637.out hb);replace HB:=Aside0.mk (below_step (h_HB HB.out) hb);(try clear hb)))
      go_roundg k1
      case measure=>have:=HK1.out;omega
      case rel=>exact ⟨(x5_1),(wrap64 (x7_1+1)),sT_,sT_,H',⟨by have:=HK1.out;omega⟩,⟨bkC_ BK637.out⟩,⟨h_HB HB.out⟩⟩
    ·rw [if_neg c9] at H
     exact absurd H (by simp)
   ·obtain rfl:=Option.some.inj H
    obtain ⟨hcz18_0,hcz18_1,hfz18_0,hfz18_1⟩:=bz2_ BK637.out
    go_wp2
    go_ret
    exact ⟨eT_,h_HB HB.out⟩
end Go.Proofs.Ytekegbacnagbcaa.P
