-- written by gprint (a program of this session's, round the kit's print), out of the translation and hand-written texts
import Derived.Test.YtekegbacnagbcaaGreatPVFnCircuitsx0
import Derived.Test.YtekegbacnagbcaaGreatPVFnCircuitsx12
namespace Go.Proofs.YtekegbacnagbcaaGreat.P
open Go.RowKit Go.Proofs.YtekegbacnagbcaaGreatW.PrintWords Go.Proofs.YtekegbacnagbcaaGreatW.PrintLast Go.Proofs.YtekegbacnagbcaaGreatW.PrintMore
attribute [local go_sem] max2_int min2_int max_two min_two max_three min_three max_four min_four
set_option linter.unusedVariables false
set_option maxHeartbeats 8000000
set_option maxRecDepth 100000
set_option linter.unusedSimpArgs false
def impl_HasSet.f (k:Nat) (l0:List Int) (a1:Int):Option (Bool):=(slices_Contains_int_int.f k l0 a1).bind fun t530=>(some t530)
theorem impl_HasSet.calls (k:Nat) (A0:Option Addr) (c0:Nat) (l0:List Int) (a1:Int) (r:Bool) (w:World) (hr0:Kd.C (Kd.int .i64) w A0 l0.length l0) (hc0:l0.length≤c0) (h:impl_HasSet.f k l0 a1=some r) :
    Calls Tryz.prog 49 #[.slice A0 l0.length c0,.int .i64 a1] w fun e w'=>e=.returned (.bool r)∧Drawn0 w w':=by
 have HR0:=Aside0.mk hr0
 have HC0:=Aside0.mk hc0
 clear hr0 hc0
 have H:((slices_Contains_int_int.f k l0 a1).bind fun t530=>(some t530))=some r:=h
 clear h
 replace H:=bnd_ H;obtain ⟨t530,A3,H⟩:=H
 obtain rfl:=Option.some.inj H
 go_enter Tryz.func49,Tryz.ntmps49
 go_wp2_with (first|((with_reducible refine gate_callee (f:=82) rfl ?_);refine goesL_ (some 7) rfl rfl Tryz.func82 krT_ rfl #[.slice A0 l0.length c0,.int .i64 a1] rfl agT_ ?_;(with_reducible refine (slices_Contains_int_int.calls k _ _ l0 a1 t530 _ ?side1 ?side2 A3.out).mono ?_);(case side1=>repeat (first|exact HR0.out|(with_reducible refine Kd.C_alloc ?_ _)|(with_reducible refine Kd.C_drewN ?_ _)|(with_reducible refine Kd.C_drew ?_)));(case side2=>exact HC0.out);rintro e w' ⟨rfl,⟨nd,rfl⟩⟩;refine ⟨_,rfl,?_⟩))
 go_ret
 exact ⟨sT_,dT_⟩
-- needs impl.HasSet
-- needs slices.ContainsFunc[[]int,int]
def impl_FirstFailure_1.f (k:Nat) (m0:Int) (m1:List Int) (a e x:Int):Option Bool :=
 if 0≤e then (if 0≤x then (impl_HasSet.f k m1 (Go.bits .or .i64 (Go.bits .andNot .i64 a (shl .i64 1 e)) (shl .i64 1 x))) else none) else none
set_option maxHeartbeats 4000000 in
theorem impl_FirstFailure_1.quiet (k:Nat) (m0:Int) (A1:Option Addr) (c1:Nat) (m1:List Int) (a e:Int) (w:World) (hr1:Kd.C (Kd.int .i64) w A1 m1.length m1) (hc1:m1.length≤c1) (g1 g2 g3:Nat)
  (b1:w.heap[g1]?=some (.cells #[.int .i64 m0,.slice A1 m1.length c1] 26 (0,0))) (b2:w.heap[g2]?=some (.cells #[.int .i64 a] 3 (0,0))) (b3:w.heap[g3]?=some (.cells #[.int .i64 e] 3 (0,0))) :
  Quiet1 87 #[.pointer (some ⟨g1,0,none⟩),.pointer (some ⟨g2,0,none⟩),.pointer (some ⟨g3,0,none⟩)] w (impl_FirstFailure_1.f k m0 m1 a e):=by
 intro x b n h
 unfold impl_FirstFailure_1.f at h
 by_cases he:0≤e
 ·rw [if_pos he] at h
  by_cases hx:0≤x
  ·rw [if_pos hx] at h
   have q1:(w.drewN n).cell? ⟨g1,1,none⟩=some (.slice A1 m1.length c1):=(blk_cell b1 1).trans rfl
   have q2:(w.drewN n).cell? ⟨g2,0,none⟩=some (.int .i64 a):=(blk_cell b2 0).trans rfl
   have q3:(w.drewN n).cell? ⟨g3,0,none⟩=some (.int .i64 e):=(blk_cell b3 0).trans rfl
   clear b1 b2 b3
   have he':=eq_true he
   have hx':=eq_true hx
   have HS:=Aside0.mk (fun n'=>impl_HasSet.calls k A1 c1 m1 _ b ((w.drewN n).drewN n') (Kd.C_drewN (Kd.C_drewN hr1 n) n') hc1 h)
   clear h hr1 hc1
   show Calls Tryz.prog 87 #[.int .i64 x,.pointer (some ⟨g1,0,none⟩),.pointer (some ⟨g2,0,none⟩),.pointer (some ⟨g3,0,none⟩)] (w.drewN n) _
   generalize w.drewN n=W at q1 q2 q3 HS ⊢
   generalize hj1:shl .i64 1 e=j1 at HS
   generalize hj2:shl .i64 1 x=j2 at HS
   have hj1u:(IntKind.i64.wrap (2 ^ min e.toNat 64))=j1:=by have h_:=hj1;unfold shl at h_;rw [Int.one_mul] at h_;exact h_
   have hj2u:(IntKind.i64.wrap (2 ^ min x.toNat 64))=j2:=by have h_:=hj2;unfold shl at h_;rw [Int.one_mul] at h_;exact h_
   go_enter Tryz.func87,Tryz.ntmps87
   go_wp2
   go_quiet ((go_at_call 49;exact drawn_quiet (HS.out _)))
   go_wp2
   go_ret
   exact ⟨by first|rfl|(simp;done),dT_⟩
  ·rw [if_neg hx] at h;exact absurd h (by simp)
 ·rw [if_neg he] at h;exact absurd h (by simp)
def on_impl_FirstFailure_1.f (k:Nat) (l0:List Int) (m0:Int) (m1:List Int) (a e:Int):Option Bool:=anyL (impl_FirstFailure_1.f k m0 m1 a e) l0 k 0
theorem on_impl_FirstFailure_1.calls (k:Nat) (A0:Option Addr) (c0:Nat) (l0:List Int) (m0:Int) (A1:Option Addr) (c1:Nat) (m1:List Int) (a e:Int) (r:Bool) (w:World) (hr0:Kd.C (Kd.int .i64) w A0 l0.length l0) (hc0:l0.length≤c0)
  (hr1:Kd.C (Kd.int .i64) w A1 m1.length m1) (hc1:m1.length≤c1) (h:on_impl_FirstFailure_1.f k l0 m0 m1 a e=some r) (g1 g2 g3:Nat)
  (b1:w.heap[g1]?=some (.cells #[.int .i64 m0,.slice A1 m1.length c1] 26 (0,0))) (b2:w.heap[g2]?=some (.cells #[.int .i64 a] 3 (0,0))) (b3:w.heap[g3]?=some (.cells #[.int .i64 e] 3 (0,0))) :
    Calls Tryz.prog 34 #[.slice A0 l0.length c0,.func (.func 87) #[] #[.pointer (some ⟨g1,0,none⟩),.pointer (some ⟨g2,0,none⟩),.pointer (some ⟨g3,0,none⟩)]] w fun e w'=>e=.returned (.bool r)∧Drawn0 w w' :=
 containsFunc_calls _ _ (g_enters Tryz.func87 krT_ rfl) _ k A0 c0 l0 r w hr0 (impl_FirstFailure_1.quiet k m0 A1 c1 m1 a e w hr1 hc1 g1 g2 g3 b1 b2 b3) h
mutual
def impl_FirstFailure.l0:Nat→List Int→Int→Int→Int→List Int→Option (Int × Int × Int × Bool)
 | 0,_,_,_,_,_=>none
 | k+1,x19,x20,x21,x532000,x532001=>if x21<x20 then (if 0≤x21 then (if x21<(x19.length:Int) then (impl_FirstFailure.l1 k x19 x20 x21 x532001 (x532001.length:Int) 0 x532000 x532001 (rd x19 x21)) else (none)) else (none)) else (some (0,0,0,false))
def impl_FirstFailure.l1:Nat→List Int→Int→Int→List Int→Int→Int→Int→List Int→Int→Option (Int × Int × Int × Bool)
 | 0,_,_,_,_,_,_,_,_,_=>none
 | k+1,x19,x20,x21,x26,x27,x28,x532000,x532001,x536000=>if x28<x27 then (if 0≤x28 then (if x28<(x26.length:Int) then ((impl_ElementsOf.f k (Go.bits .andNot .i64 x536000 (rd x26 x28))).bind fun t537=>(impl_FirstFailure.l2 k (rd x26 x28) x19 x20 x21 x26 x27 x28 t537 (t537.length:Int) 0 x532000 x532001 x536000)) else (none)) else (none)) else (impl_FirstFailure.l0 k x19 x20 (wrap64 (x21+1)) x532000 x532001)
def impl_FirstFailure.l2:Nat→Int→List Int→Int→Int→List Int→Int→Int→List Int→Int→Int→Int→List Int→Int→Option (Int × Int × Int × Bool)
 | 0,_,_,_,_,_,_,_,_,_,_,_,_,_=>none
 | k+1,x7,x19,x20,x21,x26,x27,x28,x35,x36,x37,x532000,x532001,x536000=>if x37<x36 then (if 0≤x37 then (if x37<(x35.length:Int) then ((impl_ElementsOf.f k (Go.bits .andNot .i64 x7 x536000)).bind fun t542=>((on_impl_FirstFailure_1.f k t542 x532000 x532001 x536000 (rd x35 x37)).bind fun t545=>(if t545=true then (impl_FirstFailure.l2 k x7 x19 x20 x21 x26 x27 x28 x35 x36 (wrap64 (x37+1)) x532000 x532001 x536000) else (some (x536000,x7,rd x35 x37,true))))) else (none)) else (none)) else (impl_FirstFailure.l1 k x19 x20 x21 x26 x27 (wrap64 (x28+1)) x532000 x532001 x536000)
end
def impl_FirstFailure.f (k:Nat) (a0_0:Int) (l0_1:List Int):Option (Int × Int × Int × Bool):=(impl_IsFamily.f k a0_0 l0_1).bind fun t533=>(if t533=true then (impl_FirstFailure.l0 k l0_1 (l0_1.length:Int) 0 a0_0 l0_1) else (some (0,0,0,false)))
theorem impl_FirstFailure.calls (k:Nat) (a0_0:Int) (A0_1:Option Addr) (c0_1:Nat) (l0_1:List Int) (r1:Int) (r2:Int) (r3:Int) (r4:Bool) (w:World) (hr0_1:Kd.C (Kd.int .i64) w A0_1 l0_1.length l0_1) (hc0_1:l0_1.length≤c0_1) (h:impl_FirstFailure.f k a0_0 l0_1=some (r1,r2,r3,r4)) :
    Calls Tryz.prog 64 #[.agg #[.int .i64 a0_0,.slice A0_1 l0_1.length c0_1]] w fun e w'=>e=.returned (.tuple #[.agg #[.int .i64 r1,.int .i64 r2,.int .i64 r3],.bool r4])∧Below w.heap.size w w':=by
 have hu26:=Tryz.underlying26
 have hu32:=Tryz.underlying32
 have HR0_1:=Aside0.mk hr0_1
 have HC0_1:=Aside0.mk hc0_1
 clear hr0_1 hc0_1
 have HB:=Aside0.mk (Below.refl w.heap.size w)
 unfold impl_FirstFailure.f at h
 have H:=h
 clear h
 replace H:=bnd_ H;obtain ⟨t533,A2,H⟩:=H
 replace H:=(gst_ H).symm;rcases H with ⟨rfl,H⟩|⟨rfl,H⟩
 ·simp only [Option.some.injEq,Prod.mk.injEq] at H
  obtain ⟨rfl,rfl,rfl,rfl⟩:=H
  go_enter Tryz.func64,Tryz.ntmps64
  go_wp2_with (first|((with_reducible refine gate_dst (N:=1) rfl ?_);refine bx_ (N:=1) (cs:=#[.int .i64 a0_0,.slice A0_1 l0_1.length c0_1]) (t:=26) ?_;intro gb531 hg w59 hbox hb;have BK531:=Aside0.mk (hbox);have GW531:=Aside0.mk (gw_ hg (h_HB HB.out));have GE531:=GW531;replace HB:=s_HB HB.out hb;clear hb hbox hg)|((with_reducible refine gate_dst (N:=2) rfl ?_);refine bx_ (N:=2) (cs:=#[.int .i64 0,.int .i64 0,.int .i64 0]) (t:=32) ?_;intro gb532 hg w60 hbox hb;have BK532:=Aside0.mk (hbox);have GW532:=Aside0.mk (gw_ hg (h_HB HB.out));have GE532:=GW532;replace HB:=s_HB HB.out hb;have NB531_532:=Aside0.mk (nbl_ hg (bkC_ BK531.out));have NB532_531:=Aside0.mk NB531_532.out.symm;replace BK531:=sBK_ BK531.out hb;clear hb hbox hg;have hnb61:=NB531_532.out;have hnc61:=NB532_531.out;obtain ⟨hcz62_0,hcz62_1,hfz62_0,hfz62_1⟩:=bz2_ BK531.out)|((with_reducible refine gate_callee (f:=31) rfl ?_);refine goesL_ (some 15) rfl rfl Tryz.func31 krT_ rfl #[.int .i64 a0_0,.slice A0_1 l0_1.length c0_1] rfl agT_ ?_;(with_reducible refine (impl_IsFamily.calls k a0_0 _ _ l0_1 false _ ?side1 ?side2 A2.out).mono ?_);(case side1=>exact cC_ HR0_1.out);(case side2=>exact HC0_1.out);rintro e w' ⟨rfl,⟨nd,rfl⟩⟩;refine ⟨_,rfl,?_⟩;(try (rw [drewN_self w60];generalize hq_:World.drewN w60 _=w60;replace BK531:Aside0 (w60.heap[gb531]?=some (.cells #[.int .i64 a0_0,.slice A0_1 l0_1.length c0_1] 26 (0,0))):=⟨by rw [← hq_];exact (bkC_ BK531.out)⟩;replace BK532:Aside0 (w60.heap[gb532]?=some (.cells #[.int .i64 0,.int .i64 0,.int .i64 0] 32 (0,0))):=⟨by rw [← hq_];exact (bkC_ BK532.out)⟩;replace HB:Aside0 (Below w.heap.size w w60):=⟨by rw [← hq_];exact (h_HB HB.out)⟩;clear hq_;have hcuz63_gb531_0:w60.cell? ⟨gb531,0,none⟩=some (.int .i64 a0_0):=(blk_cell BK531.out 0).trans rfl;have hfuz63_gb531_0:=blk_frozen BK531.out 0;have hcuz63_gb531_1:w60.cell? ⟨gb531,1,none⟩=some (.slice A0_1 l0_1.length c0_1):=(blk_cell BK531.out 1).trans rfl;have hfuz63_gb531_1:=blk_frozen BK531.out 1;have hcuz63_gb532_0:w60.cell? ⟨gb532,0,none⟩=some (.int .i64 0):=(blk_cell BK532.out 0).trans rfl;have hfuz63_gb532_0:=blk_frozen BK532.out 0;have hcuz63_gb532_1:w60.cell? ⟨gb532,1,none⟩=some (.int .i64 0):=(blk_cell BK532.out 1).trans rfl;have hfuz63_gb532_1:=blk_frozen BK532.out 1;have hcuz63_gb532_2:w60.cell? ⟨gb532,2,none⟩=some (.int .i64 0):=(blk_cell BK532.out 2).trans rfl;have hfuz63_gb532_2:=blk_frozen BK532.out 2));obtain ⟨hcz64_0,hcz64_1,hcz64_2,hfz64_0,hfz64_1,hfz64_2⟩:=bz3_ BK532.out))
  refine bodyPost_ret (results_ct rfl _ _ gb532 32 #[.int .i64 0,.int .i64 0,.int .i64 0] (0,0) _ rfl (by (with_reducible repeat (first|refine blk_drewN ?_ _|refine blk_drew ?_|refine blk_alloc ?_ _));exact bp3_ (bkC_ BK532.out)) Tryz.underlying32 rfl krT_) rfl ?_
  exact ⟨eT_,h_HB HB.out⟩
 have H':=Aside0.mk H
 clear H
 go_enter Tryz.func64,Tryz.ntmps64
 go_wp2_with (first|((with_reducible refine gate_dst (N:=1) rfl ?_);refine bx_ (N:=1) (cs:=#[.int .i64 a0_0,.slice A0_1 l0_1.length c0_1]) (t:=26) ?_;intro gb531 hg w4 hbox hb;have BK531:=Aside0.mk (hbox);have GW531:=Aside0.mk (gw_ hg (h_HB HB.out));have GE531:=GW531;replace HB:=s_HB HB.out hb;clear hb hbox hg)|((with_reducible refine gate_dst (N:=2) rfl ?_);refine bx_ (N:=2) (cs:=#[.int .i64 0,.int .i64 0,.int .i64 0]) (t:=32) ?_;intro gb532 hg w5 hbox hb;have BK532:=Aside0.mk (hbox);have GW532:=Aside0.mk (gw_ hg (h_HB HB.out));have GE532:=GW532;replace HB:=s_HB HB.out hb;have NB531_532:=Aside0.mk (nbl_ hg (bkC_ BK531.out));have NB532_531:=Aside0.mk NB531_532.out.symm;replace BK531:=sBK_ BK531.out hb;clear hb hbox hg;have hnb6:=NB531_532.out;have hnc6:=NB532_531.out;obtain ⟨hcz7_0,hcz7_1,hfz7_0,hfz7_1⟩:=bz2_ BK531.out)|((with_reducible refine gate_callee (f:=31) rfl ?_);refine goesL_ (some 15) rfl rfl Tryz.func31 krT_ rfl #[.int .i64 a0_0,.slice A0_1 l0_1.length c0_1] rfl agT_ ?_;(with_reducible refine (impl_IsFamily.calls k a0_0 _ _ l0_1 true _ ?side1 ?side2 A2.out).mono ?_);(case side1=>exact cC_ HR0_1.out);(case side2=>exact HC0_1.out);rintro e w' ⟨rfl,⟨nd,rfl⟩⟩;refine ⟨_,rfl,?_⟩))
 go_loopg [21] k (fun kq v21 w'=>∃ (x21_1:Int) (x533000_1:Int) (x533001_1:Int) (x533002_1:Int),v21=.int .i64 x21_1∧Aside0 (impl_FirstFailure.l0 kq l0_1 (l0_1.length:Int) x21_1 a0_0 l0_1=some (r1,r2,r3,r4))∧Aside0 (kq≤k)∧Aside0 (w'.heap[gb531]?=some (.cells #[.int .i64 a0_0,(.slice A0_1 l0_1.length c0_1)] 26 (0,0)))∧Aside0 (w'.heap[gb532]?=some (.cells #[.int .i64 x533000_1,.int .i64 x533001_1,.int .i64 x533002_1] 32 (0,0)))∧Aside0 (Below w.heap.size w w'))
 case atStart=>exact ⟨(0),(0),(0),(0),sT_,H',⟨Nat.le_refl _⟩,⟨bkC_ BK531.out⟩,⟨bkC_ BK532.out⟩,⟨h_HB HB.out⟩⟩
 case round =>
 clear H'
 try clear p2
 try clear c3
 try clear c6
 try clear hcz7_0
 try clear hcz7_1
 try clear hfz7_0
 try clear hfz7_1
 obtain ⟨x21_1,x533000_1,x533001_1,x533002_1,rfl,HA,HK1,BK531,BK532,HB⟩:=hrel
 cases gk with
 | zero=>exact absurd HA.out (by simp [impl_FirstFailure.l0])
 | succ k1 =>
 have H:=HA.out
 clear HA
 simp only [impl_FirstFailure.l0] at H
 replace H:=gsn_ H;rcases H with ⟨c8b0,H⟩|⟨c8b0,H⟩
 ·simp only [Option.some.injEq,Prod.mk.injEq] at H
  obtain ⟨rfl,rfl,rfl,rfl⟩:=H
  have hnb57:=NB532_531.out
  have hnc57:=NB531_532.out
  obtain ⟨hcz58_0,hcz58_1,hcz58_2,hfz58_0,hfz58_1,hfz58_2⟩:=bz3_ BK532.out
  go_wp2
  refine bodyPost_ret (results_ct rfl _ _ gb532 32 #[.int .i64 0,.int .i64 0,.int .i64 0] (0,0) _ rfl (by (with_reducible repeat (first|refine blk_drewN ?_ _|refine blk_drew ?_|refine blk_alloc ?_ _));exact bp3_ (bkC_ BK532.out)) Tryz.underlying32 rfl krT_) rfl ?_
  exact ⟨eT_,h_HB HB.out⟩
 replace H:=gsm_ H;obtain ⟨c9b0,H⟩:=H
 replace H:=gsm_ H;obtain ⟨c10b0,H⟩:=H
 have H':=Aside0.mk H
 clear H
 obtain ⟨ad534,e534,hx534_0,p534,q534⟩:=aiI_ HR0_1.out x21_1
 cases e534
 replace hx534_0:=(HB.out.cell (World.block_lt_of_cell? w _ hx534_0)).trans hx534_0
 go_wp2_with (first|((with_reducible refine gate_dst (N:=5) rfl ?_);refine bx_ (N:=5) (cs:=#[.int .i64 0]) (t:=3) ?_;intro gb535 hg w11 hbox hb;have BK535:=Aside0.mk (hbox);have GW535:=Aside0.mk (gw_ hg (h_HB HB.out));have GE535:=GW535;replace HB:=s_HB HB.out hb;have NB531_535:=Aside0.mk (nbl_ hg (bkC_ BK531.out));have NB535_531:=Aside0.mk NB531_535.out.symm;replace BK531:=sBK_ BK531.out hb;have NB532_535:=Aside0.mk (nbl_ hg (bkC_ BK532.out));have NB535_532:=Aside0.mk NB532_535.out.symm;replace BK532:=sBK_ BK532.out hb;clear hb hbox hg;have hnb12:=NB535_531.out;have hnc12:=NB531_535.out;have hnb13:=NB535_532.out;have hnc13:=NB532_535.out;obtain ⟨hcz14_0,hfz14_0⟩:=bz1_ BK535.out;have hnb15:=NB531_532.out;have hnc15:=NB532_531.out;obtain ⟨hcz16_0,hcz16_1,hfz16_0,hfz16_1⟩:=bz2_ BK531.out))
 go_loopg [28] k1 (fun kq v28 w'=>∃ (x28_2:Int) (x533000_2:Int) (x533001_2:Int) (x533002_2:Int),v28=.int .i64 x28_2∧Aside0 (impl_FirstFailure.l1 kq l0_1 (l0_1.length:Int) x21_1 l0_1 (l0_1.length:Int) x28_2 a0_0 l0_1 (rd l0_1 x21_1)=some (r1,r2,r3,r4))∧Aside0 (kq≤k1)∧Aside0 (w'.heap[gb531]?=some (.cells #[.int .i64 a0_0,(.slice (some ad534) l0_1.length c0_1)] 26 (0,0)))∧Aside0 (w'.heap[gb532]?=some (.cells #[.int .i64 x533000_2,.int .i64 x533001_2,.int .i64 x533002_2] 32 (0,0)))∧Aside0 (w'.heap[gb535]?=some (.cells #[.int .i64 (rd l0_1 x21_1)] 3 (0,0)))∧Aside0 (Below w.heap.size w w'))
 case atStart=>exact ⟨(0),(x533000_1),(x533001_1),(x533002_1),sT_,H',⟨Nat.le_refl _⟩,⟨bkC_ BK531.out⟩,⟨bkC_ BK532.out⟩,⟨by (with_reducible repeat (first|refine blk_drewN ?_ _|refine blk_drew ?_|refine blk_alloc ?_ _));refine blk_put (cs:=#[.int .i64 0]) ?_ 0 _ rfl;exact bkC_ BK535.out⟩,⟨h_HB HB.out⟩⟩
 case round =>
 clear H'
 try clear c1
 try clear p2
 try clear c3
 try clear p5
 try clear q5
 try clear hx5
 try clear c6
 try clear c8
 try clear c8b0
 try clear c9
 try clear c9b0
 try clear c10
 try clear c10b0
 try clear c12
 try clear c13
 try clear c15
 try clear hcz14_0
 try clear hcz16_0
 try clear hcz16_1
 try clear hcz7_0
 try clear hcz7_1
 try clear hfz14_0
 try clear hfz16_0
 try clear hfz16_1
 try clear hfz7_0
 try clear hfz7_1
 try clear hx534_0
 try clear p2
 try clear p534
 try clear q534
 obtain ⟨x28_2,x533000_2,x533001_2,x533002_2,rfl,HA,HK2,BK531,BK532,BK535,HB⟩:=hrel
 cases gk with
 | zero=>exact absurd HA.out (by simp [impl_FirstFailure.l1])
 | succ k2 =>
 have H:=HA.out
 clear HA
 simp only [impl_FirstFailure.l1] at H
 replace H:=gsn_ H;rcases H with ⟨c17b0,H⟩|⟨c17b0,H⟩
 ·have H':=Aside0.mk H
  clear H
  go_wp2
  go_roundg k2
  case measure=>have:=HK1.out;have:=HK2.out;omega
  case rel=>exact ⟨(wrap64 (x21_1+1)),(x533000_2),(x533001_2),(x533002_2),sT_,H',⟨by have:=HK1.out;have:=HK2.out;omega⟩,⟨bkC_ BK531.out⟩,⟨bkC_ BK532.out⟩,⟨h_HB HB.out⟩⟩
 replace H:=gsm_ H;obtain ⟨c18b0,H⟩:=H
 replace H:=gsm_ H;obtain ⟨c19b0,H⟩:=H
 replace H:=bnd_ H;obtain ⟨t537,A20,H⟩:=H
 have H':=Aside0.mk H
 clear H
 obtain ⟨ad536,e536,hx536_0,p536,q536⟩:=aiI_ HR0_1.out x28_2
 obtain rfl:ad534=ad536:=(by injection e536)
 replace hx536_0:=(HB.out.cell (World.block_lt_of_cell? w _ hx536_0)).trans hx536_0
 have hnb21:=NB535_531.out
 have hnc21:=NB531_535.out
 have hnb22:=NB535_532.out
 have hnc22:=NB532_535.out
 obtain ⟨hcz23_0,hfz23_0⟩:=bz1_ BK535.out
 go_wp2_with (first|((with_reducible refine gate_callee (f:=33) rfl ?_);refine goesL_ (some 35) rfl rfl Tryz.func33 krT_ rfl #[.int .i64 (Go.bits .andNot .i64 (rd l0_1 x21_1) (rd l0_1 x28_2))] rfl agT_ ?_;(with_reducible refine (impl_ElementsOf.calls k2 (Go.bits .andNot .i64 (rd l0_1 x21_1) (rd l0_1 x28_2)) t537 _ A20.out).mono ?_);rintro e w24 ⟨v538,rfl,ho0,hb⟩;refine ⟨_,rfl,?_⟩;have HO539:=Aside0.mk (Kd.R_lower (Kd.R_newB ho0 (bkC_ BK535.out)) (below_size (h_HB HB.out)));replace BK531:=sBK_ BK531.out hb;replace BK532:=sBK_ BK532.out hb;replace BK535:=sBK_ BK535.out hb;replace HB:=s_HB HB.out hb;(try clear hb);(try clear ho0);obtain ⟨Ao25,co25,eo25⟩:=Kd.R_slice HO539.out;subst eo25))
 go_loopg [37] k2 (fun kq v37 w'=>∃ (x37_3:Int) (x533000_3:Int) (x533001_3:Int) (x533002_3:Int),v37=.int .i64 x37_3∧Aside0 (impl_FirstFailure.l2 kq (rd l0_1 x28_2) l0_1 (l0_1.length:Int) x21_1 l0_1 (l0_1.length:Int) x28_2 t537 (t537.length:Int) x37_3 a0_0 l0_1 (rd l0_1 x21_1)=some (r1,r2,r3,r4))∧Aside0 (kq≤k2)∧Aside0 (Kd.R (Kd.int .i64) 3 w' w.heap.size (fun k_=>k_≠gb535) (.slice Ao25 t537.length co25) t537)∧Aside0 (w'.heap[gb531]?=some (.cells #[.int .i64 a0_0,(.slice (some ad534) l0_1.length c0_1)] 26 (0,0)))∧Aside0 (w'.heap[gb532]?=some (.cells #[.int .i64 x533000_3,.int .i64 x533001_3,.int .i64 x533002_3] 32 (0,0)))∧Aside0 (w'.heap[gb535]?=some (.cells #[.int .i64 (rd l0_1 x21_1)] 3 (0,0)))∧Aside0 (Below w.heap.size w w'))
 case atStart=>exact ⟨(0),(x533000_2),(x533001_2),(x533002_2),sT_,H',⟨Nat.le_refl _⟩,⟨by (with_reducible repeat (first|apply Kd.R_alloc|apply Kd.R_drewN|apply Kd.R_drew));exact Kd.R_mono HO539.out (fun _ hk=>hk.2)⟩,⟨bkC_ BK531.out⟩,⟨bkC_ BK532.out⟩,⟨bkC_ BK535.out⟩,⟨h_HB HB.out⟩⟩
 case round =>
 clear H'
 try clear c1
 try clear c2
 try clear p2
 try clear c3
 try clear p5
 try clear q5
 try clear hx5
 try clear c6
 try clear c8
 try clear c8b0
 try clear c9
 try clear c9b0
 try clear c10
 try clear c10b0
 try clear c12
 try clear c13
 try clear c15
 try clear c17
 try clear c17b0
 try clear c18
 try clear c18b0
 try clear c19
 try clear c19b0
 try clear c21
 try clear c22
 try clear hcz14_0
 try clear hcz16_0
 try clear hcz16_1
 try clear hcz23_0
 try clear hcz7_0
 try clear hcz7_1
 try clear hfz14_0
 try clear hfz16_0
 try clear hfz16_1
 try clear hfz23_0
 try clear hfz7_0
 try clear hfz7_1
 try clear hx534_0
 try clear hx536_0
 try clear p2
 try clear p5
 try clear p534
 try clear p536
 try clear q5
 try clear q534
 try clear q536
 obtain ⟨x37_3,x533000_3,x533001_3,x533002_3,rfl,HA,HK3,HO_35,BK531,BK532,BK535,HB⟩:=hrel
 cases gk with
 | zero=>exact absurd HA.out (by simp [impl_FirstFailure.l2])
 | succ k3 =>
 have H:=HA.out
 clear HA
 simp only [impl_FirstFailure.l2] at H
 replace H:=gsn_ H;rcases H with ⟨c26b0,H⟩|⟨c26b0,H⟩
 ·have H':=Aside0.mk H
  clear H
  go_wp2
  go_roundg k3
  case measure=>have:=HK1.out;have:=HK2.out;have:=HK3.out;omega
  case rel=>exact ⟨(wrap64 (x28_2+1)),(x533000_3),(x533001_3),(x533002_3),sT_,H',⟨by have:=HK1.out;have:=HK2.out;have:=HK3.out;omega⟩,⟨bkC_ BK531.out⟩,⟨bkC_ BK532.out⟩,⟨bkC_ BK535.out⟩,⟨h_HB HB.out⟩⟩
 replace H:=gsm_ H;obtain ⟨c27b0,H⟩:=H
 replace H:=gsm_ H;obtain ⟨c28b0,H⟩:=H
 replace H:=bnd_ H;obtain ⟨t542,A29,H⟩:=H
 replace H:=bnd_ H;obtain ⟨t545,A30,H⟩:=H
 replace H:=(gst_ H).symm;rcases H with ⟨rfl,H⟩|⟨rfl,H⟩
 ·simp only [Option.some.injEq,Prod.mk.injEq] at H
  obtain ⟨rfl,rfl,rfl,rfl⟩:=H
  obtain ⟨ad540,e540,hx540_0,p540,q540⟩:=aiI_ (Kd.R_reads' HO_35.out).2.2 x37_3
  cases e540
  go_wp2_with (first|((with_reducible refine gate_dst (N:=9) rfl ?_);refine bx_ (N:=9) (cs:=#[.int .i64 0]) (t:=3) ?_;intro gb541 hg w42 hbox hb;replace HO_35:=Aside0.mk (Kd.R_below (Kd.R_elderB (kRC_ HO_35.out) gb541 (Nat.le_of_eq hg.symm)) hb);have BK541:=Aside0.mk (hbox);have GW541:=Aside0.mk (gw_ hg (h_HB HB.out));have GE541:=GW541;replace HB:=s_HB HB.out hb;have NB531_541:=Aside0.mk (nbl_ hg (bkC_ BK531.out));have NB541_531:=Aside0.mk NB531_541.out.symm;replace BK531:=sBK_ BK531.out hb;have NB532_541:=Aside0.mk (nbl_ hg (bkC_ BK532.out));have NB541_532:=Aside0.mk NB532_541.out.symm;replace BK532:=sBK_ BK532.out hb;have NB535_541:=Aside0.mk (nbl_ hg (bkC_ BK535.out));have NB541_535:=Aside0.mk NB535_541.out.symm;replace BK535:=sBK_ BK535.out hb;clear hb hbox hg;have hnb43:=NB541_531.out;have hnc43:=NB531_541.out;have hnb44:=NB541_532.out;have hnc44:=NB532_541.out;have hnb45:=NB541_535.out;have hnc45:=NB535_541.out;obtain ⟨hcz46_0,hfz46_0⟩:=bz1_ BK541.out;have hnb47:=NB535_531.out;have hnc47:=NB531_535.out;have hnb48:=NB535_532.out;have hnc48:=NB532_535.out;obtain ⟨hcz49_0,hfz49_0⟩:=bz1_ BK535.out)|((with_reducible refine gate_callee (f:=33) rfl ?_);refine goesL_ (some 44) rfl rfl Tryz.func33 krT_ rfl #[.int .i64 (Go.bits .andNot .i64 (rd l0_1 x28_2) (rd l0_1 x21_1))] rfl agT_ ?_;(with_reducible refine (impl_ElementsOf.calls k3 (Go.bits .andNot .i64 (rd l0_1 x28_2) (rd l0_1 x21_1)) t542 _ A29.out).mono ?_);rintro e w50 ⟨v543,rfl,ho0,hb⟩;refine ⟨_,rfl,?_⟩;have HO544:=Aside0.mk (Kd.R_lower (Kd.R_newB (Kd.R_newB (Kd.R_new' ho0 (Kd.R_lt (by (with_reducible repeat (first|apply Kd.R_alloc|apply Kd.R_drewN|apply Kd.R_drew));exact (Kd.R_mono (Kd.R_far (p:=⟨gb541,0,none⟩) (Kd.R_mono HO_35.out (fun k_ hk=>(⟨hk,hk.2⟩:_∧k_≠gb541))) (fun _ hk=>hk.2) (.int .i64 (rd t537 x37_3))) (fun _ h_=>h_.1))))) (bkC_ BK535.out)) (g:=gb541) (o:=.cells #[.int .i64 (rd t537 x37_3)] 3 (0,0)) (by (with_reducible repeat (first|refine blk_drewN ?_ _|refine blk_drew ?_|refine blk_alloc ?_ _));refine blk_put (cs:=#[.int .i64 0]) ?_ 0 _ rfl;exact bkC_ BK541.out)) (below_size (h_HB HB.out)));replace HO_35:=Aside0.mk (Kd.R_elder' (by (with_reducible repeat (first|apply Kd.R_alloc|apply Kd.R_drewN|apply Kd.R_drew));exact (Kd.R_mono (Kd.R_far (p:=⟨gb541,0,none⟩) (Kd.R_mono HO_35.out (fun k_ hk=>(⟨hk,hk.2⟩:_∧k_≠gb541))) (fun _ hk=>hk.2) (.int .i64 (rd t537 x37_3))) (fun _ h_=>h_.1))) (Kd.R_base ho0) hb);replace BK531:=sBK_ BK531.out hb;replace BK532:=sBK_ BK532.out hb;replace BK535:=sBK_ BK535.out hb;replace BK541:=Aside0.mk (blk_below (g:=gb541) (o:=.cells #[.int .i64 (rd t537 x37_3)] 3 (0,0)) (by (with_reducible repeat (first|refine blk_drewN ?_ _|refine blk_drew ?_|refine blk_alloc ?_ _));refine blk_put (cs:=#[.int .i64 0]) ?_ 0 _ rfl;exact bkC_ BK541.out) hb);replace HB:=s_HB HB.out hb;(try clear hb);(try clear ho0);obtain ⟨Ao51,co51,eo51⟩:=Kd.R_slice HO544.out;subst eo51)|((with_reducible refine gate_callee (f:=34) rfl ?_);refine goesL_ (some 46) rfl rfl Tryz.func34 krT_ rfl #[.slice Ao51 t542.length co51,.func (.func 87) #[] #[.pointer (some ⟨gb531,0,none⟩),.pointer (some ⟨gb535,0,none⟩),.pointer (some ⟨gb541,0,none⟩)]] rfl agT_ ?_;(with_reducible refine (on_impl_FirstFailure_1.calls k3 _ _ t542 a0_0 (some ad534) c0_1 l0_1 (rd l0_1 x21_1) (rd t537 x37_3) false _ ?side1 ?side2 ?side3 ?side4 A30.out gb531 gb535 gb541 ?side5 ?side6 ?side7).mono ?_);(case side1=>repeat (first|exact (Kd.R_reads' HO544.out).2.2|(with_reducible refine Kd.C_alloc ?_ _)|(with_reducible refine Kd.C_drewN ?_ _)|(with_reducible refine Kd.C_drew ?_)));(case side2=>exact (Kd.R_reads' HO544.out).2.1);(case side3=>exact cC_ HR0_1.out);(case side4=>exact HC0_1.out);(case side5=>exact (bkC_ BK531.out));(case side6=>exact (bkC_ BK535.out));(case side7=>exact (bkC_ BK541.out));rintro e w' ⟨rfl,⟨nd,rfl⟩⟩;refine ⟨_,rfl,?_⟩;(try (rw [drewN_self w50];generalize hq_:World.drewN w50 _=w50;replace HO544:Aside0 (Kd.R (Kd.int .i64) 3 w50 w.heap.size (fun k_=>some k_≠(.slice (some ad540) t537.length co25:Value).ownBlock∧k_≠gb535∧k_≠gb541) (.slice Ao51 t542.length co51) t542):=⟨by rw [← hq_];exact (by (with_reducible repeat (first|apply Kd.R_alloc|apply Kd.R_drewN|apply Kd.R_drew));exact Kd.R_mono HO544.out (fun _ hk=>by first|exact ⟨hk.1.1.2,⟨hk.1.2,hk.2⟩⟩|(simp [hk];done)))⟩;replace HO_35:Aside0 (Kd.R (Kd.int .i64) 3 w50 w.heap.size (fun k_=>some k_≠(.slice Ao51 t542.length co51:Value).ownBlock∧k_≠gb535∧k_≠gb541) (.slice (some ad540) t537.length co25) t537):=⟨by rw [← hq_];exact (by (with_reducible repeat (first|apply Kd.R_alloc|apply Kd.R_drewN|apply Kd.R_drew));exact Kd.R_mono HO_35.out (fun _ hk=>by first|exact ⟨hk.2,⟨hk.1.1,hk.1.2⟩⟩|(simp [hk];done)))⟩;replace BK531:Aside0 (w50.heap[gb531]?=some (.cells #[.int .i64 a0_0,.slice (some ad534) l0_1.length c0_1] 26 (0,0))):=⟨by rw [← hq_];exact (bkC_ BK531.out)⟩;replace BK532:Aside0 (w50.heap[gb532]?=some (.cells #[.int .i64 x533000_3,.int .i64 x533001_3,.int .i64 x533002_3] 32 (0,0))):=⟨by rw [← hq_];exact (bkC_ BK532.out)⟩;replace BK535:Aside0 (w50.heap[gb535]?=some (.cells #[.int .i64 (rd l0_1 x21_1)] 3 (0,0))):=⟨by rw [← hq_];exact (bkC_ BK535.out)⟩;replace BK541:Aside0 (w50.heap[gb541]?=some (.cells #[.int .i64 (rd t537 x37_3)] 3 (0,0))):=⟨by rw [← hq_];exact (bkC_ BK541.out)⟩;replace HB:Aside0 (Below w.heap.size w w50):=⟨by rw [← hq_];exact (h_HB HB.out)⟩;clear hq_;have hcuz52_gb531_0:w50.cell? ⟨gb531,0,none⟩=some (.int .i64 a0_0):=(blk_cell BK531.out 0).trans rfl;have hfuz52_gb531_0:=blk_frozen BK531.out 0;have hcuz52_gb531_1:w50.cell? ⟨gb531,1,none⟩=some (.slice (some ad534) l0_1.length c0_1):=(blk_cell BK531.out 1).trans rfl;have hfuz52_gb531_1:=blk_frozen BK531.out 1;have hcuz52_gb532_0:w50.cell? ⟨gb532,0,none⟩=some (.int .i64 x533000_3):=(blk_cell BK532.out 0).trans rfl;have hfuz52_gb532_0:=blk_frozen BK532.out 0;have hcuz52_gb532_1:w50.cell? ⟨gb532,1,none⟩=some (.int .i64 x533001_3):=(blk_cell BK532.out 1).trans rfl;have hfuz52_gb532_1:=blk_frozen BK532.out 1;have hcuz52_gb532_2:w50.cell? ⟨gb532,2,none⟩=some (.int .i64 x533002_3):=(blk_cell BK532.out 2).trans rfl;have hfuz52_gb532_2:=blk_frozen BK532.out 2;have hcuz52_gb535_0:w50.cell? ⟨gb535,0,none⟩=some (.int .i64 (rd l0_1 x21_1)):=(blk_cell BK535.out 0).trans rfl;have hfuz52_gb535_0:=blk_frozen BK535.out 0;have hcuz52_gb541_0:w50.cell? ⟨gb541,0,none⟩=some (.int .i64 (rd t537 x37_3)):=(blk_cell BK541.out 0).trans rfl;have hfuz52_gb541_0:=blk_frozen BK541.out 0));obtain ⟨hcz53_0,hfz53_0⟩:=bz1_ BK535.out;obtain ⟨hcz54_0,hfz54_0⟩:=bz1_ BK541.out;have hnb55:=NB532_531.out;have hnc55:=NB531_532.out;obtain ⟨hcz56_0,hcz56_1,hcz56_2,hfz56_0,hfz56_1,hfz56_2⟩:=bz3_ BK532.out))
  refine bodyPost_ret (results_ct rfl _ _ gb532 32 #[.int .i64 (rd l0_1 x21_1),.int .i64 (rd l0_1 x28_2),.int .i64 (rd t537 x37_3)] (0,0) _ rfl (by (with_reducible repeat (first|refine blk_drewN ?_ _|refine blk_drew ?_|refine blk_alloc ?_ _));exact bp3_ (bkC_ BK532.out)) Tryz.underlying32 rfl krT_) rfl ?_
  exact ⟨eT_,h_HB HB.out⟩
 have H':=Aside0.mk H
 clear H
 obtain ⟨ad540,e540,hx540_0,p540,q540⟩:=aiI_ (Kd.R_reads' HO_35.out).2.2 x37_3
 cases e540
 go_wp2_with (first|((with_reducible refine gate_dst (N:=9) rfl ?_);refine bx_ (N:=9) (cs:=#[.int .i64 0]) (t:=3) ?_;intro gb541 hg w32 hbox hb;replace HO_35:=Aside0.mk (Kd.R_below (Kd.R_elderB (kRC_ HO_35.out) gb541 (Nat.le_of_eq hg.symm)) hb);have BK541:=Aside0.mk (hbox);have GW541:=Aside0.mk (gw_ hg (h_HB HB.out));have GE541:=GW541;replace HB:=s_HB HB.out hb;have NB531_541:=Aside0.mk (nbl_ hg (bkC_ BK531.out));have NB541_531:=Aside0.mk NB531_541.out.symm;replace BK531:=sBK_ BK531.out hb;have NB532_541:=Aside0.mk (nbl_ hg (bkC_ BK532.out));have NB541_532:=Aside0.mk NB532_541.out.symm;replace BK532:=sBK_ BK532.out hb;have NB535_541:=Aside0.mk (nbl_ hg (bkC_ BK535.out));have NB541_535:=Aside0.mk NB535_541.out.symm;replace BK535:=sBK_ BK535.out hb;clear hb hbox hg;have hnb33:=NB541_531.out;have hnc33:=NB531_541.out;have hnb34:=NB541_532.out;have hnc34:=NB532_541.out;have hnb35:=NB541_535.out;have hnc35:=NB535_541.out;obtain ⟨hcz36_0,hfz36_0⟩:=bz1_ BK541.out;have hnb37:=NB535_531.out;have hnc37:=NB531_535.out;have hnb38:=NB535_532.out;have hnc38:=NB532_535.out;obtain ⟨hcz39_0,hfz39_0⟩:=bz1_ BK535.out)|((with_reducible refine gate_callee (f:=33) rfl ?_);refine goesL_ (some 44) rfl rfl Tryz.func33 krT_ rfl #[.int .i64 (Go.bits .andNot .i64 (rd l0_1 x28_2) (rd l0_1 x21_1))] rfl agT_ ?_;(with_reducible refine (impl_ElementsOf.calls k3 (Go.bits .andNot .i64 (rd l0_1 x28_2) (rd l0_1 x21_1)) t542 _ A29.out).mono ?_);rintro e w40 ⟨v543,rfl,ho0,hb⟩;refine ⟨_,rfl,?_⟩;have HO544:=Aside0.mk (Kd.R_lower (Kd.R_newB (Kd.R_newB (Kd.R_new' ho0 (Kd.R_lt (by (with_reducible repeat (first|apply Kd.R_alloc|apply Kd.R_drewN|apply Kd.R_drew));exact (Kd.R_mono (Kd.R_far (p:=⟨gb541,0,none⟩) (Kd.R_mono HO_35.out (fun k_ hk=>(⟨hk,hk.2⟩:_∧k_≠gb541))) (fun _ hk=>hk.2) (.int .i64 (rd t537 x37_3))) (fun _ h_=>h_.1))))) (bkC_ BK535.out)) (g:=gb541) (o:=.cells #[.int .i64 (rd t537 x37_3)] 3 (0,0)) (by (with_reducible repeat (first|refine blk_drewN ?_ _|refine blk_drew ?_|refine blk_alloc ?_ _));refine blk_put (cs:=#[.int .i64 0]) ?_ 0 _ rfl;exact bkC_ BK541.out)) (below_size (h_HB HB.out)));replace HO_35:=Aside0.mk (Kd.R_elder' (by (with_reducible repeat (first|apply Kd.R_alloc|apply Kd.R_drewN|apply Kd.R_drew));exact (Kd.R_mono (Kd.R_far (p:=⟨gb541,0,none⟩) (Kd.R_mono HO_35.out (fun k_ hk=>(⟨hk,hk.2⟩:_∧k_≠gb541))) (fun _ hk=>hk.2) (.int .i64 (rd t537 x37_3))) (fun _ h_=>h_.1))) (Kd.R_base ho0) hb);replace BK531:=sBK_ BK531.out hb;replace BK532:=sBK_ BK532.out hb;replace BK535:=sBK_ BK535.out hb;replace BK541:=Aside0.mk (blk_below (g:=gb541) (o:=.cells #[.int .i64 (rd t537 x37_3)] 3 (0,0)) (by (with_reducible repeat (first|refine blk_drewN ?_ _|refine blk_drew ?_|refine blk_alloc ?_ _));refine blk_put (cs:=#[.int .i64 0]) ?_ 0 _ rfl;exact bkC_ BK541.out) hb);replace HB:=s_HB HB.out hb;(try clear hb);(try clear ho0);obtain ⟨Ao41,co41,eo41⟩:=Kd.R_slice HO544.out;subst eo41)|((with_reducible refine gate_callee (f:=34) rfl ?_);refine goesL_ (some 46) rfl rfl Tryz.func34 krT_ rfl #[.slice Ao41 t542.length co41,.func (.func 87) #[] #[.pointer (some ⟨gb531,0,none⟩),.pointer (some ⟨gb535,0,none⟩),.pointer (some ⟨gb541,0,none⟩)]] rfl agT_ ?_;(with_reducible refine (on_impl_FirstFailure_1.calls k3 _ _ t542 a0_0 (some ad534) c0_1 l0_1 (rd l0_1 x21_1) (rd t537 x37_3) true _ ?side1 ?side2 ?side3 ?side4 A30.out gb531 gb535 gb541 ?side5 ?side6 ?side7).mono ?_);(case side1=>repeat (first|exact (Kd.R_reads' HO544.out).2.2|(with_reducible refine Kd.C_alloc ?_ _)|(with_reducible refine Kd.C_drewN ?_ _)|(with_reducible refine Kd.C_drew ?_)));(case side2=>exact (Kd.R_reads' HO544.out).2.1);(case side3=>exact cC_ HR0_1.out);(case side4=>exact HC0_1.out);(case side5=>exact (bkC_ BK531.out));(case side6=>exact (bkC_ BK535.out));(case side7=>exact (bkC_ BK541.out));rintro e w' ⟨rfl,⟨nd,rfl⟩⟩;refine ⟨_,rfl,?_⟩))
 go_roundg k3
 case measure=>have:=HK1.out;have:=HK2.out;have:=HK3.out;omega
 case rel=>exact ⟨(wrap64 (x37_3+1)),(x533000_3),(x533001_3),(x533002_3),sT_,H',⟨by have:=HK1.out;have:=HK2.out;have:=HK3.out;omega⟩,⟨by (with_reducible repeat (first|apply Kd.R_alloc|apply Kd.R_drewN|apply Kd.R_drew));exact Kd.R_mono HO_35.out (fun _ hk=>hk.1.1)⟩,⟨bkC_ BK531.out⟩,⟨bkC_ BK532.out⟩,⟨bkC_ BK535.out⟩,⟨h_HB HB.out⟩⟩
def impl_IsMatroid.f (k:Nat) (a0_0:Int) (l0_1:List Int):Option (Bool):=(impl_FirstFailure.f k a0_0 l0_1).bind fun bt547=>((impl_IsFamily.f k a0_0 l0_1).bind fun t552=>(if t552=true then (if (l0_1.length:Int)>0 then (some (!bt547.2.2.2)) else (some false)) else (some false)))
theorem impl_IsMatroid.calls (k:Nat) (a0_0:Int) (A0_1:Option Addr) (c0_1:Nat) (l0_1:List Int) (r:Bool) (w:World) (hr0_1:Kd.C (Kd.int .i64) w A0_1 l0_1.length l0_1) (hc0_1:l0_1.length≤c0_1) (h:impl_IsMatroid.f k a0_0 l0_1=some r) :
    Calls Tryz.prog 25 #[.agg #[.int .i64 a0_0,.slice A0_1 l0_1.length c0_1]] w fun e w'=>e=.returned (.bool r)∧Below w.heap.size w w':=by
 have hu26:=Tryz.underlying26
 have hu32:=Tryz.underlying32
 have HR0_1:=Aside0.mk hr0_1
 have HC0_1:=Aside0.mk hc0_1
 clear hr0_1 hc0_1
 have HB:=Aside0.mk (Below.refl w.heap.size w)
 unfold impl_IsMatroid.f at h
 have H:=h
 clear h
 replace H:=bnd_ H;obtain ⟨⟨t547,t548,t549,t550⟩,A2,H⟩:=H;dsimp only at H
 replace H:=bnd_ H;obtain ⟨t552,A3,H⟩:=H
 replace H:=(gst_ H).symm;rcases H with ⟨rfl,H⟩|⟨rfl,H⟩
 ·obtain rfl:=Option.some.inj H
  go_enter Tryz.func25,Tryz.ntmps25
  go_wp2_with (first|((with_reducible refine gate_dst (N:=1) rfl ?_);(try (refine gate_guard (by rfl) ?_;dsimp only));refine bx_ (N:=1) (cs:=#[.int .i64 a0_0,.slice A0_1 l0_1.length c0_1]) (t:=26) ?_;intro gb546 hg w20 hbox hb;have BK546:=Aside0.mk (hbox);have GW546:=Aside0.mk (gw_ hg (h_HB HB.out));have GE546:=GW546;replace HB:=s_HB HB.out hb;clear hb hbox hg;obtain ⟨hcz21_0,hcz21_1,hfz21_0,hfz21_1⟩:=bz2_ BK546.out)|((with_reducible refine gate_callee (f:=64) rfl ?_);refine goesL_ (some 7) rfl rfl Tryz.func64 krT_ rfl #[.agg #[.int .i64 a0_0,.slice A0_1 l0_1.length c0_1]] rfl agT_ ?_;(with_reducible refine (impl_FirstFailure.calls k a0_0 _ _ l0_1 t547 t548 t549 t550 _ ?side1 ?side2 A2.out).mono ?_);(case side1=>exact cC_ HR0_1.out);(case side2=>exact HC0_1.out);rintro e w22 ⟨rfl,hb⟩;refine ⟨_,rfl,?_⟩;replace BK546:=sBK_ BK546.out hb;replace HB:=s_HB HB.out hb;(try clear hb))|((with_reducible refine gate_dst (N:=3) rfl ?_);(try (refine gate_guard (by rfl) ?_;dsimp only));refine bx_ (N:=3) (cs:=#[.int .i64 0,.int .i64 0,.int .i64 0]) (t:=32) ?_;intro gb551 hg w23 hbox hb;have BK551:=Aside0.mk (hbox);have GW551:=Aside0.mk (gw_ hg (h_HB HB.out));have GE551:=GW551;replace HB:=s_HB HB.out hb;have NB546_551:=Aside0.mk (nbl_ hg (bkC_ BK546.out));have NB551_546:=Aside0.mk NB546_551.out.symm;replace BK546:=sBK_ BK546.out hb;clear hb hbox hg;have hnb24:=NB551_546.out;have hnc24:=NB546_551.out;obtain ⟨hcz25_0,hcz25_1,hcz25_2,hfz25_0,hfz25_1,hfz25_2⟩:=bz3_ BK551.out;obtain ⟨hcz26_0,hcz26_1,hfz26_0,hfz26_1⟩:=bz2_ BK546.out)|((with_reducible refine gate_callee (f:=31) rfl ?_);refine goesL_ (some 14) rfl rfl Tryz.func31 krT_ rfl #[.int .i64 a0_0,.slice A0_1 l0_1.length c0_1] rfl agT_ ?_;(with_reducible refine (impl_IsFamily.calls k a0_0 _ _ l0_1 false _ ?side1 ?side2 A3.out).mono ?_);(case side1=>exact Kd.C_below HR0_1.out (h_HB HB.out));(case side2=>exact HC0_1.out);rintro e w' ⟨rfl,⟨nd,rfl⟩⟩;refine ⟨_,rfl,?_⟩))
  go_ret
  exact ⟨eT_,h_HB HB.out⟩
 replace H:=gsq_ H;rcases H with ⟨c5,H⟩|⟨c5,H⟩
 ·have c5b0:decide (0<(l0_1.length:Int))=true:=decide_eq_true c5
  have c5b1:decide (0<l0_1.length)=true:=decide_eq_true (by omega)
  clear c5
  obtain rfl:=Option.some.inj H
  go_enter Tryz.func25,Tryz.ntmps25
  go_wp2_with (first|((with_reducible refine gate_dst (N:=1) rfl ?_);(try (refine gate_guard (by rfl) ?_;dsimp only));refine bx_ (N:=1) (cs:=#[.int .i64 a0_0,.slice A0_1 l0_1.length c0_1]) (t:=26) ?_;intro gb546 hg w6 hbox hb;have BK546:=Aside0.mk (hbox);have GW546:=Aside0.mk (gw_ hg (h_HB HB.out));have GE546:=GW546;replace HB:=s_HB HB.out hb;clear hb hbox hg;obtain ⟨hcz7_0,hcz7_1,hfz7_0,hfz7_1⟩:=bz2_ BK546.out)|((with_reducible refine gate_callee (f:=64) rfl ?_);refine goesL_ (some 7) rfl rfl Tryz.func64 krT_ rfl #[.agg #[.int .i64 a0_0,.slice A0_1 l0_1.length c0_1]] rfl agT_ ?_;(with_reducible refine (impl_FirstFailure.calls k a0_0 _ _ l0_1 t547 t548 t549 t550 _ ?side1 ?side2 A2.out).mono ?_);(case side1=>exact cC_ HR0_1.out);(case side2=>exact HC0_1.out);rintro e w8 ⟨rfl,hb⟩;refine ⟨_,rfl,?_⟩;replace BK546:=sBK_ BK546.out hb;replace HB:=s_HB HB.out hb;(try clear hb))|((with_reducible refine gate_dst (N:=3) rfl ?_);(try (refine gate_guard (by rfl) ?_;dsimp only));refine bx_ (N:=3) (cs:=#[.int .i64 0,.int .i64 0,.int .i64 0]) (t:=32) ?_;intro gb551 hg w9 hbox hb;have BK551:=Aside0.mk (hbox);have GW551:=Aside0.mk (gw_ hg (h_HB HB.out));have GE551:=GW551;replace HB:=s_HB HB.out hb;have NB546_551:=Aside0.mk (nbl_ hg (bkC_ BK546.out));have NB551_546:=Aside0.mk NB546_551.out.symm;replace BK546:=sBK_ BK546.out hb;clear hb hbox hg;have hnb10:=NB551_546.out;have hnc10:=NB546_551.out;obtain ⟨hcz11_0,hcz11_1,hcz11_2,hfz11_0,hfz11_1,hfz11_2⟩:=bz3_ BK551.out;obtain ⟨hcz12_0,hcz12_1,hfz12_0,hfz12_1⟩:=bz2_ BK546.out)|((with_reducible refine gate_callee (f:=31) rfl ?_);refine goesL_ (some 14) rfl rfl Tryz.func31 krT_ rfl #[.int .i64 a0_0,.slice A0_1 l0_1.length c0_1] rfl agT_ ?_;(with_reducible refine (impl_IsFamily.calls k a0_0 _ _ l0_1 true _ ?side1 ?side2 A3.out).mono ?_);(case side1=>exact Kd.C_below HR0_1.out (h_HB HB.out));(case side2=>exact HC0_1.out);rintro e w' ⟨rfl,⟨nd,rfl⟩⟩;refine ⟨_,rfl,?_⟩))
  go_ret
  exact ⟨eT_,h_HB HB.out⟩
 have c5b0:decide (0<(l0_1.length:Int))=false:=decide_eq_false c5
 have c5b1:decide (0<l0_1.length)=false:=decide_eq_false (by omega)
 clear c5
 obtain rfl:=Option.some.inj H
 go_enter Tryz.func25,Tryz.ntmps25
 go_wp2_with (first|((with_reducible refine gate_dst (N:=1) rfl ?_);(try (refine gate_guard (by rfl) ?_;dsimp only));refine bx_ (N:=1) (cs:=#[.int .i64 a0_0,.slice A0_1 l0_1.length c0_1]) (t:=26) ?_;intro gb546 hg w13 hbox hb;have BK546:=Aside0.mk (hbox);have GW546:=Aside0.mk (gw_ hg (h_HB HB.out));have GE546:=GW546;replace HB:=s_HB HB.out hb;clear hb hbox hg;obtain ⟨hcz14_0,hcz14_1,hfz14_0,hfz14_1⟩:=bz2_ BK546.out)|((with_reducible refine gate_callee (f:=64) rfl ?_);refine goesL_ (some 7) rfl rfl Tryz.func64 krT_ rfl #[.agg #[.int .i64 a0_0,.slice A0_1 l0_1.length c0_1]] rfl agT_ ?_;(with_reducible refine (impl_FirstFailure.calls k a0_0 _ _ l0_1 t547 t548 t549 t550 _ ?side1 ?side2 A2.out).mono ?_);(case side1=>exact cC_ HR0_1.out);(case side2=>exact HC0_1.out);rintro e w15 ⟨rfl,hb⟩;refine ⟨_,rfl,?_⟩;replace BK546:=sBK_ BK546.out hb;replace HB:=s_HB HB.out hb;(try clear hb))|((with_reducible refine gate_dst (N:=3) rfl ?_);(try (refine gate_guard (by rfl) ?_;dsimp only));refine bx_ (N:=3) (cs:=#[.int .i64 0,.int .i64 0,.int .i64 0]) (t:=32) ?_;intro gb551 hg w16 hbox hb;have BK551:=Aside0.mk (hbox);have GW551:=Aside0.mk (gw_ hg (h_HB HB.out));have GE551:=GW551;replace HB:=s_HB HB.out hb;have NB546_551:=Aside0.mk (nbl_ hg (bkC_ BK546.out));have NB551_546:=Aside0.mk NB546_551.out.symm;replace BK546:=sBK_ BK546.out hb;clear hb hbox hg;have hnb17:=NB551_546.out;have hnc17:=NB546_551.out;obtain ⟨hcz18_0,hcz18_1,hcz18_2,hfz18_0,hfz18_1,hfz18_2⟩:=bz3_ BK551.out;obtain ⟨hcz19_0,hcz19_1,hfz19_0,hfz19_1⟩:=bz2_ BK546.out)|((with_reducible refine gate_callee (f:=31) rfl ?_);refine goesL_ (some 14) rfl rfl Tryz.func31 krT_ rfl #[.int .i64 a0_0,.slice A0_1 l0_1.length c0_1] rfl agT_ ?_;(with_reducible refine (impl_IsFamily.calls k a0_0 _ _ l0_1 true _ ?side1 ?side2 A3.out).mono ?_);(case side1=>exact Kd.C_below HR0_1.out (h_HB HB.out));(case side2=>exact HC0_1.out);rintro e w' ⟨rfl,⟨nd,rfl⟩⟩;refine ⟨_,rfl,?_⟩))
 go_ret
 exact ⟨eT_,h_HB HB.out⟩
def impl_areSets.l0:Nat→List Int→Int→Int→Option (Bool)
 | 0,_,_,_=>none
 | k+1,x5,x6,x7=>if x7<x6 then (if 0≤x7 then (if x7<(x5.length:Int) then ((impl_isAny.f (rd x5 x7)).bind fun t554=>(if t554=true then (impl_areSets.l0 k x5 x6 (wrap64 (x7+1))) else (some false))) else (none)) else (none)) else (some true)
def impl_areSets.f (k:Nat) (l0:List Int):Option (Bool):=impl_areSets.l0 k l0 (l0.length:Int) 0
theorem impl_areSets.calls (k:Nat) (A0:Option Addr) (c0:Nat) (l0:List Int) (r:Bool) (w:World) (hr0:Kd.C (Kd.int .i64) w A0 l0.length l0) (hc0:l0.length≤c0) (h:impl_areSets.f k l0=some r) :
    Calls Tryz.prog 65 #[.slice A0 l0.length c0] w fun e w'=>e=.returned (.bool r)∧Drawn0 w w':=by
 have HR0:=Aside0.mk hr0
 have HC0:=Aside0.mk hc0
 clear hr0 hc0
 have H:(impl_areSets.l0 k l0 (l0.length:Int) 0)=some r:=h
 clear h
 have H':=Aside0.mk H
 clear H
 go_enter Tryz.func65,Tryz.ntmps65
 go_wp2
 go_loopg [7] k (fun kq v7 w'=>∃ (x7_1:Int),v7=.int .i64 x7_1∧Aside0 (impl_areSets.l0 kq l0 (l0.length:Int) x7_1=some r)∧Aside0 (kq≤k)∧Drawn0 w w')
 case atStart=>exact ⟨(0),sT_,H',⟨Nat.le_refl _⟩,dT_⟩
 case round =>
 clear H'
 obtain ⟨x7_1,rfl,HA,HK1,⟨m1,rfl⟩⟩:=hrel
 cases gk with
 | zero=>exact absurd HA.out (by simp [impl_areSets.l0])
 | succ k1 =>
 have H:=HA.out
 clear HA
 simp only [impl_areSets.l0] at H
 replace H:=gsn_ H;rcases H with ⟨c2b0,H⟩|⟨c2b0,H⟩
 ·obtain rfl:=Option.some.inj H
  go_wp2
  go_ret
  exact ⟨sT_,dT_⟩
 replace H:=gsm_ H;obtain ⟨c3b0,H⟩:=H
 replace H:=gsm_ H;obtain ⟨c4b0,H⟩:=H
 replace H:=bnd_ H;obtain ⟨t554,A5,H⟩:=H
 replace H:=(gst_ H).symm;rcases H with ⟨rfl,H⟩|⟨rfl,H⟩
 ·obtain rfl:=Option.some.inj H
  obtain ⟨ad553,e553,hx553_0,p553,q553⟩:=aiI_ HR0.out x7_1
  cases e553
  go_wp2_with (first|((with_reducible refine gate_callee (f:=72) rfl ?_);refine goesL_ (some 12) rfl rfl Tryz.func72 krT_ rfl #[.int .i64 (rd l0 x7_1)] rfl agT_ ?_;(with_reducible refine (impl_isAny.calls (rd l0 x7_1) false _ A5.out).mono ?_);rintro e w' ⟨rfl,⟨nd,rfl⟩⟩;refine ⟨_,rfl,?_⟩))
  go_ret
  exact ⟨sT_,dT_⟩
 have H':=Aside0.mk H
 clear H
 obtain ⟨ad553,e553,hx553_0,p553,q553⟩:=aiI_ HR0.out x7_1
 cases e553
 go_wp2_with (first|((with_reducible refine gate_callee (f:=72) rfl ?_);refine goesL_ (some 12) rfl rfl Tryz.func72 krT_ rfl #[.int .i64 (rd l0 x7_1)] rfl agT_ ?_;(with_reducible refine (impl_isAny.calls (rd l0 x7_1) true _ A5.out).mono ?_);rintro e w' ⟨rfl,⟨nd,rfl⟩⟩;refine ⟨_,rfl,?_⟩))
 go_roundg k1
 case measure=>have:=HK1.out;omega
 case rel=>exact ⟨(wrap64 (x7_1+1)),sT_,H',⟨by have:=HK1.out;omega⟩,dT_⟩
def slices_Sort_int_int.f (l0:List Int):Option (List Int):=if l0.length<4611686018427387904 then some (l0.mergeSort fun x y=>decide (x≤y)) else none
theorem slices_Sort_int_int.calls (P0_:Nat→Prop) (u9000_:Value) (l0:List Int) (r1:List Int) (w0 w:World) (hB:Below w0.heap.size w0 w) (ho0:Kd.R (Kd.int .i64) 3 w w0.heap.size P0_ u9000_ l0) (h:slices_Sort_int_int.f l0=some r1) :
    Calls Tryz.prog 88 #[u9000_] w fun e w'=>e=.returned (.tuple #[])∧Kd.R (Kd.int .i64) 3 w' w0.heap.size (fun k_=>(P0_ k_∨w.heap.size≤k_)) u9000_ r1∧Below w0.heap.size w0 w'∧Kept w w' (fun k_=>P0_ k_):=by
 unfold slices_Sort_int_int.f at h
 by_cases hl:l0.length<4611686018427387904
 rotate_left
 ·rw [if_neg hl] at h
  exact absurd h (by simp)
 rw [if_pos hl] at h
 obtain rfl:=Option.some.inj h
 have hown:=Kd.own_of_R ho0
 have hok:=ho0.1
 rcases hown.2 with ⟨hnil,hlen⟩|⟨g,cap,cur,rfl,hbase,hb,h1,h2,h3,h4⟩
 ·subst hnil
  obtain rfl:l0=[]:=List.eq_nil_of_length_eq_zero (by simpa using hlen)
  refine (YtekegbacnagbcaaGreatShelf.slices_Sort_int_none none 0 w).mono ?_
  rintro e w' ⟨rfl,rfl⟩
  refine ⟨rfl,?_,hB,Kept.refl _ _⟩
  simpa using Kd.R_nil (Kd.int .i64) _ _ _ _
 have h4':cur.toList.take l0.length=l0.map (Value.int .i64):=by simpa [encs] using h4
 have hg:g<w.heap.size:=(Array.getElem?_eq_some_iff.1 hb).1
 refine (YtekegbacnagbcaaGreatShelf.slices_Sort_int g 0 cap l0 w (holds_of_blockI hb h4') hg hl).mono ?_
 rintro e w' ⟨rfl,n,os,rfl⟩
 have hgr:=grownBy_sortedI (n:=n) (os:=os) (w:=w) (g:=g) (l0.mergeSort fun x y=>decide (x≤y)).toArray
 have hlen:(l0.mergeSort fun x y=>decide (x≤y)).length=l0.length:=by simp
 refine ⟨rfl,?_,hB.grown hgr hB.size (fun k hk=>by cases hk;exact hbase),?_⟩
 ·rw [← hlen]
  have ho:=ownsRow_sortedI (n:=n) (os:=os) hlen hbase hb h1 h2 h3
  rw [← hlen] at ho
  exact Kd.R_of_own (by simpa [encs] using ho) (fun k hk=>.inl (hok k (by simpa [Value.ownBlock] using hk)))
 ·refine ⟨hgr.size,fun i hi hn=>hgr.block i hi (fun e=>hn ?_)⟩
  exact hok i (by simpa [Value.ownBlock] using e.symm)
def slices_Compact_int_int.f (l0:List Int):Option (List Int):=if l0.length<4611686018427387904 then some (Lib.compact l0) else none
theorem slices_Compact_int_int.calls (P0_:Nat→Prop) (u9000_:Value) (l0:List Int) (r1:List Int) (w0 w:World) (hB:Below w0.heap.size w0 w) (ho0:Kd.R (Kd.int .i64) 3 w w0.heap.size P0_ u9000_ l0) (h:slices_Compact_int_int.f l0=some r1) :
    Calls Tryz.prog 89 #[u9000_] w fun e w'=>∃ v0_:Value,e=.returned (v0_)∧Kd.R (Kd.int .i64) 3 w' w0.heap.size (fun k_=>(P0_ k_∨w.heap.size≤k_)) v0_ r1∧Below w0.heap.size w0 w'∧Kept w w' (fun k_=>P0_ k_):=by
 unfold slices_Compact_int_int.f at h
 by_cases hl:l0.length<4611686018427387904
 rotate_left
 ·rw [if_neg hl] at h
  exact absurd h (by simp)
 rw [if_pos hl] at h
 obtain rfl:=Option.some.inj h
 have hown:=Kd.own_of_R ho0
 have hok:=ho0.1
 rcases hown.2 with ⟨hnil,hlen⟩|⟨g,cap,cur,rfl,hbase,hb,h1,h2,h3,h4⟩
 ·subst hnil
  obtain rfl:l0=[]:=List.eq_nil_of_length_eq_zero (by simpa using hlen)
  refine (YtekegbacnagbcaaGreatShelf.slices_Compact_int_empty none 0 w).mono ?_
  rintro e w' ⟨rfl,rfl⟩
  refine ⟨_,rfl,?_,hB,Kept.refl _ _⟩
  exact Kd.R_nil (Kd.int .i64) _ _ _ _
 have h4':cur.toList.take l0.length=l0.map (Value.int .i64):=by simpa [encs] using h4
 have hg:g<w.heap.size:=(Array.getElem?_eq_some_iff.1 hb).1
 refine (YtekegbacnagbcaaGreatShelf.slices_Compact_int g 0 cap l0 w (holds_of_blockI hb h4') (by omega) h1).mono ?_
 rintro e w' ⟨rfl,n,rfl⟩
 have hcl:=Lib.compact_length_le l0
 have hlen:(Lib.compact l0++List.replicate (l0.length-(Lib.compact l0).length) 0).length=l0.length:=by simp;omega
 have hgr:=grownBy_sortedI (n:=n) (os:=#[]) (w:=w) (g:=g) (Lib.compact l0++List.replicate (l0.length-(Lib.compact l0).length) 0).toArray
 have hob:=heap_sortedI (n:=n) (os:=#[]) (Lib.compact l0++List.replicate (l0.length-(Lib.compact l0).length) 0).toArray hb
 have hgw:Sort.grow (Sort.putRow (Value.int .i64) (Sort.ahead w n) g 0 (Lib.compact l0++List.replicate (l0.length-(Lib.compact l0).length) 0).toArray) #[]=Sort.putRow (Value.int .i64) (Sort.ahead w n) g 0 (Lib.compact l0++List.replicate (l0.length-(Lib.compact l0).length) 0).toArray:=(show ∀ W:World,Sort.grow W #[]=W from fun W=>by unfold Sort.grow;rw [Array.append_empty]) _
 have htk:=take_putCellsI cur (Lib.compact l0++List.replicate (l0.length-(Lib.compact l0).length) 0) (by rw [hlen];omega)
 rw [hgw] at hgr hob
 refine ⟨_,rfl,?_,hB.grown hgr hB.size (fun k hk=>by cases hk;exact hbase),?_⟩
 ·refine Kd.R_of_own ⟨by simp [encs],.inr ⟨g,cap,_,rfl,hbase,hob,by omega,h2,by simp [Sort.putCells,h3],?_⟩⟩ (fun k hk=>.inl (hok k (by simpa [Value.ownBlock] using hk)))
  have h5:=congrArg (List.take (Lib.compact l0).length) htk
  rw [List.take_take,Nat.min_eq_left (by rw [hlen];exact hcl),List.map_append,List.take_left' (by simp)] at h5
  simpa [encs] using h5
 ·refine ⟨hgr.size,fun i hi hn=>hgr.block i hi (fun e=>hn ?_)⟩
  exact hok i (by simpa [Value.ownBlock] using e.symm)
def impl_SortSets.f (l0:List Int):Option (List Int):=(some (([]:List Int):List Int)).bind fun y555=>(if y555.length+l0.length<17592186044416 then ((slices_Sort_int_int.f (y555++l0)).bind fun t561=>((slices_Compact_int_int.f t561).bind fun t562=>(some t562))) else (none))
theorem impl_SortSets.calls (A0:Option Addr) (c0:Nat) (l0:List Int) (r:List Int) (w:World) (hr0:Kd.C (Kd.int .i64) w A0 l0.length l0) (hc0:l0.length≤c0) (h:impl_SortSets.f l0=some r) :
    Calls Tryz.prog 66 #[.slice A0 l0.length c0] w fun e w'=>∃ v0_:Value,e=.returned (v0_)∧Kd.R (Kd.int .i64) 3 w' w.heap.size (fun _=>True) v0_ r∧Below w.heap.size w w':=by
 have HR0:=Aside0.mk hr0
 have HC0:=Aside0.mk hc0
 clear hr0 hc0
 have HB:=Aside0.mk (Below.refl w.heap.size w)
 unfold impl_SortSets.f at h
 have H:=h
 clear h
 replace H:=sy_ H;obtain ⟨y555,Ny555,H⟩:=H
 replace H:=gsl_ H;obtain ⟨LMc2,H⟩:=H
 obtain ⟨y558,hy558⟩:∃ y_:List Int,y_=(y555++l0):=⟨_,rfl⟩
 rw [← hy558] at H
 have Ny558:=Aside0.mk hy558
 clear hy558
 replace H:=bnd_ H;obtain ⟨t561,A3,H⟩:=H
 replace H:=bnd_ H;obtain ⟨t562,A4,H⟩:=H
 obtain rfl:=Option.some.inj H
 go_enter Tryz.func66,Tryz.ntmps66
 go_wp2_with (first|((with_reducible refine gate_dst (N:=4) rfl ?_);refine Kd.R_lit (Kd.int .i64) _ 3 ?hg (N:=4) ?hd (xs:=([]:List Int)) (inner:=[]) (ok:=fun _=>True) (okp:=fun _=>True) ?hr ?hp (fun _ hk=>hk) trivial (Below.refl _ _) (Nat.le_refl _) (by simp) ?_;(case hd=>rfl);(case hg=>rfl);(case hr=>exact hrT_);(case hp=>exact (Reps.none _ _));intro v556 w5 ho6 hb hg_ hnew_;clear hg_ hnew_;(first|rw [← Ny555.out] at ho6|(simp only [Int.reduceToNat] at ho6;rw [← Ny555.out] at ho6));have HO557:=Aside0.mk (Kd.R_lower ho6 (below_size (h_HB HB.out)));replace HB:=s_HB HB.out hb;clear hb ho6)|((with_reducible refine gate_builtin (b:=.append) (xs:=#[.tmp 4,.tmp 5]) rfl ?_);at_builtin;refine Kd.R_append_rows (Kd.int .i64) (w0:=w) w.heap.size rfl (.tmp 4) (.tmp 5) 24 3 (.int .i64 0) 8 rfl Tryz.underlying24 info3 rfl (by decide) (by omega) v556 y555 l0 _ _ _ (fun _=>True) (fun _=>False) rfl rfl ?aO ?aR (fun _ _ h=>h) (fun _ h=>h.elim) ?aF ?aB ?aS ?aL ?_;(case aR=>exact cC_ HR0.out);(case aB=>exact (h_HB HB.out));(case aF=>exact (fun _ _=>trivial));(case aO=>exact (kRC_ HO557.out));(case aS=>exact (below_size (h_HB HB.out)));(case aL=>have:=LMc2.out;omega);intro v559 w7 ho hb hg hat;rw [← Ny558.out] at ho;replace HB:=Aside0.mk (hb);have HO560:=Aside0.mk (ho);clear HO557;clear ho hb hg hat;obtain ⟨Ao8,co8,eo8⟩:=Kd.R_slice HO560.out;subst eo8)|((with_reducible refine gate_callee (f:=88) rfl ?_);refine goesL_ (some 8) rfl rfl Tryz.func88 krT_ rfl #[.slice Ao8 y558.length co8] rfl agT_ ?_;(with_reducible refine (slices_Sort_int_int.calls (fun k_=>some k_=(.slice Ao8 y558.length co8:Value).ownBlock) (.slice Ao8 y558.length co8) y558 t561 w _ ?side1 ?side2 A3.out).mono ?_);(case side1=>exact h_HB HB.out);(case side2=>exact Kd.R_tight rfl HO560.out);rintro e w9 ⟨rfl,hy0,hb,hkp⟩;refine ⟨_,rfl,?_⟩;replace HO560:=Aside0.mk (Kd.R_reok rfl hy0 (fun k_ e_=>HO560.out.1 k_ e_));replace HB:=Aside0.mk (hb);(try clear hb);(try clear hkp);(try clear hy0))|((with_reducible refine gate_callee (f:=89) rfl ?_);refine goesL_ (some 10) rfl rfl Tryz.func89 krT_ rfl #[.slice Ao8 y558.length co8] rfl agT_ ?_;(with_reducible refine (slices_Compact_int_int.calls (fun k_=>some k_=(.slice Ao8 y558.length co8:Value).ownBlock) (.slice Ao8 y558.length co8) t561 t562 w _ ?side1 ?side2 A4.out).mono ?_);(case side1=>exact h_HB HB.out);(case side2=>exact Kd.R_tight rfl HO560.out);rintro e w10 ⟨v563,rfl,ho0,hb,hkp⟩;refine ⟨_,rfl,?_⟩;have HO564:=Aside0.mk (Kd.R_mono (ok':=fun k_=>True) ho0 (fun k_ hk_=>trivial));replace HB:=Aside0.mk (hb);clear HO560;(try clear hb);(try clear hkp);(try clear ho0)))
 go_ret
 exact ⟨_,eT_,kRC_ HO564.out,h_HB HB.out⟩
def impl_IsSubset.f (a0:Int) (a1:Int):Option (Bool):=(impl_isAny.f a0).bind fun t565=>(if t565=true then ((impl_isAny.f a1).bind fun t566=>(if t566=true then (some ((Go.bits .andNot .i64 a0 a1)==0)) else (some false))) else (some false))
theorem impl_IsSubset.calls (a0:Int) (a1:Int) (r:Bool) (w:World) (h:impl_IsSubset.f a0 a1=some r) :
    Calls Tryz.prog 32 #[.int .i64 a0,.int .i64 a1] w fun e w'=>e=.returned (.bool r)∧Drawn0 w w':=by
 unfold impl_IsSubset.f at h
 have H:=h
 clear h
 replace H:=bnd_ H;obtain ⟨t565,A3,H⟩:=H
 replace H:=(gst_ H).symm;rcases H with ⟨rfl,H⟩|⟨rfl,H⟩
 ·obtain rfl:=Option.some.inj H
  go_enter Tryz.func32,Tryz.ntmps32
  go_wp2_with (first|((with_reducible refine gate_callee (f:=72) rfl ?_);refine goesL_ (some 6) rfl rfl Tryz.func72 krT_ rfl #[.int .i64 a0] rfl agT_ ?_;(with_reducible refine (impl_isAny.calls a0 false _ A3.out).mono ?_);rintro e w' ⟨rfl,⟨nd,rfl⟩⟩;refine ⟨_,rfl,?_⟩))
  go_ret
  exact ⟨sT_,dT_⟩
 replace H:=bnd_ H;obtain ⟨t566,A5,H⟩:=H
 replace H:=gst_ H;rcases H with ⟨rfl,H⟩|⟨rfl,H⟩
 ·obtain rfl:=Option.some.inj H
  go_enter Tryz.func32,Tryz.ntmps32
  go_wp2_with (first|((with_reducible refine gate_callee (f:=72) rfl ?_);refine goesL_ (some 6) rfl rfl Tryz.func72 krT_ rfl #[.int .i64 a0] rfl agT_ ?_;(with_reducible refine (impl_isAny.calls a0 true _ A3.out).mono ?_);rintro e w' ⟨rfl,⟨nd,rfl⟩⟩;refine ⟨_,rfl,?_⟩)|(go_at_call 72;(with_reducible refine (impl_isAny.calls a1 true _ A5.out).mono ?_);rintro e w' ⟨rfl,⟨nd,rfl⟩⟩))
  go_ret
  exact ⟨sT_,dT_⟩
 obtain rfl:=Option.some.inj H
 go_enter Tryz.func32,Tryz.ntmps32
 go_wp2_with (first|((with_reducible refine gate_callee (f:=72) rfl ?_);refine goesL_ (some 6) rfl rfl Tryz.func72 krT_ rfl #[.int .i64 a0] rfl agT_ ?_;(with_reducible refine (impl_isAny.calls a0 true _ A3.out).mono ?_);rintro e w' ⟨rfl,⟨nd,rfl⟩⟩;refine ⟨_,rfl,?_⟩)|(go_at_call 72;(with_reducible refine (impl_isAny.calls a1 false _ A5.out).mono ?_);rintro e w' ⟨rfl,⟨nd,rfl⟩⟩))
 go_ret
 exact ⟨sT_,dT_⟩
end Go.Proofs.YtekegbacnagbcaaGreat.P
