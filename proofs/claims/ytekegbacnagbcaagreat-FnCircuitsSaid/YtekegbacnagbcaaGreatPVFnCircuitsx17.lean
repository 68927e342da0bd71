-- written by gprint (a program of this session's, round the kit's print), out of the translation and hand-written texts
import Derived.Test.YtekegbacnagbcaaGreatPVFnCircuitsx0
import Derived.Test.YtekegbacnagbcaaGreatPVFnCircuitsx4
import Derived.Test.YtekegbacnagbcaaGreatPVFnCircuitsx12
import Derived.Test.YtekegbacnagbcaaGreatPVFnCircuitsx13
import Derived.Test.YtekegbacnagbcaaGreatPVFnCircuitsx16
namespace Go.Proofs.YtekegbacnagbcaaGreat.P
open Go.RowKit Go.Proofs.YtekegbacnagbcaaGreatW.PrintWords Go.Proofs.YtekegbacnagbcaaGreatW.PrintLast Go.Proofs.YtekegbacnagbcaaGreatW.PrintMore
attribute [local go_sem] max2_int min2_int max_two min_two max_three min_three max_four min_four
set_option linter.unusedVariables false
set_option maxHeartbeats 8000000
set_option maxRecDepth 100000
set_option linter.unusedSimpArgs false
mutual
def impl_CircuitFailure.l0:Nat→List Int→List Int→Int→Int→Option (Int × Int × Int × Bool)
 | 0,_,_,_,_=>none
 | k+1,x1,x18,x19,x20=>if x20<x19 then (if 0≤x20 then (if x20<(x18.length:Int) then (if (rd x18 x20)=0 then (some (0,0,0,true)) else (impl_CircuitFailure.l1 k x1 (rd x18 x20) x18 x19 x20 x1 (x1.length:Int) 0)) else (none)) else (none)) else (some (0,0,0,false))
def impl_CircuitFailure.l1:Nat→List Int→Int→List Int→Int→Int→List Int→Int→Int→Option (Int × Int × Int × Bool)
 | 0,_,_,_,_,_,_,_,_=>none
 | k+1,x1,x7,x18,x19,x20,x27,x28,x29=>if x29<x28 then (if 0≤x29 then (if x29<(x27.length:Int) then (if x7=(rd x27 x29) then (impl_CircuitFailure.l1 k x1 x7 x18 x19 x20 x27 x28 (wrap64 (x29+1))) else ((impl_IsSubset.f x7 (rd x27 x29)).bind fun t686=>(if t686=true then (some (x7,rd x27 x29,0,true)) else ((impl_ElementsOf.f k (Go.bits .and .i64 x7 (rd x27 x29))).bind fun t687=>(impl_CircuitFailure.l2 k x1 x7 (rd x27 x29) x18 x19 x20 x27 x28 x29 t687 (t687.length:Int) 0))))) else (none)) else (none)) else (impl_CircuitFailure.l0 k x1 x18 x19 (wrap64 (x20+1)))
def impl_CircuitFailure.l2:Nat→List Int→Int→Int→List Int→Int→Int→List Int→Int→Int→List Int→Int→Int→Option (Int × Int × Int × Bool)
 | 0,_,_,_,_,_,_,_,_,_,_,_,_=>none
 | k+1,x1,x7,x9,x18,x19,x20,x27,x28,x29,x45,x46,x47=>if x47<x46 then (if 0≤x47 then (if x47<(x45.length:Int) then (if 0≤(rd x45 x47) then ((on_impl_CircuitFailure_1.f k x1 (Go.bits .andNot .i64 (Go.bits .or .i64 x7 x9) (shl .i64 1 (rd x45 x47)))).bind fun t692=>(if t692=true then (impl_CircuitFailure.l2 k x1 x7 x9 x18 x19 x20 x27 x28 x29 x45 x46 (wrap64 (x47+1))) else (some (x7,x9,rd x45 x47,true)))) else (none)) else (none)) else (none)) else (impl_CircuitFailure.l1 k x1 x7 x18 x19 x20 x27 x28 (wrap64 (x29+1)))
end
def impl_CircuitFailure.f (k:Nat) (a0:Int) (l1:List Int):Option (Int × Int × Int × Bool):=(impl_IsFamily.f k a0 l1).bind fun t683=>(if t683=true then (impl_CircuitFailure.l0 k l1 l1 (l1.length:Int) 0) else (some (0,0,0,false)))
theorem impl_CircuitFailure.calls (k:Nat) (a0:Int) (A1:Option Addr) (c1:Nat) (l1:List Int) (r1:Int) (r2:Int) (r3:Int) (r4:Bool) (w:World) (hr1:Kd.C (Kd.int .i64) w A1 l1.length l1) (hc1:l1.length≤c1) (h:impl_CircuitFailure.f k a0 l1=some (r1,r2,r3,r4)) :
    Calls Tryz.prog 8 #[.int .i64 a0,.slice A1 l1.length c1] w fun e w'=>e=.returned (.tuple #[.agg #[.int .i64 r1,.int .i64 r2,.int .i64 r3],.bool r4])∧Below w.heap.size w w':=by
 have hu32:=Tryz.underlying32
 have HR1:=Aside0.mk hr1
 have HC1:=Aside0.mk hc1
 clear hr1 hc1
 have HB:=Aside0.mk (Below.refl w.heap.size w)
 unfold impl_CircuitFailure.f at h
 have H:=h
 clear h
 replace H:=bnd_ H;obtain ⟨t683,A3,H⟩:=H
 replace H:=(gst_ H).symm;rcases H with ⟨rfl,H⟩|⟨rfl,H⟩
 ·simp only [Option.some.injEq,Prod.mk.injEq] at H
  obtain ⟨rfl,rfl,rfl,rfl⟩:=H
  go_enter Tryz.func8,Tryz.ntmps8
  go_wp2_with (first|((with_reducible refine gate_dst (N:=4) rfl ?_);refine bx_ (N:=4) (cs:=#[.int .i64 0,.int .i64 0,.int .i64 0]) (t:=32) ?_;intro gb682 hg w37 hbox hb;have BK682:=Aside0.mk (hbox);have GW682:=Aside0.mk (gw_ hg (h_HB HB.out));have GE682:=GW682;replace HB:=s_HB HB.out hb;clear hb hbox hg)|((with_reducible refine gate_callee (f:=31) rfl ?_);refine goesL_ (some 15) rfl rfl Tryz.func31 krT_ rfl #[.int .i64 a0,.slice A1 l1.length c1] rfl agT_ ?_;(with_reducible refine (impl_IsFamily.calls k a0 _ _ l1 false _ ?side1 ?side2 A3.out).mono ?_);(case side1=>exact cC_ HR1.out);(case side2=>exact HC1.out);rintro e w' ⟨rfl,⟨nd,rfl⟩⟩;refine ⟨_,rfl,?_⟩;(try (rw [drewN_self w37];generalize hq_:World.drewN w37 _=w37;replace BK682:Aside0 (w37.heap[gb682]?=some (.cells #[.int .i64 0,.int .i64 0,.int .i64 0] 32 (0,0))):=⟨by rw [← hq_];exact (bkC_ BK682.out)⟩;replace HB:Aside0 (Below w.heap.size w w37):=⟨by rw [← hq_];exact (h_HB HB.out)⟩;clear hq_;have hcuz38_gb682_0:w37.cell? ⟨gb682,0,none⟩=some (.int .i64 0):=(blk_cell BK682.out 0).trans rfl;have hfuz38_gb682_0:=blk_frozen BK682.out 0;have hcuz38_gb682_1:w37.cell? ⟨gb682,1,none⟩=some (.int .i64 0):=(blk_cell BK682.out 1).trans rfl;have hfuz38_gb682_1:=blk_frozen BK682.out 1;have hcuz38_gb682_2:w37.cell? ⟨gb682,2,none⟩=some (.int .i64 0):=(blk_cell BK682.out 2).trans rfl;have hfuz38_gb682_2:=blk_frozen BK682.out 2));obtain ⟨hcz39_0,hcz39_1,hcz39_2,hfz39_0,hfz39_1,hfz39_2⟩:=bz3_ BK682.out))
  refine bodyPost_ret (results_ct rfl _ _ gb682 32 #[.int .i64 0,.int .i64 0,.int .i64 0] (0,0) _ rfl (by (with_reducible repeat (first|refine blk_drewN ?_ _|refine blk_drew ?_|refine blk_alloc ?_ _));exact bp3_ (bkC_ BK682.out)) Tryz.underlying32 rfl krT_) rfl ?_
  exact ⟨eT_,h_HB HB.out⟩
 have H':=Aside0.mk H
 clear H
 go_enter Tryz.func8,Tryz.ntmps8
 go_wp2_with (first|((with_reducible refine gate_dst (N:=4) rfl ?_);refine bx_ (N:=4) (cs:=#[.int .i64 0,.int .i64 0,.int .i64 0]) (t:=32) ?_;intro gb682 hg w5 hbox hb;have BK682:=Aside0.mk (hbox);have GW682:=Aside0.mk (gw_ hg (h_HB HB.out));have GE682:=GW682;replace HB:=s_HB HB.out hb;clear hb hbox hg)|((with_reducible refine gate_callee (f:=31) rfl ?_);refine goesL_ (some 15) rfl rfl Tryz.func31 krT_ rfl #[.int .i64 a0,.slice A1 l1.length c1] rfl agT_ ?_;(with_reducible refine (impl_IsFamily.calls k a0 _ _ l1 true _ ?side1 ?side2 A3.out).mono ?_);(case side1=>exact cC_ HR1.out);(case side2=>exact HC1.out);rintro e w' ⟨rfl,⟨nd,rfl⟩⟩;refine ⟨_,rfl,?_⟩))
 go_loopg [20] k (fun kq v20 w'=>∃ (x20_1:Int) (x683000_1:Int) (x683001_1:Int) (x683002_1:Int),v20=.int .i64 x20_1∧Aside0 (impl_CircuitFailure.l0 kq l1 l1 (l1.length:Int) x20_1=some (r1,r2,r3,r4))∧Aside0 (kq≤k)∧Aside0 (w'.heap[gb682]?=some (.cells #[.int .i64 x683000_1,.int .i64 x683001_1,.int .i64 x683002_1] 32 (0,0)))∧Aside0 (Below w.heap.size w w'))
 case atStart=>exact ⟨(0),(0),(0),(0),sT_,H',⟨Nat.le_refl _⟩,⟨bkC_ BK682.out⟩,⟨h_HB HB.out⟩⟩
 case round =>
 clear H'
 try clear c1
 try clear p2
 try clear c3
 try clear c4
 obtain ⟨x20_1,x683000_1,x683001_1,x683002_1,rfl,HA,HK1,BK682,HB⟩:=hrel
 cases gk with
 | zero=>exact absurd HA.out (by simp [impl_CircuitFailure.l0])
 | succ k1 =>
 have H:=HA.out
 clear HA
 simp only [impl_CircuitFailure.l0] at H
 replace H:=gsn_ H;rcases H with ⟨c6b0,H⟩|⟨c6b0,H⟩
 ·simp only [Option.some.injEq,Prod.mk.injEq] at H
  obtain ⟨rfl,rfl,rfl,rfl⟩:=H
  obtain ⟨hcz36_0,hcz36_1,hcz36_2,hfz36_0,hfz36_1,hfz36_2⟩:=bz3_ BK682.out
  go_wp2
  refine bodyPost_ret (results_ct rfl _ _ gb682 32 #[.int .i64 0,.int .i64 0,.int .i64 0] (0,0) _ rfl (by (with_reducible repeat (first|refine blk_drewN ?_ _|refine blk_drew ?_|refine blk_alloc ?_ _));exact bp3_ (bkC_ BK682.out)) Tryz.underlying32 rfl krT_) rfl ?_
  exact ⟨eT_,h_HB HB.out⟩
 replace H:=gsm_ H;obtain ⟨c7b0,H⟩:=H
 replace H:=gsm_ H;obtain ⟨c8b0,H⟩:=H
 replace H:=gse_ H;rcases H with ⟨c9b0,c9b1,H⟩|⟨c9b0,c9b1,c9,H⟩
 ·simp only [Option.some.injEq,Prod.mk.injEq] at H
  obtain ⟨rfl,rfl,rfl,rfl⟩:=H
  obtain ⟨ad684,e684,hx684_0,p684,q684⟩:=aiI_ HR1.out x20_1
  cases e684
  replace hx684_0:=(HB.out.cell (World.block_lt_of_cell? w _ hx684_0)).trans hx684_0
  obtain ⟨hcz10_0,hcz10_1,hcz10_2,hfz10_0,hfz10_1,hfz10_2⟩:=bz3_ BK682.out
  go_wp2
  refine bodyPost_ret (results_ct rfl _ _ gb682 32 #[.int .i64 0,.int .i64 0,.int .i64 0] (0,0) _ rfl (by (with_reducible repeat (first|refine blk_drewN ?_ _|refine blk_drew ?_|refine blk_alloc ?_ _));exact bp3_ (bkC_ BK682.out)) Tryz.underlying32 rfl krT_) rfl ?_
  exact ⟨eT_,h_HB HB.out⟩
 have H':=Aside0.mk H
 clear H
 obtain ⟨ad684,e684,hx684_0,p684,q684⟩:=aiI_ HR1.out x20_1
 cases e684
 replace hx684_0:=(HB.out.cell (World.block_lt_of_cell? w _ hx684_0)).trans hx684_0
 go_wp2
 go_loopg [29] k1 (fun kq v29 w'=>∃ (x29_2:Int) (x683000_2:Int) (x683001_2:Int) (x683002_2:Int),v29=.int .i64 x29_2∧Aside0 (impl_CircuitFailure.l1 kq l1 (rd l1 x20_1) l1 (l1.length:Int) x20_1 l1 (l1.length:Int) x29_2=some (r1,r2,r3,r4))∧Aside0 (kq≤k1)∧Aside0 (w'.heap[gb682]?=some (.cells #[.int .i64 x683000_2,.int .i64 x683001_2,.int .i64 x683002_2] 32 (0,0)))∧Aside0 (Below w.heap.size w w'))
 case atStart=>exact ⟨(0),(x683000_1),(x683001_1),(x683002_1),sT_,H',⟨Nat.le_refl _⟩,⟨bkC_ BK682.out⟩,⟨h_HB HB.out⟩⟩
 case round =>
 clear H'
 try clear c1
 try clear p2
 try clear c3
 try clear c4
 try clear c6
 try clear c6b0
 try clear p6
 try clear q6
 try clear hx6
 try clear c7
 try clear c7b0
 try clear c8
 try clear c8b0
 try clear c9
 try clear c9b0
 try clear c9b1
 try clear hcz10_0
 try clear hcz10_1
 try clear hcz10_2
 try clear hfz10_0
 try clear hfz10_1
 try clear hfz10_2
 try clear hx684_0
 try clear p2
 try clear p684
 try clear q684
 obtain ⟨x29_2,x683000_2,x683001_2,x683002_2,rfl,HA,HK2,BK682,HB⟩:=hrel
 cases gk with
 | zero=>exact absurd HA.out (by simp [impl_CircuitFailure.l1])
 | succ k2 =>
 have H:=HA.out
 clear HA
 simp only [impl_CircuitFailure.l1] at H
 replace H:=gsn_ H;rcases H with ⟨c11b0,H⟩|⟨c11b0,H⟩
 ·have H':=Aside0.mk H
  clear H
  go_wp2
  go_roundg k2
  case measure=>have:=HK1.out;have:=HK2.out;omega
  case rel=>exact ⟨(wrap64 (x20_1+1)),(x683000_2),(x683001_2),(x683002_2),sT_,H',⟨by have:=HK1.out;have:=HK2.out;omega⟩,⟨bkC_ BK682.out⟩,⟨h_HB HB.out⟩⟩
 replace H:=gsm_ H;obtain ⟨c12b0,H⟩:=H
 replace H:=gsm_ H;obtain ⟨c13b0,H⟩:=H
 replace H:=gse_ H;rcases H with ⟨c14b0,c14b1,H⟩|⟨c14b0,c14b1,c14,H⟩
 ·have H':=Aside0.mk H
  clear H
  obtain ⟨ad685,e685,hx685_0,p685,q685⟩:=aiI_ HR1.out x29_2
  obtain rfl:ad684=ad685:=(by injection e685)
  replace hx685_0:=(HB.out.cell (World.block_lt_of_cell? w _ hx685_0)).trans hx685_0
  go_wp2
  go_roundg k2
  case measure=>have:=HK1.out;have:=HK2.out;omega
  case rel=>exact ⟨(wrap64 (x29_2+1)),(x683000_2),(x683001_2),(x683002_2),sT_,H',⟨by have:=HK1.out;have:=HK2.out;omega⟩,⟨bkC_ BK682.out⟩,⟨h_HB HB.out⟩⟩
 replace H:=bnd_ H;obtain ⟨t686,A15,H⟩:=H
 replace H:=gst_ H;rcases H with ⟨rfl,H⟩|⟨rfl,H⟩
 ·simp only [Option.some.injEq,Prod.mk.injEq] at H
  obtain ⟨rfl,rfl,rfl,rfl⟩:=H
  obtain ⟨ad685,e685,hx685_0,p685,q685⟩:=aiI_ HR1.out x29_2
  obtain rfl:ad684=ad685:=(by injection e685)
  replace hx685_0:=(HB.out.cell (World.block_lt_of_cell? w _ hx685_0)).trans hx685_0
  go_wp2_with (first|((with_reducible refine gate_callee (f:=32) rfl ?_);refine goesL_ (some 38) rfl rfl Tryz.func32 krT_ rfl #[.int .i64 (rd l1 x20_1),.int .i64 (rd l1 x29_2)] rfl agT_ ?_;(with_reducible refine (impl_IsSubset.calls (rd l1 x20_1) (rd l1 x29_2) true _ A15.out).mono ?_);rintro e w' ⟨rfl,⟨nd,rfl⟩⟩;refine ⟨_,rfl,?_⟩;(try (rw [drewN_self wr];generalize hq_:World.drewN wr _=wr;replace BK682:Aside0 (wr.heap[gb682]?=some (.cells #[.int .i64 x683000_2,.int .i64 x683001_2,.int .i64 x683002_2] 32 (0,0))):=⟨by rw [← hq_];exact (bkC_ BK682.out)⟩;replace HB:Aside0 (Below w.heap.size w wr):=⟨by rw [← hq_];exact (h_HB HB.out)⟩;clear hq_;have hcuz17_gb682_0:wr.cell? ⟨gb682,0,none⟩=some (.int .i64 x683000_2):=(blk_cell BK682.out 0).trans rfl;have hfuz17_gb682_0:=blk_frozen BK682.out 0;have hcuz17_gb682_1:wr.cell? ⟨gb682,1,none⟩=some (.int .i64 x683001_2):=(blk_cell BK682.out 1).trans rfl;have hfuz17_gb682_1:=blk_frozen BK682.out 1;have hcuz17_gb682_2:wr.cell? ⟨gb682,2,none⟩=some (.int .i64 x683002_2):=(blk_cell BK682.out 2).trans rfl;have hfuz17_gb682_2:=blk_frozen BK682.out 2));obtain ⟨hcz18_0,hcz18_1,hcz18_2,hfz18_0,hfz18_1,hfz18_2⟩:=bz3_ BK682.out))
  refine bodyPost_ret (results_ct rfl _ _ gb682 32 #[.int .i64 (rd l1 x20_1),.int .i64 (rd l1 x29_2),.int .i64 0] (0,0) _ rfl (by (with_reducible repeat (first|refine blk_drewN ?_ _|refine blk_drew ?_|refine blk_alloc ?_ _));exact bp3_ (bkC_ BK682.out)) Tryz.underlying32 rfl krT_) rfl ?_
  exact ⟨eT_,h_HB HB.out⟩
 replace H:=bnd_ H;obtain ⟨t687,A19,H⟩:=H
 have H':=Aside0.mk H
 clear H
 obtain ⟨ad685,e685,hx685_0,p685,q685⟩:=aiI_ HR1.out x29_2
 obtain rfl:ad684=ad685:=(by injection e685)
 replace hx685_0:=(HB.out.cell (World.block_lt_of_cell? w _ hx685_0)).trans hx685_0
 go_wp2_with (first|((with_reducible refine gate_callee (f:=32) rfl ?_);refine goesL_ (some 38) rfl rfl Tryz.func32 krT_ rfl #[.int .i64 (rd l1 x20_1),.int .i64 (rd l1 x29_2)] rfl agT_ ?_;(with_reducible refine (impl_IsSubset.calls (rd l1 x20_1) (rd l1 x29_2) false _ A15.out).mono ?_);rintro e w' ⟨rfl,⟨nd,rfl⟩⟩;refine ⟨_,rfl,?_⟩)|((with_reducible refine gate_callee (f:=33) rfl ?_);refine goesL_ (some 45) rfl rfl Tryz.func33 krT_ rfl #[.int .i64 (Go.bits .and .i64 (rd l1 x20_1) (rd l1 x29_2))] rfl agT_ ?_;(with_reducible refine (impl_ElementsOf.calls k2 (Go.bits .and .i64 (rd l1 x20_1) (rd l1 x29_2)) t687 _ A19.out).mono ?_);rintro e w20 ⟨v688,rfl,ho0,hb⟩;refine ⟨_,rfl,?_⟩;have HO689:=Aside0.mk (Kd.R_lower ho0 (below_size (h_HB HB.out)));replace BK682:=sBK_ BK682.out hb;replace HB:=s_HB HB.out hb;(try clear hb);(try clear ho0);obtain ⟨Ao21,co21,eo21⟩:=Kd.R_slice HO689.out;subst eo21))
 go_loopg [47] k2 (fun kq v47 w'=>∃ (x47_3:Int) (x683000_3:Int) (x683001_3:Int) (x683002_3:Int),v47=.int .i64 x47_3∧Aside0 (impl_CircuitFailure.l2 kq l1 (rd l1 x20_1) (rd l1 x29_2) l1 (l1.length:Int) x20_1 l1 (l1.length:Int) x29_2 t687 (t687.length:Int) x47_3=some (r1,r2,r3,r4))∧Aside0 (kq≤k2)∧Aside0 (Kd.R (Kd.int .i64) 3 w' w.heap.size (fun _=>True) (.slice Ao21 t687.length co21) t687)∧Aside0 (w'.heap[gb682]?=some (.cells #[.int .i64 x683000_3,.int .i64 x683001_3,.int .i64 x683002_3] 32 (0,0)))∧Aside0 (Below w.heap.size w w'))
 case atStart=>exact ⟨(0),(x683000_2),(x683001_2),(x683002_2),sT_,H',⟨Nat.le_refl _⟩,⟨kRC_ HO689.out⟩,⟨bkC_ BK682.out⟩,⟨h_HB HB.out⟩⟩
 case round =>
 clear H'
 try clear c1
 try clear p2
 try clear c3
 try clear c4
 try clear c6
 try clear c6b0
 try clear p6
 try clear q6
 try clear hx6
 try clear c7
 try clear c7b0
 try clear c8
 try clear c8b0
 try clear c9
 try clear c9b0
 try clear c9b1
 try clear c11
 try clear c11b0
 try clear c12
 try clear c12b0
 try clear c13
 try clear c13b0
 try clear c14
 try clear c14b0
 try clear c14b1
 try clear c16
 try clear hcz10_0
 try clear hcz10_1
 try clear hcz10_2
 try clear hcz18_0
 try clear hcz18_1
 try clear hcz18_2
 try clear hfz10_0
 try clear hfz10_1
 try clear hfz10_2
 try clear hfz18_0
 try clear hfz18_1
 try clear hfz18_2
 try clear hx684_0
 try clear hx685_0
 try clear p2
 try clear p6
 try clear p684
 try clear p685
 try clear q6
 try clear q684
 try clear q685
 obtain ⟨x47_3,x683000_3,x683001_3,x683002_3,rfl,HA,HK3,HO_45,BK682,HB⟩:=hrel
 cases gk with
 | zero=>exact absurd HA.out (by simp [impl_CircuitFailure.l2])
 | succ k3 =>
 have H:=HA.out
 clear HA
 simp only [impl_CircuitFailure.l2] at H
 replace H:=gsn_ H;rcases H with ⟨c22b0,H⟩|⟨c22b0,H⟩
 ·have H':=Aside0.mk H
  clear H
  go_wp2
  go_roundg k3
  case measure=>have:=HK1.out;have:=HK2.out;have:=HK3.out;omega
  case rel=>exact ⟨(wrap64 (x29_2+1)),(x683000_3),(x683001_3),(x683002_3),sT_,H',⟨by have:=HK1.out;have:=HK2.out;have:=HK3.out;omega⟩,⟨bkC_ BK682.out⟩,⟨h_HB HB.out⟩⟩
 replace H:=gsm_ H;obtain ⟨c23b0,H⟩:=H
 replace H:=gsm_ H;obtain ⟨c24b0,H⟩:=H
 replace H:=gsp_ H;obtain ⟨c25,H⟩:=H
 have c25b0:=eq_true c25
 have c25b1:decide (0≤(rd t687 x47_3))=true:=decide_eq_true c25
 clear c25
 obtain ⟨ji26,hji26⟩:∃ j_:Int,(shl .i64 1 (rd t687 x47_3))=j_:=⟨_,rfl⟩
 first |rw [hji26] at H|simp only [hji26] at H
 have hji26_:(IntKind.i64.wrap (1*2 ^ min (rd t687 x47_3).toNat 64))=ji26:=hji26
 have hji26z:(rd t687 x47_3)≤64→(IntKind.i64.wrap (1*2 ^ (rd t687 x47_3).toNat))=ji26:=shl_small hji26
 have hji26u:(IntKind.i64.wrap (2 ^ min (rd t687 x47_3).toNat 64))=ji26:=by have h_:=hji26_;rw [Int.one_mul] at h_;exact h_
 have hji26v:(rd t687 x47_3)≤64→(IntKind.i64.wrap (2 ^ (rd t687 x47_3).toNat))=ji26:=fun hle_=>by have h_:=hji26z hle_;rw [Int.one_mul] at h_;exact h_
 have hji26y:(wrap64 (1*2 ^ min (rd t687 x47_3).toNat 64))=ji26:=(i64_w _).symm.trans hji26_
 have hji26x:(rd t687 x47_3)≤64→(wrap64 (1*2 ^ (rd t687 x47_3).toNat))=ji26:=fun h_=>(i64_w _).symm.trans (hji26z h_)
 replace H:=bnd_ H;obtain ⟨t692,A27,H⟩:=H
 replace H:=(gst_ H).symm;rcases H with ⟨rfl,H⟩|⟨rfl,H⟩
 ·simp only [Option.some.injEq,Prod.mk.injEq] at H
  obtain ⟨rfl,rfl,rfl,rfl⟩:=H
  obtain ⟨ad690,e690,hx690_0,p690,q690⟩:=aiI_ (Kd.R_reads' HO_45.out).2.2 x47_3
  cases e690
  go_wp2_with (first|((with_reducible refine gate_dst (N:=12) rfl ?_);refine bx_ (N:=12) (cs:=#[.int .i64 0]) (t:=3) ?_;intro gb691 hg w32 hbox hb;replace HO_45:=Aside0.mk (Kd.R_below (Kd.R_elderB (kRC_ HO_45.out) gb691 (Nat.le_of_eq hg.symm)) hb);have BK691:=Aside0.mk (hbox);have GW691:=Aside0.mk (gw_ hg (h_HB HB.out));have GE691:=GW691;replace HB:=s_HB HB.out hb;have NB682_691:=Aside0.mk (nbl_ hg (bkC_ BK682.out));have NB691_682:=Aside0.mk NB682_691.out.symm;replace BK682:=sBK_ BK682.out hb;clear hb hbox hg;have hnb33:=NB691_682.out;have hnc33:=NB682_691.out;obtain ⟨hcz34_0,hfz34_0⟩:=bz1_ BK691.out)|((with_reducible refine gate_callee (f:=34) rfl ?_);refine goesL_ (some 59) rfl rfl Tryz.func34 krT_ rfl #[.slice (some ad684) l1.length c1,.func (.func 35) #[] #[.pointer (some ⟨gb691,0,none⟩)]] rfl agT_ ?_;(with_reducible refine (on_impl_CircuitFailure_1.calls k3 _ _ l1 (Go.bits .andNot .i64 (Go.bits .or .i64 (rd l1 x20_1) (rd l1 x29_2)) (ji26)) false _ ?side1 ?side2 A27.out gb691 ?side3).mono ?_);(case side1=>exact Kd.C_below HR1.out (h_HB HB.out));(case side2=>exact HC1.out);(case side3=>exact (by (with_reducible repeat (first|refine blk_drewN ?_ _|refine blk_drew ?_|refine blk_alloc ?_ _));refine blk_put (cs:=#[.int .i64 0]) ?_ 0 _ rfl;exact bkC_ BK691.out));rintro e w' ⟨rfl,⟨nd,rfl⟩⟩;refine ⟨_,rfl,?_⟩;obtain ⟨hcz35_0,hcz35_1,hcz35_2,hfz35_0,hfz35_1,hfz35_2⟩:=bz3_ BK682.out))
  refine bodyPost_ret (results_ct rfl _ _ gb682 32 #[.int .i64 (rd l1 x20_1),.int .i64 (rd l1 x29_2),.int .i64 (rd t687 x47_3)] (0,0) _ rfl (by (with_reducible repeat (first|refine blk_drewN ?_ _|refine blk_drew ?_|refine blk_alloc ?_ _));refine blk_put (cs:=#[.int .i64 (rd l1 x20_1),.int .i64 (rd l1 x29_2),.int .i64 x683002_3]) ?_ 2 _ rfl;(with_reducible repeat (first|refine blk_drewN ?_ _|refine blk_drew ?_|refine blk_alloc ?_ _));refine blk_put (cs:=#[.int .i64 (rd l1 x20_1),.int .i64 x683001_3,.int .i64 x683002_3]) ?_ 1 _ rfl;(with_reducible repeat (first|refine blk_drewN ?_ _|refine blk_drew ?_|refine blk_alloc ?_ _));refine blk_put (cs:=#[.int .i64 x683000_3,.int .i64 x683001_3,.int .i64 x683002_3]) ?_ 0 _ rfl;exact bkC_ BK682.out) Tryz.underlying32 rfl krT_) rfl ?_
  exact ⟨by first|rfl|(simp [errW_none,errW_some]<;>rfl)|(simp only [← hji26];first|rfl|(simp [errW_none,errW_some]<;>rfl))|(simp [*,errW_none,errW_some]<;>rfl),h_HB HB.out⟩
 have H':=Aside0.mk H
 clear H
 obtain ⟨ad690,e690,hx690_0,p690,q690⟩:=aiI_ (Kd.R_reads' HO_45.out).2.2 x47_3
 cases e690
 go_wp2_with (first|((with_reducible refine gate_dst (N:=12) rfl ?_);refine bx_ (N:=12) (cs:=#[.int .i64 0]) (t:=3) ?_;intro gb691 hg w29 hbox hb;replace HO_45:=Aside0.mk (Kd.R_below (Kd.R_elderB (kRC_ HO_45.out) gb691 (Nat.le_of_eq hg.symm)) hb);have BK691:=Aside0.mk (hbox);have GW691:=Aside0.mk (gw_ hg (h_HB HB.out));have GE691:=GW691;replace HB:=s_HB HB.out hb;have NB682_691:=Aside0.mk (nbl_ hg (bkC_ BK682.out));have NB691_682:=Aside0.mk NB682_691.out.symm;replace BK682:=sBK_ BK682.out hb;clear hb hbox hg;have hnb30:=NB691_682.out;have hnc30:=NB682_691.out;obtain ⟨hcz31_0,hfz31_0⟩:=bz1_ BK691.out)|((with_reducible refine gate_callee (f:=34) rfl ?_);refine goesL_ (some 59) rfl rfl Tryz.func34 krT_ rfl #[.slice (some ad684) l1.length c1,.func (.func 35) #[] #[.pointer (some ⟨gb691,0,none⟩)]] rfl agT_ ?_;(with_reducible refine (on_impl_CircuitFailure_1.calls k3 _ _ l1 (Go.bits .andNot .i64 (Go.bits .or .i64 (rd l1 x20_1) (rd l1 x29_2)) (ji26)) true _ ?side1 ?side2 A27.out gb691 ?side3).mono ?_);(case side1=>exact Kd.C_below HR1.out (h_HB HB.out));(case side2=>exact HC1.out);(case side3=>exact (by (with_reducible repeat (first|refine blk_drewN ?_ _|refine blk_drew ?_|refine blk_alloc ?_ _));refine blk_put (cs:=#[.int .i64 0]) ?_ 0 _ rfl;exact bkC_ BK691.out));rintro e w' ⟨rfl,⟨nd,rfl⟩⟩;refine ⟨_,rfl,?_⟩))
 go_roundg k3
 case measure=>have:=HK1.out;have:=HK2.out;have:=HK3.out;omega
 case rel=>exact ⟨(wrap64 (x47_3+1)),(x683000_3),(x683001_3),(x683002_3),sT_,H',⟨by have:=HK1.out;have:=HK2.out;have:=HK3.out;omega⟩,⟨by (with_reducible repeat (first|apply Kd.R_alloc|apply Kd.R_drewN|apply Kd.R_drew));exact Kd.R_mono (Kd.R_far (p:=⟨gb691,0,none⟩) (Kd.R_mono HO_45.out (fun k_ hk=>(⟨hk,hk.2⟩:_∧k_≠gb691))) (fun _ hk=>hk.2) (.int .i64 (Go.bits .andNot .i64 (Go.bits .or .i64 (rd l1 x20_1) (rd l1 x29_2)) (ji26)))) (fun _ hk=>trivial)⟩,⟨bkC_ BK682.out⟩,⟨h_HB HB.out⟩⟩
def spec_l6Within.l0:Nat→List Int→Int→Int→Option (Bool)
 | 0,_,_,_=>none
 | k+1,x0,x1,x5=>if x5<(x0.length:Int) then (if 0≤x5 then (if (Go.bits .and .i64 (rd x0 x5) x1)=(rd x0 x5) then (some true) else (spec_l6Within.l0 k x0 x1 (wrap64 (x5+1)))) else (none)) else (some false)
def spec_l6Within.f (k:Nat) (l0:List Int) (a1:Int):Option (Bool):=spec_l6Within.l0 k l0 a1 0
theorem spec_l6Within.calls (k:Nat) (A0:Option Addr) (c0:Nat) (l0:List Int) (a1:Int) (r:Bool) (w:World) (hr0:Kd.C (Kd.int .i64) w A0 l0.length l0) (hc0:l0.length≤c0) (h:spec_l6Within.f k l0 a1=some r) :
    Calls Tryz.prog 43 #[.slice A0 l0.length c0,.int .i64 a1] w fun e w'=>e=.returned (.bool r)∧Drawn0 w w':=by
 have HR0:=Aside0.mk hr0
 have HC0:=Aside0.mk hc0
 clear hr0 hc0
 have H:(spec_l6Within.l0 k l0 a1 0)=some r:=h
 clear h
 have H':=Aside0.mk H
 clear H
 go_enter Tryz.func43,Tryz.ntmps43
 go_wp2
 repeat (go_quiet (fail);try go_wp2)
 go_loopg [5] k (fun kq v5 w'=>∃ (x5_1:Int),v5=.int .i64 x5_1∧Aside0 (spec_l6Within.l0 kq l0 a1 x5_1=some r)∧Aside0 (kq≤k)∧Drawn0 w w')
 case atStart=>exact ⟨(0),sT_,H',⟨Nat.le_refl _⟩,dT_⟩
 case round =>
 clear H'
 try clear p2
 obtain ⟨x5_1,rfl,HA,HK1,⟨m1,rfl⟩⟩:=hrel
 cases gk with
 | zero=>exact absurd HA.out (by simp [spec_l6Within.l0])
 | succ k1 =>
 have H:=HA.out
 clear HA
 simp only [spec_l6Within.l0] at H
 replace H:=gsn_ H;rcases H with ⟨c3b0,H⟩|⟨c3b0,H⟩
 ·obtain rfl:=Option.some.inj H
  go_wp2
  repeat (go_quiet (fail);try go_wp2)
  go_ret
  exact ⟨sT_,dT_⟩
 replace H:=gsm_ H;obtain ⟨c4b0,H⟩:=H
 replace H:=gse_ H;rcases H with ⟨c5b0,c5b1,H⟩|⟨c5b0,c5b1,c5,H⟩
 ·obtain rfl:=Option.some.inj H
  obtain ⟨ad693,e693,hx693_0,p693,q693⟩:=aiI_ HR0.out x5_1
  cases e693
  obtain ⟨ad694,e694,hx694_0,p694,q694⟩:=aiI_ HR0.out x5_1
  obtain rfl:ad693=ad694:=(by injection e694)
  go_wp2
  repeat (go_quiet (fail);try go_wp2)
  go_ret
  exact ⟨sT_,dT_⟩
 have H':=Aside0.mk H
 clear H
 obtain ⟨ad693,e693,hx693_0,p693,q693⟩:=aiI_ HR0.out x5_1
 cases e693
 obtain ⟨ad694,e694,hx694_0,p694,q694⟩:=aiI_ HR0.out x5_1
 obtain rfl:ad693=ad694:=(by injection e694)
 go_wp2
 repeat (go_quiet (fail);try go_wp2)
 go_roundg k1
 case measure=>have:=HK1.out;omega
 case rel=>exact ⟨(wrap64 (x5_1+1)),sT_,H',⟨by have:=HK1.out;omega⟩,dT_⟩
def spec_l6Pair.l0:Nat→Int→List Int→Int→Int→Int→Option (Int × Int × Int × Bool)
 | 0,_,_,_,_,_=>none
 | k+1,x0,x1,x2,x3,x10=>if x10<x0 then ((spec_l2Has.f x2 x10).bind fun t696=>(if t696=true then ((spec_l2Has.f x3 x10).bind fun t697=>(if t697=true then (if 0≤(IntKind.u64.wrap (x10)) then ((spec_l6Within.f k x1 (wrap64 ((Go.bits .or .i64 x2 x3)-(shl .i64 1 (IntKind.u64.wrap (x10)))))).bind fun t698=>(if t698=true then (spec_l6Pair.l0 k x0 x1 x2 x3 (wrap64 (x10+1))) else (some (x2,x3,x10,true)))) else (none)) else (spec_l6Pair.l0 k x0 x1 x2 x3 (wrap64 (x10+1))))) else (spec_l6Pair.l0 k x0 x1 x2 x3 (wrap64 (x10+1))))) else (some (0,0,0,false))
def spec_l6Pair.f (k:Nat) (a0:Int) (l1:List Int) (a2:Int) (a3:Int):Option (Int × Int × Int × Bool):=if a2=a3 then (some (0,0,0,false)) else (if (Go.bits .and .i64 a2 a3)=a2 then (some (a2,a3,0,true)) else (spec_l6Pair.l0 k a0 l1 a2 a3 0))
theorem spec_l6Pair.calls (k:Nat) (a0:Int) (A1:Option Addr) (c1:Nat) (l1:List Int) (a2:Int) (a3:Int) (r1:Int) (r2:Int) (r3:Int) (r4:Bool) (w:World) (hr1:Kd.C (Kd.int .i64) w A1 l1.length l1) (hc1:l1.length≤c1) (h:spec_l6Pair.f k a0 l1 a2 a3=some (r1,r2,r3,r4)) :
    Calls Tryz.prog 37 #[.int .i64 a0,.slice A1 l1.length c1,.int .i64 a2,.int .i64 a3] w fun e w'=>e=.returned (.tuple #[.agg #[.int .i64 r1,.int .i64 r2,.int .i64 r3],.bool r4])∧Below w.heap.size w w':=by
 have hu32:=Tryz.underlying32
 have HR1:=Aside0.mk hr1
 have HC1:=Aside0.mk hc1
 clear hr1 hc1
 have HB:=Aside0.mk (Below.refl w.heap.size w)
 unfold spec_l6Pair.f at h
 have H:=h
 clear h
 replace H:=gse_ H;rcases H with ⟨c5b0,c5b1,H⟩|⟨c5b0,c5b1,c5,H⟩
 ·simp only [Option.some.injEq,Prod.mk.injEq] at H
  obtain ⟨rfl,rfl,rfl,rfl⟩:=H
  go_enter Tryz.func37,Tryz.ntmps37
  go_wp2_with (first|((with_reducible refine gate_dst (N:=8) rfl ?_);refine bx_ (N:=8) (cs:=#[.int .i64 0,.int .i64 0,.int .i64 0]) (t:=32) ?_;intro gb695 hg w6 hbox hb;have BK695:=Aside0.mk (hbox);have GW695:=Aside0.mk (gw_ hg (h_HB HB.out));have GE695:=GW695;replace HB:=s_HB HB.out hb;clear hb hbox hg;obtain ⟨hcz7_0,hcz7_1,hcz7_2,hfz7_0,hfz7_1,hfz7_2⟩:=bz3_ BK695.out))
  refine bodyPost_ret (results_ct rfl _ _ gb695 32 #[.int .i64 0,.int .i64 0,.int .i64 0] (0,0) _ rfl (by (with_reducible repeat (first|refine blk_drewN ?_ _|refine blk_drew ?_|refine blk_alloc ?_ _));exact bp3_ (bkC_ BK695.out)) Tryz.underlying32 rfl krT_) rfl ?_
  exact ⟨eT_,h_HB HB.out⟩
 replace H:=gse_ H;rcases H with ⟨c8b0,c8b1,H⟩|⟨c8b0,c8b1,c8,H⟩
 ·simp only [Option.some.injEq,Prod.mk.injEq] at H
  obtain ⟨rfl,rfl,rfl,rfl⟩:=H
  go_enter Tryz.func37,Tryz.ntmps37
  go_wp2_with (first|((with_reducible refine gate_dst (N:=8) rfl ?_);refine bx_ (N:=8) (cs:=#[.int .i64 0,.int .i64 0,.int .i64 0]) (t:=32) ?_;intro gb695 hg w9 hbox hb;have BK695:=Aside0.mk (hbox);have GW695:=Aside0.mk (gw_ hg (h_HB HB.out));have GE695:=GW695;replace HB:=s_HB HB.out hb;clear hb hbox hg;obtain ⟨hcz10_0,hcz10_1,hcz10_2,hfz10_0,hfz10_1,hfz10_2⟩:=bz3_ BK695.out))
  refine bodyPost_ret (results_ct rfl _ _ gb695 32 #[.int .i64 a2,.int .i64 a3,.int .i64 0] (0,0) _ rfl (by (with_reducible repeat (first|refine blk_drewN ?_ _|refine blk_drew ?_|refine blk_alloc ?_ _));exact bp3_ (bkC_ BK695.out)) Tryz.underlying32 rfl krT_) rfl ?_
  exact ⟨eT_,h_HB HB.out⟩
 have H':=Aside0.mk H
 clear H
 go_enter Tryz.func37,Tryz.ntmps37
 go_wp2_with (first|((with_reducible refine gate_dst (N:=8) rfl ?_);refine bx_ (N:=8) (cs:=#[.int .i64 0,.int .i64 0,.int .i64 0]) (t:=32) ?_;intro gb695 hg w11 hbox hb;have BK695:=Aside0.mk (hbox);have GW695:=Aside0.mk (gw_ hg (h_HB HB.out));have GE695:=GW695;replace HB:=s_HB HB.out hb;clear hb hbox hg))
 go_loopg [10] k (fun kq v10 w'=>∃ (x10_1:Int) (x696000_1:Int) (x696001_1:Int) (x696002_1:Int),v10=.int .i64 x10_1∧Aside0 (spec_l6Pair.l0 kq a0 l1 a2 a3 x10_1=some (r1,r2,r3,r4))∧Aside0 (kq≤k)∧Aside0 (w'.heap[gb695]?=some (.cells #[.int .i64 x696000_1,.int .i64 x696001_1,.int .i64 x696002_1] 32 (0,0)))∧Aside0 (Below w.heap.size w w'))
 case atStart=>exact ⟨(0),(0),(0),(0),sT_,H',⟨Nat.le_refl _⟩,⟨bkC_ BK695.out⟩,⟨h_HB HB.out⟩⟩
 case round =>
 clear H'
 try clear c1
 try clear p2
 try clear c3
 try clear c5
 try clear c5b0
 try clear c5b1
 try clear c8
 try clear c8b0
 try clear c8b1
 try clear hcz10_0
 try clear hcz10_1
 try clear hcz10_2
 try clear hcz7_0
 try clear hcz7_1
 try clear hcz7_2
 try clear hfz10_0
 try clear hfz10_1
 try clear hfz10_2
 try clear hfz7_0
 try clear hfz7_1
 try clear hfz7_2
 obtain ⟨x10_1,x696000_1,x696001_1,x696002_1,rfl,HA,HK1,BK695,HB⟩:=hrel
 cases gk with
 | zero=>exact absurd HA.out (by simp [spec_l6Pair.l0])
 | succ k1 =>
 have H:=HA.out
 clear HA
 simp only [spec_l6Pair.l0] at H
 replace H:=gsn_ H;rcases H with ⟨c12b0,H⟩|⟨c12b0,H⟩
 ·simp only [Option.some.injEq,Prod.mk.injEq] at H
  obtain ⟨rfl,rfl,rfl,rfl⟩:=H
  obtain ⟨hcz26_0,hcz26_1,hcz26_2,hfz26_0,hfz26_1,hfz26_2⟩:=bz3_ BK695.out
  go_wp2
  refine bodyPost_ret (results_ct rfl _ _ gb695 32 #[.int .i64 0,.int .i64 0,.int .i64 0] (0,0) _ rfl (by (with_reducible repeat (first|refine blk_drewN ?_ _|refine blk_drew ?_|refine blk_alloc ?_ _));exact bp3_ (bkC_ BK695.out)) Tryz.underlying32 rfl krT_) rfl ?_
  exact ⟨eT_,h_HB HB.out⟩
 replace H:=bnd_ H;obtain ⟨t696,A13,H⟩:=H
 replace H:=(gst_ H).symm;rcases H with ⟨rfl,H⟩|⟨rfl,H⟩
 ·have H':=Aside0.mk H
  clear H
  go_wp2_with (first|((with_reducible refine gate_callee (f:=54) rfl ?_);refine goesL_ (some 30) rfl rfl Tryz.func54 krT_ rfl #[.int .i64 a2,.int .i64 x10_1] rfl agT_ ?_;(with_reducible refine (spec_l2Has.calls a2 x10_1 false _ A13.out).mono ?_);rintro e w' ⟨rfl,⟨nd,rfl⟩⟩;refine ⟨_,rfl,?_⟩))
  go_roundg k1
  case measure=>have:=HK1.out;omega
  case rel=>exact ⟨(wrap64 (x10_1+1)),(x696000_1),(x696001_1),(x696002_1),sT_,H',⟨by have:=HK1.out;omega⟩,⟨bkC_ BK695.out⟩,⟨h_HB HB.out⟩⟩
 replace H:=bnd_ H;obtain ⟨t697,A15,H⟩:=H
 replace H:=(gst_ H).symm;rcases H with ⟨rfl,H⟩|⟨rfl,H⟩
 ·have H':=Aside0.mk H
  clear H
  go_wp2_with (first|((with_reducible refine gate_callee (f:=54) rfl ?_);refine goesL_ (some 30) rfl rfl Tryz.func54 krT_ rfl #[.int .i64 a2,.int .i64 x10_1] rfl agT_ ?_;(with_reducible refine (spec_l2Has.calls a2 x10_1 true _ A13.out).mono ?_);rintro e w' ⟨rfl,⟨nd,rfl⟩⟩;refine ⟨_,rfl,?_⟩)|(go_at_call 54;(with_reducible refine (spec_l2Has.calls a3 x10_1 false _ A15.out).mono ?_);rintro e w' ⟨rfl,⟨nd,rfl⟩⟩))
  go_roundg k1
  case measure=>have:=HK1.out;omega
  case rel=>exact ⟨(wrap64 (x10_1+1)),(x696000_1),(x696001_1),(x696002_1),sT_,H',⟨by have:=HK1.out;omega⟩,⟨bkC_ BK695.out⟩,⟨h_HB HB.out⟩⟩
 obtain ⟨ji17,hji17⟩:∃ j_:Int,(IntKind.u64.wrap (x10_1))=j_:=⟨_,rfl⟩
 first |rw [hji17] at H|simp only [hji17] at H
 (try rw [hji17] at A13)
 (try rw [hji17] at A15)
 replace H:=gsp_ H;obtain ⟨c18,H⟩:=H
 have c18b0:=eq_true c18
 have c18b1:decide (0≤(ji17))=true:=decide_eq_true c18
 clear c18
 obtain ⟨ji19,hji19⟩:∃ j_:Int,(shl .i64 1 (ji17))=j_:=⟨_,rfl⟩
 first |rw [hji19] at H|simp only [hji19] at H
 (try rw [hji19] at A13)
 (try rw [hji19] at A15)
 have hji19_:(IntKind.i64.wrap (1*2 ^ min (ji17).toNat 64))=ji19:=hji19
 have hji19z:(ji17)≤64→(IntKind.i64.wrap (1*2 ^ (ji17).toNat))=ji19:=shl_small hji19
 have hji19u:(IntKind.i64.wrap (2 ^ min (ji17).toNat 64))=ji19:=by have h_:=hji19_;rw [Int.one_mul] at h_;exact h_
 have hji19v:(ji17)≤64→(IntKind.i64.wrap (2 ^ (ji17).toNat))=ji19:=fun hle_=>by have h_:=hji19z hle_;rw [Int.one_mul] at h_;exact h_
 have hji19y:(wrap64 (1*2 ^ min (ji17).toNat 64))=ji19:=(i64_w _).symm.trans hji19_
 have hji19x:(ji17)≤64→(wrap64 (1*2 ^ (ji17).toNat))=ji19:=fun h_=>(i64_w _).symm.trans (hji19z h_)
 replace H:=bnd_ H;obtain ⟨t698,A20,H⟩:=H
 replace H:=(gst_ H).symm;rcases H with ⟨rfl,H⟩|⟨rfl,H⟩
 ·simp only [Option.some.injEq,Prod.mk.injEq] at H
  obtain ⟨rfl,rfl,rfl,rfl⟩:=H
  go_wp2_with (first|((with_reducible refine gate_callee (f:=54) rfl ?_);refine goesL_ (some 30) rfl rfl Tryz.func54 krT_ rfl #[.int .i64 a2,.int .i64 x10_1] rfl agT_ ?_;(with_reducible refine (spec_l2Has.calls a2 x10_1 true _ A13.out).mono ?_);rintro e w' ⟨rfl,⟨nd,rfl⟩⟩;refine ⟨_,rfl,?_⟩;(try (rw [drewN_self wr];generalize hq_:World.drewN wr _=wr;replace BK695:Aside0 (wr.heap[gb695]?=some (.cells #[.int .i64 x696000_1,.int .i64 x696001_1,.int .i64 x696002_1] 32 (0,0))):=⟨by rw [← hq_];exact (bkC_ BK695.out)⟩;replace HB:Aside0 (Below w.heap.size w wr):=⟨by rw [← hq_];exact (h_HB HB.out)⟩;clear hq_;have hcuz22_gb695_0:wr.cell? ⟨gb695,0,none⟩=some (.int .i64 x696000_1):=(blk_cell BK695.out 0).trans rfl;have hfuz22_gb695_0:=blk_frozen BK695.out 0;have hcuz22_gb695_1:wr.cell? ⟨gb695,1,none⟩=some (.int .i64 x696001_1):=(blk_cell BK695.out 1).trans rfl;have hfuz22_gb695_1:=blk_frozen BK695.out 1;have hcuz22_gb695_2:wr.cell? ⟨gb695,2,none⟩=some (.int .i64 x696002_1):=(blk_cell BK695.out 2).trans rfl;have hfuz22_gb695_2:=blk_frozen BK695.out 2)))|(go_at_call 54;(with_reducible refine (spec_l2Has.calls a3 x10_1 true _ A15.out).mono ?_);rintro e w' ⟨rfl,⟨nd,rfl⟩⟩;(try (rw [drewN_self wr];generalize hq_:World.drewN wr _=wr;replace BK695:Aside0 (wr.heap[gb695]?=some (.cells #[.int .i64 x696000_1,.int .i64 x696001_1,.int .i64 x696002_1] 32 (0,0))):=⟨by rw [← hq_];exact (bkC_ BK695.out)⟩;replace HB:Aside0 (Below w.heap.size w wr):=⟨by rw [← hq_];exact (h_HB HB.out)⟩;clear hq_;have hcuz23_gb695_0:wr.cell? ⟨gb695,0,none⟩=some (.int .i64 x696000_1):=(blk_cell BK695.out 0).trans rfl;have hfuz23_gb695_0:=blk_frozen BK695.out 0;have hcuz23_gb695_1:wr.cell? ⟨gb695,1,none⟩=some (.int .i64 x696001_1):=(blk_cell BK695.out 1).trans rfl;have hfuz23_gb695_1:=blk_frozen BK695.out 1;have hcuz23_gb695_2:wr.cell? ⟨gb695,2,none⟩=some (.int .i64 x696002_1):=(blk_cell BK695.out 2).trans rfl;have hfuz23_gb695_2:=blk_frozen BK695.out 2)))|(go_at_call 43;(with_reducible refine (spec_l6Within.calls k1 _ _ l1 (wrap64 ((Go.bits .or .i64 a2 a3)-(ji19))) false _ ?side1 ?side2 A20.out).mono ?_);(case side1=>exact cC_ HR1.out);(case side2=>exact HC1.out);rintro e w' ⟨rfl,⟨nd,rfl⟩⟩;(try (rw [drewN_self wr];generalize hq_:World.drewN wr _=wr;replace BK695:Aside0 (wr.heap[gb695]?=some (.cells #[.int .i64 x696000_1,.int .i64 x696001_1,.int .i64 x696002_1] 32 (0,0))):=⟨by rw [← hq_];exact (bkC_ BK695.out)⟩;replace HB:Aside0 (Below w.heap.size w wr):=⟨by rw [← hq_];exact (h_HB HB.out)⟩;clear hq_;have hcuz24_gb695_0:wr.cell? ⟨gb695,0,none⟩=some (.int .i64 x696000_1):=(blk_cell BK695.out 0).trans rfl;have hfuz24_gb695_0:=blk_frozen BK695.out 0;have hcuz24_gb695_1:wr.cell? ⟨gb695,1,none⟩=some (.int .i64 x696001_1):=(blk_cell BK695.out 1).trans rfl;have hfuz24_gb695_1:=blk_frozen BK695.out 1;have hcuz24_gb695_2:wr.cell? ⟨gb695,2,none⟩=some (.int .i64 x696002_1):=(blk_cell BK695.out 2).trans rfl;have hfuz24_gb695_2:=blk_frozen BK695.out 2));obtain ⟨hcz25_0,hcz25_1,hcz25_2,hfz25_0,hfz25_1,hfz25_2⟩:=bz3_ BK695.out))
  refine bodyPost_ret (results_ct rfl _ _ gb695 32 #[.int .i64 a2,.int .i64 a3,.int .i64 x10_1] (0,0) _ rfl (by (with_reducible repeat (first|refine blk_drewN ?_ _|refine blk_drew ?_|refine blk_alloc ?_ _));exact bp3_ (bkC_ BK695.out)) Tryz.underlying32 rfl krT_) rfl ?_
  exact ⟨by first|rfl|(simp [errW_none,errW_some]<;>rfl)|(simp only [← hji17,← hji19];first|rfl|(simp [errW_none,errW_some]<;>rfl))|(simp [*,errW_none,errW_some]<;>rfl),h_HB HB.out⟩
 have H':=Aside0.mk H
 clear H
 go_wp2_with (first|((with_reducible refine gate_callee (f:=54) rfl ?_);refine goesL_ (some 30) rfl rfl Tryz.func54 krT_ rfl #[.int .i64 a2,.int .i64 x10_1] rfl agT_ ?_;(with_reducible refine (spec_l2Has.calls a2 x10_1 true _ A13.out).mono ?_);rintro e w' ⟨rfl,⟨nd,rfl⟩⟩;refine ⟨_,rfl,?_⟩)|(go_at_call 54;(with_reducible refine (spec_l2Has.calls a3 x10_1 true _ A15.out).mono ?_);rintro e w' ⟨rfl,⟨nd,rfl⟩⟩)|(go_at_call 43;(with_reducible refine (spec_l6Within.calls k1 _ _ l1 (wrap64 ((Go.bits .or .i64 a2 a3)-(ji19))) true _ ?side1 ?side2 A20.out).mono ?_);(case side1=>repeat (first|exact (Kd.C_below HR1.out (h_HB HB.out))|(with_reducible refine Kd.C_alloc ?_ _)|(with_reducible refine Kd.C_drewN ?_ _)|(with_reducible refine Kd.C_drew ?_)));(case side2=>exact HC1.out);rintro e w' ⟨rfl,⟨nd,rfl⟩⟩))
 go_roundg k1
 case measure=>have:=HK1.out;omega
 case rel=>exact ⟨(wrap64 (x10_1+1)),(x696000_1),(x696001_1),(x696002_1),sT_,H',⟨by have:=HK1.out;omega⟩,⟨bkC_ BK695.out⟩,⟨h_HB HB.out⟩⟩
end Go.Proofs.YtekegbacnagbcaaGreat.P
