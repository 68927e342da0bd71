-- written by gprint (a program of this session's, round the kit's print), out of the translation and hand-written texts
import Derived.Test.YtekegbacnagbcaaGreatPVFnCircuitsx0
import Derived.Test.YtekegbacnagbcaaGreatPVFnCircuitsx3
import Derived.Test.YtekegbacnagbcaaGreatPVFnCircuitsx17
namespace Go.Proofs.YtekegbacnagbcaaGreat.P
open Go.RowKit Go.Proofs.YtekegbacnagbcaaGreatW.PrintWords Go.Proofs.YtekegbacnagbcaaGreatW.PrintLast Go.Proofs.YtekegbacnagbcaaGreatW.PrintMore
attribute [local go_sem] max2_int min2_int max_two min_two max_three min_three max_four min_four
set_option linter.unusedVariables false
set_option maxHeartbeats 8000000
set_option maxRecDepth 100000
set_option linter.unusedSimpArgs false
mutual
def spec_CircuitFailure.l0:Nat→Int→List Int→Int→Option (Int × Int × Int × Bool)
 | 0,_,_,_=>none
 | k+1,x0,x1,x6=>if x6<(x1.length:Int) then (if 0≤x6 then (if (rd x1 x6)=0 then (some (0,0,0,true)) else (spec_CircuitFailure.l1 k x0 x1 x6 0)) else (none)) else (some (0,0,0,false))
def spec_CircuitFailure.l1:Nat→Int→List Int→Int→Int→Option (Int × Int × Int × Bool)
 | 0,_,_,_,_=>none
 | k+1,x0,x1,x6,x7=>if x7<(x1.length:Int) then (if 0≤x6 then (if x6<(x1.length:Int) then (if 0≤x7 then ((spec_l6Pair.f k x0 x1 (rd x1 x6) (rd x1 x7)).bind fun bt704=>(if bt704.2.2.2=true then (some (bt704.1,bt704.2.1,bt704.2.2.1,true)) else (spec_CircuitFailure.l1 k x0 x1 x6 (wrap64 (x7+1))))) else (none)) else (none)) else (none)) else (spec_CircuitFailure.l0 k x0 x1 (wrap64 (x6+1)))
end
def spec_CircuitFailure.f (k:Nat) (a0:Int) (l1:List Int):Option (Int × Int × Int × Bool):=(spec_IsFamily.f k a0 l1).bind fun t700=>(if t700=true then (spec_CircuitFailure.l0 k a0 l1 0) else (some (0,0,0,false)))
def spec_CircuitFailure.T11:Bool × List (List Nat × List Nat):=(true,[([],[]),([],[]),([],[]),([],[]),([2,3],[2,3]),([4],[4]),([],[]),([],[]),([6,7],[6,7]),([8],[8]),([0,1,5,9],[0,1,5,9]),([10],[10]),([11],[11]),([11],[11]),([],[]),([14,12,10,0,1,2,3,4,5,6,7,8,9,10,11,12,14],[12,14]),([13,15,0,1,2,3,4,5,6,7,8,9,10,11,12,13,14,15],[13])])
def spec_CircuitFailure.B11:List Nat:=[0,0,0,0,12,28,0,0,192,448,1023,2047,4095,4095,0,24575,65535]
theorem spec_CircuitFailure.tab11:rtab .any (opsOf Tryz.f9 11)=spec_CircuitFailure.T11:=by kernel_rfl
theorem spec_CircuitFailure.bits11:waitsOk spec_CircuitFailure.T11.2 spec_CircuitFailure.B11=true:=by kernel_rfl
theorem spec_CircuitFailure.calls (k:Nat) (a0:Int) (A1:Option Addr) (c1:Nat) (l1:List Int) (r1:Int) (r2:Int) (r3:Int) (r4:Bool) (w:World) (hr1:Kd.C (Kd.int .i64) w A1 l1.length l1) (hc1:l1.length≤c1) (h:spec_CircuitFailure.f k a0 l1=some (r1,r2,r3,r4)) :
    Calls Tryz.prog 9 #[.int .i64 a0,.slice A1 l1.length c1] w fun e w'=>e=.returned (.tuple #[.agg #[.int .i64 r1,.int .i64 r2,.int .i64 r3],.bool r4])∧Below w.heap.size w w':=by
 have hu32:=Tryz.underlying32
 have HR1:=Aside0.mk hr1
 have HC1:=Aside0.mk hc1
 clear hr1 hc1
 have HB:=Aside0.mk (Below.refl w.heap.size w)
 unfold spec_CircuitFailure.f at h
 have H:=h
 clear h
 replace H:=bnd_ H;obtain ⟨t700,A3,H⟩:=H
 replace H:=(gst_ H).symm;rcases H with ⟨rfl,H⟩|⟨rfl,H⟩
 ·simp only [Option.some.injEq,Prod.mk.injEq] at H
  obtain ⟨rfl,rfl,rfl,rfl⟩:=H
  go_enter Tryz.func9,Tryz.ntmps9
  go_wp2_with (first|((with_reducible refine gate_dst (N:=4) rfl ?_);refine bx_ (N:=4) (cs:=#[.int .i64 0,.int .i64 0,.int .i64 0]) (t:=32) ?_;intro gb699 hg w34 hbox hb;have BK699:=Aside0.mk (hbox);have GW699:=Aside0.mk (gw_ hg (h_HB HB.out));have GE699:=GW699;replace HB:=s_HB HB.out hb;clear hb hbox hg)|((with_reducible refine gate_callee (f:=36) rfl ?_);refine goesL_ (some 12) rfl rfl Tryz.func36 krT_ rfl #[.int .i64 a0,.slice A1 l1.length c1] rfl agT_ ?_;(with_reducible refine (spec_IsFamily.calls k a0 _ _ l1 false _ ?side1 ?side2 A3.out).mono ?_);(case side1=>exact cC_ HR1.out);(case side2=>exact HC1.out);rintro e w' ⟨rfl,⟨nd,rfl⟩⟩;refine ⟨_,rfl,?_⟩;(try (rw [drewN_self w34];generalize hq_:World.drewN w34 _=w34;replace BK699:Aside0 (w34.heap[gb699]?=some (.cells #[.int .i64 0,.int .i64 0,.int .i64 0] 32 (0,0))):=⟨by rw [← hq_];exact (bkC_ BK699.out)⟩;replace HB:Aside0 (Below w.heap.size w w34):=⟨by rw [← hq_];exact (h_HB HB.out)⟩;clear hq_;have hcuz35_gb699_0:w34.cell? ⟨gb699,0,none⟩=some (.int .i64 0):=(blk_cell BK699.out 0).trans rfl;have hfuz35_gb699_0:=blk_frozen BK699.out 0;have hcuz35_gb699_1:w34.cell? ⟨gb699,1,none⟩=some (.int .i64 0):=(blk_cell BK699.out 1).trans rfl;have hfuz35_gb699_1:=blk_frozen BK699.out 1;have hcuz35_gb699_2:w34.cell? ⟨gb699,2,none⟩=some (.int .i64 0):=(blk_cell BK699.out 2).trans rfl;have hfuz35_gb699_2:=blk_frozen BK699.out 2));obtain ⟨hcz36_0,hcz36_1,hcz36_2,hfz36_0,hfz36_1,hfz36_2⟩:=bz3_ BK699.out))
  refine bodyPost_ret (results_ct rfl _ _ gb699 32 #[.int .i64 0,.int .i64 0,.int .i64 0] (0,0) _ rfl (by (with_reducible repeat (first|refine blk_drewN ?_ _|refine blk_drew ?_|refine blk_alloc ?_ _));exact bp3_ (bkC_ BK699.out)) Tryz.underlying32 rfl krT_) rfl ?_
  exact ⟨eT_,h_HB HB.out⟩
 have H':=Aside0.mk H
 clear H
 go_enter Tryz.func9,Tryz.ntmps9
 go_wp2_with (first|((with_reducible refine gate_dst (N:=4) rfl ?_);refine bx_ (N:=4) (cs:=#[.int .i64 0,.int .i64 0,.int .i64 0]) (t:=32) ?_;intro gb699 hg w5 hbox hb;have BK699:=Aside0.mk (hbox);have GW699:=Aside0.mk (gw_ hg (h_HB HB.out));have GE699:=GW699;replace HB:=s_HB HB.out hb;clear hb hbox hg)|((with_reducible refine gate_callee (f:=36) rfl ?_);refine goesL_ (some 12) rfl rfl Tryz.func36 krT_ rfl #[.int .i64 a0,.slice A1 l1.length c1] rfl agT_ ?_;(with_reducible refine (spec_IsFamily.calls k a0 _ _ l1 true _ ?side1 ?side2 A3.out).mono ?_);(case side1=>exact cC_ HR1.out);(case side2=>exact HC1.out);rintro e w' ⟨rfl,⟨nd,rfl⟩⟩;refine ⟨_,rfl,?_⟩))
 go_loopg [6] k (fun kq v6 w'=>∃ (x6_1:Int) (x700000_1:Int) (x700001_1:Int) (x700002_1:Int),v6=.int .i64 x6_1∧Aside0 (spec_CircuitFailure.l0 kq a0 l1 x6_1=some (r1,r2,r3,r4))∧Aside0 (kq≤k)∧Aside0 (w'.heap[gb699]?=some (.cells #[.int .i64 x700000_1,.int .i64 x700001_1,.int .i64 x700002_1] 32 (0,0)))∧Aside0 (Below w.heap.size w w'))
 case atStart=>exact ⟨(0),(0),(0),(0),sT_,H',⟨Nat.le_refl _⟩,⟨bkC_ BK699.out⟩,⟨h_HB HB.out⟩⟩
 case round =>
 clear H'
 try clear c1
 try clear p2
 try clear c3
 try clear c4
 obtain ⟨x6_1,x700000_1,x700001_1,x700002_1,rfl,HA,HK1,BK699,HB⟩:=hrel
 cases gk with
 | zero=>exact absurd HA.out (by simp [spec_CircuitFailure.l0])
 | succ k1 =>
 have H:=HA.out
 clear HA
 simp only [spec_CircuitFailure.l0] at H
 replace H:=gsn_ H;rcases H with ⟨c6b0,H⟩|⟨c6b0,H⟩
 ·simp only [Option.some.injEq,Prod.mk.injEq] at H
  obtain ⟨rfl,rfl,rfl,rfl⟩:=H
  obtain ⟨hcz33_0,hcz33_1,hcz33_2,hfz33_0,hfz33_1,hfz33_2⟩:=bz3_ BK699.out
  go_wp2
  refine bodyPost_ret (results_ct rfl _ _ gb699 32 #[.int .i64 0,.int .i64 0,.int .i64 0] (0,0) _ rfl (by (with_reducible repeat (first|refine blk_drewN ?_ _|refine blk_drew ?_|refine blk_alloc ?_ _));exact bp3_ (bkC_ BK699.out)) Tryz.underlying32 rfl krT_) rfl ?_
  exact ⟨eT_,h_HB HB.out⟩
 replace H:=gsm_ H;obtain ⟨c7b0,H⟩:=H
 replace H:=gse_ H;rcases H with ⟨c8b0,c8b1,H⟩|⟨c8b0,c8b1,c8,H⟩
 ·simp only [Option.some.injEq,Prod.mk.injEq] at H
  obtain ⟨rfl,rfl,rfl,rfl⟩:=H
  obtain ⟨ad701,e701,hx701_0,p701,q701⟩:=aiI_ HR1.out x6_1
  cases e701
  replace hx701_0:=(HB.out.cell (World.block_lt_of_cell? w _ hx701_0)).trans hx701_0
  obtain ⟨hcz9_0,hcz9_1,hcz9_2,hfz9_0,hfz9_1,hfz9_2⟩:=bz3_ BK699.out
  go_wp2
  refine bodyPost_ret (results_ct rfl _ _ gb699 32 #[.int .i64 0,.int .i64 0,.int .i64 0] (0,0) _ rfl (by (with_reducible repeat (first|refine blk_drewN ?_ _|refine blk_drew ?_|refine blk_alloc ?_ _));exact bp3_ (bkC_ BK699.out)) Tryz.underlying32 rfl krT_) rfl ?_
  exact ⟨eT_,h_HB HB.out⟩
 have H':=Aside0.mk H
 clear H
 obtain ⟨ad701,e701,hx701_0,p701,q701⟩:=aiI_ HR1.out x6_1
 cases e701
 replace hx701_0:=(HB.out.cell (World.block_lt_of_cell? w _ hx701_0)).trans hx701_0
 go_wp2
 go_loopg [7] k1 (fun kq v7 w'=>∃ (x7_2:Int) (x700000_2:Int) (x700001_2:Int) (x700002_2:Int),v7=.int .i64 x7_2∧Aside0 (spec_CircuitFailure.l1 kq a0 l1 x6_1 x7_2=some (r1,r2,r3,r4))∧Aside0 (kq≤k1)∧Aside0 (w'.heap[gb699]?=some (.cells #[.int .i64 x700000_2,.int .i64 x700001_2,.int .i64 x700002_2] 32 (0,0)))∧Aside0 (Below w.heap.size w w'))
 case atStart=>exact ⟨(0),(x700000_1),(x700001_1),(x700002_1),sT_,H',⟨Nat.le_refl _⟩,⟨bkC_ BK699.out⟩,⟨h_HB HB.out⟩⟩
 case round =>
 clear H'
 try clear c1
 try clear p2
 try clear c3
 try clear c4
 try clear c6
 try clear c6b0
 try clear c7
 try clear c7b0
 try clear p7
 try clear q7
 try clear hx7
 try clear c8
 try clear c8b0
 try clear c8b1
 try clear c9
 try clear hcz9_0
 try clear hcz9_1
 try clear hcz9_2
 try clear hfz9_0
 try clear hfz9_1
 try clear hfz9_2
 try clear hx701_0
 try clear p2
 try clear p701
 try clear q701
 obtain ⟨x7_2,x700000_2,x700001_2,x700002_2,rfl,HA,HK2,BK699,HB⟩:=hrel
 cases gk with
 | zero=>exact absurd HA.out (by simp [spec_CircuitFailure.l1])
 | succ k2 =>
 have H:=HA.out
 clear HA
 simp only [spec_CircuitFailure.l1] at H
 replace H:=gsn_ H;rcases H with ⟨c10b0,H⟩|⟨c10b0,H⟩
 ·have H':=Aside0.mk H
  clear H
  go_wp2
  go_roundg k2
  case measure=>have:=HK1.out;have:=HK2.out;omega
  case rel=>exact ⟨(wrap64 (x6_1+1)),(x700000_2),(x700001_2),(x700002_2),sT_,H',⟨by have:=HK1.out;have:=HK2.out;omega⟩,⟨bkC_ BK699.out⟩,⟨h_HB HB.out⟩⟩
 replace H:=gsm_ H;obtain ⟨c11b0,H⟩:=H
 replace H:=gsm_ H;obtain ⟨c12b0,H⟩:=H
 replace H:=gsm_ H;obtain ⟨c13b0,H⟩:=H
 replace H:=bnd_ H;obtain ⟨⟨t704,t705,t706,t707⟩,A14,H⟩:=H;dsimp only at H
 replace H:=(gst_ H).symm;rcases H with ⟨rfl,H⟩|⟨rfl,H⟩
 ·have H':=Aside0.mk H
  clear H
  try go_wp2
  replace BK699:=Aside0.mk (blk_drew BK699.out);replace HB:=Aside0.mk (below_drew1 HB.out)
  have p702:0≤(x6_1:Int):=odT_
  have q702:x6_1<(l1.length:Int):=odT_
  obtain ⟨ad702,e702,hx702_0⟩:=Kd.at_int HR1.out x6_1 p702 q702
  have hw702_0:=hx702_0
  obtain rfl:ad701=ad702:=(by injection e702)
  replace hx702_0:=(HB.out.cell (World.block_lt_of_cell? w _ hx702_0)).trans hx702_0
  replace p702:=eq_true p702
  replace q702:=eq_true q702
  have p703:0≤(x7_2:Int):=odT_
  have q703:x7_2<(l1.length:Int):=odT_
  obtain ⟨ad703,e703,hx703_0⟩:=Kd.at_int HR1.out x7_2 p703 q703
  have hw703_0:=hx703_0
  obtain rfl:ad701=ad703:=(by injection e703)
  replace hx703_0:=(HB.out.cell (World.block_lt_of_cell? w _ hx703_0)).trans hx703_0
  replace p703:=eq_true p703
  replace q703:=eq_true q703
  refine start_ (n:=17) (S:=fun w'=>w'.cell? (ad701.add (x6_1).toNat)=some (.int .i64 (rd l1 x6_1))∧w'.cell? (ad701.add (x7_2).toNat)=some (.int .i64 (rd l1 x7_2))) (ds:=[]) #[F_,F_,F_,F_,F_,F_,F_,F_,F_,F_,F_,F_,F_,F_,F_,F_,F_] krT_ rfl rfl ⟨((HB.out.cell (World.block_lt_of_cell? w _ hw702_0)).trans hw702_0),((HB.out.cell (World.block_lt_of_cell? w _ hw703_0)).trans hw703_0)⟩ (fun hHeld=>?_);refine with_tabW spec_CircuitFailure.tab11 spec_CircuitFailure.bits11 (fun HT_ HW_=>?_)
  generalize wr.drew=w26 at BK699 HB hx702_0 hx703_0 hHeld ⊢
  refine pu_ 0 (some 34) (bm_ 17 1) rfl rfl HT_.out ?_
  refine pu_ 1 (some 35) (bm_ 17 3) rfl rfl HT_.out ?_
  refine pu_ 2 (some 36) (bm_ 17 7) rfl rfl HT_.out ?_
  refine pu_ 3 (some 37) (bm_ 17 15) rfl rfl HT_.out ?_
  refine pu_ 4 (some 38) (bm_ 17 31) rfl rfl HT_.out ?_
  refine pu_ 6 (some 40) (bm_ 17 95) rfl rfl HT_.out ?_
  refine pu_ 7 (some 41) (bm_ 17 223) rfl rfl HT_.out ?_
  refine pu_ 8 (some 42) (bm_ 17 479) rfl rfl HT_.out ?_
  refine take_ (i:=5) (N:=some 39) (v:=?_) (a':=?_) (bm_ 17 511) rfl rfl (take_ofW HT_.out HW_.out krT_) (fun _ _ _ h=>h) (Or.inl ⟨by rfl,?_⟩) hHeld ?_ ?_
  rotate_left
  ·rintro w' ⟨s0,s1⟩
   go_simp
   with_reducible rfl
  rotate_left;exact apT_
  refine take_ (i:=9) (N:=some 43) (v:=?_) (a':=?_) (bm_ 17 1023) rfl rfl (take_ofW HT_.out HW_.out krT_) (fun _ _ _ h=>h) (Or.inl ⟨by rfl,?_⟩) hHeld ?_ ?_
  rotate_left
  ·rintro w' ⟨s0,s1⟩
   go_simp
   with_reducible rfl
  rotate_left;exact apT_
  refine join_ (σ:=Nat) 2 #[T_,T_,T_,T_,T_,T_,T_,T_,T_,T_,T_,T_,T_,T_,T_,F_,F_] (fun s_=>[(44,.tuple #[.agg #[.int .i64 t704,.int .i64 t705,.int .i64 t706],.bool false]),(8,.pointer (some ⟨s_,0,none⟩)),(33,.tuple #[.agg #[.int .i64 t704,.int .i64 t705,.int .i64 t706],.bool false]),(45,.agg #[.int .i64 t704,.int .i64 t705,.int .i64 t706]),(46,.bool false)]) (fun s_ w'=>(w'.cell? (ad701.add (x6_1).toNat)=some (.int .i64 (rd l1 x6_1))∧w'.cell? (ad701.add (x7_2).toNat)=some (.int .i64 (rd l1 x7_2)))∧(w'.heap[gb699]?=some (.cells #[.int .i64 x700000_2,.int .i64 x700001_2,.int .i64 x700002_2] 32 (0,0)))∧(w'.heap[s_]?=some (.cells #[.int .i64 0,.int .i64 0,.int .i64 0] 32 (0,0)))∧(w.heap.size≤s_)∧(w.heap.size≤s_)∧(gb699≠s_)∧(s_≠gb699)∧(Below w.heap.size w w')) ?_ ?_
  rotate_left
  ·intro hCont
   refine two_ (i:=10) (j:=14) (Ni:=some 44) (Nj:=some 8) #[T_,T_,T_,T_,T_,T_,T_,T_,T_,T_,T_,F_,F_,F_,F_,F_,F_] #[T_,T_,T_,T_,T_,T_,T_,T_,T_,T_,F_,F_,F_,F_,T_,F_,F_] rfl rfl rfl rfl (two_of HT_.out krT_) (by decide) (by decide) (fun K hK=>?_) (fun K hK=>?_)
   ·skip
    refine goes_ Tryz.func37 krT_ rfl #[.int .i64 a0,.slice (some ad701) l1.length c1,.int .i64 (rd l1 x6_1),.int .i64 (rd l1 x7_2)] (by rfl) rfl rfl agT_ ?_
    with_reducible refine (spec_l6Pair.calls k2 a0 _ _ l1 (rd l1 x6_1) (rd l1 x7_2) t704 t705 t706 false _ ?side1 ?side2 A14.out).mono ?_
    (case side1=>exact cC_ HR1.out)
    (case side2=>exact HC1.out)
    rintro e w27 ⟨rfl,hb⟩
    refine ⟨_,rfl,?_⟩
    replace BK699:=sBK_ BK699.out hb;replace HB:=s_HB HB.out hb
    (try clear hb)
    (try clear hb2)
    (try clear hk)
    (try clear hi)
    refine hK.out _ _ ⟨((HB.out.cell (World.block_lt_of_cell? w _ hw702_0)).trans hw702_0),((HB.out.cell (World.block_lt_of_cell? w _ hw703_0)).trans hw703_0)⟩ (fun hHeld=>?_)
    clear hK K
    refine norm_ (a':=?_) ?_ ?_
    rotate_left
    ·show Act.put _ (some 44) _=_
     simp only [Act.put,List.setIfInBounds_toArray,List.set_cons_zero,List.set_cons_succ,i64_w,i32_w]
     rfl
    refine pu_ 11 (some 33) (bm_ 17 4095) rfl rfl HT_.out ?_
    refine pu_ 12 (some 45) (bm_ 17 8191) rfl rfl HT_.out ?_
    refine pu_ 13 (some 46) (bm_ 17 16383) rfl rfl HT_.out ?_
    refine one_ (i:=14) (N:=some 8) (bm_ 17 32767) rfl rfl (one_of HT_.out krT_) (by decide) (fun K hK=>?_)
    refine box_step ?hg (N:=8) ?hd (cs:=#[.int .i64 0,.int .i64 0,.int .i64 0]) (t:=32) ?hr ?_;(case hd=>rfl);(case hg=>rfl);(case hr=>exact hrT_)
    intro gb708 hg w28 hbox hb
    have BK708:=Aside0.mk (hbox);have GW708:=Aside0.mk (gw_ hg (h_HB HB.out));have GE708:=GW708;replace HB:=s_HB HB.out hb;have NB699_708:=Aside0.mk (nbl_ hg (bkC_ BK699.out));have NB708_699:=Aside0.mk NB699_708.out.symm;replace BK699:=sBK_ BK699.out hb
    clear hb hbox hg
    refine hK.out _ _ ⟨((HB.out.cell (World.block_lt_of_cell? w _ hw702_0)).trans hw702_0),((HB.out.cell (World.block_lt_of_cell? w _ hw703_0)).trans hw703_0)⟩ (fun hHeld=>?_)
    clear hK K
    refine norm_ (a':=?_) ?_ ?_
    rotate_left
    ·show Act.put _ (some 8) _=_
     simp only [Act.put,List.setIfInBounds_toArray,List.set_cons_zero,List.set_cons_succ,i64_w,i32_w]
     rfl
    exact norm_ (by simp only [putAll,Act.put,List.setIfInBounds_toArray,List.set_cons_zero,List.set_cons_succ]) (hCont (gb708) _ ⟨hHeld,(bkC_ BK699.out),(bkC_ BK708.out),GW708.out,GE708.out,NB699_708.out,NB708_699.out,(h_HB HB.out)⟩)
   skip
   refine box_step ?hg (N:=8) ?hd (cs:=#[.int .i64 0,.int .i64 0,.int .i64 0]) (t:=32) ?hr ?_;(case hd=>rfl);(case hg=>rfl);(case hr=>exact hrT_)
   intro gb708 hg w27 hbox hb
   have BK708:=Aside0.mk (hbox);have GW708:=Aside0.mk (gw_ hg (h_HB HB.out));have GE708:=GW708;replace HB:=s_HB HB.out hb;have NB699_708:=Aside0.mk (nbl_ hg (bkC_ BK699.out));have NB708_699:=Aside0.mk NB699_708.out.symm;replace BK699:=sBK_ BK699.out hb
   clear hb hbox hg
   refine hK.out _ _ ⟨((HB.out.cell (World.block_lt_of_cell? w _ hw702_0)).trans hw702_0),((HB.out.cell (World.block_lt_of_cell? w _ hw703_0)).trans hw703_0)⟩ (fun hHeld=>?_)
   clear hK K
   refine norm_ (a':=?_) ?_ ?_
   rotate_left
   ·show Act.put _ (some 8) _=_
    simp only [Act.put,List.setIfInBounds_toArray,List.set_cons_zero,List.set_cons_succ,i64_w,i32_w]
    rfl
   refine one_ (i:=10) (N:=some 44) (bm_ 17 18431) rfl rfl (one_of HT_.out krT_) (by decide) (fun K hK=>?_)
   refine goes_ Tryz.func37 krT_ rfl #[.int .i64 a0,.slice (some ad701) l1.length c1,.int .i64 (rd l1 x6_1),.int .i64 (rd l1 x7_2)] (by rfl) rfl rfl agT_ ?_
   with_reducible refine (spec_l6Pair.calls k2 a0 _ _ l1 (rd l1 x6_1) (rd l1 x7_2) t704 t705 t706 false _ ?side1 ?side2 A14.out).mono ?_
   (case side1=>exact cC_ HR1.out)
   (case side2=>exact HC1.out)
   rintro e w28 ⟨rfl,hb⟩
   refine ⟨_,rfl,?_⟩
   replace BK699:=sBK_ BK699.out hb;replace BK708:=sBK_ BK708.out hb;replace HB:=s_HB HB.out hb
   (try clear hb)
   (try clear hb2)
   (try clear hk)
   (try clear hi)
   refine hK.out _ _ ⟨((HB.out.cell (World.block_lt_of_cell? w _ hw702_0)).trans hw702_0),((HB.out.cell (World.block_lt_of_cell? w _ hw703_0)).trans hw703_0)⟩ (fun hHeld=>?_)
   clear hK K
   refine norm_ (a':=?_) ?_ ?_
   rotate_left
   ·show Act.put _ (some 44) _=_
    simp only [Act.put,List.setIfInBounds_toArray,List.set_cons_zero,List.set_cons_succ,i64_w,i32_w]
    rfl
   refine pu_ 11 (some 33) (bm_ 17 20479) rfl rfl HT_.out ?_
   refine pu_ 12 (some 45) (bm_ 17 24575) rfl rfl HT_.out ?_
   refine pu_ 13 (some 46) (bm_ 17 32767) rfl rfl HT_.out ?_
   exact norm_ (by simp only [putAll,Act.put,List.setIfInBounds_toArray,List.set_cons_zero,List.set_cons_succ]) (hCont (gb708) _ ⟨hHeld,(bkC_ BK699.out),(bkC_ BK708.out),GW708.out,GE708.out,NB699_708.out,NB708_699.out,(h_HB HB.out)⟩)
  rintro gb708 w29 ⟨hS_,h0_,h1_,h2_,h3_,h4_,h5_,h6_⟩
  replace BK699:Aside0 (w29.heap[gb699]?=some (.cells #[.int .i64 x700000_2,.int .i64 x700001_2,.int .i64 x700002_2] 32 (0,0))):=⟨h0_⟩;have BK708:Aside0 (w29.heap[gb708]?=some (.cells #[.int .i64 0,.int .i64 0,.int .i64 0] 32 (0,0))):=⟨h1_⟩;have GW708:Aside0 (w.heap.size≤gb708):=⟨h2_⟩;have GE708:Aside0 (w.heap.size≤gb708):=⟨h3_⟩;have NB699_708:Aside0 (gb699≠gb708):=⟨h4_⟩;have NB708_699:Aside0 (gb708≠gb699):=⟨h5_⟩;replace HB:Aside0 (Below w.heap.size w w29):=⟨h6_⟩;clear h0_ h1_ h2_ h3_ h4_ h5_ h6_
  have hHeld:w29.cell? (ad701.add (x6_1).toNat)=some (.int .i64 (rd l1 x6_1))∧w29.cell? (ad701.add (x7_2).toNat)=some (.int .i64 (rd l1 x7_2)):=hS_
  refine norm_ (a':=?_) ?_ ?_
  rotate_left
  ·simp only [putAll,Act.put,List.setIfInBounds_toArray,List.set_cons_zero,List.set_cons_succ]
   rfl
  refine one_ (i:=15) (N:=none) (bm_ 17 65535) rfl rfl (one_of HT_.out krT_) (by decide) (fun K hK=>?_)
  have hs30:w29.cell? ⟨gb708,0,none⟩=some (.int .i64 0):=(blk_cell BK708.out 0).trans rfl
  have hfs30:=blk_frozen BK708.out 0
  have hns30_0:=NB699_708.out
  have hms30_0:=NB708_699.out
  have hs31:w29.cell? ⟨gb708,1,none⟩=some (.int .i64 0):=(blk_cell BK708.out 1).trans rfl
  have hfs31:=blk_frozen BK708.out 1
  have hns31_0:=NB699_708.out
  have hms31_0:=NB708_699.out
  have hs32:w29.cell? ⟨gb708,2,none⟩=some (.int .i64 0):=(blk_cell BK708.out 2).trans rfl
  have hfs32:=blk_frozen BK708.out 2
  have hns32_0:=NB699_708.out
  have hms32_0:=NB708_699.out
  refine skip_ (w1:=?_) (by rfl) rfl ?_ ?_
  rotate_left
  ·go_simp
   rfl
  refine hK.out _ _ ⟨((cell_far (p:=⟨gb708,_,none⟩) (by first|exact Nat.ne_of_lt (Nat.lt_of_lt_of_le (by have:=World.block_lt_of_cell? _ _ hw702_0;first|rwa [add_block] at this|exact this) GW708.out)|(rw [add_block];exact Nat.ne_of_lt (Nat.lt_of_lt_of_le (by have:=World.block_lt_of_cell? _ _ hw702_0;first|rwa [add_block] at this|exact this) GW708.out))|(show (Addr.add _ _).block≠_;rw [add_block];exact Nat.ne_of_lt (Nat.lt_of_lt_of_le (by have:=World.block_lt_of_cell? _ _ hw702_0;first|rwa [add_block] at this|exact this) GW708.out))|(dsimp only;exact Nat.ne_of_lt (Nat.lt_of_lt_of_le (by have:=World.block_lt_of_cell? _ _ hw702_0;first|rwa [add_block] at this|exact this) GW708.out))) _).trans (((cell_far (p:=⟨gb708,_,none⟩) (by first|exact Nat.ne_of_lt (Nat.lt_of_lt_of_le (by have:=World.block_lt_of_cell? _ _ hw702_0;first|rwa [add_block] at this|exact this) GW708.out)|(rw [add_block];exact Nat.ne_of_lt (Nat.lt_of_lt_of_le (by have:=World.block_lt_of_cell? _ _ hw702_0;first|rwa [add_block] at this|exact this) GW708.out))|(show (Addr.add _ _).block≠_;rw [add_block];exact Nat.ne_of_lt (Nat.lt_of_lt_of_le (by have:=World.block_lt_of_cell? _ _ hw702_0;first|rwa [add_block] at this|exact this) GW708.out))|(dsimp only;exact Nat.ne_of_lt (Nat.lt_of_lt_of_le (by have:=World.block_lt_of_cell? _ _ hw702_0;first|rwa [add_block] at this|exact this) GW708.out))) _).trans (((cell_far (p:=⟨gb708,_,none⟩) (by first|exact Nat.ne_of_lt (Nat.lt_of_lt_of_le (by have:=World.block_lt_of_cell? _ _ hw702_0;first|rwa [add_block] at this|exact this) GW708.out)|(rw [add_block];exact Nat.ne_of_lt (Nat.lt_of_lt_of_le (by have:=World.block_lt_of_cell? _ _ hw702_0;first|rwa [add_block] at this|exact this) GW708.out))|(show (Addr.add _ _).block≠_;rw [add_block];exact Nat.ne_of_lt (Nat.lt_of_lt_of_le (by have:=World.block_lt_of_cell? _ _ hw702_0;first|rwa [add_block] at this|exact this) GW708.out))|(dsimp only;exact Nat.ne_of_lt (Nat.lt_of_lt_of_le (by have:=World.block_lt_of_cell? _ _ hw702_0;first|rwa [add_block] at this|exact this) GW708.out))) _).trans (hHeld.1)))))),((cell_far (p:=⟨gb708,_,none⟩) (by first|exact Nat.ne_of_lt (Nat.lt_of_lt_of_le (by have:=World.block_lt_of_cell? _ _ hw703_0;first|rwa [add_block] at this|exact this) GW708.out)|(rw [add_block];exact Nat.ne_of_lt (Nat.lt_of_lt_of_le (by have:=World.block_lt_of_cell? _ _ hw703_0;first|rwa [add_block] at this|exact this) GW708.out))|(show (Addr.add _ _).block≠_;rw [add_block];exact Nat.ne_of_lt (Nat.lt_of_lt_of_le (by have:=World.block_lt_of_cell? _ _ hw703_0;first|rwa [add_block] at this|exact this) GW708.out))|(dsimp only;exact Nat.ne_of_lt (Nat.lt_of_lt_of_le (by have:=World.block_lt_of_cell? _ _ hw703_0;first|rwa [add_block] at this|exact this) GW708.out))) _).trans (((cell_far (p:=⟨gb708,_,none⟩) (by first|exact Nat.ne_of_lt (Nat.lt_of_lt_of_le (by have:=World.block_lt_of_cell? _ _ hw703_0;first|rwa [add_block] at this|exact this) GW708.out)|(rw [add_block];exact Nat.ne_of_lt (Nat.lt_of_lt_of_le (by have:=World.block_lt_of_cell? _ _ hw703_0;first|rwa [add_block] at this|exact this) GW708.out))|(show (Addr.add _ _).block≠_;rw [add_block];exact Nat.ne_of_lt (Nat.lt_of_lt_of_le (by have:=World.block_lt_of_cell? _ _ hw703_0;first|rwa [add_block] at this|exact this) GW708.out))|(dsimp only;exact Nat.ne_of_lt (Nat.lt_of_lt_of_le (by have:=World.block_lt_of_cell? _ _ hw703_0;first|rwa [add_block] at this|exact this) GW708.out))) _).trans (((cell_far (p:=⟨gb708,_,none⟩) (by first|exact Nat.ne_of_lt (Nat.lt_of_lt_of_le (by have:=World.block_lt_of_cell? _ _ hw703_0;first|rwa [add_block] at this|exact this) GW708.out)|(rw [add_block];exact Nat.ne_of_lt (Nat.lt_of_lt_of_le (by have:=World.block_lt_of_cell? _ _ hw703_0;first|rwa [add_block] at this|exact this) GW708.out))|(show (Addr.add _ _).block≠_;rw [add_block];exact Nat.ne_of_lt (Nat.lt_of_lt_of_le (by have:=World.block_lt_of_cell? _ _ hw703_0;first|rwa [add_block] at this|exact this) GW708.out))|(dsimp only;exact Nat.ne_of_lt (Nat.lt_of_lt_of_le (by have:=World.block_lt_of_cell? _ _ hw703_0;first|rwa [add_block] at this|exact this) GW708.out))) _).trans (hHeld.2))))))⟩ (fun hHeld=>?_)
  clear hK K
  refine pu_ 16 (some 9) (bm_ 17 131071) rfl rfl HT_.out ?_
  refine done_ (done_of HT_.out krT_) ?_
  try go_wp2
  go_roundg k2
  case measure=>have:=HK1.out;have:=HK2.out;omega
  case rel=>exact ⟨(wrap64 (x7_2+1)),(x700000_2),(x700001_2),(x700002_2),sT_,H',⟨by have:=HK1.out;have:=HK2.out;omega⟩,⟨bkC_ BK699.out⟩,⟨h_HB HB.out⟩⟩
 simp only [Option.some.injEq,Prod.mk.injEq] at H
 obtain ⟨rfl,rfl,rfl,rfl⟩:=H
 try go_wp2
 replace BK699:=Aside0.mk (blk_drew BK699.out);replace HB:=Aside0.mk (below_drew1 HB.out)
 have p702:0≤(x6_1:Int):=odT_
 have q702:x6_1<(l1.length:Int):=odT_
 obtain ⟨ad702,e702,hx702_0⟩:=Kd.at_int HR1.out x6_1 p702 q702
 have hw702_0:=hx702_0
 obtain rfl:ad701=ad702:=(by injection e702)
 replace hx702_0:=(HB.out.cell (World.block_lt_of_cell? w _ hx702_0)).trans hx702_0
 replace p702:=eq_true p702
 replace q702:=eq_true q702
 have p703:0≤(x7_2:Int):=odT_
 have q703:x7_2<(l1.length:Int):=odT_
 obtain ⟨ad703,e703,hx703_0⟩:=Kd.at_int HR1.out x7_2 p703 q703
 have hw703_0:=hx703_0
 obtain rfl:ad701=ad703:=(by injection e703)
 replace hx703_0:=(HB.out.cell (World.block_lt_of_cell? w _ hx703_0)).trans hx703_0
 replace p703:=eq_true p703
 replace q703:=eq_true q703
 refine start_ (n:=17) (S:=fun w'=>w'.cell? (ad701.add (x6_1).toNat)=some (.int .i64 (rd l1 x6_1))∧w'.cell? (ad701.add (x7_2).toNat)=some (.int .i64 (rd l1 x7_2))) (ds:=[]) #[F_,F_,F_,F_,F_,F_,F_,F_,F_,F_,F_,F_,F_,F_,F_,F_,F_] krT_ rfl rfl ⟨((HB.out.cell (World.block_lt_of_cell? w _ hw702_0)).trans hw702_0),((HB.out.cell (World.block_lt_of_cell? w _ hw703_0)).trans hw703_0)⟩ (fun hHeld=>?_);refine with_tabW spec_CircuitFailure.tab11 spec_CircuitFailure.bits11 (fun HT_ HW_=>?_)
 generalize wr.drew=w16 at BK699 HB hx702_0 hx703_0 hHeld ⊢
 refine pu_ 0 (some 34) (bm_ 17 1) rfl rfl HT_.out ?_
 refine pu_ 1 (some 35) (bm_ 17 3) rfl rfl HT_.out ?_
 refine pu_ 2 (some 36) (bm_ 17 7) rfl rfl HT_.out ?_
 refine pu_ 3 (some 37) (bm_ 17 15) rfl rfl HT_.out ?_
 refine pu_ 4 (some 38) (bm_ 17 31) rfl rfl HT_.out ?_
 refine pu_ 6 (some 40) (bm_ 17 95) rfl rfl HT_.out ?_
 refine pu_ 7 (some 41) (bm_ 17 223) rfl rfl HT_.out ?_
 refine pu_ 8 (some 42) (bm_ 17 479) rfl rfl HT_.out ?_
 refine take_ (i:=5) (N:=some 39) (v:=?_) (a':=?_) (bm_ 17 511) rfl rfl (take_ofW HT_.out HW_.out krT_) (fun _ _ _ h=>h) (Or.inl ⟨by rfl,?_⟩) hHeld ?_ ?_
 rotate_left
 ·rintro w' ⟨s0,s1⟩
  go_simp
  with_reducible rfl
 rotate_left;exact apT_
 refine take_ (i:=9) (N:=some 43) (v:=?_) (a':=?_) (bm_ 17 1023) rfl rfl (take_ofW HT_.out HW_.out krT_) (fun _ _ _ h=>h) (Or.inl ⟨by rfl,?_⟩) hHeld ?_ ?_
 rotate_left
 ·rintro w' ⟨s0,s1⟩
  go_simp
  with_reducible rfl
 rotate_left;exact apT_
 refine join_ (σ:=Nat) 2 #[T_,T_,T_,T_,T_,T_,T_,T_,T_,T_,T_,T_,T_,T_,T_,F_,F_] (fun s_=>[(44,.tuple #[.agg #[.int .i64 t704,.int .i64 t705,.int .i64 t706],.bool true]),(8,.pointer (some ⟨s_,0,none⟩)),(33,.tuple #[.agg #[.int .i64 t704,.int .i64 t705,.int .i64 t706],.bool true]),(45,.agg #[.int .i64 t704,.int .i64 t705,.int .i64 t706]),(46,.bool true)]) (fun s_ w'=>(w'.cell? (ad701.add (x6_1).toNat)=some (.int .i64 (rd l1 x6_1))∧w'.cell? (ad701.add (x7_2).toNat)=some (.int .i64 (rd l1 x7_2)))∧(w'.heap[gb699]?=some (.cells #[.int .i64 x700000_2,.int .i64 x700001_2,.int .i64 x700002_2] 32 (0,0)))∧(w'.heap[s_]?=some (.cells #[.int .i64 0,.int .i64 0,.int .i64 0] 32 (0,0)))∧(w.heap.size≤s_)∧(w.heap.size≤s_)∧(gb699≠s_)∧(s_≠gb699)∧(Below w.heap.size w w')) ?_ ?_
 rotate_left
 ·intro hCont
  refine two_ (i:=10) (j:=14) (Ni:=some 44) (Nj:=some 8) #[T_,T_,T_,T_,T_,T_,T_,T_,T_,T_,T_,F_,F_,F_,F_,F_,F_] #[T_,T_,T_,T_,T_,T_,T_,T_,T_,T_,F_,F_,F_,F_,T_,F_,F_] rfl rfl rfl rfl (two_of HT_.out krT_) (by decide) (by decide) (fun K hK=>?_) (fun K hK=>?_)
  ·skip
   refine goes_ Tryz.func37 krT_ rfl #[.int .i64 a0,.slice (some ad701) l1.length c1,.int .i64 (rd l1 x6_1),.int .i64 (rd l1 x7_2)] (by rfl) rfl rfl agT_ ?_
   with_reducible refine (spec_l6Pair.calls k2 a0 _ _ l1 (rd l1 x6_1) (rd l1 x7_2) t704 t705 t706 true _ ?side1 ?side2 A14.out).mono ?_
   (case side1=>exact cC_ HR1.out)
   (case side2=>exact HC1.out)
   rintro e w17 ⟨rfl,hb⟩
   refine ⟨_,rfl,?_⟩
   replace BK699:=sBK_ BK699.out hb;replace HB:=s_HB HB.out hb
   (try clear hb)
   (try clear hb2)
   (try clear hk)
   (try clear hi)
   refine hK.out _ _ ⟨((HB.out.cell (World.block_lt_of_cell? w _ hw702_0)).trans hw702_0),((HB.out.cell (World.block_lt_of_cell? w _ hw703_0)).trans hw703_0)⟩ (fun hHeld=>?_)
   clear hK K
   refine norm_ (a':=?_) ?_ ?_
   rotate_left
   ·show Act.put _ (some 44) _=_
    simp only [Act.put,List.setIfInBounds_toArray,List.set_cons_zero,List.set_cons_succ,i64_w,i32_w]
    rfl
   refine pu_ 11 (some 33) (bm_ 17 4095) rfl rfl HT_.out ?_
   refine pu_ 12 (some 45) (bm_ 17 8191) rfl rfl HT_.out ?_
   refine pu_ 13 (some 46) (bm_ 17 16383) rfl rfl HT_.out ?_
   refine one_ (i:=14) (N:=some 8) (bm_ 17 32767) rfl rfl (one_of HT_.out krT_) (by decide) (fun K hK=>?_)
   refine box_step ?hg (N:=8) ?hd (cs:=#[.int .i64 0,.int .i64 0,.int .i64 0]) (t:=32) ?hr ?_;(case hd=>rfl);(case hg=>rfl);(case hr=>exact hrT_)
   intro gb708 hg w18 hbox hb
   have BK708:=Aside0.mk (hbox);have GW708:=Aside0.mk (gw_ hg (h_HB HB.out));have GE708:=GW708;replace HB:=s_HB HB.out hb;have NB699_708:=Aside0.mk (nbl_ hg (bkC_ BK699.out));have NB708_699:=Aside0.mk NB699_708.out.symm;replace BK699:=sBK_ BK699.out hb
   clear hb hbox hg
   refine hK.out _ _ ⟨((HB.out.cell (World.block_lt_of_cell? w _ hw702_0)).trans hw702_0),((HB.out.cell (World.block_lt_of_cell? w _ hw703_0)).trans hw703_0)⟩ (fun hHeld=>?_)
   clear hK K
   refine norm_ (a':=?_) ?_ ?_
   rotate_left
   ·show Act.put _ (some 8) _=_
    simp only [Act.put,List.setIfInBounds_toArray,List.set_cons_zero,List.set_cons_succ,i64_w,i32_w]
    rfl
   exact norm_ (by simp only [putAll,Act.put,List.setIfInBounds_toArray,List.set_cons_zero,List.set_cons_succ]) (hCont (gb708) _ ⟨hHeld,(bkC_ BK699.out),(bkC_ BK708.out),GW708.out,GE708.out,NB699_708.out,NB708_699.out,(h_HB HB.out)⟩)
  skip
  refine box_step ?hg (N:=8) ?hd (cs:=#[.int .i64 0,.int .i64 0,.int .i64 0]) (t:=32) ?hr ?_;(case hd=>rfl);(case hg=>rfl);(case hr=>exact hrT_)
  intro gb708 hg w17 hbox hb
  have BK708:=Aside0.mk (hbox);have GW708:=Aside0.mk (gw_ hg (h_HB HB.out));have GE708:=GW708;replace HB:=s_HB HB.out hb;have NB699_708:=Aside0.mk (nbl_ hg (bkC_ BK699.out));have NB708_699:=Aside0.mk NB699_708.out.symm;replace BK699:=sBK_ BK699.out hb
  clear hb hbox hg
  refine hK.out _ _ ⟨((HB.out.cell (World.block_lt_of_cell? w _ hw702_0)).trans hw702_0),((HB.out.cell (World.block_lt_of_cell? w _ hw703_0)).trans hw703_0)⟩ (fun hHeld=>?_)
  clear hK K
  refine norm_ (a':=?_) ?_ ?_
  rotate_left
  ·show Act.put _ (some 8) _=_
   simp only [Act.put,List.setIfInBounds_toArray,List.set_cons_zero,List.set_cons_succ,i64_w,i32_w]
   rfl
  refine one_ (i:=10) (N:=some 44) (bm_ 17 18431) rfl rfl (one_of HT_.out krT_) (by decide) (fun K hK=>?_)
  refine goes_ Tryz.func37 krT_ rfl #[.int .i64 a0,.slice (some ad701) l1.length c1,.int .i64 (rd l1 x6_1),.int .i64 (rd l1 x7_2)] (by rfl) rfl rfl agT_ ?_
  with_reducible refine (spec_l6Pair.calls k2 a0 _ _ l1 (rd l1 x6_1) (rd l1 x7_2) t704 t705 t706 true _ ?side1 ?side2 A14.out).mono ?_
  (case side1=>exact cC_ HR1.out)
  (case side2=>exact HC1.out)
  rintro e w18 ⟨rfl,hb⟩
  refine ⟨_,rfl,?_⟩
  replace BK699:=sBK_ BK699.out hb;replace BK708:=sBK_ BK708.out hb;replace HB:=s_HB HB.out hb
  (try clear hb)
  (try clear hb2)
  (try clear hk)
  (try clear hi)
  refine hK.out _ _ ⟨((HB.out.cell (World.block_lt_of_cell? w _ hw702_0)).trans hw702_0),((HB.out.cell (World.block_lt_of_cell? w _ hw703_0)).trans hw703_0)⟩ (fun hHeld=>?_)
  clear hK K
  refine norm_ (a':=?_) ?_ ?_
  rotate_left
  ·show Act.put _ (some 44) _=_
   simp only [Act.put,List.setIfInBounds_toArray,List.set_cons_zero,List.set_cons_succ,i64_w,i32_w]
   rfl
  refine pu_ 11 (some 33) (bm_ 17 20479) rfl rfl HT_.out ?_
  refine pu_ 12 (some 45) (bm_ 17 24575) rfl rfl HT_.out ?_
  refine pu_ 13 (some 46) (bm_ 17 32767) rfl rfl HT_.out ?_
  exact norm_ (by simp only [putAll,Act.put,List.setIfInBounds_toArray,List.set_cons_zero,List.set_cons_succ]) (hCont (gb708) _ ⟨hHeld,(bkC_ BK699.out),(bkC_ BK708.out),GW708.out,GE708.out,NB699_708.out,NB708_699.out,(h_HB HB.out)⟩)
 rintro gb708 w19 ⟨hS_,h0_,h1_,h2_,h3_,h4_,h5_,h6_⟩
 replace BK699:Aside0 (w19.heap[gb699]?=some (.cells #[.int .i64 x700000_2,.int .i64 x700001_2,.int .i64 x700002_2] 32 (0,0))):=⟨h0_⟩;have BK708:Aside0 (w19.heap[gb708]?=some (.cells #[.int .i64 0,.int .i64 0,.int .i64 0] 32 (0,0))):=⟨h1_⟩;have GW708:Aside0 (w.heap.size≤gb708):=⟨h2_⟩;have GE708:Aside0 (w.heap.size≤gb708):=⟨h3_⟩;have NB699_708:Aside0 (gb699≠gb708):=⟨h4_⟩;have NB708_699:Aside0 (gb708≠gb699):=⟨h5_⟩;replace HB:Aside0 (Below w.heap.size w w19):=⟨h6_⟩;clear h0_ h1_ h2_ h3_ h4_ h5_ h6_
 have hHeld:w19.cell? (ad701.add (x6_1).toNat)=some (.int .i64 (rd l1 x6_1))∧w19.cell? (ad701.add (x7_2).toNat)=some (.int .i64 (rd l1 x7_2)):=hS_
 refine norm_ (a':=?_) ?_ ?_
 rotate_left
 ·simp only [putAll,Act.put,List.setIfInBounds_toArray,List.set_cons_zero,List.set_cons_succ]
  rfl
 refine one_ (i:=15) (N:=none) (bm_ 17 65535) rfl rfl (one_of HT_.out krT_) (by decide) (fun K hK=>?_)
 have hs20:w19.cell? ⟨gb708,0,none⟩=some (.int .i64 0):=(blk_cell BK708.out 0).trans rfl
 have hfs20:=blk_frozen BK708.out 0
 have hns20_0:=NB699_708.out
 have hms20_0:=NB708_699.out
 have hs21:w19.cell? ⟨gb708,1,none⟩=some (.int .i64 0):=(blk_cell BK708.out 1).trans rfl
 have hfs21:=blk_frozen BK708.out 1
 have hns21_0:=NB699_708.out
 have hms21_0:=NB708_699.out
 have hs22:w19.cell? ⟨gb708,2,none⟩=some (.int .i64 0):=(blk_cell BK708.out 2).trans rfl
 have hfs22:=blk_frozen BK708.out 2
 have hns22_0:=NB699_708.out
 have hms22_0:=NB708_699.out
 refine skip_ (w1:=?_) (by rfl) rfl ?_ ?_
 rotate_left
 ·go_simp
  rfl
 refine hK.out _ _ ⟨((cell_far (p:=⟨gb708,_,none⟩) (by first|exact Nat.ne_of_lt (Nat.lt_of_lt_of_le (by have:=World.block_lt_of_cell? _ _ hw702_0;first|rwa [add_block] at this|exact this) GW708.out)|(rw [add_block];exact Nat.ne_of_lt (Nat.lt_of_lt_of_le (by have:=World.block_lt_of_cell? _ _ hw702_0;first|rwa [add_block] at this|exact this) GW708.out))|(show (Addr.add _ _).block≠_;rw [add_block];exact Nat.ne_of_lt (Nat.lt_of_lt_of_le (by have:=World.block_lt_of_cell? _ _ hw702_0;first|rwa [add_block] at this|exact this) GW708.out))|(dsimp only;exact Nat.ne_of_lt (Nat.lt_of_lt_of_le (by have:=World.block_lt_of_cell? _ _ hw702_0;first|rwa [add_block] at this|exact this) GW708.out))) _).trans (((cell_far (p:=⟨gb708,_,none⟩) (by first|exact Nat.ne_of_lt (Nat.lt_of_lt_of_le (by have:=World.block_lt_of_cell? _ _ hw702_0;first|rwa [add_block] at this|exact this) GW708.out)|(rw [add_block];exact Nat.ne_of_lt (Nat.lt_of_lt_of_le (by have:=World.block_lt_of_cell? _ _ hw702_0;first|rwa [add_block] at this|exact this) GW708.out))|(show (Addr.add _ _).block≠_;rw [add_block];exact Nat.ne_of_lt (Nat.lt_of_lt_of_le (by have:=World.block_lt_of_cell? _ _ hw702_0;first|rwa [add_block] at this|exact this) GW708.out))|(dsimp only;exact Nat.ne_of_lt (Nat.lt_of_lt_of_le (by have:=World.block_lt_of_cell? _ _ hw702_0;first|rwa [add_block] at this|exact this) GW708.out))) _).trans (((cell_far (p:=⟨gb708,_,none⟩) (by first|exact Nat.ne_of_lt (Nat.lt_of_lt_of_le (by have:=World.block_lt_of_cell? _ _ hw702_0;first|rwa [add_block] at this|exact this) GW708.out)|(rw [add_block];exact Nat.ne_of_lt (Nat.lt_of_lt_of_le (by have:=World.block_lt_of_cell? _ _ hw702_0;first|rwa [add_block] at this|exact this) GW708.out))|(show (Addr.add _ _).block≠_;rw [add_block];exact Nat.ne_of_lt (Nat.lt_of_lt_of_le (by have:=World.block_lt_of_cell? _ _ hw702_0;first|rwa [add_block] at this|exact this) GW708.out))|(dsimp only;exact Nat.ne_of_lt (Nat.lt_of_lt_of_le (by have:=World.block_lt_of_cell? _ _ hw702_0;first|rwa [add_block] at this|exact this) GW708.out))) _).trans (hHeld.1)))))),((cell_far (p:=⟨gb708,_,none⟩) (by first|exact Nat.ne_of_lt (Nat.lt_of_lt_of_le (by have:=World.block_lt_of_cell? _ _ hw703_0;first|rwa [add_block] at this|exact this) GW708.out)|(rw [add_block];exact Nat.ne_of_lt (Nat.lt_of_lt_of_le (by have:=World.block_lt_of_cell? _ _ hw703_0;first|rwa [add_block] at this|exact this) GW708.out))|(show (Addr.add _ _).block≠_;rw [add_block];exact Nat.ne_of_lt (Nat.lt_of_lt_of_le (by have:=World.block_lt_of_cell? _ _ hw703_0;first|rwa [add_block] at this|exact this) GW708.out))|(dsimp only;exact Nat.ne_of_lt (Nat.lt_of_lt_of_le (by have:=World.block_lt_of_cell? _ _ hw703_0;first|rwa [add_block] at this|exact this) GW708.out))) _).trans (((cell_far (p:=⟨gb708,_,none⟩) (by first|exact Nat.ne_of_lt (Nat.lt_of_lt_of_le (by have:=World.block_lt_of_cell? _ _ hw703_0;first|rwa [add_block] at this|exact this) GW708.out)|(rw [add_block];exact Nat.ne_of_lt (Nat.lt_of_lt_of_le (by have:=World.block_lt_of_cell? _ _ hw703_0;first|rwa [add_block] at this|exact this) GW708.out))|(show (Addr.add _ _).block≠_;rw [add_block];exact Nat.ne_of_lt (Nat.lt_of_lt_of_le (by have:=World.block_lt_of_cell? _ _ hw703_0;first|rwa [add_block] at this|exact this) GW708.out))|(dsimp only;exact Nat.ne_of_lt (Nat.lt_of_lt_of_le (by have:=World.block_lt_of_cell? _ _ hw703_0;first|rwa [add_block] at this|exact this) GW708.out))) _).trans (((cell_far (p:=⟨gb708,_,none⟩) (by first|exact Nat.ne_of_lt (Nat.lt_of_lt_of_le (by have:=World.block_lt_of_cell? _ _ hw703_0;first|rwa [add_block] at this|exact this) GW708.out)|(rw [add_block];exact Nat.ne_of_lt (Nat.lt_of_lt_of_le (by have:=World.block_lt_of_cell? _ _ hw703_0;first|rwa [add_block] at this|exact this) GW708.out))|(show (Addr.add _ _).block≠_;rw [add_block];exact Nat.ne_of_lt (Nat.lt_of_lt_of_le (by have:=World.block_lt_of_cell? _ _ hw703_0;first|rwa [add_block] at this|exact this) GW708.out))|(dsimp only;exact Nat.ne_of_lt (Nat.lt_of_lt_of_le (by have:=World.block_lt_of_cell? _ _ hw703_0;first|rwa [add_block] at this|exact this) GW708.out))) _).trans (hHeld.2))))))⟩ (fun hHeld=>?_)
 clear hK K
 refine pu_ 16 (some 9) (bm_ 17 131071) rfl rfl HT_.out ?_
 refine done_ (done_of HT_.out krT_) ?_
 have hnb23:=NB708_699.out
 have hnc23:=NB699_708.out
 obtain ⟨hcz24_0,hcz24_1,hcz24_2,hfz24_0,hfz24_1,hfz24_2⟩:=bz3_ BK708.out
 obtain ⟨hcz25_0,hcz25_1,hcz25_2,hfz25_0,hfz25_1,hfz25_2⟩:=bz3_ BK699.out
 try go_wp2
 refine bodyPost_ret (results_ct rfl _ _ gb699 32 #[.int .i64 t704,.int .i64 t705,.int .i64 t706] (0,0) _ rfl (by (with_reducible repeat (first|refine blk_drewN ?_ _|refine blk_drew ?_|refine blk_alloc ?_ _));refine blk_put (cs:=#[.int .i64 t704,.int .i64 t705,.int .i64 x700002_2]) ?_ 2 _ rfl;(with_reducible repeat (first|refine blk_drewN ?_ _|refine blk_drew ?_|refine blk_alloc ?_ _));refine blk_put (cs:=#[.int .i64 t704,.int .i64 x700001_2,.int .i64 x700002_2]) ?_ 1 _ rfl;(with_reducible repeat (first|refine blk_drewN ?_ _|refine blk_drew ?_|refine blk_alloc ?_ _));refine blk_put (cs:=#[.int .i64 x700000_2,.int .i64 x700001_2,.int .i64 x700002_2]) ?_ 0 _ rfl;exact bkC_ BK699.out) Tryz.underlying32 rfl krT_) rfl ?_
 exact ⟨eT_,h_HB HB.out⟩
end Go.Proofs.YtekegbacnagbcaaGreat.P
