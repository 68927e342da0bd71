-- written by gprint (a program of this session's, round the kit's print), out of the translation and hand-written texts
import Derived.Test.YtekegbacnagbcaaGreatPVFnCircuitsx0
namespace Go.Proofs.YtekegbacnagbcaaGreat.P
open Go.RowKit Go.Proofs.YtekegbacnagbcaaGreatW.PrintWords Go.Proofs.YtekegbacnagbcaaGreatW.PrintLast Go.Proofs.YtekegbacnagbcaaGreatW.PrintMore
theorem ob_len_VFnCircuitsx10 {A:Option Addr} {n m c k:Nat} (h:some k≠(Value.slice A n c).ownBlock):some k≠(Value.slice A m c).ownBlock:=by cases A<;>exact h
attribute [local go_sem] max2_int min2_int max_two min_two max_three min_three max_four min_four
set_option linter.unusedVariables false
set_option maxHeartbeats 8000000
set_option maxRecDepth 100000
set_option linter.unusedSimpArgs false
mutual
def spec_SortSets.l0:Nat→List Int→List Int→Int→Option (List Int)
 | 0,_,_,_=>none
 | k+1,x0,x3,x4=>if x4<(x0.length:Int) then (spec_SortSets.l1 k x0 x3 x4 0) else (some x3)
def spec_SortSets.l1:Nat→List Int→List Int→Int→Int→Option (List Int)
 | 0,_,_,_,_=>none
 | k+1,x0,x3,x4,x5=>if x5<(x3.length:Int) then (if 0≤x5 then (if 0≤x4 then (if x4<(x0.length:Int) then (if (rd x3 x5)<(rd x0 x4) then (spec_SortSets.l1 k x0 x3 x4 (wrap64 (x5+1))) else (if (rd x3 x5)=(rd x0 x4) then (spec_SortSets.l0 k x0 x3 (wrap64 (x4+1))) else ((some (([]:List Int):List Int)).bind fun y396=>(if x5≤(x3.length:Int) then ((some (x3.drop (x5:Int).toNat:List Int)).bind fun y399=>(if y396.length+y399.length<17592186044416 then ((some (y396++y399:List Int)).bind fun y403=>((some (x3.take (x5:Int).toNat:List Int)).bind fun y406=>(if y406.length<17592186044416 then ((some (y406++[rd x0 x4]:List Int)).bind fun y410=>(if y410.length+y403.length<17592186044416 then (spec_SortSets.l0 k x0 (y410++y403) (wrap64 (x4+1))) else (none))) else (none)))) else (none))) else (none))))) else (none)) else (none)) else (none)) else ((some (([]:List Int):List Int)).bind fun y416=>(if 0≤x5 then (if x5≤(x3.length:Int) then ((some (x3.drop (x5:Int).toNat:List Int)).bind fun y419=>(if y416.length+y419.length<17592186044416 then ((some (y416++y419:List Int)).bind fun y423=>((some (x3.take (x5:Int).toNat:List Int)).bind fun y426=>(if 0≤x4 then (if x4<(x0.length:Int) then (if y426.length<17592186044416 then ((some (y426++[rd x0 x4]:List Int)).bind fun y430=>(if y430.length+y423.length<17592186044416 then (spec_SortSets.l0 k x0 (y430++y423) (wrap64 (x4+1))) else (none))) else (none)) else (none)) else (none)))) else (none))) else (none)) else (none)))
end
def spec_SortSets.f (k:Nat) (l0:List Int):Option (List Int):=spec_SortSets.l0 k l0 (([]:List Int)) 0
def spec_SortSets.T6:Bool × List (List Nat × List Nat):=(true,[([],[]),([],[]),([1],[1]),([0,2],[0,2]),([3],[3]),([4],[4]),([4],[4]),([5,6,4],[4,5,6]),([7,4],[4,7]),([4],[4]),([4],[4]),([9,10,4],[4,9,10]),([11,4],[4,11]),([8,12,4],[4,8,12]),([4,13],[4,13])])
def spec_SortSets.B6:List Nat:=[0,0,2,7,15,31,31,127,255,31,31,1567,3615,8191,16383]
theorem spec_SortSets.tab6:rtab .any (opsOf Tryz.f60 6)=spec_SortSets.T6:=by kernel_rfl
theorem spec_SortSets.bits6:waitsOk spec_SortSets.T6.2 spec_SortSets.B6=true:=by kernel_rfl
def spec_SortSets.T8:Bool × List (List Nat × List Nat):=(true,[([],[]),([],[]),([1],[1]),([0,2],[0,2]),([3],[3]),([4],[4]),([4],[4]),([5,6,4],[4,5,6]),([7,4],[4,7]),([4],[4]),([4],[4]),([9,10,4],[4,9,10]),([11,4],[4,11]),([8,12,4],[4,8,12]),([4,13],[4,13])])
def spec_SortSets.B8:List Nat:=[0,0,2,7,15,31,31,127,255,31,31,1567,3615,8191,16383]
theorem spec_SortSets.tab8:rtab .any (opsOf Tryz.f60 8)=spec_SortSets.T8:=by kernel_rfl
theorem spec_SortSets.bits8:waitsOk spec_SortSets.T8.2 spec_SortSets.B8=true:=by kernel_rfl
def spec_SortSets.T10:Bool × List (List Nat × List Nat):=(true,[([],[]),([],[]),([0,1],[0,1]),([],[]),([],[]),([3,4],[3,4]),([5],[5]),([6],[6]),([2,7],[2,7]),([],[]),([8,9,8],[8,9]),([10,10,0,1,2,3,4,5,6,7,8,9,10],[0,10])])
def spec_SortSets.B10:List Nat:=[0,0,3,0,0,24,56,120,255,0,1023,2047]
theorem spec_SortSets.tab10:rtab .any (opsOf Tryz.f60 10)=spec_SortSets.T10:=by kernel_rfl
theorem spec_SortSets.bits10:waitsOk spec_SortSets.T10.2 spec_SortSets.B10=true:=by kernel_rfl
theorem spec_SortSets.calls (k:Nat) (A0:Option Addr) (c0:Nat) (l0:List Int) (r:List Int) (w:World) (hr0:Kd.C (Kd.int .i64) w A0 l0.length l0) (hc0:l0.length≤c0) (h:spec_SortSets.f k l0=some r) :
    Calls Tryz.prog 60 #[.slice A0 l0.length c0] w fun e w'=>∃ v0_:Value,e=.returned (v0_)∧Kd.R (Kd.int .i64) 3 w' w.heap.size (fun _=>True) v0_ r∧Below w.heap.size w w':=by
 have HR0:=Aside0.mk hr0
 have HC0:=Aside0.mk hc0
 clear hr0 hc0
 have HB:=Aside0.mk (Below.refl w.heap.size w)
 have H:(spec_SortSets.l0 k l0 (([]:List Int)) 0)=some r:=h
 clear h
 obtain ⟨y389,hy389⟩:∃ y_:List Int,y_=(([]:List Int)):=⟨_,rfl⟩
 rw [← hy389] at H
 have Ny389:=Aside0.mk hy389
 clear hy389
 have H':=Aside0.mk H
 clear H
 go_enter Tryz.func60,Tryz.ntmps60
 go_wp2_with (first|((with_reducible refine gate_dst (N:=7) rfl ?_);refine Kd.R_lit (Kd.int .i64) _ 3 ?hg (N:=7) ?hd (xs:=([]:List Int)) (inner:=[]) (ok:=fun _=>True) (okp:=fun _=>True) ?hr ?hp (fun _ hk=>hk) trivial (Below.refl _ _) (Nat.le_refl _) (by simp) ?_;(case hd=>rfl);(case hg=>rfl);(case hr=>exact hrT_);(case hp=>exact (Reps.none _ _));intro v390 w2 ho3 hb hg_ hnew_;clear hg_ hnew_;(first|rw [← Ny389.out] at ho3|(simp only [Int.reduceToNat] at ho3;rw [← Ny389.out] at ho3));have HO391:=Aside0.mk (Kd.R_lower ho3 (below_size (h_HB HB.out)));replace HB:=s_HB HB.out hb;clear hb ho3))
 go_loopg [3,4] k (fun kq v3 v4 w'=>∃ (x3_1:List Int) (x4_1:Int),v4=.int .i64 x4_1∧Aside0 (spec_SortSets.l0 kq l0 x3_1 x4_1=some r)∧Aside0 (kq≤k)∧Aside0 (Kd.R (Kd.int .i64) 3 w' w.heap.size (fun _=>True) v3 x3_1)∧Aside0 (Below w.heap.size w w'))
 case atStart=>exact ⟨(y389),(0),sT_,H',⟨Nat.le_refl _⟩,⟨kRC_ HO391.out⟩,⟨h_HB HB.out⟩⟩
 case round =>
 clear H'
 try clear p2
 obtain ⟨x3_1,x4_1,rfl,HA,HK1,HO_3,HB⟩:=hrel
 cases gk with
 | zero=>exact absurd HA.out (by simp [spec_SortSets.l0])
 | succ k1 =>
 have H:=HA.out
 clear HA
 simp only [spec_SortSets.l0] at H
 replace H:=gsn_ H;rcases H with ⟨c4b0,H⟩|⟨c4b0,H⟩
 ·obtain rfl:=Option.some.inj H
  go_wp2
  go_ret
  exact ⟨_,eT_,kRC_ HO_3.out,h_HB HB.out⟩
 have H':=Aside0.mk H
 clear H
 go_wp2
 go_loopg [5] k1 (fun kq v5 w'=>∃ (x5_2:Int),v5=.int .i64 x5_2∧Aside0 (spec_SortSets.l1 kq l0 x3_1 x4_1 x5_2=some r)∧Aside0 (kq≤k1)∧Aside0 (Kd.R (Kd.int .i64) 3 w' w.heap.size (fun _=>True) u3 x3_1)∧Aside0 (Below w.heap.size w w'))
 case atStart=>exact ⟨(0),sT_,H',⟨Nat.le_refl _⟩,⟨kRC_ HO_3.out⟩,⟨h_HB HB.out⟩⟩
 case round =>
 clear H'
 try clear p2
 try clear c4
 try clear c4b0
 try clear p2
 obtain ⟨x5_2,rfl,HA,HK2,HO_3,HB⟩:=hrel
 cases gk with
 | zero=>exact absurd HA.out (by simp [spec_SortSets.l1])
 | succ k2 =>
 have H:=HA.out
 clear HA
 simp only [spec_SortSets.l1] at H
 replace H:=gsn_ H;rcases H with ⟨c5b0,H⟩|⟨c5b0,H⟩
 ·replace H:=sy_ H;obtain ⟨y416,Ny416,H⟩:=H
  replace H:=gsp_ H;obtain ⟨c34,H⟩:=H
  have c34b0:=eq_true c34
  have c34b1:decide (0≤x5_2)=true:=decide_eq_true c34
  clear c34
  replace H:=gsp_ H;obtain ⟨c35,H⟩:=H
  have c35b0:=eq_true c35
  have c35b1:decide (x5_2≤(x3_1.length:Int))=true:=decide_eq_true c35
  clear c35
  replace H:=sy_ H;obtain ⟨y419,Ny419,H⟩:=H
  replace H:=gsl_ H;obtain ⟨LMc36,H⟩:=H
  replace H:=sy_ H;obtain ⟨y423,Ny423,H⟩:=H
  have c37b0:=eq_true (odT_:x5_2≤(x3_1.length:Int))
  replace H:=sy_ H;obtain ⟨y426,Ny426,H⟩:=H
  replace H:=gsm_ H;obtain ⟨c38b0,H⟩:=H
  replace H:=gsm_ H;obtain ⟨c39b0,H⟩:=H
  replace H:=gsl_ H;obtain ⟨LMc40,H⟩:=H
  replace H:=sy_ H;obtain ⟨y430,Ny430,H⟩:=H
  replace H:=gsl_ H;obtain ⟨LMc41,H⟩:=H
  obtain ⟨y433,hy433⟩:∃ y_:List Int,y_=(y430++y423):=⟨_,rfl⟩
  rw [← hy433] at H
  have Ny433:=Aside0.mk hy433
  clear hy433
  have H':=Aside0.mk H
  clear H
  try go_wp2
  replace HO_3:=Aside0.mk (Kd.R_drew HO_3.out);replace HB:=Aside0.mk (below_drew1 HB.out)
  obtain ⟨Ao43,co43,eo43⟩:=Kd.R_slice HO_3.out
  (first|subst eo43|(injection eo43 with f1_ f2_ f3_;have f4_:=f1_.symm;have f5_:=f3_.symm;clear f1_ f2_ f3_;subst f4_;subst f5_))
  refine start_ (n:=15) (S:=fun w'=>True) (ds:=[]) #[F_,F_,F_,F_,F_,F_,F_,F_,F_,F_,F_,F_,F_,F_,F_] krT_ rfl rfl trivial (fun hHeld=>?_);refine with_tabW spec_SortSets.tab6 spec_SortSets.bits6 (fun HT_ HW_=>?_)
  generalize wr.drew=w42 at HO_3 HB hHeld ⊢
  refine pu_ 0 (some 14) (bm_ 15 1) rfl rfl HT_.out ?_
  refine pu_ 1 (some 15) (bm_ 15 3) rfl rfl HT_.out ?_
  refine pu_ 2 (some 16) (bm_ 15 7) rfl rfl HT_.out ?_
  refine pu_ 3 (some 17) (bm_ 15 15) rfl rfl HT_.out ?_
  refine pu_ 4 (some 18) (bm_ 15 31) rfl rfl HT_.out ?_
  refine pure_ (i:=5) (N:=some 19) (v:=undef) (a':=?_) (bm_ 15 63) rfl rfl (any_of HT_.out krT_) (fun _ _ _ h=>h) (Or.inr ⟨by rfl,rfl⟩) ?_ ?_
  rotate_left;exact apT_
  refine pure_ (i:=6) (N:=some 20) (v:=undef) (a':=?_) (bm_ 15 127) rfl rfl (any_of HT_.out krT_) (fun _ _ _ h=>h) (Or.inr ⟨by rfl,rfl⟩) ?_ ?_
  rotate_left;exact apT_
  refine pure_ (i:=7) (N:=some 21) (v:=undef) (a':=?_) (bm_ 15 255) rfl rfl (any_of HT_.out krT_) (fun _ _ _ h=>h) (Or.inr ⟨by rfl,rfl⟩) ?_ ?_
  rotate_left;exact apT_
  refine pure_ (i:=8) (N:=some 22) (v:=undef) (a':=?_) (bm_ 15 511) rfl rfl (any_of HT_.out krT_) (fun _ _ _ h=>h) (Or.inr ⟨by rfl,rfl⟩) ?_ ?_
  rotate_left;exact apT_
  refine pure_ (i:=9) (N:=some 23) (v:=undef) (a':=?_) (bm_ 15 1023) rfl rfl (any_of HT_.out krT_) (fun _ _ _ h=>h) (Or.inr ⟨by rfl,rfl⟩) ?_ ?_
  rotate_left;exact apT_
  refine pure_ (i:=10) (N:=some 24) (v:=undef) (a':=?_) (bm_ 15 2047) rfl rfl (any_of HT_.out krT_) (fun _ _ _ h=>h) (Or.inr ⟨by rfl,rfl⟩) ?_ ?_
  rotate_left;exact apT_
  refine pure_ (i:=11) (N:=some 25) (v:=undef) (a':=?_) (bm_ 15 4095) rfl rfl (any_of HT_.out krT_) (fun _ _ _ h=>h) (Or.inr ⟨by rfl,rfl⟩) ?_ ?_
  rotate_left;exact apT_
  refine pure_ (i:=12) (N:=some 26) (v:=undef) (a':=?_) (bm_ 15 8191) rfl rfl (any_of HT_.out krT_) (fun _ _ _ h=>h) (Or.inr ⟨by rfl,rfl⟩) ?_ ?_
  rotate_left;exact apT_
  refine pure_ (i:=13) (N:=some 27) (v:=undef) (a':=?_) (bm_ 15 16383) rfl rfl (any_of HT_.out krT_) (fun _ _ _ h=>h) (Or.inr ⟨by rfl,rfl⟩) ?_ ?_
  rotate_left;exact apT_
  refine pu_ 14 (some 28) (bm_ 15 32767) rfl rfl HT_.out ?_
  refine done_ (done_of HT_.out krT_) ?_
  try go_wp2
  replace HO_3:=Aside0.mk (Kd.R_drew HO_3.out);replace HB:=Aside0.mk (below_drew1 HB.out)
  refine start_ (n:=15) (S:=fun w'=>True) (ds:=[]) #[F_,F_,F_,F_,F_,F_,F_,F_,F_,F_,F_,F_,F_,F_,F_] krT_ rfl rfl trivial (fun hHeld=>?_);refine with_tabW spec_SortSets.tab8 spec_SortSets.bits8 (fun HT_ HW_=>?_)
  generalize w42.drew=w44 at HO_3 HB hHeld ⊢
  refine pu_ 0 (some 31) (bm_ 15 1) rfl rfl HT_.out ?_
  refine pu_ 1 (some 32) (bm_ 15 3) rfl rfl HT_.out ?_
  refine pu_ 2 (some 33) (bm_ 15 7) rfl rfl HT_.out ?_
  refine pu_ 3 (some 34) (bm_ 15 15) rfl rfl HT_.out ?_
  refine pu_ 4 (some 35) (bm_ 15 31) rfl rfl HT_.out ?_
  refine pure_ (i:=5) (N:=some 36) (v:=undef) (a':=?_) (bm_ 15 63) rfl rfl (any_of HT_.out krT_) (fun _ _ _ h=>h) (Or.inr ⟨by rfl,rfl⟩) ?_ ?_
  rotate_left;exact apT_
  refine pure_ (i:=6) (N:=some 37) (v:=undef) (a':=?_) (bm_ 15 127) rfl rfl (any_of HT_.out krT_) (fun _ _ _ h=>h) (Or.inr ⟨by rfl,rfl⟩) ?_ ?_
  rotate_left;exact apT_
  refine pure_ (i:=7) (N:=some 38) (v:=undef) (a':=?_) (bm_ 15 255) rfl rfl (any_of HT_.out krT_) (fun _ _ _ h=>h) (Or.inr ⟨by rfl,rfl⟩) ?_ ?_
  rotate_left;exact apT_
  refine pure_ (i:=8) (N:=some 39) (v:=undef) (a':=?_) (bm_ 15 511) rfl rfl (any_of HT_.out krT_) (fun _ _ _ h=>h) (Or.inr ⟨by rfl,rfl⟩) ?_ ?_
  rotate_left;exact apT_
  refine pure_ (i:=9) (N:=some 40) (v:=undef) (a':=?_) (bm_ 15 1023) rfl rfl (any_of HT_.out krT_) (fun _ _ _ h=>h) (Or.inr ⟨by rfl,rfl⟩) ?_ ?_
  rotate_left;exact apT_
  refine pure_ (i:=10) (N:=some 41) (v:=undef) (a':=?_) (bm_ 15 2047) rfl rfl (any_of HT_.out krT_) (fun _ _ _ h=>h) (Or.inr ⟨by rfl,rfl⟩) ?_ ?_
  rotate_left;exact apT_
  refine pure_ (i:=11) (N:=some 42) (v:=undef) (a':=?_) (bm_ 15 4095) rfl rfl (any_of HT_.out krT_) (fun _ _ _ h=>h) (Or.inr ⟨by rfl,rfl⟩) ?_ ?_
  rotate_left;exact apT_
  refine pure_ (i:=12) (N:=some 43) (v:=undef) (a':=?_) (bm_ 15 8191) rfl rfl (any_of HT_.out krT_) (fun _ _ _ h=>h) (Or.inr ⟨by rfl,rfl⟩) ?_ ?_
  rotate_left;exact apT_
  refine pure_ (i:=13) (N:=some 44) (v:=undef) (a':=?_) (bm_ 15 16383) rfl rfl (any_of HT_.out krT_) (fun _ _ _ h=>h) (Or.inr ⟨by rfl,rfl⟩) ?_ ?_
  rotate_left;exact apT_
  refine pu_ 14 (some 45) (bm_ 15 32767) rfl rfl HT_.out ?_
  refine done_ (done_of HT_.out krT_) ?_
  try go_wp2_with (first|((with_reducible refine gate_dst (N:=46) rfl ?_);refine Kd.R_lit (Kd.int .i64) _ 3 ?hg (N:=46) ?hd (xs:=([]:List Int)) (inner:=[]) (ok:=fun _=>True) (okp:=fun _=>True) ?hr ?hp (fun _ hk=>hk) trivial (Below.refl _ _) (Nat.le_refl _) (by simp) ?_;(case hd=>rfl);(case hg=>rfl);(case hr=>exact hrT_);(case hp=>exact (Reps.none _ _));intro v417 w45 ho46 hb hg_ hnew_;clear hg_ hnew_;(first|rw [← Ny416.out] at ho46|(simp only [Int.reduceToNat] at ho46;rw [← Ny416.out] at ho46));have HO418:=Aside0.mk (Kd.R_lower (Kd.R_new' ho46 (Kd.R_lt (kRC_ HO_3.out))) (below_size (h_HB HB.out)));replace HO_3:=Aside0.mk (Kd.R_elder' (kRC_ HO_3.out) (Kd.R_base ho46) hb);replace HB:=s_HB HB.out hb;clear hb ho46;have q47:(x5_2:Int)≤((x3_1.length:Int):Int):=odT_;obtain ⟨i047,hi047,_,hsz47,_⟩:=info_parts info3;have hroom47:x3_1.length≤co43:=(Kd.R_reads' HO_3.out).2.1;have hC47:Kd.C (Kd.int .i64) _ Ao43 x3_1.length x3_1:=(Kd.R_reads' HO_3.out).2.2;have q047:(0:Int)≤(x5_2:Int):=odT_;have hcut47:=cut_from (P:=Tryz.prog) 24 3 .i64 Tryz.underlying24 hi047 1 hsz47 Ao43 x3_1.length co43 x5_2 q047 q47;have hr47:=Kd.C_drop (m:=(x5_2:Int).toNat) (c:=co43) hC47 (by omega) hroom47;obtain ⟨A47,hA47⟩:∃ A1,A1=(if co43=(x5_2:Int).toNat then Ao43 else (Ao43:Option Addr).map (·.add ((x5_2:Int).toNat*1))):=⟨_,rfl⟩;obtain ⟨c47,hc47⟩:∃ c1,c1=co43-(x5_2:Int).toNat:=⟨_,rfl⟩;have hy47:y419.length=x3_1.length-(x5_2:Int).toNat:=(by rw [Ny419.out,List.length_drop]<;>omega);rw [show (x3_1).drop (x5_2:Int).toNat=y419 from Ny419.out.symm] at hr47;replace hr47:Kd.C (Kd.int .i64) _ A47 y419.length y419:=(by rw [hA47];exact hr47);rw [← hy47,← hA47,← hc47] at hcut47;have HR422:=Aside0.mk hr47;have HC422:=Aside0.mk (show y419.length≤c47 from by rw [hy47,hc47];exact Nat.sub_le_sub_right hroom47 _);clear hr47 hC47 hroom47 hi047 hsz47 hc47;have KY47:=Aside0.mk hy47;have KA47:=Aside0.mk hA47;clear hy47 hA47;have KL47:=Aside0.mk (show (x5_2:Int).toNat≤x3_1.length from by omega);replace q47:=eq_true q47)|((with_reducible refine gate_builtin (b:=.append) (xs:=#[.tmp 46,.tmp 49]) rfl ?_);at_builtin;refine Kd.R_append_rows (Kd.int .i64) (w0:=w) w.heap.size rfl (.tmp 46) (.tmp 49) 24 3 (.int .i64 0) 8 rfl Tryz.underlying24 info3 rfl (by decide) (by omega) v417 y416 y419 _ _ _ (fun k_=>some k_≠(.slice Ao43 x3_1.length co43:Value).ownBlock) (fun _=>False) rfl rfl ?aO ?aR (fun _ _ h=>h) (fun _ h=>h.elim) ?aF ?aB ?aS ?aL ?_;(case aR=>repeat (first|exact (by repeat (first|(with_reducible exact HR422.out)|(with_reducible refine Kd.C_alloc ?_ _)|(with_reducible refine Kd.C_drewN ?_ _)|(with_reducible refine Kd.C_drew ?_)|exact HR422.out))|(with_reducible refine Kd.C_alloc ?_ _)|(with_reducible refine Kd.C_drewN ?_ _)|(with_reducible refine Kd.C_drew ?_)));(case aB=>exact (h_HB HB.out));(case aF=>exact (fun k_ hk=>Kd.fresh' (Kd.R_lt (kRC_ HO_3.out)) k_ hk));(case aO=>exact (by (with_reducible repeat (first|apply Kd.R_alloc|apply Kd.R_drewN|apply Kd.R_drew));exact Kd.R_mono HO418.out (fun _ hk=>hk.2)));(case aS=>exact (below_size (h_HB HB.out)));(case aL=>have:=LMc36.out;omega);intro v424 w48 ho hb hg hat;rw [← Ny423.out] at ho;replace HB:=Aside0.mk (hb);replace HR422:=Aside0.mk ((show Kd.C (Kd.int .i64) w48 A47 y419.length y419 from by rw [Ny419.out,KA47.out];exact Kd.C_drop (m:=(x5_2:Int).toNat) (c:=co43) ((Kd.R_reads' (Kd.R_after (ok:=(fun _=>True)) (kRC_ HO_3.out) hg hat)).2.2) KL47.out ((Kd.R_reads' (Kd.R_after (ok:=(fun _=>True)) (kRC_ HO_3.out) hg hat)).2.1)));replace HO_3:=Aside0.mk (Kd.R_after (ok:=(fun _=>True)) (kRC_ HO_3.out) hg hat);have HO425:=Aside0.mk (ho);clear HO418;clear ho hb hg hat))
  replace HO_3:=Aside0.mk (Kd.R_drew HO_3.out);replace HO425:=Aside0.mk (Kd.R_drew HO425.out);replace HR422:=Aside0.mk (Kd.C_drew HR422.out);replace HB:=Aside0.mk (below_drew1 HB.out)
  have q50:(x5_2:Int)≤((x3_1.length:Int):Int):=odT_
  obtain ⟨i050,hi050,_,hsz50,_⟩:=info_parts info3
  have hcut50:=cut_to (P:=Tryz.prog) 24 3 .i64 Tryz.underlying24 hi050 Ao43 x3_1.length co43 x5_2 (odT_) q50 (Kd.R_reads' HO_3.out).2.1
  have hr50:=Kd.R_take (m:=(x5_2:Int).toNat) HO_3.out (by omega)
  have hy50:y426.length=(x5_2:Int).toNat:=(by rw [Ny426.out,List.length_take];omega)
  rw [← Ny426.out] at hr50
  rw [← hy50] at hr50 hcut50
  clear hy50 hi050 hsz50 HO_3
  have HO428:=Aside0.mk hr50
  clear hr50
  replace q50:=eq_true q50
  have p429:0≤(x4_1:Int):=odT_
  have q429:x4_1<(l0.length:Int):=odT_
  obtain ⟨ad429,e429,hx429_0⟩:=Kd.at_int HR0.out x4_1 p429 q429
  have hw429_0:=hx429_0
  cases e429
  replace hx429_0:=(HB.out.cell (World.block_lt_of_cell? w _ hx429_0)).trans hx429_0
  replace p429:=eq_true p429
  replace q429:=eq_true q429
  refine start_ (n:=12) (S:=fun w'=>w'.cell? (ad429.add (x4_1).toNat)=some (.int .i64 (rd l0 x4_1))) (ds:=[]) #[F_,F_,F_,F_,F_,F_,F_,F_,F_,F_,F_,F_] krT_ rfl rfl (((HB.out.cell (World.block_lt_of_cell? w _ hw429_0)).trans hw429_0)) (fun hHeld=>?_);refine with_tabW spec_SortSets.tab10 spec_SortSets.bits10 (fun HT_ HW_=>?_)
  generalize w48.drew=w49 at HO425 HR422 HB HO428 hx429_0 hHeld ⊢
  refine pu_ 0 (some 51) (bm_ 12 1) rfl rfl HT_.out ?_
  refine pu_ 1 (some 52) (bm_ 12 3) rfl rfl HT_.out ?_
  refine pu_ 2 (some 53) (bm_ 12 7) rfl rfl HT_.out ?_
  refine pu_ 3 (some 54) (bm_ 12 15) rfl rfl HT_.out ?_
  refine pu_ 4 (some 55) (bm_ 12 31) rfl rfl HT_.out ?_
  refine pu_ 5 (some 56) (bm_ 12 63) rfl rfl HT_.out ?_
  refine pu_ 9 (some 60) (bm_ 12 575) rfl rfl HT_.out ?_
  refine take_ (i:=6) (N:=some 57) (v:=?_) (a':=?_) (bm_ 12 639) rfl rfl (take_ofW HT_.out HW_.out krT_) (fun _ _ _ h=>h) (Or.inl ⟨by rfl,?_⟩) hHeld ?_ ?_
  rotate_left
  ·intro w' s0
   go_simp
   with_reducible rfl
  rotate_left;exact apT_
  refine one_ (i:=7) (N:=some 58) (bm_ 12 767) rfl rfl (one_of HT_.out krT_) (by decide) (fun K hK=>?_)
  refine value_ (w1:=?_) (v:=?_) (by rfl) rfl ?_ ?_
  rotate_left 2
  ·go_simp
   constructor
   ·rfl
   rfl
  refine hK.out _ _ ((World.cell?_alloc_lt _ _ _ (World.block_lt_of_cell? _ _ (((HB.out.cell (World.block_lt_of_cell? w _ hw429_0)).trans hw429_0)))).trans (((HB.out.cell (World.block_lt_of_cell? w _ hw429_0)).trans hw429_0))) (fun hHeld=>?_)
  clear hK K
  refine norm_ (a':=?_) ?_ ?_
  rotate_left
  ·show Act.put _ (some 58) _=_
   simp only [Act.put,List.setIfInBounds_toArray,List.set_cons_zero,List.set_cons_succ,i64_w,i32_w]
   rfl
  refine one_ (i:=8) (N:=some 59) (bm_ 12 1023) rfl rfl (one_of HT_.out krT_) (by decide) (fun K hK=>?_)
  refine Kd.R_append_step (Kd.int .i64) (w0:=w) w.heap.size (by rfl) (.tmp 53) (.tmp 58) 24 3 (.int .i64 0) 8 rfl Tryz.underlying24 info3 rfl (by decide) (by omega) (.slice Ao43 y426.length co43) y426 (rd l0 x4_1) [.int .i64 (rd l0 x4_1)] (fun k_=>some k_≠(v424:Value).ownBlock) (fun _=>False) rfl rfl ?aP (fun _ hk=>hk.elim) ?aF ?aO ?aB ?aS ?aL ?_
  (case aP=>exact rfl)
  (case aB=>exact (h_HB HB.out))
  (case aF=>exact (fun k_ hk=>Kd.fresh' (Kd.R_lt (kRC_ HO425.out)) k_ hk))
  (case aO=>exact (by (with_reducible repeat (first|apply Kd.R_alloc|apply Kd.R_drewN|apply Kd.R_drew));exact Kd.R_mono HO428.out (fun _ hk=>hk.2)))
  (case aS=>exact (below_size (h_HB HB.out)))
  (case aL=>have:=LMc40.out;omega)
  intro v431 w51 ho hb hg hat
  rw [← Ny430.out] at ho
  replace HO425:=Aside0.mk (Kd.R_after (ok:=(fun _=>True)) (by (with_reducible repeat (first|apply Kd.R_alloc|apply Kd.R_drewN|apply Kd.R_drew));exact Kd.R_mono HO425.out (fun _ hk=>⟨trivial,by first|exact hk|exact ob_len_VFnCircuitsx10 hk⟩)) hg hat);replace HB:=Aside0.mk (hb);have HO432:=Aside0.mk (ho);clear HO428
  clear ho hb hg hat
  obtain ⟨Ao53,co53,eo53⟩:=Kd.R_slice HO425.out
  (first|subst eo53|(injection eo53 with f1_ f2_ f3_;have f4_:=f1_.symm;have f5_:=f3_.symm;clear f1_ f2_ f3_;subst f4_;subst f5_))
  refine hK.out _ _ (((HB.out.cell (World.block_lt_of_cell? w _ hw429_0)).trans hw429_0)) (fun hHeld=>?_)
  clear hK K
  refine norm_ (a':=?_) ?_ ?_
  rotate_left
  ·show Act.put _ (some 59) _=_
   simp only [Act.put,List.setIfInBounds_toArray,List.set_cons_zero,List.set_cons_succ,i64_w,i32_w]
   rfl
  refine one_ (i:=10) (N:=some 61) (bm_ 12 2047) rfl rfl (one_of HT_.out krT_) (by decide) (fun K hK=>?_)
  refine Kd.R_append_rows_step (Kd.int .i64) (w0:=w) w.heap.size (by rfl) (.tmp 59) (.tmp 60) 24 3 (.int .i64 0) 8 rfl Tryz.underlying24 info3 rfl (by decide) (by omega) v431 y430 y423 _ _ _ (fun k_=>some k_≠(.slice Ao53 y423.length co53:Value).ownBlock) (fun _=>False) rfl rfl ?aO ?aR (fun _ _ h=>h) (fun _ h=>h.elim) ?aF ?aB ?aS ?aL ?_
  (case aR=>repeat (first|exact (Kd.R_reads' HO425.out).2.2|(with_reducible refine Kd.C_alloc ?_ _)|(with_reducible refine Kd.C_drewN ?_ _)|(with_reducible refine Kd.C_drew ?_)))
  (case aB=>exact (h_HB HB.out))
  (case aF=>exact (fun k_ hk=>Kd.fresh' (Kd.R_lt (kRC_ HO425.out)) k_ hk))
  (case aO=>exact (kRC_ HO432.out))
  (case aS=>exact (below_size (h_HB HB.out)))
  (case aL=>have:=LMc41.out;omega)
  intro v434 w52 ho hb hg hat
  rw [← Ny433.out] at ho
  replace HO425:=Aside0.mk (Kd.R_after (ok:=(fun _=>True)) (kRC_ HO425.out) hg hat);replace HB:=Aside0.mk (hb);have HO435:=Aside0.mk (ho);clear HO432
  clear ho hb hg hat
  refine hK.out _ _ (((HB.out.cell (World.block_lt_of_cell? w _ hw429_0)).trans hw429_0)) (fun hHeld=>?_)
  clear hK K
  refine norm_ (a':=?_) ?_ ?_
  rotate_left
  ·show Act.put _ (some 61) _=_
   simp only [Act.put,List.setIfInBounds_toArray,List.set_cons_zero,List.set_cons_succ,i64_w,i32_w]
   rfl
  refine pu_ 11 (some 3) (bm_ 12 4095) rfl rfl HT_.out ?_
  refine done_ (done_of HT_.out krT_) ?_
  try go_wp2
  go_roundg k2
  case measure=>have:=HK1.out;have:=HK2.out;omega
  case rel=>exact ⟨(y433),(wrap64 (x4_1+1)),sT_,H',⟨by have:=HK1.out;have:=HK2.out;omega⟩,⟨by (with_reducible repeat (first|apply Kd.R_alloc|apply Kd.R_drewN|apply Kd.R_drew));exact Kd.R_mono HO435.out (fun _ hk=>trivial)⟩,⟨h_HB HB.out⟩⟩
 replace H:=gsm_ H;obtain ⟨c6b0,H⟩:=H
 replace H:=gsm_ H;obtain ⟨c7b0,H⟩:=H
 replace H:=gsm_ H;obtain ⟨c8b0,H⟩:=H
 replace H:=gsb_ H;rcases H with ⟨c9b0,H⟩|⟨c9b0,H⟩
 ·have H':=Aside0.mk H
  clear H
  try go_wp2
  replace HO_3:=Aside0.mk (Kd.R_drew HO_3.out);replace HB:=Aside0.mk (below_drew1 HB.out)
  obtain ⟨Ao11,co11,eo11⟩:=Kd.R_slice HO_3.out
  (first|subst eo11|(injection eo11 with f1_ f2_ f3_;have f4_:=f1_.symm;have f5_:=f3_.symm;clear f1_ f2_ f3_;subst f4_;subst f5_))
  obtain ⟨ad392,e392,hx392_0,p392,q392⟩:=aiI_ (Kd.R_reads' HO_3.out).2.2 x5_2
  cases e392
  have p393:0≤(x4_1:Int):=odT_
  have q393:x4_1<(l0.length:Int):=odT_
  obtain ⟨ad393,e393,hx393_0⟩:=Kd.at_int HR0.out x4_1 p393 q393
  have hw393_0:=hx393_0
  cases e393
  replace hx393_0:=(HB.out.cell (World.block_lt_of_cell? w _ hx393_0)).trans hx393_0
  replace p393:=eq_true p393
  replace q393:=eq_true q393
  refine start_ (n:=15) (S:=fun w'=>w'.cell? (ad392.add (x5_2).toNat)=some (.int .i64 (rd x3_1 x5_2))∧w'.cell? (ad393.add (x4_1).toNat)=some (.int .i64 (rd l0 x4_1))) (ds:=[]) #[F_,F_,F_,F_,F_,F_,F_,F_,F_,F_,F_,F_,F_,F_,F_] krT_ rfl rfl ⟨hx392_0,((HB.out.cell (World.block_lt_of_cell? w _ hw393_0)).trans hw393_0)⟩ (fun hHeld=>?_);refine with_tabW spec_SortSets.tab6 spec_SortSets.bits6 (fun HT_ HW_=>?_)
  generalize wr.drew=w10 at HO_3 HB hx392_0 hx393_0 hHeld ⊢
  refine pu_ 0 (some 14) (bm_ 15 1) rfl rfl HT_.out ?_
  refine pu_ 1 (some 15) (bm_ 15 3) rfl rfl HT_.out ?_
  refine pu_ 2 (some 16) (bm_ 15 7) rfl rfl HT_.out ?_
  refine pu_ 3 (some 17) (bm_ 15 15) rfl rfl HT_.out ?_
  refine pu_ 4 (some 18) (bm_ 15 31) rfl rfl HT_.out ?_
  refine pu_ 5 (some 19) (bm_ 15 63) rfl rfl HT_.out ?_
  refine pu_ 6 (some 20) (bm_ 15 127) rfl rfl HT_.out ?_
  refine pu_ 7 (some 21) (bm_ 15 255) rfl rfl HT_.out ?_
  refine pu_ 9 (some 23) (bm_ 15 767) rfl rfl HT_.out ?_
  refine pu_ 10 (some 24) (bm_ 15 1791) rfl rfl HT_.out ?_
  refine pu_ 11 (some 25) (bm_ 15 3839) rfl rfl HT_.out ?_
  refine take_ (i:=8) (N:=some 22) (v:=?_) (a':=?_) (bm_ 15 4095) rfl rfl (take_ofW HT_.out HW_.out krT_) (fun _ _ _ h=>h) (Or.inl ⟨by rfl,?_⟩) hHeld ?_ ?_
  rotate_left
  ·rintro w' ⟨s0,s1⟩
   go_simp
   with_reducible rfl
  rotate_left;exact apT_
  refine take_ (i:=12) (N:=some 26) (v:=?_) (a':=?_) (bm_ 15 8191) rfl rfl (take_ofW HT_.out HW_.out krT_) (fun _ _ _ h=>h) (Or.inl ⟨by rfl,?_⟩) hHeld ?_ ?_
  rotate_left
  ·rintro w' ⟨s0,s1⟩
   go_simp
   with_reducible rfl
  rotate_left;exact apT_
  refine pu_ 13 (some 27) (bm_ 15 16383) rfl rfl HT_.out ?_
  refine pu_ 14 (some 28) (bm_ 15 32767) rfl rfl HT_.out ?_
  refine done_ (done_of HT_.out krT_) ?_
  try go_wp2
  go_roundg k2
  case measure=>have:=HK1.out;have:=HK2.out;omega
  case rel=>exact ⟨(wrap64 (x5_2+1)),sT_,H',⟨by have:=HK1.out;have:=HK2.out;omega⟩,⟨kRC_ HO_3.out⟩,⟨h_HB HB.out⟩⟩
 replace H:=gse_ H;rcases H with ⟨c12b0,c12b1,H⟩|⟨c12b0,c12b1,c12,H⟩
 ·have H':=Aside0.mk H
  clear H
  try go_wp2
  replace HO_3:=Aside0.mk (Kd.R_drew HO_3.out);replace HB:=Aside0.mk (below_drew1 HB.out)
  obtain ⟨Ao14,co14,eo14⟩:=Kd.R_slice HO_3.out
  (first|subst eo14|(injection eo14 with f1_ f2_ f3_;have f4_:=f1_.symm;have f5_:=f3_.symm;clear f1_ f2_ f3_;subst f4_;subst f5_))
  obtain ⟨ad392,e392,hx392_0,p392,q392⟩:=aiI_ (Kd.R_reads' HO_3.out).2.2 x5_2
  cases e392
  have p393:0≤(x4_1:Int):=odT_
  have q393:x4_1<(l0.length:Int):=odT_
  obtain ⟨ad393,e393,hx393_0⟩:=Kd.at_int HR0.out x4_1 p393 q393
  have hw393_0:=hx393_0
  cases e393
  replace hx393_0:=(HB.out.cell (World.block_lt_of_cell? w _ hx393_0)).trans hx393_0
  replace p393:=eq_true p393
  replace q393:=eq_true q393
  refine start_ (n:=15) (S:=fun w'=>w'.cell? (ad392.add (x5_2).toNat)=some (.int .i64 (rd x3_1 x5_2))∧w'.cell? (ad393.add (x4_1).toNat)=some (.int .i64 (rd l0 x4_1))) (ds:=[]) #[F_,F_,F_,F_,F_,F_,F_,F_,F_,F_,F_,F_,F_,F_,F_] krT_ rfl rfl ⟨hx392_0,((HB.out.cell (World.block_lt_of_cell? w _ hw393_0)).trans hw393_0)⟩ (fun hHeld=>?_);refine with_tabW spec_SortSets.tab6 spec_SortSets.bits6 (fun HT_ HW_=>?_)
  generalize wr.drew=w13 at HO_3 HB hx392_0 hx393_0 hHeld ⊢
  refine pu_ 0 (some 14) (bm_ 15 1) rfl rfl HT_.out ?_
  refine pu_ 1 (some 15) (bm_ 15 3) rfl rfl HT_.out ?_
  refine pu_ 2 (some 16) (bm_ 15 7) rfl rfl HT_.out ?_
  refine pu_ 3 (some 17) (bm_ 15 15) rfl rfl HT_.out ?_
  refine pu_ 4 (some 18) (bm_ 15 31) rfl rfl HT_.out ?_
  refine pu_ 5 (some 19) (bm_ 15 63) rfl rfl HT_.out ?_
  refine pu_ 6 (some 20) (bm_ 15 127) rfl rfl HT_.out ?_
  refine pu_ 7 (some 21) (bm_ 15 255) rfl rfl HT_.out ?_
  refine pu_ 9 (some 23) (bm_ 15 767) rfl rfl HT_.out ?_
  refine pu_ 10 (some 24) (bm_ 15 1791) rfl rfl HT_.out ?_
  refine pu_ 11 (some 25) (bm_ 15 3839) rfl rfl HT_.out ?_
  refine take_ (i:=8) (N:=some 22) (v:=?_) (a':=?_) (bm_ 15 4095) rfl rfl (take_ofW HT_.out HW_.out krT_) (fun _ _ _ h=>h) (Or.inl ⟨by rfl,?_⟩) hHeld ?_ ?_
  rotate_left
  ·rintro w' ⟨s0,s1⟩
   go_simp
   with_reducible rfl
  rotate_left;exact apT_
  refine take_ (i:=12) (N:=some 26) (v:=?_) (a':=?_) (bm_ 15 8191) rfl rfl (take_ofW HT_.out HW_.out krT_) (fun _ _ _ h=>h) (Or.inl ⟨by rfl,?_⟩) hHeld ?_ ?_
  rotate_left
  ·rintro w' ⟨s0,s1⟩
   go_simp
   with_reducible rfl
  rotate_left;exact apT_
  refine pu_ 13 (some 27) (bm_ 15 16383) rfl rfl HT_.out ?_
  refine pu_ 14 (some 28) (bm_ 15 32767) rfl rfl HT_.out ?_
  refine done_ (done_of HT_.out krT_) ?_
  try go_wp2
  replace HO_3:=Aside0.mk (Kd.R_drew HO_3.out);replace HB:=Aside0.mk (below_drew1 HB.out)
  obtain ⟨ad394,e394,hx394_0,p394,q394⟩:=aiI_ (Kd.R_reads' HO_3.out).2.2 x5_2
  obtain rfl:ad392=ad394:=(by injection e394)
  have p395:0≤(x4_1:Int):=odT_
  have q395:x4_1<(l0.length:Int):=odT_
  obtain ⟨ad395,e395,hx395_0⟩:=Kd.at_int HR0.out x4_1 p395 q395
  have hw395_0:=hx395_0
  obtain rfl:ad393=ad395:=(by injection e395)
  replace hx395_0:=(HB.out.cell (World.block_lt_of_cell? w _ hx395_0)).trans hx395_0
  replace p395:=eq_true p395
  replace q395:=eq_true q395
  refine start_ (n:=15) (S:=fun w'=>w'.cell? (ad392.add (x5_2).toNat)=some (.int .i64 (rd x3_1 x5_2))∧w'.cell? (ad393.add (x4_1).toNat)=some (.int .i64 (rd l0 x4_1))) (ds:=[]) #[F_,F_,F_,F_,F_,F_,F_,F_,F_,F_,F_,F_,F_,F_,F_] krT_ rfl rfl ⟨hx394_0,((HB.out.cell (World.block_lt_of_cell? w _ hw395_0)).trans hw395_0)⟩ (fun hHeld=>?_);refine with_tabW spec_SortSets.tab8 spec_SortSets.bits8 (fun HT_ HW_=>?_)
  generalize w13.drew=w15 at HO_3 HB hx394_0 hx395_0 hHeld ⊢
  refine pu_ 0 (some 31) (bm_ 15 1) rfl rfl HT_.out ?_
  refine pu_ 1 (some 32) (bm_ 15 3) rfl rfl HT_.out ?_
  refine pu_ 2 (some 33) (bm_ 15 7) rfl rfl HT_.out ?_
  refine pu_ 3 (some 34) (bm_ 15 15) rfl rfl HT_.out ?_
  refine pu_ 4 (some 35) (bm_ 15 31) rfl rfl HT_.out ?_
  refine pu_ 5 (some 36) (bm_ 15 63) rfl rfl HT_.out ?_
  refine pu_ 6 (some 37) (bm_ 15 127) rfl rfl HT_.out ?_
  refine pu_ 7 (some 38) (bm_ 15 255) rfl rfl HT_.out ?_
  refine pu_ 9 (some 40) (bm_ 15 767) rfl rfl HT_.out ?_
  refine pu_ 10 (some 41) (bm_ 15 1791) rfl rfl HT_.out ?_
  refine pu_ 11 (some 42) (bm_ 15 3839) rfl rfl HT_.out ?_
  refine take_ (i:=8) (N:=some 39) (v:=?_) (a':=?_) (bm_ 15 4095) rfl rfl (take_ofW HT_.out HW_.out krT_) (fun _ _ _ h=>h) (Or.inl ⟨by rfl,?_⟩) hHeld ?_ ?_
  rotate_left
  ·rintro w' ⟨s0,s1⟩
   go_simp
   with_reducible rfl
  rotate_left;exact apT_
  refine take_ (i:=12) (N:=some 43) (v:=?_) (a':=?_) (bm_ 15 8191) rfl rfl (take_ofW HT_.out HW_.out krT_) (fun _ _ _ h=>h) (Or.inl ⟨by rfl,?_⟩) hHeld ?_ ?_
  rotate_left
  ·rintro w' ⟨s0,s1⟩
   go_simp
   with_reducible rfl
  rotate_left;exact apT_
  refine pu_ 13 (some 44) (bm_ 15 16383) rfl rfl HT_.out ?_
  refine pu_ 14 (some 45) (bm_ 15 32767) rfl rfl HT_.out ?_
  refine done_ (done_of HT_.out krT_) ?_
  try go_wp2
  go_roundg k2
  case measure=>have:=HK1.out;have:=HK2.out;omega
  case rel=>exact ⟨(x3_1),(wrap64 (x4_1+1)),sT_,H',⟨by have:=HK1.out;have:=HK2.out;omega⟩,⟨kRC_ HO_3.out⟩,⟨h_HB HB.out⟩⟩
 replace H:=sy_ H;obtain ⟨y396,Ny396,H⟩:=H
 have c16b0:=eq_true (odT_:0≤x5_2)
 replace H:=gsp_ H;obtain ⟨c17,H⟩:=H
 have c17b0:=eq_true c17
 have c17b1:decide (x5_2≤(x3_1.length:Int))=true:=decide_eq_true c17
 clear c17
 replace H:=sy_ H;obtain ⟨y399,Ny399,H⟩:=H
 replace H:=gsl_ H;obtain ⟨LMc18,H⟩:=H
 replace H:=sy_ H;obtain ⟨y403,Ny403,H⟩:=H
 have c19b0:=eq_true (odT_:x5_2≤(x3_1.length:Int))
 replace H:=sy_ H;obtain ⟨y406,Ny406,H⟩:=H
 replace H:=gsl_ H;obtain ⟨LMc20,H⟩:=H
 replace H:=sy_ H;obtain ⟨y410,Ny410,H⟩:=H
 replace H:=gsl_ H;obtain ⟨LMc21,H⟩:=H
 obtain ⟨y413,hy413⟩:∃ y_:List Int,y_=(y410++y403):=⟨_,rfl⟩
 rw [← hy413] at H
 have Ny413:=Aside0.mk hy413
 clear hy413
 have H':=Aside0.mk H
 clear H
 try go_wp2
 replace HO_3:=Aside0.mk (Kd.R_drew HO_3.out);replace HB:=Aside0.mk (below_drew1 HB.out)
 obtain ⟨Ao23,co23,eo23⟩:=Kd.R_slice HO_3.out
 (first|subst eo23|(injection eo23 with f1_ f2_ f3_;have f4_:=f1_.symm;have f5_:=f3_.symm;clear f1_ f2_ f3_;subst f4_;subst f5_))
 obtain ⟨ad392,e392,hx392_0,p392,q392⟩:=aiI_ (Kd.R_reads' HO_3.out).2.2 x5_2
 cases e392
 have p393:0≤(x4_1:Int):=odT_
 have q393:x4_1<(l0.length:Int):=odT_
 obtain ⟨ad393,e393,hx393_0⟩:=Kd.at_int HR0.out x4_1 p393 q393
 have hw393_0:=hx393_0
 cases e393
 replace hx393_0:=(HB.out.cell (World.block_lt_of_cell? w _ hx393_0)).trans hx393_0
 replace p393:=eq_true p393
 replace q393:=eq_true q393
 refine start_ (n:=15) (S:=fun w'=>w'.cell? (ad392.add (x5_2).toNat)=some (.int .i64 (rd x3_1 x5_2))∧w'.cell? (ad393.add (x4_1).toNat)=some (.int .i64 (rd l0 x4_1))) (ds:=[]) #[F_,F_,F_,F_,F_,F_,F_,F_,F_,F_,F_,F_,F_,F_,F_] krT_ rfl rfl ⟨hx392_0,((HB.out.cell (World.block_lt_of_cell? w _ hw393_0)).trans hw393_0)⟩ (fun hHeld=>?_);refine with_tabW spec_SortSets.tab6 spec_SortSets.bits6 (fun HT_ HW_=>?_)
 generalize wr.drew=w22 at HO_3 HB hx392_0 hx393_0 hHeld ⊢
 refine pu_ 0 (some 14) (bm_ 15 1) rfl rfl HT_.out ?_
 refine pu_ 1 (some 15) (bm_ 15 3) rfl rfl HT_.out ?_
 refine pu_ 2 (some 16) (bm_ 15 7) rfl rfl HT_.out ?_
 refine pu_ 3 (some 17) (bm_ 15 15) rfl rfl HT_.out ?_
 refine pu_ 4 (some 18) (bm_ 15 31) rfl rfl HT_.out ?_
 refine pu_ 5 (some 19) (bm_ 15 63) rfl rfl HT_.out ?_
 refine pu_ 6 (some 20) (bm_ 15 127) rfl rfl HT_.out ?_
 refine pu_ 7 (some 21) (bm_ 15 255) rfl rfl HT_.out ?_
 refine pu_ 9 (some 23) (bm_ 15 767) rfl rfl HT_.out ?_
 refine pu_ 10 (some 24) (bm_ 15 1791) rfl rfl HT_.out ?_
 refine pu_ 11 (some 25) (bm_ 15 3839) rfl rfl HT_.out ?_
 refine take_ (i:=8) (N:=some 22) (v:=?_) (a':=?_) (bm_ 15 4095) rfl rfl (take_ofW HT_.out HW_.out krT_) (fun _ _ _ h=>h) (Or.inl ⟨by rfl,?_⟩) hHeld ?_ ?_
 rotate_left
 ·rintro w' ⟨s0,s1⟩
  go_simp
  with_reducible rfl
 rotate_left;exact apT_
 refine take_ (i:=12) (N:=some 26) (v:=?_) (a':=?_) (bm_ 15 8191) rfl rfl (take_ofW HT_.out HW_.out krT_) (fun _ _ _ h=>h) (Or.inl ⟨by rfl,?_⟩) hHeld ?_ ?_
 rotate_left
 ·rintro w' ⟨s0,s1⟩
  go_simp
  with_reducible rfl
 rotate_left;exact apT_
 refine pu_ 13 (some 27) (bm_ 15 16383) rfl rfl HT_.out ?_
 refine pu_ 14 (some 28) (bm_ 15 32767) rfl rfl HT_.out ?_
 refine done_ (done_of HT_.out krT_) ?_
 try go_wp2
 replace HO_3:=Aside0.mk (Kd.R_drew HO_3.out);replace HB:=Aside0.mk (below_drew1 HB.out)
 obtain ⟨ad394,e394,hx394_0,p394,q394⟩:=aiI_ (Kd.R_reads' HO_3.out).2.2 x5_2
 obtain rfl:ad392=ad394:=(by injection e394)
 have p395:0≤(x4_1:Int):=odT_
 have q395:x4_1<(l0.length:Int):=odT_
 obtain ⟨ad395,e395,hx395_0⟩:=Kd.at_int HR0.out x4_1 p395 q395
 have hw395_0:=hx395_0
 obtain rfl:ad393=ad395:=(by injection e395)
 replace hx395_0:=(HB.out.cell (World.block_lt_of_cell? w _ hx395_0)).trans hx395_0
 replace p395:=eq_true p395
 replace q395:=eq_true q395
 refine start_ (n:=15) (S:=fun w'=>w'.cell? (ad392.add (x5_2).toNat)=some (.int .i64 (rd x3_1 x5_2))∧w'.cell? (ad393.add (x4_1).toNat)=some (.int .i64 (rd l0 x4_1))) (ds:=[]) #[F_,F_,F_,F_,F_,F_,F_,F_,F_,F_,F_,F_,F_,F_,F_] krT_ rfl rfl ⟨hx394_0,((HB.out.cell (World.block_lt_of_cell? w _ hw395_0)).trans hw395_0)⟩ (fun hHeld=>?_);refine with_tabW spec_SortSets.tab8 spec_SortSets.bits8 (fun HT_ HW_=>?_)
 generalize w22.drew=w24 at HO_3 HB hx394_0 hx395_0 hHeld ⊢
 refine pu_ 0 (some 31) (bm_ 15 1) rfl rfl HT_.out ?_
 refine pu_ 1 (some 32) (bm_ 15 3) rfl rfl HT_.out ?_
 refine pu_ 2 (some 33) (bm_ 15 7) rfl rfl HT_.out ?_
 refine pu_ 3 (some 34) (bm_ 15 15) rfl rfl HT_.out ?_
 refine pu_ 4 (some 35) (bm_ 15 31) rfl rfl HT_.out ?_
 refine pu_ 5 (some 36) (bm_ 15 63) rfl rfl HT_.out ?_
 refine pu_ 6 (some 37) (bm_ 15 127) rfl rfl HT_.out ?_
 refine pu_ 7 (some 38) (bm_ 15 255) rfl rfl HT_.out ?_
 refine pu_ 9 (some 40) (bm_ 15 767) rfl rfl HT_.out ?_
 refine pu_ 10 (some 41) (bm_ 15 1791) rfl rfl HT_.out ?_
 refine pu_ 11 (some 42) (bm_ 15 3839) rfl rfl HT_.out ?_
 refine take_ (i:=8) (N:=some 39) (v:=?_) (a':=?_) (bm_ 15 4095) rfl rfl (take_ofW HT_.out HW_.out krT_) (fun _ _ _ h=>h) (Or.inl ⟨by rfl,?_⟩) hHeld ?_ ?_
 rotate_left
 ·rintro w' ⟨s0,s1⟩
  go_simp
  with_reducible rfl
 rotate_left;exact apT_
 refine take_ (i:=12) (N:=some 43) (v:=?_) (a':=?_) (bm_ 15 8191) rfl rfl (take_ofW HT_.out HW_.out krT_) (fun _ _ _ h=>h) (Or.inl ⟨by rfl,?_⟩) hHeld ?_ ?_
 rotate_left
 ·rintro w' ⟨s0,s1⟩
  go_simp
  with_reducible rfl
 rotate_left;exact apT_
 refine pu_ 13 (some 44) (bm_ 15 16383) rfl rfl HT_.out ?_
 refine pu_ 14 (some 45) (bm_ 15 32767) rfl rfl HT_.out ?_
 refine done_ (done_of HT_.out krT_) ?_
 try go_wp2_with (first|((with_reducible refine gate_dst (N:=46) rfl ?_);refine Kd.R_lit (Kd.int .i64) _ 3 ?hg (N:=46) ?hd (xs:=([]:List Int)) (inner:=[]) (ok:=fun _=>True) (okp:=fun _=>True) ?hr ?hp (fun _ hk=>hk) trivial (Below.refl _ _) (Nat.le_refl _) (by simp) ?_;(case hd=>rfl);(case hg=>rfl);(case hr=>exact hrT_);(case hp=>exact (Reps.none _ _));intro v397 w25 ho26 hb hg_ hnew_;clear hg_ hnew_;(first|rw [← Ny396.out] at ho26|(simp only [Int.reduceToNat] at ho26;rw [← Ny396.out] at ho26));have HO398:=Aside0.mk (Kd.R_lower (Kd.R_new' ho26 (Kd.R_lt (kRC_ HO_3.out))) (below_size (h_HB HB.out)));replace HO_3:=Aside0.mk (Kd.R_elder' (kRC_ HO_3.out) (Kd.R_base ho26) hb);replace HB:=s_HB HB.out hb;clear hb ho26;have q27:(x5_2:Int)≤((x3_1.length:Int):Int):=odT_;obtain ⟨i027,hi027,_,hsz27,_⟩:=info_parts info3;have hroom27:x3_1.length≤co23:=(Kd.R_reads' HO_3.out).2.1;have hC27:Kd.C (Kd.int .i64) _ (some ad392) x3_1.length x3_1:=(Kd.R_reads' HO_3.out).2.2;have q027:(0:Int)≤(x5_2:Int):=odT_;have hcut27:=cut_from (P:=Tryz.prog) 24 3 .i64 Tryz.underlying24 hi027 1 hsz27 (some ad392) x3_1.length co23 x5_2 q027 q27;have hr27:=Kd.C_drop (m:=(x5_2:Int).toNat) (c:=co23) hC27 (by omega) hroom27;obtain ⟨A27,hA27⟩:∃ A1,A1=(if co23=(x5_2:Int).toNat then (some ad392) else ((some ad392):Option Addr).map (·.add ((x5_2:Int).toNat*1))):=⟨_,rfl⟩;obtain ⟨c27,hc27⟩:∃ c1,c1=co23-(x5_2:Int).toNat:=⟨_,rfl⟩;have hy27:y399.length=x3_1.length-(x5_2:Int).toNat:=(by rw [Ny399.out,List.length_drop]<;>omega);rw [show (x3_1).drop (x5_2:Int).toNat=y399 from Ny399.out.symm] at hr27;replace hr27:Kd.C (Kd.int .i64) _ A27 y399.length y399:=(by rw [hA27];exact hr27);rw [← hy27,← hA27,← hc27] at hcut27;have HR402:=Aside0.mk hr27;have HC402:=Aside0.mk (show y399.length≤c27 from by rw [hy27,hc27];exact Nat.sub_le_sub_right hroom27 _);clear hr27 hC27 hroom27 hi027 hsz27 hc27;have KY27:=Aside0.mk hy27;have KA27:=Aside0.mk hA27;clear hy27 hA27;have KL27:=Aside0.mk (show (x5_2:Int).toNat≤x3_1.length from by omega);replace q27:=eq_true q27)|((with_reducible refine gate_builtin (b:=.append) (xs:=#[.tmp 46,.tmp 49]) rfl ?_);at_builtin;refine Kd.R_append_rows (Kd.int .i64) (w0:=w) w.heap.size rfl (.tmp 46) (.tmp 49) 24 3 (.int .i64 0) 8 rfl Tryz.underlying24 info3 rfl (by decide) (by omega) v397 y396 y399 _ _ _ (fun k_=>some k_≠(.slice (some ad392) x3_1.length co23:Value).ownBlock) (fun _=>False) rfl rfl ?aO ?aR (fun _ _ h=>h) (fun _ h=>h.elim) ?aF ?aB ?aS ?aL ?_;(case aR=>repeat (first|exact (by repeat (first|(with_reducible exact HR402.out)|(with_reducible refine Kd.C_alloc ?_ _)|(with_reducible refine Kd.C_drewN ?_ _)|(with_reducible refine Kd.C_drew ?_)|exact HR402.out))|(with_reducible refine Kd.C_alloc ?_ _)|(with_reducible refine Kd.C_drewN ?_ _)|(with_reducible refine Kd.C_drew ?_)));(case aB=>exact (h_HB HB.out));(case aF=>exact (fun k_ hk=>Kd.fresh' (Kd.R_lt (kRC_ HO_3.out)) k_ hk));(case aO=>exact (by (with_reducible repeat (first|apply Kd.R_alloc|apply Kd.R_drewN|apply Kd.R_drew));exact Kd.R_mono HO398.out (fun _ hk=>hk.2)));(case aS=>exact (below_size (h_HB HB.out)));(case aL=>have:=LMc18.out;omega);intro v404 w28 ho hb hg hat;rw [← Ny403.out] at ho;replace HB:=Aside0.mk (hb);replace HR402:=Aside0.mk ((show Kd.C (Kd.int .i64) w28 A27 y399.length y399 from by rw [Ny399.out,KA27.out];exact Kd.C_drop (m:=(x5_2:Int).toNat) (c:=co23) ((Kd.R_reads' (Kd.R_after (ok:=(fun _=>True)) (kRC_ HO_3.out) hg hat)).2.2) KL27.out ((Kd.R_reads' (Kd.R_after (ok:=(fun _=>True)) (kRC_ HO_3.out) hg hat)).2.1)));replace HO_3:=Aside0.mk (Kd.R_after (ok:=(fun _=>True)) (kRC_ HO_3.out) hg hat);have HO405:=Aside0.mk (ho);clear HO398;clear ho hb hg hat))
 replace HO_3:=Aside0.mk (Kd.R_drew HO_3.out);replace HO405:=Aside0.mk (Kd.R_drew HO405.out);replace HR402:=Aside0.mk (Kd.C_drew HR402.out);replace HB:=Aside0.mk (below_drew1 HB.out)
 have q30:(x5_2:Int)≤((x3_1.length:Int):Int):=odT_
 obtain ⟨i030,hi030,_,hsz30,_⟩:=info_parts info3
 have hcut30:=cut_to (P:=Tryz.prog) 24 3 .i64 Tryz.underlying24 hi030 (some ad392) x3_1.length co23 x5_2 (odT_) q30 (Kd.R_reads' HO_3.out).2.1
 have hr30:=Kd.R_take (m:=(x5_2:Int).toNat) HO_3.out (by omega)
 have hy30:y406.length=(x5_2:Int).toNat:=(by rw [Ny406.out,List.length_take];omega)
 rw [← Ny406.out] at hr30
 rw [← hy30] at hr30 hcut30
 clear hy30 hi030 hsz30 HO_3
 have HO408:=Aside0.mk hr30
 clear hr30
 replace q30:=eq_true q30
 have p409:0≤(x4_1:Int):=odT_
 have q409:x4_1<(l0.length:Int):=odT_
 obtain ⟨ad409,e409,hx409_0⟩:=Kd.at_int HR0.out x4_1 p409 q409
 have hw409_0:=hx409_0
 obtain rfl:ad393=ad409:=(by injection e409)
 replace hx409_0:=(HB.out.cell (World.block_lt_of_cell? w _ hx409_0)).trans hx409_0
 replace p409:=eq_true p409
 replace q409:=eq_true q409
 refine start_ (n:=12) (S:=fun w'=>w'.cell? (ad393.add (x4_1).toNat)=some (.int .i64 (rd l0 x4_1))) (ds:=[]) #[F_,F_,F_,F_,F_,F_,F_,F_,F_,F_,F_,F_] krT_ rfl rfl (((HB.out.cell (World.block_lt_of_cell? w _ hw409_0)).trans hw409_0)) (fun hHeld=>?_);refine with_tabW spec_SortSets.tab10 spec_SortSets.bits10 (fun HT_ HW_=>?_)
 generalize w28.drew=w29 at HO405 HR402 HB HO408 hx409_0 hHeld ⊢
 refine pu_ 0 (some 51) (bm_ 12 1) rfl rfl HT_.out ?_
 refine pu_ 1 (some 52) (bm_ 12 3) rfl rfl HT_.out ?_
 refine pu_ 2 (some 53) (bm_ 12 7) rfl rfl HT_.out ?_
 refine pu_ 3 (some 54) (bm_ 12 15) rfl rfl HT_.out ?_
 refine pu_ 4 (some 55) (bm_ 12 31) rfl rfl HT_.out ?_
 refine pu_ 5 (some 56) (bm_ 12 63) rfl rfl HT_.out ?_
 refine pu_ 9 (some 60) (bm_ 12 575) rfl rfl HT_.out ?_
 refine take_ (i:=6) (N:=some 57) (v:=?_) (a':=?_) (bm_ 12 639) rfl rfl (take_ofW HT_.out HW_.out krT_) (fun _ _ _ h=>h) (Or.inl ⟨by rfl,?_⟩) hHeld ?_ ?_
 rotate_left
 ·intro w' s0
  go_simp
  with_reducible rfl
 rotate_left;exact apT_
 refine one_ (i:=7) (N:=some 58) (bm_ 12 767) rfl rfl (one_of HT_.out krT_) (by decide) (fun K hK=>?_)
 refine value_ (w1:=?_) (v:=?_) (by rfl) rfl ?_ ?_
 rotate_left 2
 ·go_simp
  constructor
  ·rfl
  rfl
 refine hK.out _ _ ((World.cell?_alloc_lt _ _ _ (World.block_lt_of_cell? _ _ (((HB.out.cell (World.block_lt_of_cell? w _ hw409_0)).trans hw409_0)))).trans (((HB.out.cell (World.block_lt_of_cell? w _ hw409_0)).trans hw409_0))) (fun hHeld=>?_)
 clear hK K
 refine norm_ (a':=?_) ?_ ?_
 rotate_left
 ·show Act.put _ (some 58) _=_
  simp only [Act.put,List.setIfInBounds_toArray,List.set_cons_zero,List.set_cons_succ,i64_w,i32_w]
  rfl
 refine one_ (i:=8) (N:=some 59) (bm_ 12 1023) rfl rfl (one_of HT_.out krT_) (by decide) (fun K hK=>?_)
 refine Kd.R_append_step (Kd.int .i64) (w0:=w) w.heap.size (by rfl) (.tmp 53) (.tmp 58) 24 3 (.int .i64 0) 8 rfl Tryz.underlying24 info3 rfl (by decide) (by omega) (.slice (some ad392) y406.length co23) y406 (rd l0 x4_1) [.int .i64 (rd l0 x4_1)] (fun k_=>some k_≠(v404:Value).ownBlock) (fun _=>False) rfl rfl ?aP (fun _ hk=>hk.elim) ?aF ?aO ?aB ?aS ?aL ?_
 (case aP=>exact rfl)
 (case aB=>exact (h_HB HB.out))
 (case aF=>exact (fun k_ hk=>Kd.fresh' (Kd.R_lt (kRC_ HO405.out)) k_ hk))
 (case aO=>exact (by (with_reducible repeat (first|apply Kd.R_alloc|apply Kd.R_drewN|apply Kd.R_drew));exact Kd.R_mono HO408.out (fun _ hk=>hk.2)))
 (case aS=>exact (below_size (h_HB HB.out)))
 (case aL=>have:=LMc20.out;omega)
 intro v411 w31 ho hb hg hat
 rw [← Ny410.out] at ho
 replace HO405:=Aside0.mk (Kd.R_after (ok:=(fun _=>True)) (by (with_reducible repeat (first|apply Kd.R_alloc|apply Kd.R_drewN|apply Kd.R_drew));exact Kd.R_mono HO405.out (fun _ hk=>⟨trivial,by first|exact hk|exact ob_len_VFnCircuitsx10 hk⟩)) hg hat);replace HB:=Aside0.mk (hb);have HO412:=Aside0.mk (ho);clear HO408
 clear ho hb hg hat
 obtain ⟨Ao33,co33,eo33⟩:=Kd.R_slice HO405.out
 (first|subst eo33|(injection eo33 with f1_ f2_ f3_;have f4_:=f1_.symm;have f5_:=f3_.symm;clear f1_ f2_ f3_;subst f4_;subst f5_))
 refine hK.out _ _ (((HB.out.cell (World.block_lt_of_cell? w _ hw409_0)).trans hw409_0)) (fun hHeld=>?_)
 clear hK K
 refine norm_ (a':=?_) ?_ ?_
 rotate_left
 ·show Act.put _ (some 59) _=_
  simp only [Act.put,List.setIfInBounds_toArray,List.set_cons_zero,List.set_cons_succ,i64_w,i32_w]
  rfl
 refine one_ (i:=10) (N:=some 61) (bm_ 12 2047) rfl rfl (one_of HT_.out krT_) (by decide) (fun K hK=>?_)
 refine Kd.R_append_rows_step (Kd.int .i64) (w0:=w) w.heap.size (by rfl) (.tmp 59) (.tmp 60) 24 3 (.int .i64 0) 8 rfl Tryz.underlying24 info3 rfl (by decide) (by omega) v411 y410 y403 _ _ _ (fun k_=>some k_≠(.slice Ao33 y403.length co33:Value).ownBlock) (fun _=>False) rfl rfl ?aO ?aR (fun _ _ h=>h) (fun _ h=>h.elim) ?aF ?aB ?aS ?aL ?_
 (case aR=>repeat (first|exact (Kd.R_reads' HO405.out).2.2|(with_reducible refine Kd.C_alloc ?_ _)|(with_reducible refine Kd.C_drewN ?_ _)|(with_reducible refine Kd.C_drew ?_)))
 (case aB=>exact (h_HB HB.out))
 (case aF=>exact (fun k_ hk=>Kd.fresh' (Kd.R_lt (kRC_ HO405.out)) k_ hk))
 (case aO=>exact (kRC_ HO412.out))
 (case aS=>exact (below_size (h_HB HB.out)))
 (case aL=>have:=LMc21.out;omega)
 intro v414 w32 ho hb hg hat
 rw [← Ny413.out] at ho
 replace HO405:=Aside0.mk (Kd.R_after (ok:=(fun _=>True)) (kRC_ HO405.out) hg hat);replace HB:=Aside0.mk (hb);have HO415:=Aside0.mk (ho);clear HO412
 clear ho hb hg hat
 refine hK.out _ _ (((HB.out.cell (World.block_lt_of_cell? w _ hw409_0)).trans hw409_0)) (fun hHeld=>?_)
 clear hK K
 refine norm_ (a':=?_) ?_ ?_
 rotate_left
 ·show Act.put _ (some 61) _=_
  simp only [Act.put,List.setIfInBounds_toArray,List.set_cons_zero,List.set_cons_succ,i64_w,i32_w]
  rfl
 refine pu_ 11 (some 3) (bm_ 12 4095) rfl rfl HT_.out ?_
 refine done_ (done_of HT_.out krT_) ?_
 try go_wp2
 go_roundg k2
 case measure=>have:=HK1.out;have:=HK2.out;omega
 case rel=>exact ⟨(y413),(wrap64 (x4_1+1)),sT_,H',⟨by have:=HK1.out;have:=HK2.out;omega⟩,⟨by (with_reducible repeat (first|apply Kd.R_alloc|apply Kd.R_drewN|apply Kd.R_drew));exact Kd.R_mono HO415.out (fun _ hk=>trivial)⟩,⟨h_HB HB.out⟩⟩
end Go.Proofs.YtekegbacnagbcaaGreat.P
