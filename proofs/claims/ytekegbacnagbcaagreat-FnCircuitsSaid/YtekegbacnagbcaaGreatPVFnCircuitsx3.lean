-- written by gprint (a program of this session's, round the kit's print), out of the translation and hand-written texts
import Derived.Test.YtekegbacnagbcaaGreatPVFnCircuitsx0
import Derived.Test.YtekegbacnagbcaaGreatPVFnCircuitsx2
namespace Go.Proofs.YtekegbacnagbcaaGreat.P
open Go.RowKit Go.Proofs.YtekegbacnagbcaaGreatW.PrintWords Go.Proofs.YtekegbacnagbcaaGreatW.PrintLast Go.Proofs.YtekegbacnagbcaaGreatW.PrintMore
attribute [local go_sem] max2_int min2_int max_two min_two max_three min_three max_four min_four
set_option linter.unusedVariables false
set_option maxHeartbeats 8000000
set_option maxRecDepth 100000
set_option linter.unusedSimpArgs false
def spec_FormatInt.l0:Nat→Int→Bool→ByteArray→Option (ByteArray)
 | 0,_,_,_=>none
 | k+1,x0,x3,x4=>if x0=0 then (if x3=true then (if 1+x4.size≤9223372036854775807 then (some ((⟨#[45]⟩:ByteArray)++x4)) else (none)) else (some x4)) else (if (Int.tmod x0 10)<0 then ((some (([(wrap64 (48+(wrap64 (-(Int.tmod x0 10))))) % 256]:List Int):List Int)).bind fun y139=>(if (strOfNums y139).size+x4.size≤9223372036854775807 then (spec_FormatInt.l0 k (wrap64 (Int.tdiv x0 10)) x3 ((strOfNums y139)++x4)) else (none))) else ((some (([(wrap64 (48+(Int.tmod x0 10))) % 256]:List Int):List Int)).bind fun y142=>(if (strOfNums y142).size+x4.size≤9223372036854775807 then (spec_FormatInt.l0 k (wrap64 (Int.tdiv x0 10)) x3 ((strOfNums y142)++x4)) else (none))))
def spec_FormatInt.f (k:Nat) (a0:Int):Option (ByteArray):=if a0=0 then (some (⟨#[48]⟩:ByteArray)) else (spec_FormatInt.l0 k a0 (decide (a0<0)) (⟨#[]⟩:ByteArray))
theorem spec_FormatInt.calls (k:Nat) (a0:Int) (r:ByteArray) (w:World) (h:spec_FormatInt.f k a0=some r) :
    Calls Tryz.prog 118 #[.int .i64 a0] w fun e w'=>e=.returned (.string r)∧Below w.heap.size w w':=by
 have HB:=Aside0.mk (Below.refl w.heap.size w)
 have H:(if a0=0 then (some (⟨#[48]⟩:ByteArray)) else (spec_FormatInt.l0 k a0 (decide (a0<0)) (⟨#[]⟩:ByteArray)))=some r:=h
 clear h
 replace H:=gse_ H;rcases H with ⟨c2b0,c2b1,H⟩|⟨c2b0,c2b1,c2,H⟩
 ·obtain rfl:=Option.some.inj H
  go_enter Tryz.func118,Tryz.ntmps118
  go_wp2
  go_ret
  exact ⟨eT_,h_HB HB.out⟩
 have H':=Aside0.mk H
 clear H
 go_enter Tryz.func118,Tryz.ntmps118
 go_wp2
 go_loopg [0,4] k (fun kq v0 v4 w'=>∃ (x0_1:Int) (x4_1:ByteArray),v0=.int .i64 x0_1∧v4=.string x4_1∧Aside0 (spec_FormatInt.l0 kq x0_1 (decide (a0<0)) x4_1=some r)∧Aside0 (kq≤k)∧Aside0 (Below w.heap.size w w'))
 case atStart=>exact ⟨(a0),((⟨#[]⟩:ByteArray)),sT_,sT_,H',⟨Nat.le_refl _⟩,⟨h_HB HB.out⟩⟩
 case round =>
 clear H'
 try clear c1
 try clear c2
 try clear c2b0
 try clear c2b1
 try clear p2
 obtain ⟨x0_1,x4_1,rfl,rfl,HA,HK1,HB⟩:=hrel
 cases gk with
 | zero=>exact absurd HA.out (by simp [spec_FormatInt.l0])
 | succ k1 =>
 have H:=HA.out
 clear HA
 simp only [spec_FormatInt.l0] at H
 replace H:=gse_ H;rcases H with ⟨c3b0,c3b1,H⟩|⟨c3b0,c3b1,c3,H⟩
 ·replace H:=(gsq_ H).symm;rcases H with ⟨c4,H⟩|⟨c4,H⟩
  ·have c4b0:(decide (a0<0))=false:=by simpa using c4
   have c4n:¬ (a0<0):=of_decide_eq_false c4b0
   clear c4
   obtain rfl:=Option.some.inj H
   (go_wp2)<;>try (exfalso;omega)
   go_ret
   exact ⟨eT_,h_HB HB.out⟩
  have c4b0:(decide (a0<0))=true:=c4
  have c4n:a0<0:=of_decide_eq_true c4b0
  clear c4
  replace H:=gsp_ H;obtain ⟨c5,H⟩:=H
  have c5b0:=eq_true c5
  have c5b1:decide (1+x4_1.size≤9223372036854775807)=true:=decide_eq_true c5
  try have c5b2:(9223372036854775807<1+x4_1.size)=False:=eq_false (Nat.not_lt.2 c5)
  obtain rfl:=Option.some.inj H
  (go_wp2)<;>try (exfalso;omega)
  go_ret
  exact ⟨eT_,h_HB HB.out⟩
 replace H:=gsb_ H;rcases H with ⟨c6b0,H⟩|⟨c6b0,H⟩
 ·replace H:=sy_ H;obtain ⟨y139,Ny139,H⟩:=H
  replace H:=gsp_ H;obtain ⟨c7,H⟩:=H
  have c7b0:=eq_true c7
  have c7b1:decide ((strOfNums y139).size+x4_1.size≤9223372036854775807)=true:=decide_eq_true c7
  try have c7b2:(9223372036854775807<(strOfNums y139).size+x4_1.size)=False:=eq_false (Nat.not_lt.2 c7)
  have H':=Aside0.mk H
  clear H
  go_wp2_with (first|((with_reducible refine gate_dst (N:=21) rfl ?_);refine Kd.R_lit (Kd.int .u8) _ 5 ?hg (N:=21) ?hd (xs:=([(wrap64 (48+(wrap64 (-(Int.tmod x0_1 10))))) % 256]:List Int)) (inner:=[.int .u8 ((wrap64 (48+(wrap64 (-(Int.tmod x0_1 10))))) % 256)]) (ok:=fun _=>True) (okp:=fun _=>True) ?hr ?hp (fun _ hk=>hk) trivial (Below.refl _ _) (Nat.le_refl _) (by simp) ?_;(case hd=>rfl);(case hg=>rfl);(case hr=>exact hrT_);(case hp=>exact (Reps.one (show Kd.M (Kd.int .u8) _ _ _ ((wrap64 (48+(wrap64 (-(Int.tmod x0_1 10))))) % 256) [.int .u8 ((wrap64 (48+(wrap64 (-(Int.tmod x0_1 10))))) % 256)] from rfl) (Reps.none _ _)));intro v140 w8 ho9 hb hg_ hnew_;clear hg_ hnew_;(first|rw [← Ny139.out] at ho9|(simp only [Int.reduceToNat] at ho9;rw [← Ny139.out] at ho9));have HO141:=Aside0.mk (Kd.R_lower ho9 (below_size (h_HB HB.out)));replace HB:=s_HB HB.out hb;clear hb ho9;have hcv10:=own_string (P:=Tryz.prog) Tryz.underlying22 Tryz.underlying5 Tryz.underlying9 (Kd.own_of_R HO141.out)))
  go_roundg k1
  case measure=>have:=HK1.out;omega
  case rel=>exact ⟨(wrap64 (Int.tdiv x0_1 10)),((strOfNums y139)++x4_1),sT_,sT_,H',⟨by have:=HK1.out;omega⟩,⟨h_HB HB.out⟩⟩
 replace H:=sy_ H;obtain ⟨y142,Ny142,H⟩:=H
 replace H:=gsp_ H;obtain ⟨c11,H⟩:=H
 have c11b0:=eq_true c11
 have c11b1:decide ((strOfNums y142).size+x4_1.size≤9223372036854775807)=true:=decide_eq_true c11
 try have c11b2:(9223372036854775807<(strOfNums y142).size+x4_1.size)=False:=eq_false (Nat.not_lt.2 c11)
 have H':=Aside0.mk H
 clear H
 go_wp2_with (first|((with_reducible refine gate_dst (N:=21) rfl ?_);refine Kd.R_lit (Kd.int .u8) _ 5 ?hg (N:=21) ?hd (xs:=([(wrap64 (48+(Int.tmod x0_1 10))) % 256]:List Int)) (inner:=[.int .u8 ((wrap64 (48+(Int.tmod x0_1 10))) % 256)]) (ok:=fun _=>True) (okp:=fun _=>True) ?hr ?hp (fun _ hk=>hk) trivial (Below.refl _ _) (Nat.le_refl _) (by simp) ?_;(case hd=>rfl);(case hg=>rfl);(case hr=>exact hrT_);(case hp=>exact (Reps.one (show Kd.M (Kd.int .u8) _ _ _ ((wrap64 (48+(Int.tmod x0_1 10))) % 256) [.int .u8 ((wrap64 (48+(Int.tmod x0_1 10))) % 256)] from rfl) (Reps.none _ _)));intro v143 w12 ho13 hb hg_ hnew_;clear hg_ hnew_;(first|rw [← Ny142.out] at ho13|(simp only [Int.reduceToNat] at ho13;rw [← Ny142.out] at ho13));have HO144:=Aside0.mk (Kd.R_lower ho13 (below_size (h_HB HB.out)));replace HB:=s_HB HB.out hb;clear hb ho13;have hcv14:=own_string (P:=Tryz.prog) Tryz.underlying22 Tryz.underlying5 Tryz.underlying9 (Kd.own_of_R HO144.out)))
 go_roundg k1
 case measure=>have:=HK1.out;omega
 case rel=>exact ⟨(wrap64 (Int.tdiv x0_1 10)),((strOfNums y142)++x4_1),sT_,sT_,H',⟨by have:=HK1.out;omega⟩,⟨h_HB HB.out⟩⟩
mutual
def spec_l1Read.j0:Nat→ByteArray→Int→Bool→Option (Int × Bool)
 | 0,_,_,_=>none
 | k+1,x0,x1,x6=>if x6=true then (if 1≤(x0.size:Int) then (spec_l1Read.j1 k x0 x1 x6 (x0.extract 1 x0.size)) else (none)) else (spec_l1Read.j1 k x0 x1 x6 x0)
def spec_l1Read.j1:Nat→ByteArray→Int→Bool→ByteArray→Option (Int × Bool)
 | 0,_,_,_,_=>none
 | k+1,x0,x1,x6,x7=>if (x7.size:Int)<1 then (spec_l1Read.j2 k x0 x6 x7 true) else (spec_l1Read.j2 k x0 x6 x7 (decide ((x7.size:Int)>x1)))
def spec_l1Read.j2:Nat→ByteArray→Bool→ByteArray→Bool→Option (Int × Bool)
 | 0,_,_,_,_=>none
 | k+1,x0,x6,x7,x30=>if x30=true then (some (0,false)) else (spec_l1Read.l0 k x0 x6 x7 0 0)
def spec_l1Read.l0:Nat→ByteArray→Bool→ByteArray→Int→Int→Option (Int × Bool)
 | 0,_,_,_,_,_=>none
 | k+1,x0,x6,x7,x8,x9=>if x9<(x7.size:Int) then (if 0≤x9 then (if (bt x7 x9)<48 then (some (0,false)) else (if (bt x7 x9)>57 then (some (0,false)) else (spec_l1Read.l0 k x0 x6 x7 (wrap64 ((wrap64 (10*x8))+(((bt x7 x9)-48) % 256))) (wrap64 (x9+1))))) else (none)) else (if x6=true then ((spec_FormatInt.f k (wrap64 (-x8))).bind fun t145=>(if t145.toList=x0.toList then (some (wrap64 (-x8),true)) else (some (0,false)))) else ((spec_FormatInt.f k x8).bind fun t146=>(if t146.toList=x0.toList then (some (x8,true)) else (some (0,false)))))
end
def spec_l1Read.f (k:Nat) (a0:ByteArray) (a1:Int):Option (Int × Bool):=if (a0.size:Int)>0 then (if 0<(a0.size:Int) then (spec_l1Read.j0 k a0 a1 ((bt a0 0)==45)) else (none)) else (spec_l1Read.j0 k a0 a1 false)
theorem spec_l1Read.calls (k:Nat) (a0:ByteArray) (a1:Int) (r1:Int) (r2:Bool) (w:World) (h:spec_l1Read.f k a0 a1=some (r1,r2)) :
    Calls Tryz.prog 115 #[.string a0,.int .i64 a1] w fun e w'=>e=.returned (.tuple #[.int .i64 r1,.bool r2])∧Below w.heap.size w w':=by
 have HB:=Aside0.mk (Below.refl w.heap.size w)
 unfold spec_l1Read.f at h
 have H:=h
 clear h
 have HC3:=Aside0.mk H
 clear H
 go_enter Tryz.func115,Tryz.ntmps115
 go_upto_region 1 with (fail)
 go_cut [6] (fun v6 wc=>∃ (kq:Nat) (x6_2:Bool),v6=.bool x6_2∧Aside0 (spec_l1Read.j0 kq a0 a1 x6_2=some (r1,r2))∧Aside0 (kq≤k)∧Aside0 (Below w.heap.size w wc))
 case first =>
  have H:=HC3.out
  clear HC3
  replace H:=(gsq_ H).symm;rcases H with ⟨c4,H⟩|⟨c4,H⟩
  ·have c4b0:decide (0<(a0.size:Int))=false:=decide_eq_false c4
   have c4b1:decide (0<a0.size)=false:=decide_eq_false (by omega)
   clear c4
   (first|rw [c4b0]|(simp only [i64_w,i32_w];rw [c4b0])|skip)
   have H':=Aside0.mk H
   clear H
   go_wp2
   go_meet
   case rel=>exact ⟨_,(false),sT_,H',⟨by first|omega|exact Nat.le_refl _⟩,⟨h_HB HB.out⟩⟩
  have c4b0:decide (0<(a0.size:Int))=true:=decide_eq_true c4
  have c4b1:decide (0<a0.size)=true:=decide_eq_true (by omega)
  clear c4
  (first|rw [c4b0]|(simp only [i64_w,i32_w];rw [c4b0])|skip)
  replace H:=gsp_ H;obtain ⟨c5,H⟩:=H
  have c5b0:decide (0<(a0.size:Int))=true:=decide_eq_true c5
  have c5b1:decide (0<a0.size)=true:=decide_eq_true (by omega)
  clear c5
  have H':=Aside0.mk H
  clear H
  have p6:0≤(0:Int):=(by omega)
  have q6:0<a0.size:=(by have:(0:Int)<(a0.size:Int):=odT_;omega)
  have hx6:∀ h:0<a0.size,((a0[0]'h).toNat:Int)=bt a0 0:=bt_at a0 0
  clear p6
  have qi6:(0<(a0.size:Int))=True:=eq_true (odT_)
  replace q6:=eq_true q6
  go_wp2
  go_meet
  case rel=>exact ⟨_,(((bt a0 0)==45)),sT_,H',⟨by first|omega|exact Nat.le_refl _⟩,⟨h_HB HB.out⟩⟩
 case rest =>
 clear HC3
 try clear c1
 try clear p2
 try clear c4
 try clear c4b0
 try clear c4b1
 try clear c5
 try clear c5b0
 try clear c5b1
 try clear p6
 try clear q6
 try clear hx6
 try clear qi6
 try clear p6
 try clear q6
 obtain ⟨kq,x6_2,rfl,HA,HJ2,HB⟩:=hcut
 cases kq with
 | zero=>exact absurd HA.out (by simp [spec_l1Read.j0])
 | succ kj2 =>
 have H:=HA.out
 clear HA
 simp only [spec_l1Read.j0] at H
 have HC7:=Aside0.mk H
 clear H
 go_upto_if 19 with (fail)
 go_cut [7] (fun v7 wc=>∃ (kq:Nat) (x7_6:ByteArray),v7=.string x7_6∧Aside0 (spec_l1Read.j1 kq a0 a1 x6_2 x7_6=some (r1,r2))∧Aside0 (kq≤kj2)∧Aside0 (Below w.heap.size w wc))
 case first =>
  have H:=HC7.out
  clear HC7
  replace H:=(gst_ H).symm;rcases H with ⟨rfl,H⟩|⟨rfl,H⟩
  ·have H':=Aside0.mk H
   clear H
   go_wp2
   go_meet
   case rel=>exact ⟨_,(a0),sT_,H',⟨by have:=HJ2.out;first|omega|exact Nat.le_refl _⟩,⟨h_HB HB.out⟩⟩
  replace H:=gsp_ H;obtain ⟨c9,H⟩:=H
  have c9b0:=eq_true c9
  have c9b1:decide (1≤(a0.size:Int))=true:=decide_eq_true c9
  clear c9
  have H':=Aside0.mk H
  clear H
  go_wp2
  go_meet
  case rel=>exact ⟨_,(a0.extract 1 a0.size),sT_,H',⟨by have:=HJ2.out;first|omega|exact Nat.le_refl _⟩,⟨h_HB HB.out⟩⟩
 case rest =>
 clear HC7
 try clear c1
 try clear p2
 try clear c4
 try clear c4b0
 try clear c4b1
 try clear c5
 try clear c5b0
 try clear c5b1
 try clear p6
 try clear q6
 try clear hx6
 try clear qi6
 try clear c8
 try clear c9
 try clear c9b0
 try clear c9b1
 try clear p2
 try clear p6
 try clear q6
 obtain ⟨kq,x7_6,rfl,HA,HJ6,HB⟩:=hcut
 cases kq with
 | zero=>exact absurd HA.out (by simp [spec_l1Read.j1])
 | succ kj6 =>
 have H:=HA.out
 clear HA
 simp only [spec_l1Read.j1] at H
 have HC10:=Aside0.mk H
 clear H
 go_upto_region 5 with (fail)
 go_cut [30] (fun v30 wc=>∃ (kq:Nat) (x30_9:Bool),v30=.bool x30_9∧Aside0 (spec_l1Read.j2 kq a0 x6_2 x7_6 x30_9=some (r1,r2))∧Aside0 (kq≤kj6)∧Aside0 (Below w.heap.size w wc))
 case first =>
  have H:=HC10.out
  clear HC10
  replace H:=gsq_ H;rcases H with ⟨c11,H⟩|⟨c11,H⟩
  ·have c11b0:decide ((x7_6.size:Int)<1)=true:=decide_eq_true c11
   have c11b1:decide (x7_6.size<1)=true:=decide_eq_true (by omega)
   clear c11
   (first|rw [c11b0]|(simp only [i64_w,i32_w];rw [c11b0])|skip)
   have H':=Aside0.mk H
   clear H
   go_wp2
   go_meet
   case rel=>exact ⟨_,(true),sT_,H',⟨by have:=HJ2.out;have:=HJ6.out;first|omega|exact Nat.le_refl _⟩,⟨h_HB HB.out⟩⟩
  have c11b0:decide ((x7_6.size:Int)<1)=false:=decide_eq_false c11
  have c11b1:decide (x7_6.size<1)=false:=decide_eq_false (by omega)
  clear c11
  (first|rw [c11b0]|(simp only [i64_w,i32_w];rw [c11b0])|skip)
  have H':=Aside0.mk H
  clear H
  go_wp2
  go_meet
  case rel=>exact ⟨_,(decide ((x7_6.size:Int)>a1)),sT_,H',⟨by have:=HJ2.out;have:=HJ6.out;first|omega|exact Nat.le_refl _⟩,⟨h_HB HB.out⟩⟩
 case rest =>
 clear HC10
 try clear c1
 try clear p2
 try clear c4
 try clear c4b0
 try clear c4b1
 try clear c5
 try clear c5b0
 try clear c5b1
 try clear p6
 try clear q6
 try clear hx6
 try clear qi6
 try clear c8
 try clear c9
 try clear c9b0
 try clear c9b1
 try clear c11
 try clear c11b0
 try clear c11b1
 try clear p2
 try clear p6
 try clear q6
 obtain ⟨kq,x30_9,rfl,HA,HJ9,HB⟩:=hcut
 cases kq with
 | zero=>exact absurd HA.out (by simp [spec_l1Read.j2])
 | succ kj9 =>
 have H:=HA.out
 clear HA
 simp only [spec_l1Read.j2] at H
 replace H:=gst_ H;rcases H with ⟨rfl,H⟩|⟨rfl,H⟩
 ·simp only [Option.some.injEq,Prod.mk.injEq] at H
  obtain ⟨rfl,rfl⟩:=H
  go_wp2
  go_ret2
  exact ⟨eT_,h_HB HB.out⟩
 have H':=Aside0.mk H
 clear H
 go_wp2
 go_loopg [8,9] kj9 (fun kq v8 v9 w'=>∃ (x8_4:Int) (x9_4:Int),v8=.int .i64 x8_4∧v9=.int .i64 x9_4∧Aside0 (spec_l1Read.l0 kq a0 x6_2 x7_6 x8_4 x9_4=some (r1,r2))∧Aside0 (kq≤kj9)∧Aside0 (Below w.heap.size w w'))
 case atStart=>exact ⟨(0),(0),sT_,sT_,H',⟨Nat.le_refl _⟩,⟨h_HB HB.out⟩⟩
 case round =>
 clear H'
 try clear c1
 try clear p2
 try clear c4
 try clear c4b0
 try clear c4b1
 try clear c5
 try clear c5b0
 try clear c5b1
 try clear p6
 try clear q6
 try clear hx6
 try clear qi6
 try clear c8
 try clear c9
 try clear c9b0
 try clear c9b1
 try clear c11
 try clear c11b0
 try clear c11b1
 try clear c12
 try clear p2
 try clear p6
 try clear q6
 obtain ⟨x8_4,x9_4,rfl,rfl,HA,HK4,HB⟩:=hrel
 cases gk with
 | zero=>exact absurd HA.out (by simp [spec_l1Read.l0])
 | succ k4 =>
 have H:=HA.out
 clear HA
 simp only [spec_l1Read.l0] at H
 replace H:=gsn_ H;rcases H with ⟨c13b0,H⟩|⟨c13b0,H⟩
 ·replace H:=gst_ H;rcases H with ⟨rfl,H⟩|⟨rfl,H⟩
  ·replace H:=bnd_ H;obtain ⟨t145,A21,H⟩:=H
   replace H:=gse_ H;rcases H with ⟨c22b0,c22b1,H⟩|⟨c22b0,c22b1,c22,H⟩
   ·simp only [Option.some.injEq,Prod.mk.injEq] at H
    obtain ⟨rfl,rfl⟩:=H
    go_wp2_with (first|((with_reducible refine gate_callee (f:=118) rfl ?_);refine goesL_ (some 59) rfl rfl Tryz.func118 krT_ rfl #[.int .i64 (wrap64 (-x8_4))] rfl agT_ ?_;(with_reducible refine (spec_FormatInt.calls k4 (wrap64 (-x8_4)) t145 _ A21.out).mono ?_);rintro e w23 ⟨rfl,hb⟩;refine ⟨_,rfl,?_⟩;replace HB:=s_HB HB.out hb;(try clear hb)))
    go_ret2
    exact ⟨eT_,h_HB HB.out⟩
   simp only [Option.some.injEq,Prod.mk.injEq] at H
   obtain ⟨rfl,rfl⟩:=H
   go_wp2_with (first|((with_reducible refine gate_callee (f:=118) rfl ?_);refine goesL_ (some 59) rfl rfl Tryz.func118 krT_ rfl #[.int .i64 (wrap64 (-x8_4))] rfl agT_ ?_;(with_reducible refine (spec_FormatInt.calls k4 (wrap64 (-x8_4)) t145 _ A21.out).mono ?_);rintro e w24 ⟨rfl,hb⟩;refine ⟨_,rfl,?_⟩;replace HB:=s_HB HB.out hb;(try clear hb)))
   go_ret2
   exact ⟨eT_,h_HB HB.out⟩
  replace H:=bnd_ H;obtain ⟨t146,A25,H⟩:=H
  replace H:=gse_ H;rcases H with ⟨c26b0,c26b1,H⟩|⟨c26b0,c26b1,c26,H⟩
  ·simp only [Option.some.injEq,Prod.mk.injEq] at H
   obtain ⟨rfl,rfl⟩:=H
   go_wp2_with (first|((with_reducible refine gate_callee (f:=118) rfl ?_);refine goesL_ (some 59) rfl rfl Tryz.func118 krT_ rfl #[.int .i64 x8_4] rfl agT_ ?_;(with_reducible refine (spec_FormatInt.calls k4 x8_4 t146 _ A25.out).mono ?_);rintro e w27 ⟨rfl,hb⟩;refine ⟨_,rfl,?_⟩;replace HB:=s_HB HB.out hb;(try clear hb)))
   go_ret2
   exact ⟨eT_,h_HB HB.out⟩
  simp only [Option.some.injEq,Prod.mk.injEq] at H
  obtain ⟨rfl,rfl⟩:=H
  go_wp2_with (first|((with_reducible refine gate_callee (f:=118) rfl ?_);refine goesL_ (some 59) rfl rfl Tryz.func118 krT_ rfl #[.int .i64 x8_4] rfl agT_ ?_;(with_reducible refine (spec_FormatInt.calls k4 x8_4 t146 _ A25.out).mono ?_);rintro e w28 ⟨rfl,hb⟩;refine ⟨_,rfl,?_⟩;replace HB:=s_HB HB.out hb;(try clear hb)))
  go_ret2
  exact ⟨eT_,h_HB HB.out⟩
 replace H:=gsm_ H;obtain ⟨c14b0,H⟩:=H
 replace H:=gsb_ H;rcases H with ⟨c16b0,H⟩|⟨c16b0,H⟩
 ·simp only [Option.some.injEq,Prod.mk.injEq] at H
  obtain ⟨rfl,rfl⟩:=H
  have p15:0≤(x9_4:Int):=odT_
  have q15:x9_4<(x7_6.size:Int):=odT_
  have hx15:=bt_at x7_6 x9_4
  replace p15:=eq_true p15
  replace q15:=eq_true q15
  go_wp2
  go_ret2
  exact ⟨eT_,h_HB HB.out⟩
 replace H:=gsq_ H;rcases H with ⟨c18,H⟩|⟨c18,H⟩
 ·have c18b0:decide (57<(bt x7_6 x9_4))=true:=decide_eq_true c18
  clear c18
  simp only [Option.some.injEq,Prod.mk.injEq] at H
  obtain ⟨rfl,rfl⟩:=H
  have p15:0≤(x9_4:Int):=odT_
  have q15:x9_4<(x7_6.size:Int):=odT_
  have hx15:=bt_at x7_6 x9_4
  replace p15:=eq_true p15
  replace q15:=eq_true q15
  have p17:0≤(x9_4:Int):=odT_
  have q17:x9_4<(x7_6.size:Int):=odT_
  have hx17:=bt_at x7_6 x9_4
  replace p17:=eq_true p17
  replace q17:=eq_true q17
  go_wp2
  go_ret2
  exact ⟨eT_,h_HB HB.out⟩
 have c18b0:decide (57<(bt x7_6 x9_4))=false:=decide_eq_false c18
 clear c18
 have H':=Aside0.mk H
 clear H
 have p15:0≤(x9_4:Int):=odT_
 have q15:x9_4<(x7_6.size:Int):=odT_
 have hx15:=bt_at x7_6 x9_4
 replace p15:=eq_true p15
 replace q15:=eq_true q15
 have p17:0≤(x9_4:Int):=odT_
 have q17:x9_4<(x7_6.size:Int):=odT_
 have hx17:=bt_at x7_6 x9_4
 replace p17:=eq_true p17
 replace q17:=eq_true q17
 have p19:0≤(x9_4:Int):=odT_
 have q19:x9_4<(x7_6.size:Int):=odT_
 have hx19:=bt_at x7_6 x9_4
 replace p19:=eq_true p19
 replace q19:=eq_true q19
 go_wp2
 go_roundg k4
 case measure=>have:=HJ2.out;have:=HJ6.out;have:=HJ9.out;have:=HK4.out;omega
 case rel=>exact ⟨(wrap64 ((wrap64 (10*x8_4))+(((bt x7_6 x9_4)-48) % 256))),(wrap64 (x9_4+1)),sT_,sT_,H',⟨by have:=HJ2.out;have:=HJ6.out;have:=HJ9.out;have:=HK4.out;omega⟩,⟨h_HB HB.out⟩⟩
def spec_ParseInt.f (k:Nat) (a0:ByteArray):Option (Int × Bool):=(spec_l1Read.f k a0 12).bind fun bt147=>(some (bt147.1,bt147.2))
theorem spec_ParseInt.calls (k:Nat) (a0:ByteArray) (r1:Int) (r2:Bool) (w:World) (h:spec_ParseInt.f k a0=some (r1,r2)) :
    Calls Tryz.prog 100 #[.string a0] w fun e w'=>e=.returned (.tuple #[.int .i64 r1,.bool r2])∧Below w.heap.size w w':=by
 have HB:=Aside0.mk (Below.refl w.heap.size w)
 have H:((spec_l1Read.f k a0 12).bind fun bt147=>(some (bt147.1,bt147.2)))=some (r1,r2):=h
 clear h
 replace H:=bnd_ H;obtain ⟨⟨t147,t148⟩,A2,H⟩:=H;dsimp only at H
 simp only [Option.some.injEq,Prod.mk.injEq] at H
 obtain ⟨rfl,rfl⟩:=H
 go_enter Tryz.func100,Tryz.ntmps100
 go_wp2_with (first|((with_reducible refine gate_callee (f:=115) rfl ?_);refine goesL_ (some 5) rfl rfl Tryz.func115 krT_ rfl #[.string a0,.int .i64 12] rfl agT_ ?_;(with_reducible refine (spec_l1Read.calls k a0 12 t147 t148 _ A2.out).mono ?_);rintro e w3 ⟨rfl,hb⟩;refine ⟨_,rfl,?_⟩;replace HB:=s_HB HB.out hb;(try clear hb)))
 go_ret2
 exact ⟨eT_,h_HB HB.out⟩
def spec_IsFamily.l0:Nat→Int→List Int→Int→Option (Bool)
 | 0,_,_,_=>none
 | k+1,x0,x1,x5=>if x5<(x1.length:Int) then (if 0≤x5 then ((spec_IsSet.f x0 (rd x1 x5)).bind fun t150=>(if t150=true then (if x5>0 then (if 0≤(wrap64 (x5-1)) then (if (wrap64 (x5-1))<(x1.length:Int) then (if (rd x1 (wrap64 (x5-1)))≥(rd x1 x5) then (some false) else (spec_IsFamily.l0 k x0 x1 (wrap64 (x5+1)))) else (none)) else (none)) else (spec_IsFamily.l0 k x0 x1 (wrap64 (x5+1)))) else (some false))) else (none)) else ((spec_l1In.f x0 0 8).bind fun t153=>(some t153))
def spec_IsFamily.f (k:Nat) (a0:Int) (l1:List Int):Option (Bool):=spec_IsFamily.l0 k a0 l1 0
theorem spec_IsFamily.calls (k:Nat) (a0:Int) (A1:Option Addr) (c1:Nat) (l1:List Int) (r:Bool) (w:World) (hr1:Kd.C (Kd.int .i64) w A1 l1.length l1) (hc1:l1.length≤c1) (h:spec_IsFamily.f k a0 l1=some r) :
    Calls Tryz.prog 36 #[.int .i64 a0,.slice A1 l1.length c1] w fun e w'=>e=.returned (.bool r)∧Drawn0 w w':=by
 have HR1:=Aside0.mk hr1
 have HC1:=Aside0.mk hc1
 clear hr1 hc1
 have H:(spec_IsFamily.l0 k a0 l1 0)=some r:=h
 clear h
 have H':=Aside0.mk H
 clear H
 go_enter Tryz.func36,Tryz.ntmps36
 go_wp2
 repeat (go_quiet (fail);try go_wp2)
 go_loopg [5] k (fun kq v5 w'=>∃ (x5_1:Int),v5=.int .i64 x5_1∧Aside0 (spec_IsFamily.l0 kq a0 l1 x5_1=some r)∧Aside0 (kq≤k)∧Drawn0 w w')
 case atStart=>exact ⟨(0),sT_,H',⟨Nat.le_refl _⟩,dT_⟩
 case round =>
 clear H'
 try clear c1
 try clear p2
 obtain ⟨x5_1,rfl,HA,HK1,⟨m1,rfl⟩⟩:=hrel
 cases gk with
 | zero=>exact absurd HA.out (by simp [spec_IsFamily.l0])
 | succ k1 =>
 have H:=HA.out
 clear HA
 simp only [spec_IsFamily.l0] at H
 replace H:=gsn_ H;rcases H with ⟨c3b0,H⟩|⟨c3b0,H⟩
 ·replace H:=bnd_ H;obtain ⟨t153,A12,H⟩:=H
  obtain rfl:=Option.some.inj H
  go_wp2_with (first|(go_at_call 53;(with_reducible refine (spec_l1In.calls a0 0 8 t153 _ A12.out).mono ?_);rintro e w' ⟨rfl,⟨nd,rfl⟩⟩;(try first|exact ⟨rfl,_,World.drewN_drewN _ _ _⟩|exact ⟨rfl,_,Eq.trans (World.drewN_drewN _ _ _) (congrArg (World.drewN _) (Nat.add_assoc _ _ _))⟩)))
  repeat (go_quiet (first|(go_at_call 53;(with_reducible refine (spec_l1In.calls a0 0 8 t153 _ A12.out).mono ?_);rintro e w' ⟨rfl,⟨nd,rfl⟩⟩;(try first|exact ⟨rfl,_,World.drewN_drewN _ _ _⟩|exact ⟨rfl,_,Eq.trans (World.drewN_drewN _ _ _) (congrArg (World.drewN _) (Nat.add_assoc _ _ _))⟩)));try go_wp2_with (first|(go_at_call 53;(with_reducible refine (spec_l1In.calls a0 0 8 t153 _ A12.out).mono ?_);rintro e w' ⟨rfl,⟨nd,rfl⟩⟩;(try first|exact ⟨rfl,_,World.drewN_drewN _ _ _⟩|exact ⟨rfl,_,Eq.trans (World.drewN_drewN _ _ _) (congrArg (World.drewN _) (Nat.add_assoc _ _ _))⟩))))
  go_ret
  exact ⟨sT_,dT_⟩
 replace H:=gsm_ H;obtain ⟨c4b0,H⟩:=H
 replace H:=bnd_ H;obtain ⟨t150,A5,H⟩:=H
 replace H:=(gst_ H).symm;rcases H with ⟨rfl,H⟩|⟨rfl,H⟩
 ·obtain rfl:=Option.some.inj H
  obtain ⟨ad149,e149,hx149_0,p149,q149⟩:=aiI_ HR1.out x5_1
  cases e149
  go_wp2_with (first|(go_at_call 74;(with_reducible refine (spec_IsSet.calls a0 (rd l1 x5_1) false _ A5.out).mono ?_);rintro e w' ⟨rfl,⟨nd,rfl⟩⟩;(try first|exact ⟨rfl,_,World.drewN_drewN _ _ _⟩|exact ⟨rfl,_,Eq.trans (World.drewN_drewN _ _ _) (congrArg (World.drewN _) (Nat.add_assoc _ _ _))⟩)))
  repeat (go_quiet (first|(go_at_call 74;(with_reducible refine (spec_IsSet.calls a0 (rd l1 x5_1) false _ A5.out).mono ?_);rintro e w' ⟨rfl,⟨nd,rfl⟩⟩;(try first|exact ⟨rfl,_,World.drewN_drewN _ _ _⟩|exact ⟨rfl,_,Eq.trans (World.drewN_drewN _ _ _) (congrArg (World.drewN _) (Nat.add_assoc _ _ _))⟩)));try go_wp2_with (first|(go_at_call 74;(with_reducible refine (spec_IsSet.calls a0 (rd l1 x5_1) false _ A5.out).mono ?_);rintro e w' ⟨rfl,⟨nd,rfl⟩⟩;(try first|exact ⟨rfl,_,World.drewN_drewN _ _ _⟩|exact ⟨rfl,_,Eq.trans (World.drewN_drewN _ _ _) (congrArg (World.drewN _) (Nat.add_assoc _ _ _))⟩))))
  go_ret
  exact ⟨sT_,dT_⟩
 replace H:=(gsq_ H).symm;rcases H with ⟨c7,H⟩|⟨c7,H⟩
 ·have c7b0:decide (0<x5_1)=false:=decide_eq_false c7
  clear c7
  have H':=Aside0.mk H
  clear H
  obtain ⟨ad149,e149,hx149_0,p149,q149⟩:=aiI_ HR1.out x5_1
  cases e149
  go_wp2_with (first|(go_at_call 74;(with_reducible refine (spec_IsSet.calls a0 (rd l1 x5_1) true _ A5.out).mono ?_);rintro e w' ⟨rfl,⟨nd,rfl⟩⟩;(try first|exact ⟨rfl,_,World.drewN_drewN _ _ _⟩|exact ⟨rfl,_,Eq.trans (World.drewN_drewN _ _ _) (congrArg (World.drewN _) (Nat.add_assoc _ _ _))⟩)))
  repeat (go_quiet (first|(go_at_call 74;(with_reducible refine (spec_IsSet.calls a0 (rd l1 x5_1) true _ A5.out).mono ?_);rintro e w' ⟨rfl,⟨nd,rfl⟩⟩;(try first|exact ⟨rfl,_,World.drewN_drewN _ _ _⟩|exact ⟨rfl,_,Eq.trans (World.drewN_drewN _ _ _) (congrArg (World.drewN _) (Nat.add_assoc _ _ _))⟩)));try go_wp2_with (first|(go_at_call 74;(with_reducible refine (spec_IsSet.calls a0 (rd l1 x5_1) true _ A5.out).mono ?_);rintro e w' ⟨rfl,⟨nd,rfl⟩⟩;(try first|exact ⟨rfl,_,World.drewN_drewN _ _ _⟩|exact ⟨rfl,_,Eq.trans (World.drewN_drewN _ _ _) (congrArg (World.drewN _) (Nat.add_assoc _ _ _))⟩))))
  go_roundg k1
  case measure=>have:=HK1.out;omega
  case rel=>exact ⟨(wrap64 (x5_1+1)),sT_,H',⟨by have:=HK1.out;omega⟩,dT_⟩
 have c7b0:decide (0<x5_1)=true:=decide_eq_true c7
 clear c7
 obtain ⟨ji8,hji8⟩:∃ j_:Int,(wrap64 (x5_1-1))=j_:=⟨_,rfl⟩
 first |rw [hji8] at H|simp only [hji8] at H
 (try rw [hji8] at A5)
 have hji8w:(IntKind.i64.wrap (x5_1-1))=ji8:=(i64_w _).trans hji8
 replace H:=gsm_ H;obtain ⟨c9b0,H⟩:=H
 replace H:=gsm_ H;obtain ⟨c10b0,H⟩:=H
 replace H:=gsq_ H;rcases H with ⟨c11,H⟩|⟨c11,H⟩
 ·have c11b0:decide ((rd l1 x5_1)≤(rd l1 (ji8)))=true:=decide_eq_true c11
  clear c11
  obtain rfl:=Option.some.inj H
  obtain ⟨ad149,e149,hx149_0,p149,q149⟩:=aiI_ HR1.out x5_1
  cases e149
  go_wp2_with (first|(go_at_call 74;(with_reducible refine (spec_IsSet.calls a0 (rd l1 x5_1) true _ A5.out).mono ?_);rintro e w' ⟨rfl,⟨nd,rfl⟩⟩;(try first|exact ⟨rfl,_,World.drewN_drewN _ _ _⟩|exact ⟨rfl,_,Eq.trans (World.drewN_drewN _ _ _) (congrArg (World.drewN _) (Nat.add_assoc _ _ _))⟩);obtain ⟨ad151,e151,hx151_0,p151,q151⟩:=aiI_ HR1.out (ji8);obtain rfl:ad149=ad151:=(by injection e151);obtain ⟨ad152,e152,hx152_0,p152,q152⟩:=aiI_ HR1.out x5_1;obtain rfl:ad149=ad152:=(by injection e152)))
  repeat (go_quiet (first|(go_at_call 74;(with_reducible refine (spec_IsSet.calls a0 (rd l1 x5_1) true _ A5.out).mono ?_);rintro e w' ⟨rfl,⟨nd,rfl⟩⟩;(try first|exact ⟨rfl,_,World.drewN_drewN _ _ _⟩|exact ⟨rfl,_,Eq.trans (World.drewN_drewN _ _ _) (congrArg (World.drewN _) (Nat.add_assoc _ _ _))⟩);obtain ⟨ad151,e151,hx151_0,p151,q151⟩:=aiI_ HR1.out (ji8);obtain rfl:ad149=ad151:=(by injection e151);obtain ⟨ad152,e152,hx152_0,p152,q152⟩:=aiI_ HR1.out x5_1;obtain rfl:ad149=ad152:=(by injection e152)));try go_wp2_with (first|(go_at_call 74;(with_reducible refine (spec_IsSet.calls a0 (rd l1 x5_1) true _ A5.out).mono ?_);rintro e w' ⟨rfl,⟨nd,rfl⟩⟩;(try first|exact ⟨rfl,_,World.drewN_drewN _ _ _⟩|exact ⟨rfl,_,Eq.trans (World.drewN_drewN _ _ _) (congrArg (World.drewN _) (Nat.add_assoc _ _ _))⟩);obtain ⟨ad151,e151,hx151_0,p151,q151⟩:=aiI_ HR1.out (ji8);obtain rfl:ad149=ad151:=(by injection e151);obtain ⟨ad152,e152,hx152_0,p152,q152⟩:=aiI_ HR1.out x5_1;obtain rfl:ad149=ad152:=(by injection e152))))
  go_ret
  exact ⟨by first|rfl|(simp;done)|(simp only [← hji8]<;>(first|rfl|simp))|(simp [*];done),dT_⟩
 have c11b0:decide ((rd l1 x5_1)≤(rd l1 (ji8)))=false:=decide_eq_false c11
 clear c11
 have H':=Aside0.mk H
 clear H
 obtain ⟨ad149,e149,hx149_0,p149,q149⟩:=aiI_ HR1.out x5_1
 cases e149
 go_wp2_with (first|(go_at_call 74;(with_reducible refine (spec_IsSet.calls a0 (rd l1 x5_1) true _ A5.out).mono ?_);rintro e w' ⟨rfl,⟨nd,rfl⟩⟩;(try first|exact ⟨rfl,_,World.drewN_drewN _ _ _⟩|exact ⟨rfl,_,Eq.trans (World.drewN_drewN _ _ _) (congrArg (World.drewN _) (Nat.add_assoc _ _ _))⟩);obtain ⟨ad151,e151,hx151_0,p151,q151⟩:=aiI_ HR1.out (ji8);obtain rfl:ad149=ad151:=(by injection e151);obtain ⟨ad152,e152,hx152_0,p152,q152⟩:=aiI_ HR1.out x5_1;obtain rfl:ad149=ad152:=(by injection e152)))
 repeat (go_quiet (first|(go_at_call 74;(with_reducible refine (spec_IsSet.calls a0 (rd l1 x5_1) true _ A5.out).mono ?_);rintro e w' ⟨rfl,⟨nd,rfl⟩⟩;(try first|exact ⟨rfl,_,World.drewN_drewN _ _ _⟩|exact ⟨rfl,_,Eq.trans (World.drewN_drewN _ _ _) (congrArg (World.drewN _) (Nat.add_assoc _ _ _))⟩);obtain ⟨ad151,e151,hx151_0,p151,q151⟩:=aiI_ HR1.out (ji8);obtain rfl:ad149=ad151:=(by injection e151);obtain ⟨ad152,e152,hx152_0,p152,q152⟩:=aiI_ HR1.out x5_1;obtain rfl:ad149=ad152:=(by injection e152)));try go_wp2_with (first|(go_at_call 74;(with_reducible refine (spec_IsSet.calls a0 (rd l1 x5_1) true _ A5.out).mono ?_);rintro e w' ⟨rfl,⟨nd,rfl⟩⟩;(try first|exact ⟨rfl,_,World.drewN_drewN _ _ _⟩|exact ⟨rfl,_,Eq.trans (World.drewN_drewN _ _ _) (congrArg (World.drewN _) (Nat.add_assoc _ _ _))⟩);obtain ⟨ad151,e151,hx151_0,p151,q151⟩:=aiI_ HR1.out (ji8);obtain rfl:ad149=ad151:=(by injection e151);obtain ⟨ad152,e152,hx152_0,p152,q152⟩:=aiI_ HR1.out x5_1;obtain rfl:ad149=ad152:=(by injection e152))))
 go_roundg k1
 case measure=>have:=HK1.out;omega
 case rel=>exact ⟨(wrap64 (x5_1+1)),sT_,H',⟨by have:=HK1.out;omega⟩,dT_⟩
end Go.Proofs.YtekegbacnagbcaaGreat.P
