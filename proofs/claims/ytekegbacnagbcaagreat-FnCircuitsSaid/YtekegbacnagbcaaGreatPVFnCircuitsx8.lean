-- written by gprint (a program of this session's, round the kit's print), out of the translation and hand-written texts
import Derived.Test.YtekegbacnagbcaaGreatPVFnCircuitsx0
import Derived.Test.YtekegbacnagbcaaGreatPVFnCircuitsx4
namespace Go.Proofs.YtekegbacnagbcaaGreat.P
open Go.RowKit Go.Proofs.YtekegbacnagbcaaGreatW.PrintWords Go.Proofs.YtekegbacnagbcaaGreatW.PrintLast Go.Proofs.YtekegbacnagbcaaGreatW.PrintMore
attribute [local go_sem] max2_int min2_int max_two min_two max_three min_three max_four min_four
set_option linter.unusedVariables false
set_option maxHeartbeats 8000000
set_option maxRecDepth 100000
set_option linter.unusedSimpArgs false
mutual
def spec_l4Rank.l0:Nat→Int→Int→Int→Int→List Int→Int→Int→Option (Int)
 | 0,_,_,_,_,_,_,_=>none
 | k+1,x0,x1,x2,x4,x11,x12,x13=>if x13<x2 then ((spec_l2Has.f x4 x13).bind fun t288=>(if t288=true then (spec_l4Rank.l1 k x0 x1 x2 x4 x11 x12 x13 x12) else (spec_l4Rank.l0 k x0 x1 x2 x4 x11 x12 (wrap64 (x13+1))))) else (some x12)
def spec_l4Rank.j2:Nat→Int→Int→Int→Int→List Int→Int→Int→Int→Option (Int)
 | 0,_,_,_,_,_,_,_,_=>none
 | k+1,x0,x1,x2,x4,x11,x12,x13,x14=>if x14≥x1 then (spec_l4Rank.l0 k x0 x1 x2 x4 x11 x12 (wrap64 (x13+1))) else (spec_l4Rank.l2 k x0 x1 x2 x4 x11 x12 x13 x14 0)
def spec_l4Rank.l2:Nat→Int→Int→Int→Int→List Int→Int→Int→Int→Int→Option (Int)
 | 0,_,_,_,_,_,_,_,_,_=>none
 | k+1,x0,x1,x2,x4,x11,x12,x13,x14,x15=>if x15<x2 then (if 0≤(wrap64 ((wrap64 (x14*x2))+x15)) then (if (wrap64 ((wrap64 (x14*x2))+x15))<(x11.length:Int) then (if 0≤(wrap64 ((wrap64 (x12*x2))+x15)) then (if (wrap64 ((wrap64 (x12*x2))+x15))<(x11.length:Int) then (spec_l4Rank.l2 k x0 x1 x2 x4 ((x11.set ((wrap64 ((wrap64 (x14*x2))+x15)):Int).toNat (rd x11 (wrap64 ((wrap64 (x12*x2))+x15)))).set ((wrap64 ((wrap64 (x12*x2))+x15)):Int).toNat (rd x11 (wrap64 ((wrap64 (x14*x2))+x15)))) x12 x13 x14 (wrap64 (x15+1))) else (none)) else (none)) else (none)) else (none)) else (spec_l4Rank.l3 k x0 x1 x2 x4 x11 x12 x13 (wrap64 (x12+1)))
def spec_l4Rank.l3:Nat→Int→Int→Int→Int→List Int→Int→Int→Int→Option (Int)
 | 0,_,_,_,_,_,_,_,_=>none
 | k+1,x0,x1,x2,x4,x11,x12,x13,x17=>if x17<x1 then (if 0≤(wrap64 ((wrap64 (x17*x2))+x13)) then (if (wrap64 ((wrap64 (x17*x2))+x13))<(x11.length:Int) then (if 0≤(wrap64 ((wrap64 (x12*x2))+x13)) then (if (wrap64 ((wrap64 (x12*x2))+x13))<(x11.length:Int) then (spec_l4Rank.l4 k x0 x1 x2 x4 x11 x12 x13 x17 (rd x11 (wrap64 ((wrap64 (x17*x2))+x13))) (rd x11 (wrap64 ((wrap64 (x12*x2))+x13))) 0) else (none)) else (none)) else (none)) else (none)) else (spec_l4Rank.l0 k x0 x1 x2 x4 x11 (wrap64 (x12+1)) (wrap64 (x13+1)))
def spec_l4Rank.l4:Nat→Int→Int→Int→Int→List Int→Int→Int→Int→Int→Int→Int→Option (Int)
 | 0,_,_,_,_,_,_,_,_,_,_,_=>none
 | k+1,x0,x1,x2,x4,x11,x12,x13,x17,x18,x19,x20=>if x20<x2 then (if 0≤(wrap64 ((wrap64 (x17*x2))+x20)) then (if (wrap64 ((wrap64 (x17*x2))+x20))<(x11.length:Int) then (if 0≤(wrap64 ((wrap64 (x12*x2))+x20)) then (if (wrap64 ((wrap64 (x12*x2))+x20))<(x11.length:Int) then (if x0=0 then (none) else (spec_l4Rank.l4 k x0 x1 x2 x4 (x11.set ((wrap64 ((wrap64 (x17*x2))+x20)):Int).toNat (Int.tmod (wrap64 ((Int.tmod (wrap64 ((wrap64 ((rd x11 (wrap64 ((wrap64 (x17*x2))+x20)))*x19))-(wrap64 ((rd x11 (wrap64 ((wrap64 (x12*x2))+x20)))*x18)))) x0)+x0)) x0)) x12 x13 x17 x18 x19 (wrap64 (x20+1)))) else (none)) else (none)) else (none)) else (none)) else (spec_l4Rank.l3 k x0 x1 x2 x4 x11 x12 x13 (wrap64 (x17+1)))
def spec_l4Rank.l1:Nat→Int→Int→Int→Int→List Int→Int→Int→Int→Option (Int)
 | 0,_,_,_,_,_,_,_,_=>none
 | k+1,x0,x1,x2,x4,x11,x12,x13,x14=>if x14<x1 then (if 0≤(wrap64 ((wrap64 (x14*x2))+x13)) then (if (wrap64 ((wrap64 (x14*x2))+x13))<(x11.length:Int) then (if (rd x11 (wrap64 ((wrap64 (x14*x2))+x13)))=0 then (spec_l4Rank.l1 k x0 x1 x2 x4 x11 x12 x13 (wrap64 (x14+1))) else (spec_l4Rank.j2 k x0 x1 x2 x4 x11 x12 x13 x14)) else (none)) else (none)) else (spec_l4Rank.j2 k x0 x1 x2 x4 x11 x12 x13 x14)
end
def spec_l4Rank.f (k:Nat) (a0:Int) (a1:Int) (a2:Int) (l3:List Int) (a4:Int):Option (Int):=(some (([]:List Int):List Int)).bind fun y282=>(if y282.length+l3.length<17592186044416 then (spec_l4Rank.l0 k a0 a1 a2 a4 (y282++l3) 0 0) else (none))
def spec_l4Rank.T25:Bool × List (List Nat × List Nat):=(true,[([],[]),([],[]),([],[]),([1,2],[1,2]),([],[]),([3,4],[3,4]),([],[]),([],[]),([],[]),([7,8],[7,8]),([],[]),([9,10],[9,10]),([6,11],[6,11]),([12],[12]),([],[]),([13,14],[13,14]),([],[]),([],[]),([],[]),([17,18],[17,18]),([],[]),([19,20],[19,20]),([16,21],[16,21]),([22],[22]),([],[]),([23,24],[23,24]),([15,25],[15,25]),([],[]),([26,27],[26,27]),([],[]),([28,29],[28,29]),([],[]),([30,31],[30,31]),([0,5,0,1,2,3,4,5,6,7,8,9,10,11,12,13,14,15,16,17,18,19,20,21,22,23,24,25,26,27,28,29,30,31,32],[0,5]),([33,32,0,1,2,3,4,5,6,7,8,9,10,11,12,13,14,15,16,17,18,19,20,21,22,23,24,25,26,27,28,29,30,31,32],[32,33])])
def spec_l4Rank.B25:List Nat:=[0,0,0,6,0,30,0,0,0,384,0,1920,4032,8128,0,32704,0,0,0,393216,0,1966080,4128768,8323072,0,33488896,67108800,0,268435392,0,1073741760,0,4294967232,8589934591,17179869183]
theorem spec_l4Rank.tab25:rtab .any (opsOf Tryz.f103 25)=spec_l4Rank.T25:=by kernel_rfl
theorem spec_l4Rank.bits25:waitsOk spec_l4Rank.T25.2 spec_l4Rank.B25=true:=by kernel_rfl
theorem spec_l4Rank.calls (k:Nat) (a0:Int) (a1:Int) (a2:Int) (A3:Option Addr) (c3:Nat) (l3:List Int) (a4:Int) (r:Int) (w:World) (hr3:Kd.C (Kd.int .i64) w A3 l3.length l3) (hc3:l3.length≤c3) (h:spec_l4Rank.f k a0 a1 a2 l3 a4=some r) :
    Calls Tryz.prog 103 #[.int .i64 a0,.int .i64 a1,.int .i64 a2,.slice A3 l3.length c3,.int .i64 a4] w fun e w'=>e=.returned (.int .i64 r)∧Below w.heap.size w w':=by
 have HR3:=Aside0.mk hr3
 have HC3:=Aside0.mk hc3
 clear hr3 hc3
 have HB:=Aside0.mk (Below.refl w.heap.size w)
 unfold spec_l4Rank.f at h
 have H:=h
 clear h
 replace H:=sy_ H;obtain ⟨y282,Ny282,H⟩:=H
 replace H:=gsl_ H;obtain ⟨LMc6,H⟩:=H
 obtain ⟨y285,hy285⟩:∃ y_:List Int,y_=(y282++l3):=⟨_,rfl⟩
 rw [← hy285] at H
 have Ny285:=Aside0.mk hy285
 clear hy285
 have H':=Aside0.mk H
 clear H
 go_enter Tryz.func103,Tryz.ntmps103
 go_wp2_with (first|((with_reducible refine gate_dst (N:=21) rfl ?_);refine Kd.R_lit (Kd.int .i64) _ 3 ?hg (N:=21) ?hd (xs:=([]:List Int)) (inner:=[]) (ok:=fun _=>True) (okp:=fun _=>True) ?hr ?hp (fun _ hk=>hk) trivial (Below.refl _ _) (Nat.le_refl _) (by simp) ?_;(case hd=>rfl);(case hg=>rfl);(case hr=>exact hrT_);(case hp=>exact (Reps.none _ _));intro v283 w7 ho8 hb hg_ hnew_;clear hg_ hnew_;(first|rw [← Ny282.out] at ho8|(simp only [Int.reduceToNat] at ho8;rw [← Ny282.out] at ho8));have HO284:=Aside0.mk (Kd.R_lower ho8 (below_size (h_HB HB.out)));replace HB:=s_HB HB.out hb;clear hb ho8)|((with_reducible refine gate_builtin (b:=.append) (xs:=#[.tmp 21,.tmp 22]) rfl ?_);at_builtin;refine Kd.R_append_rows (Kd.int .i64) (w0:=w) w.heap.size rfl (.tmp 21) (.tmp 22) 24 3 (.int .i64 0) 8 rfl Tryz.underlying24 info3 rfl (by decide) (by omega) v283 y282 l3 _ _ _ (fun _=>True) (fun _=>False) rfl rfl ?aO ?aR (fun _ _ h=>h) (fun _ h=>h.elim) ?aF ?aB ?aS ?aL ?_;(case aR=>exact cC_ HR3.out);(case aB=>exact (h_HB HB.out));(case aF=>exact (fun _ _=>trivial));(case aO=>exact (kRC_ HO284.out));(case aS=>exact (below_size (h_HB HB.out)));(case aL=>have:=LMc6.out;omega);intro v286 w9 ho hb hg hat;rw [← Ny285.out] at ho;replace HB:=Aside0.mk (hb);have HO287:=Aside0.mk (ho);clear HO284;clear ho hb hg hat))
 go_loopg [12,13] k (fun kq v12 v13 w'=>∃ (x11_1:List Int) (x12_1:Int) (x13_1:Int),v12=.int .i64 x12_1∧v13=.int .i64 x13_1∧Aside0 (spec_l4Rank.l0 kq a0 a1 a2 a4 x11_1 x12_1 x13_1=some r)∧Aside0 (kq≤k)∧Aside0 (Kd.R (Kd.int .i64) 3 w' w.heap.size (fun _=>True) v286 x11_1)∧Aside0 (Below w.heap.size w w'))
 case atStart=>exact ⟨(y285),(0),(0),sT_,sT_,H',⟨Nat.le_refl _⟩,⟨kRC_ HO287.out⟩,⟨h_HB HB.out⟩⟩
 case round =>
 clear H'
 try clear c1
 try clear p2
 try clear c3
 try clear c6
 obtain ⟨x11_1,x12_1,x13_1,rfl,rfl,HA,HK1,HO_11,HB⟩:=hrel
 cases gk with
 | zero=>exact absurd HA.out (by simp [spec_l4Rank.l0])
 | succ k1 =>
 have H:=HA.out
 clear HA
 simp only [spec_l4Rank.l0] at H
 replace H:=gsn_ H;rcases H with ⟨c10b0,H⟩|⟨c10b0,H⟩
 ·obtain rfl:=Option.some.inj H
  go_wp2
  go_ret
  exact ⟨eT_,h_HB HB.out⟩
 replace H:=bnd_ H;obtain ⟨t288,A11,H⟩:=H
 replace H:=(gst_ H).symm;rcases H with ⟨rfl,H⟩|⟨rfl,H⟩
 ·have H':=Aside0.mk H
  clear H
  go_wp2_with (first|((with_reducible refine gate_callee (f:=54) rfl ?_);refine goesL_ (some 31) rfl rfl Tryz.func54 krT_ rfl #[.int .i64 a4,.int .i64 x13_1] rfl agT_ ?_;(with_reducible refine (spec_l2Has.calls a4 x13_1 false _ A11.out).mono ?_);rintro e w' ⟨rfl,⟨nd,rfl⟩⟩;refine ⟨_,rfl,?_⟩))
  (try simp only [← add_plain go52 (ji37).toNat,← add_plain go52 (ji40).toNat])
  go_roundg k1
  case measure=>have:=HK1.out;omega
  case rel=>exact ⟨(x11_1),(x12_1),(wrap64 (x13_1+1)),sT_,sT_,H',⟨by have:=HK1.out;omega⟩,⟨kRC_ HO_11.out⟩,⟨h_HB HB.out⟩⟩
 have HC13:=Aside0.mk H
 clear H
 go_upto_block 2 with (first|((with_reducible refine gate_callee (f:=54) rfl ?_);refine goesL_ (some 31) rfl rfl Tryz.func54 krT_ rfl #[.int .i64 a4,.int .i64 x13_1] rfl agT_ ?_;(with_reducible refine (spec_l2Has.calls a4 x13_1 true _ A11.out).mono ?_);rintro e w' ⟨rfl,⟨nd,rfl⟩⟩;refine ⟨_,rfl,?_⟩))
 (try simp only [Act.put,List.setIfInBounds_toArray,List.set_cons_zero,List.set_cons_succ])
 go_cut [14] (fun v14 wc=>∃ (kq:Nat) (x14_12:Int),v14=.int .i64 x14_12∧Aside0 (spec_l4Rank.j2 kq a0 a1 a2 a4 x11_1 x12_1 x13_1 x14_12=some r)∧Aside0 (kq≤k1)∧Aside0 (Kd.R (Kd.int .i64) 3 wc w.heap.size (fun _=>True) v286 x11_1)∧Aside0 (Below w.heap.size w wc))
 case first =>
  have H:=HC13.out
  clear HC13
  have H':=Aside0.mk H
  clear H
  go_wp2
  go_loopg [14] k1 (fun kq v14 w'=>∃ (x14_2:Int),v14=.int .i64 x14_2∧Aside0 (spec_l4Rank.l1 kq a0 a1 a2 a4 x11_1 x12_1 x13_1 x14_2=some r)∧Aside0 (kq≤k1)∧Aside0 (Kd.R (Kd.int .i64) 3 w' w.heap.size (fun _=>True) v286 x11_1)∧Aside0 (Below w.heap.size w w'))
  case atStart=>exact ⟨(x12_1),sT_,H',⟨Nat.le_refl _⟩,⟨kRC_ HO_11.out⟩,⟨h_HB HB.out⟩⟩
  case round =>
  clear H'
  try clear c1
  try clear p2
  try clear c3
  try clear c5
  try clear c6
  try clear p6
  try clear c10
  try clear c10b0
  try clear c12
  try clear p2
  obtain ⟨x14_2,rfl,HA,HK2,HO_11,HB⟩:=hrel
  cases gk with
  | zero=>exact absurd HA.out (by simp [spec_l4Rank.l1])
  | succ k2 =>
  have H:=HA.out
  clear HA
  simp only [spec_l4Rank.l1] at H
  replace H:=gsn_ H;rcases H with ⟨c14b0,H⟩|⟨c14b0,H⟩
  ·(first|rw [c14b0]|(simp only [i64_w,i32_w];rw [c14b0])|skip)
   have H':=Aside0.mk H
   clear H
   go_wp2
   go_meet
   case rel=>exact ⟨_,(x14_2),sT_,H',⟨by have:=HK1.out;have:=HK2.out;first|omega|exact Nat.le_refl _⟩,⟨kRC_ HO_11.out⟩,⟨h_HB HB.out⟩⟩
  (first|rw [c14b0]|(simp only [i64_w,i32_w];rw [c14b0])|skip)
  obtain ⟨ji15,hji15⟩:∃ j_:Int,(wrap64 ((wrap64 (x14_2*a2))+x13_1))=j_:=⟨_,rfl⟩
  first |rw [hji15] at H|simp only [hji15] at H
  have hji15w:(IntKind.i64.wrap ((wrap64 (x14_2*a2))+x13_1))=ji15:=(i64_w _).trans hji15
  replace H:=gsm_ H;obtain ⟨c16b0,H⟩:=H
  replace H:=gsm_ H;obtain ⟨c17b0,H⟩:=H
  replace H:=(gse_ H).symm;rcases H with ⟨c18b0,c18b1,c18,H⟩|⟨c18b0,c18b1,H⟩
  ·have H':=Aside0.mk H
   clear H
   obtain ⟨Ao20,co20,eo20⟩:=Kd.R_slice HO_11.out
   subst eo20
   obtain ⟨ad289,e289,hx289_0,p289,q289⟩:=aiI_ (Kd.R_reads' HO_11.out).2.2 (ji15)
   cases e289
   go_wp2
   go_meet
   case rel=>exact ⟨_,(x14_2),sT_,H',⟨by have:=HK1.out;have:=HK2.out;first|omega|exact Nat.le_refl _⟩,⟨kRC_ HO_11.out⟩,⟨h_HB HB.out⟩⟩
  have H':=Aside0.mk H
  clear H
  obtain ⟨Ao19,co19,eo19⟩:=Kd.R_slice HO_11.out
  subst eo19
  obtain ⟨ad289,e289,hx289_0,p289,q289⟩:=aiI_ (Kd.R_reads' HO_11.out).2.2 (ji15)
  cases e289
  go_wp2
  go_roundg k2
  case measure=>have:=HK1.out;have:=HK2.out;omega
  case rel=>exact ⟨(wrap64 (x14_2+1)),sT_,H',⟨by have:=HK1.out;have:=HK2.out;omega⟩,⟨kRC_ HO_11.out⟩,⟨h_HB HB.out⟩⟩
 case rest =>
 clear HC13
 try clear c1
 try clear p2
 try clear q2
 try clear hx2
 try clear c3
 try clear c5
 try clear c6
 try clear p6
 try clear c10
 try clear c10b0
 try clear c12
 try clear c14
 try clear c14b0
 try clear c16
 try clear c16b0
 try clear c17
 try clear c17b0
 try clear c18
 try clear c18b0
 try clear c18b1
 try clear hx289_0
 try clear p2
 try clear p289
 try clear p6
 try clear q289
 obtain ⟨kq,x14_12,rfl,HA,HJ12,HO_11,HB⟩:=hcut
 cases kq with
 | zero=>exact absurd HA.out (by simp [spec_l4Rank.j2])
 | succ kj12 =>
 have H:=HA.out
 clear HA
 simp only [spec_l4Rank.j2] at H
 replace H:=gsq_ H;rcases H with ⟨c21,H⟩|⟨c21,H⟩
 ·have c21b0:decide (a1≤x14_12)=true:=decide_eq_true c21
  clear c21
  have H':=Aside0.mk H
  clear H
  go_wp2
  go_roundg kj12
  case measure=>have:=HK1.out;have:=HJ12.out;omega
  case rel=>exact ⟨(x11_1),(x12_1),(wrap64 (x13_1+1)),sT_,sT_,H',⟨by have:=HK1.out;have:=HJ12.out;omega⟩,⟨kRC_ HO_11.out⟩,⟨h_HB HB.out⟩⟩
 have c21b0:decide (a1≤x14_12)=false:=decide_eq_false c21
 clear c21
 have H':=Aside0.mk H
 clear H
 go_wp2
 go_loopg [15] kj12 (fun kq v15 w'=>∃ (x11_3:List Int) (x15_3:Int),v15=.int .i64 x15_3∧Aside0 (spec_l4Rank.l2 kq a0 a1 a2 a4 x11_3 x12_1 x13_1 x14_12 x15_3=some r)∧Aside0 (kq≤kj12)∧Aside0 (Kd.R (Kd.int .i64) 3 w' w.heap.size (fun _=>True) v286 x11_3)∧Aside0 (Below w.heap.size w w'))
 case atStart=>exact ⟨(x11_1),(0),sT_,H',⟨Nat.le_refl _⟩,⟨kRC_ HO_11.out⟩,⟨h_HB HB.out⟩⟩
 case round =>
 clear H'
 try clear c1
 try clear c2
 try clear p2
 try clear q2
 try clear hx2
 try clear c3
 try clear c5
 try clear c6
 try clear p6
 try clear c10
 try clear c10b0
 try clear c12
 try clear c14
 try clear c14b0
 try clear c16
 try clear c16b0
 try clear c17
 try clear c17b0
 try clear c18
 try clear c18b0
 try clear c18b1
 try clear c21
 try clear c21b0
 try clear hx289_0
 try clear p2
 try clear p289
 try clear p6
 try clear q2
 try clear q289
 obtain ⟨x11_3,x15_3,rfl,HA,HK3,HO_11,HB⟩:=hrel
 cases gk with
 | zero=>exact absurd HA.out (by simp [spec_l4Rank.l2])
 | succ k3 =>
 have H:=HA.out
 clear HA
 simp only [spec_l4Rank.l2] at H
 replace H:=gsb_ H;rcases H with ⟨c22b0,H⟩|⟨c22b0,H⟩
 ·obtain ⟨ji23,hji23⟩:∃ j_:Int,(wrap64 ((wrap64 (x14_12*a2))+x15_3))=j_:=⟨_,rfl⟩
  first |rw [hji23] at H|simp only [hji23] at H
  have hji23w:(IntKind.i64.wrap ((wrap64 (x14_12*a2))+x15_3))=ji23:=(i64_w _).trans hji23
  replace H:=gsm_ H;obtain ⟨c24b0,H⟩:=H
  replace H:=gsm_ H;obtain ⟨c25b0,H⟩:=H
  obtain ⟨ji26,hji26⟩:∃ j_:Int,(wrap64 ((wrap64 (x12_1*a2))+x15_3))=j_:=⟨_,rfl⟩
  first |rw [hji26] at H|simp only [hji26] at H
  have hji26w:(IntKind.i64.wrap ((wrap64 (x12_1*a2))+x15_3))=ji26:=(i64_w _).trans hji26
  replace H:=gsm_ H;obtain ⟨c27b0,H⟩:=H
  replace H:=gsm_ H;obtain ⟨c28b0,H⟩:=H
  obtain ⟨y292,hy292⟩:∃ y_:List Int,y_=(x11_3.set ((ji23):Int).toNat (rd x11_3 (ji26))):=⟨_,rfl⟩
  rw [← hy292] at H
  have Ny292:=Aside0.mk hy292
  clear hy292
  obtain ⟨y293,hy293⟩:∃ y_:List Int,y_=(y292.set ((ji26):Int).toNat (rd x11_3 (ji23))):=⟨_,rfl⟩
  rw [← hy293] at H
  have Ny293:=Aside0.mk hy293
  clear hy293
  have H':=Aside0.mk H
  clear H
  obtain ⟨Ao31,co31,eo31⟩:=Kd.R_slice HO_11.out
  subst eo31
  obtain ⟨ad290,e290,hx290_0,p290,q290⟩:=aiI_ (Kd.R_reads' HO_11.out).2.2 (ji23)
  cases e290
  obtain ⟨ad291,e291,hx291_0,p291,q291⟩:=aiI_ (Kd.R_reads' HO_11.out).2.2 (ji26)
  obtain rfl:ad290=ad291:=(by injection e291)
  have p29:0≤((ji23):Int):=odT_
  have q29:((ji23):Int)<((x11_3.length:Int):Int):=odT_
  obtain ⟨go29,co29,eo29,gb29,gl29,cl29,HG29⟩:=Kd.R_form HO_11.out (by omega)
  (first|cases eo29|(injection eo29 with ea_ en_ ec_;(first|subst ea_|(injection ea_ with ea_;subst ea_));subst ec_;clear en_))
  have GB29:=Aside0.mk gb29
  have GG29:=Aside0.mk HG29
  clear gb29 gl29 HG29
  (first|simp only [add_plain] at hx290_0|skip)
  (first|simp only [add_plain] at hx291_0|skip)
  obtain ⟨hx29_0,hf29_0⟩:=Kd.R_celln 0 HO_11.out ((ji23):Int) p29 q29
  replace p29:=eq_true p29
  replace q29:=eq_true q29
  have HP32:=Kd.R_putg HO_11.out ((ji23):Int) (rd x11_3 (ji26))
  go_wp2_with (first|((with_reducible refine gate_store (t:=3) (p:=80) rfl ?_);refine store_event (t:=3) (p:=80) (v:=?vo_w33) (w1:=(wr.setCell ⟨go29,((ji23):Int).toNat,none⟩ (.int .i64 (rd x11_3 (ji26))))) ?hg ?ho ?hn ?hr ?_;(case ho=>rfl);(case hg=>rfl);(case hn=>rfl);(case hr=>first|(go_simp;done)|(go_simp;rfl));intro w33 hw;have hg:wr.grownBy w33 (some go29):=(by rw [hw];exact HP32.2);have hp_:Kd.R (Kd.int .i64) 3 w33 w.heap.size (fun _=>True) (.slice (some ⟨go29,0,none⟩) x11_3.length co31) y292:=(by rw [hw,Ny292.out];exact HP32.1);clear HP32;replace HO_11:=Aside0.mk (hp_);replace HB:=Aside0.mk ((by rw [hw];exact below_set (HB.out) GB29.out:Below w.heap.size w w33));clear hg hw hp_;have p30:0≤((ji26):Int):=odT_;have q30:((ji26):Int)<((x11_3.length:Int):Int):=odT_;obtain ⟨hx30_0,hf30_0⟩:=Kd.R_celln 0 HO_11.out ((ji26):Int) p30 q30;replace p30:=eq_true p30;replace q30:=eq_true q30;obtain ⟨hy34_,hz34_⟩:=Kd.R_celln 0 HO_11.out ((ji26):Int) (odT_) (odT_);have HP34:=Kd.R_putg HO_11.out ((ji26):Int) (rd x11_3 (ji23)))|((with_reducible refine gate_store (t:=3) (p:=88) rfl ?_);refine store_event (t:=3) (p:=88) (v:=?vo_w35) (w1:=(w33.setCell ⟨go29,((ji26):Int).toNat,none⟩ (.int .i64 (rd x11_3 (ji23))))) ?hg ?ho ?hn ?hr ?_;(case ho=>rfl);(case hg=>rfl);(case hn=>rfl);(case hr=>first|(go_simp;done)|(go_simp;rfl));intro w35 hw;have hg:w33.grownBy w35 (some go29):=(by rw [hw];exact HP34.2);have hp_:Kd.R (Kd.int .i64) 3 w35 w.heap.size (fun _=>True) (.slice (some ⟨go29,0,none⟩) x11_3.length co31) y293:=(by rw [hw,Ny293.out];exact HP34.1);clear HP34;replace HO_11:=Aside0.mk (hp_);replace HB:=Aside0.mk ((by rw [hw];exact below_set (HB.out) GB29.out:Below w.heap.size w w35));clear hg hw hp_))
  (try simp only [← add_plain go29 (ji15).toNat,← add_plain go29 (ji15).toNat])
  go_roundg k3
  case measure=>have:=HK1.out;have:=HJ12.out;have:=HK3.out;omega
  case rel=>exact ⟨(y293),(wrap64 (x15_3+1)),sT_,H',⟨by have:=HK1.out;have:=HJ12.out;have:=HK3.out;omega⟩,⟨kRC_ HO_11.out⟩,⟨h_HB HB.out⟩⟩
 have H':=Aside0.mk H
 clear H
 go_wp2
 go_loopg [17] k3 (fun kq v17 w'=>∃ (x11_4:List Int) (x17_4:Int),v17=.int .i64 x17_4∧Aside0 (spec_l4Rank.l3 kq a0 a1 a2 a4 x11_4 x12_1 x13_1 x17_4=some r)∧Aside0 (kq≤k3)∧Aside0 (Kd.R (Kd.int .i64) 3 w' w.heap.size (fun _=>True) v286 x11_4)∧Aside0 (Below w.heap.size w w'))
 case atStart=>exact ⟨(x11_3),(wrap64 (x12_1+1)),sT_,H',⟨Nat.le_refl _⟩,⟨kRC_ HO_11.out⟩,⟨h_HB HB.out⟩⟩
 case round =>
 clear H'
 try clear c1
 try clear c2
 try clear p2
 try clear q2
 try clear hx2
 try clear c3
 try clear p3
 try clear q3
 try clear hx3
 try clear c5
 try clear c6
 try clear p6
 try clear c10
 try clear c10b0
 try clear c12
 try clear c14
 try clear c14b0
 try clear c16
 try clear c16b0
 try clear c17
 try clear c17b0
 try clear c18
 try clear c18b0
 try clear c18b1
 try clear c21
 try clear c21b0
 try clear c22
 try clear c22b0
 try clear c24
 try clear c24b0
 try clear c25
 try clear c25b0
 try clear c27
 try clear c27b0
 try clear c28
 try clear c28b0
 try clear p28
 try clear q28
 try clear hx28
 try clear p29
 try clear q29
 try clear hx29
 try clear hf29
 try clear p30
 try clear q30
 try clear hx30
 try clear hf30
 try clear hx289_0
 try clear hx290_0
 try clear hx291_0
 try clear hx29_0
 try clear hx30_0
 try clear p2
 try clear p289
 try clear p29
 try clear p290
 try clear p291
 try clear p30
 try clear p6
 try clear q2
 try clear q289
 try clear q29
 try clear q290
 try clear q291
 try clear q30
 obtain ⟨x11_4,x17_4,rfl,HA,HK4,HO_11,HB⟩:=hrel
 cases gk with
 | zero=>exact absurd HA.out (by simp [spec_l4Rank.l3])
 | succ k4 =>
 have H:=HA.out
 clear HA
 simp only [spec_l4Rank.l3] at H
 replace H:=gsn_ H;rcases H with ⟨c36b0,H⟩|⟨c36b0,H⟩
 ·have H':=Aside0.mk H
  clear H
  go_wp2
  (try simp only [← add_plain go52 (ji37).toNat,← add_plain go52 (ji40).toNat])
  go_roundg k4
  case measure=>have:=HK1.out;have:=HJ12.out;have:=HK3.out;have:=HK4.out;omega
  case rel=>exact ⟨(x11_4),(wrap64 (x12_1+1)),(wrap64 (x13_1+1)),sT_,sT_,H',⟨by have:=HK1.out;have:=HJ12.out;have:=HK3.out;have:=HK4.out;omega⟩,⟨kRC_ HO_11.out⟩,⟨h_HB HB.out⟩⟩
 obtain ⟨ji37,hji37⟩:∃ j_:Int,(wrap64 ((wrap64 (x17_4*a2))+x13_1))=j_:=⟨_,rfl⟩
 first |rw [hji37] at H|simp only [hji37] at H
 have hji37w:(IntKind.i64.wrap ((wrap64 (x17_4*a2))+x13_1))=ji37:=(i64_w _).trans hji37
 replace H:=gsm_ H;obtain ⟨c38b0,H⟩:=H
 replace H:=gsm_ H;obtain ⟨c39b0,H⟩:=H
 obtain ⟨ji40,hji40⟩:∃ j_:Int,(wrap64 ((wrap64 (x12_1*a2))+x13_1))=j_:=⟨_,rfl⟩
 first |rw [hji40] at H|simp only [hji40] at H
 have hji40w:(IntKind.i64.wrap ((wrap64 (x12_1*a2))+x13_1))=ji40:=(i64_w _).trans hji40
 replace H:=gsm_ H;obtain ⟨c41b0,H⟩:=H
 replace H:=gsm_ H;obtain ⟨c42b0,H⟩:=H
 have H':=Aside0.mk H
 clear H
 obtain ⟨Ao43,co43,eo43⟩:=Kd.R_slice HO_11.out
 subst eo43
 obtain ⟨ad294,e294,hx294_0,p294,q294⟩:=aiI_ (Kd.R_reads' HO_11.out).2.2 (ji37)
 cases e294
 obtain ⟨ad295,e295,hx295_0,p295,q295⟩:=aiI_ (Kd.R_reads' HO_11.out).2.2 (ji40)
 obtain rfl:ad294=ad295:=(by injection e295)
 go_wp2
 go_loopg [20] k4 (fun kq v20 w'=>∃ (x11_5:List Int) (x20_5:Int),v20=.int .i64 x20_5∧Aside0 (spec_l4Rank.l4 kq a0 a1 a2 a4 x11_5 x12_1 x13_1 x17_4 (rd x11_4 (ji37)) (rd x11_4 (ji40)) x20_5=some r)∧Aside0 (kq≤k4)∧Aside0 (Kd.R (Kd.int .i64) 3 w' w.heap.size (fun _=>True) (.slice (some ad294) x11_4.length co43) x11_5)∧Aside0 (Below w.heap.size w w'))
 case atStart=>exact ⟨(x11_4),(0),sT_,H',⟨Nat.le_refl _⟩,⟨kRC_ HO_11.out⟩,⟨h_HB HB.out⟩⟩
 case round =>
 clear H'
 try clear c1
 try clear c2
 try clear p2
 try clear q2
 try clear hx2
 try clear c3
 try clear p3
 try clear q3
 try clear hx3
 try clear c4
 try clear c5
 try clear c6
 try clear p6
 try clear c10
 try clear c10b0
 try clear c12
 try clear c14
 try clear c14b0
 try clear c16
 try clear c16b0
 try clear c17
 try clear c17b0
 try clear c18
 try clear c18b0
 try clear c18b1
 try clear c21
 try clear c21b0
 try clear c22
 try clear c22b0
 try clear c24
 try clear c24b0
 try clear c25
 try clear c25b0
 try clear c27
 try clear c27b0
 try clear c28
 try clear c28b0
 try clear p28
 try clear q28
 try clear hx28
 try clear p29
 try clear q29
 try clear hx29
 try clear hf29
 try clear p30
 try clear q30
 try clear hx30
 try clear hf30
 try clear c36
 try clear c36b0
 try clear c38
 try clear c38b0
 try clear c39
 try clear c39b0
 try clear c41
 try clear c41b0
 try clear c42
 try clear c42b0
 try clear hx289_0
 try clear hx290_0
 try clear hx291_0
 try clear hx294_0
 try clear hx295_0
 try clear hx29_0
 try clear hx30_0
 try clear p2
 try clear p28
 try clear p289
 try clear p29
 try clear p290
 try clear p291
 try clear p294
 try clear p295
 try clear p3
 try clear p30
 try clear p6
 try clear q2
 try clear q28
 try clear q289
 try clear q29
 try clear q290
 try clear q291
 try clear q294
 try clear q295
 try clear q3
 try clear q30
 obtain ⟨x11_5,x20_5,rfl,HA,HK5,HO_11,HB⟩:=hrel
 have hl11_5:=(Kd.R_reads' HO_11.out).1
 rw [hl11_5] at HO_11
 (try simp only [hl11_5])
 cases gk with
 | zero=>exact absurd HA.out (by simp [spec_l4Rank.l4])
 | succ k5 =>
 have H:=HA.out
 clear HA
 simp only [spec_l4Rank.l4] at H
 replace H:=gsn_ H;rcases H with ⟨c44b0,H⟩|⟨c44b0,H⟩
 ·have H':=Aside0.mk H
  clear H
  go_wp2
  (try simp only [← hl11_5])
  (try simp only [← add_plain go52 (ji37).toNat,← add_plain go52 (ji40).toNat])
  go_roundg k5
  case measure=>have:=HK1.out;have:=HJ12.out;have:=HK3.out;have:=HK4.out;have:=HK5.out;omega
  case rel=>exact ⟨(x11_5),(wrap64 (x17_4+1)),sT_,H',⟨by have:=HK1.out;have:=HJ12.out;have:=HK3.out;have:=HK4.out;have:=HK5.out;omega⟩,⟨by (try simp only [hl11_5]);(with_reducible repeat (first|apply Kd.R_alloc|apply Kd.R_drewN|apply Kd.R_drew));exact HO_11.out⟩,⟨h_HB HB.out⟩⟩
 obtain ⟨ji45,hji45⟩:∃ j_:Int,(wrap64 ((wrap64 (x17_4*a2))+x20_5))=j_:=⟨_,rfl⟩
 first |rw [hji45] at H|simp only [hji45] at H
 have hji45w:(IntKind.i64.wrap ((wrap64 (x17_4*a2))+x20_5))=ji45:=(i64_w _).trans hji45
 replace H:=gsm_ H;obtain ⟨c46b0,H⟩:=H
 replace H:=gsm_ H;obtain ⟨c47b0,H⟩:=H
 obtain ⟨ji48,hji48⟩:∃ j_:Int,(wrap64 ((wrap64 (x12_1*a2))+x20_5))=j_:=⟨_,rfl⟩
 first |rw [hji48] at H|simp only [hji48] at H
 have hji48w:(IntKind.i64.wrap ((wrap64 (x12_1*a2))+x20_5))=ji48:=(i64_w _).trans hji48
 replace H:=gsm_ H;obtain ⟨c49b0,H⟩:=H
 replace H:=gsm_ H;obtain ⟨c50b0,H⟩:=H
 replace H:=gsz_ H;obtain ⟨c51,H⟩:=H
 have c51b0:(a0==0)=false:=beq_eq_false_iff_ne.mpr c51
 have c51b1:(a0 != 0)=true:=bne_iff_ne.mpr c51
 obtain ⟨y298,hy298⟩:∃ y_:List Int,y_=(x11_5.set ((ji45):Int).toNat (Int.tmod (wrap64 ((Int.tmod (wrap64 ((wrap64 ((rd x11_5 (ji45))*(rd x11_4 (ji40))))-(wrap64 ((rd x11_5 (ji48))*(rd x11_4 (ji37)))))) a0)+a0)) a0)):=⟨_,rfl⟩
 rw [← hy298] at H
 have Ny298:=Aside0.mk hy298
 clear hy298
 have H':=Aside0.mk H
 clear H
 try go_wp2
 replace HO_11:=Aside0.mk (Kd.R_drew HO_11.out);replace HB:=Aside0.mk (below_drew1 HB.out)
 obtain ⟨ad296,e296,hx296_0,p296,q296⟩:=aiI_ (Kd.R_reads' HO_11.out).2.2 (ji45)
 obtain rfl:ad294=ad296:=(by injection e296)
 obtain ⟨ad297,e297,hx297_0,p297,q297⟩:=aiI_ (Kd.R_reads' HO_11.out).2.2 (ji48)
 obtain rfl:ad294=ad297:=(by injection e297)
 have p52:0≤((ji45):Int):=odT_
 have q52:((ji45):Int)<((x11_5.length:Int):Int):=odT_
 obtain ⟨go52,co52,eo52,gb52,gl52,cl52,HG52⟩:=Kd.R_form HO_11.out (by omega)
 (first|cases eo52|(injection eo52 with ea_ en_ ec_;(first|subst ea_|(injection ea_ with ea_;subst ea_));subst ec_;clear en_))
 have GB52:=Aside0.mk gb52
 have GG52:=Aside0.mk HG52
 clear gb52 gl52 HG52
 (first|simp only [add_plain] at hx294_0|skip)
 (first|simp only [add_plain] at hx295_0|skip)
 (first|simp only [add_plain] at hx296_0|skip)
 (first|simp only [add_plain] at hx297_0|skip)
 obtain ⟨hx52_0,hf52_0⟩:=Kd.R_celln 0 HO_11.out ((ji45):Int) p52 q52
 replace p52:=eq_true p52
 replace q52:=eq_true q52
 have HP54:=Kd.R_putn HO_11.out ((ji45):Int) (Int.tmod (wrap64 ((Int.tmod (wrap64 ((wrap64 ((rd x11_5 (ji45))*(rd x11_4 (ji40))))-(wrap64 ((rd x11_5 (ji48))*(rd x11_4 (ji37)))))) a0)+a0)) a0)
 rw [← Ny298.out] at HP54
 have HQ54:=Aside0.mk HP54
 clear HP54
 refine start_ (n:=35) (S:=fun w'=>w'.cell? ⟨go52,((ji45)).toNat,none⟩=some (.int .i64 (rd x11_5 (ji45)))∧w'.cell? ⟨go52,((ji48)).toNat,none⟩=some (.int .i64 (rd x11_5 (ji48)))) (ds:=[34]) #[F_,F_,F_,F_,F_,F_,F_,F_,F_,F_,F_,F_,F_,F_,F_,F_,F_,F_,F_,F_,F_,F_,F_,F_,F_,F_,F_,F_,F_,F_,F_,F_,F_,F_,F_] krT_ rfl rfl ⟨hx296_0,hx297_0⟩ (fun hHeld=>?_);refine with_tabW spec_l4Rank.tab25 spec_l4Rank.bits25 (fun HT_ HW_=>?_)
 generalize wr.drew=w53 at HO_11 HB GG52 HQ54 hf52_0 hx296_0 hx297_0 hx52_0 hHeld ⊢
 refine pu_ 0 (some 117) (bm_ 35 1) rfl rfl HT_.out ?_
 refine pu_ 1 (some 118) (bm_ 35 3) rfl rfl HT_.out ?_
 refine pu_ 2 (some 119) (bm_ 35 7) rfl rfl HT_.out ?_
 refine pu_ 3 (some 120) (bm_ 35 15) rfl rfl HT_.out ?_
 refine pu_ 4 (some 121) (bm_ 35 31) rfl rfl HT_.out ?_
 refine pu_ 5 (some 122) (bm_ 35 63) rfl rfl HT_.out ?_
 refine pu_ 6 (some 123) (bm_ 35 127) rfl rfl HT_.out ?_
 refine pu_ 7 (some 124) (bm_ 35 255) rfl rfl HT_.out ?_
 refine pu_ 8 (some 125) (bm_ 35 511) rfl rfl HT_.out ?_
 refine pu_ 9 (some 126) (bm_ 35 1023) rfl rfl HT_.out ?_
 refine pu_ 10 (some 127) (bm_ 35 2047) rfl rfl HT_.out ?_
 refine pu_ 11 (some 128) (bm_ 35 4095) rfl rfl HT_.out ?_
 refine pu_ 12 (some 129) (bm_ 35 8191) rfl rfl HT_.out ?_
 refine pu_ 14 (some 131) (bm_ 35 24575) rfl rfl HT_.out ?_
 refine pu_ 16 (some 133) (bm_ 35 90111) rfl rfl HT_.out ?_
 refine pu_ 17 (some 134) (bm_ 35 221183) rfl rfl HT_.out ?_
 refine pu_ 18 (some 135) (bm_ 35 483327) rfl rfl HT_.out ?_
 refine pu_ 19 (some 136) (bm_ 35 1007615) rfl rfl HT_.out ?_
 refine pu_ 20 (some 137) (bm_ 35 2056191) rfl rfl HT_.out ?_
 refine pu_ 21 (some 138) (bm_ 35 4153343) rfl rfl HT_.out ?_
 refine pu_ 22 (some 139) (bm_ 35 8347647) rfl rfl HT_.out ?_
 refine pu_ 24 (some 141) (bm_ 35 25124863) rfl rfl HT_.out ?_
 refine pu_ 27 (some 144) (bm_ 35 159342591) rfl rfl HT_.out ?_
 refine pu_ 29 (some 146) (bm_ 35 696213503) rfl rfl HT_.out ?_
 refine pu_ 31 (some 148) (bm_ 35 2843697151) rfl rfl HT_.out ?_
 refine take_ (i:=13) (N:=some 130) (v:=?_) (a':=?_) (bm_ 35 2843705343) rfl rfl (take_ofW HT_.out HW_.out krT_) (fun _ _ _ h=>h) (Or.inl ⟨by rfl,?_⟩) hHeld ?_ ?_
 rotate_left
 ·rintro w' ⟨s0,s1⟩
  go_simp
  with_reducible rfl
 rotate_left;exact apT_
 refine pu_ 15 (some 132) (bm_ 35 2843738111) rfl rfl HT_.out ?_
 refine take_ (i:=23) (N:=some 140) (v:=?_) (a':=?_) (bm_ 35 2852126719) rfl rfl (take_ofW HT_.out HW_.out krT_) (fun _ _ _ h=>h) (Or.inl ⟨by rfl,?_⟩) hHeld ?_ ?_
 rotate_left
 ·rintro w' ⟨s0,s1⟩
  go_simp
  with_reducible rfl
 rotate_left;exact apT_
 refine pu_ 25 (some 142) (bm_ 35 2885681151) rfl rfl HT_.out ?_
 refine pu_ 26 (some 143) (bm_ 35 2952790015) rfl rfl HT_.out ?_
 refine pu_ 28 (some 145) (bm_ 35 3221225471) rfl rfl HT_.out ?_
 refine pu_ 30 (some 147) (bm_ 35 4294967295) rfl rfl HT_.out ?_
 refine pu_ 32 (some 149) (bm_ 35 8589934591) rfl rfl HT_.out ?_
 refine pu_ 33 (some 150) (bm_ 35 17179869183) rfl rfl HT_.out ?_
 refine last_ (i:=34) (N:=none) (bm_ 35 34359738367) rfl rfl (one_of HT_.out krT_) (by decide) (fun K hK=>?_)
 refine skip_ (w1:=?_) (by rfl) rfl ?_ ?_
 rotate_left
 ·go_simp
  rfl
 refine hK.out _ _ ?_
 clear hK K
 refine done_ (done_of HT_.out krT_) ?_
 try go_wp2
 (try simp only [← hl11_5])
 (try simp only [← add_plain go52 (ji37).toNat,← add_plain go52 (ji40).toNat])
 go_roundg k5
 case measure=>have:=HK1.out;have:=HJ12.out;have:=HK3.out;have:=HK4.out;have:=HK5.out;omega
 case rel=>exact ⟨(y298),(wrap64 (x20_5+1)),sT_,H',⟨by have:=HK1.out;have:=HJ12.out;have:=HK3.out;have:=HK4.out;have:=HK5.out;omega⟩,⟨by (try simp only [hl11_5]);(with_reducible repeat (first|apply Kd.R_alloc|apply Kd.R_drewN|apply Kd.R_drew));exact HQ54.out⟩,⟨h_HB HB.out⟩⟩
end Go.Proofs.YtekegbacnagbcaaGreat.P
