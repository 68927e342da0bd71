-- written by gprint (a program of this session's, round the kit's print), out of the translation and hand-written texts
import Derived.Test.YtekegbacnagbcaaPVFnRanksx0
import Derived.Test.YtekegbacnagbcaaPVFnRanksx3
import Derived.Test.YtekegbacnagbcaaPVFnRanksx4
namespace Go.Proofs.Ytekegbacnagbcaa.P
open Go.RowKit Go.Proofs.YtekegbacnagbcaaW.PrintWords Go.Proofs.YtekegbacnagbcaaW.PrintLast Go.Proofs.YtekegbacnagbcaaW.PrintMore
attribute [local go_sem] max2_int min2_int max_two min_two max_three min_three max_four min_four   -- for this text's walks alone
set_option linter.unusedVariables false
set_option linter.unusedSimpArgs false
/-! ### spec_ElementsOf: function 99 -/
def spec_ElementsOf.l0:Nat→Int→List Int→Int→Option (List Int)
 | 0,_,_,_=>none
 | k+1,x0,x3,x4=>if x4<8 then ((spec_HasElement.f x0 x4).bind fun t234=>(if t234=true then (if x3.length<17592186044416 then (spec_ElementsOf.l0 k x0 (x3++[x4]) (wrap64 (x4+1))) else (none)) else (spec_ElementsOf.l0 k x0 x3 (wrap64 (x4+1))))) else (some x3)
def spec_ElementsOf.f (k:Nat) (a0:Int):Option (List Int):=spec_ElementsOf.l0 k a0 (([]:List Int)) 0
set_option maxHeartbeats 8000000 in
set_option maxRecDepth 100000 in
theorem spec_ElementsOf.calls (k:Nat) (a0:Int) (r:List Int) (w:World) (h:spec_ElementsOf.f k a0=some r) :
    Calls Try.prog 99 #[.int .i64 a0] w fun e w'=>∃ v0_:Value,e=.returned (v0_)∧Kd.R (Kd.int .i64) 3 w' w.heap.size (fun _=>True) v0_ r∧Below w.heap.size w w':=by
 have HB:=Aside0.mk (Below.refl w.heap.size w)
 have H:(spec_ElementsOf.l0 k a0 (([]:List Int)) 0)=some r:=h
 clear h
 obtain ⟨y231,hy231⟩:∃ y_:List Int,y_=(([]:List Int)):=⟨_,rfl⟩
 replace H:(spec_ElementsOf.l0 k a0 y231 0)=some r:=by first|(rw [hy231];with_reducible exact H)|(have H2_:=(Option.bind_some _ _).symm.trans H;rw [hy231];with_reducible exact H2_)|(have H2_:=(Option.bind_some _ _).symm.trans H;with_reducible exact H2_)|with_reducible exact H|(rw [hy231];exact H)|exact H
 have Ny231:=Aside0.mk hy231
 clear hy231
 have H':=Aside0.mk H
 clear H
 go_enter Try.func99,Try.ntmps99
 go_wp2_with (first|((with_reducible refine gate_dst (N:=5) rfl ?_);refine Kd.R_lit (Kd.int .i64) _ 3 ?hg (N:=5) ?hd (xs:=([]:List Int)) (inner:=[]) (ok:=fun _=>True) (okp:=fun _=>True) ?hr ?hp (fun _ hk=>hk) trivial (Below.refl _ _) (Nat.le_refl _) (by simp) ?_;(case hd=>rfl);(case hg=>rfl);(case hr=>exact hrT_);(case hp=>exact (Reps.none _ _));intro v232 w2 ho3 hb hg_ hnew_;clear hg_ hnew_;(first|rw [← Ny231.out] at ho3|(simp only [Int.reduceToNat] at ho3;rw [← Ny231.out] at ho3));have HO233:=Aside0.mk (Kd.R_lower ho3 (below_size (h_HB HB.out)));replace HB:=Aside0.mk (below_step (h_HB HB.out) hb);clear hb ho3))
 go_loopg [3,4] k (fun kq v3 v4 w'=>∃ (x3_1:List Int) (x4_1:Int),v4=.int .i64 x4_1∧Aside0 (spec_ElementsOf.l0 kq a0 x3_1 x4_1=some r)∧Aside0 (kq≤k)∧Aside0 (Kd.R (Kd.int .i64) 3 w' w.heap.size (fun _=>True) v3 x3_1)∧Aside0 (Below w.heap.size w w'))
 case atStart=>exact ⟨(y231),(0),sT_,H',⟨Nat.le_refl _⟩,⟨kRC_ HO233.out⟩,⟨h_HB HB.out⟩⟩
 case round =>
 clear H'
 try clear p2
 obtain ⟨x3_1,x4_1,rfl,HA,HK1,HO_3,HB⟩:=hrel
 cases gk with
 | zero=>exact absurd HA.out (by simp [spec_ElementsOf.l0])
 | succ k1 =>
 have H:=HA.out
 clear HA
 simp only [spec_ElementsOf.l0] at H
 rcases gsn_ H with ⟨c4b0,H⟩|⟨c4b0,H⟩
 ·obtain rfl:=Option.some.inj H
  go_wp2
  go_ret
  exact ⟨_,eT_,kRC_ HO_3.out,h_HB HB.out⟩
 replace H:=bnd_ H;obtain ⟨t234,A5,H⟩:=H
 by_cases c6:t234=true
 ·subst c6
  replace H:=bT_ H
  by_cases c7:x3_1.length<17592186044416
  ·rw [if_pos c7] at H
   have LMc7:=Aside0.mk c7
   clear c7
   obtain ⟨y235,hy235⟩:∃ y_:List Int,y_=(x3_1++[x4_1]):=⟨_,rfl⟩
   replace H:(spec_ElementsOf.l0 k1 a0 y235 (wrap64 (x4_1+1)))=some r:=by first|(rw [hy235];with_reducible exact H)|(have H2_:=(Option.bind_some _ _).symm.trans H;rw [hy235];with_reducible exact H2_)|(have H2_:=(Option.bind_some _ _).symm.trans H;with_reducible exact H2_)|with_reducible exact H|(rw [hy235];exact H)|exact H
   have Ny235:=Aside0.mk hy235
   clear hy235
   have H':=Aside0.mk H
   clear H
   go_wp2_with (first|((with_reducible refine gate_callee (f:=100) rfl ?_);refine goesL_ (some 12) rfl rfl Try.func100 krT_ rfl #[.int .i64 a0,.int .i64 x4_1] rfl agT_ ?_;(with_reducible refine (spec_HasElement.calls a0 x4_1 true _ A5.out).mono ?_);rintro e w' ⟨rfl,⟨nd,rfl⟩⟩;refine ⟨_,rfl,?_⟩)|((with_reducible refine gate_builtin (b:=.append) (xs:=#[.tmp 13,.tmp 15]) rfl ?_);at_builtin;refine Kd.R_append (Kd.int .i64) (w0:=w) w.heap.size rfl (.tmp 13) (.tmp 15) 24 3 (.int .i64 0) 8 rfl Try.underlying24 info3 rfl (by decide) (by omega) u3 x3_1 x4_1 [.int .i64 x4_1] (fun _=>True) (fun _=>False) rfl rfl ?aP (fun _ hk=>hk.elim) ?aF ?aO ?aB ?aS ?aL ?_;(case aP=>exact rfl);(case aB=>exact (h_HB HB.out));(case aF=>exact (fun _ _=>trivial));(case aO=>exact (kRC_ HO_3.out));(case aS=>exact (below_size (h_HB HB.out)));(case aL=>have:=LMc7.out;omega);intro v236 w8 ho hb hg hat;rw [← Ny235.out] at ho;replace HB:=Aside0.mk (hb);have HO237:=Aside0.mk (ho);clear HO_3;clear ho hb hg hat))
   go_roundg k1
   case measure=>have:=HK1.out;omega
   case rel=>exact ⟨(y235),(wrap64 (x4_1+1)),sT_,H',⟨by have:=HK1.out;omega⟩,⟨kRC_ HO237.out⟩,⟨h_HB HB.out⟩⟩
  ·rw [if_neg c7] at H
   exact absurd H (by simp)
 ·replace c6:=Bool.eq_false_iff.mpr c6
  subst c6
  replace H:=bF_ H
  have H':=Aside0.mk H
  clear H
  go_wp2_with (first|((with_reducible refine gate_callee (f:=100) rfl ?_);refine goesL_ (some 12) rfl rfl Try.func100 krT_ rfl #[.int .i64 a0,.int .i64 x4_1] rfl agT_ ?_;(with_reducible refine (spec_HasElement.calls a0 x4_1 false _ A5.out).mono ?_);rintro e w' ⟨rfl,⟨nd,rfl⟩⟩;refine ⟨_,rfl,?_⟩))
  go_roundg k1
  case measure=>have:=HK1.out;omega
  case rel=>exact ⟨(x3_1),(wrap64 (x4_1+1)),sT_,H',⟨by have:=HK1.out;omega⟩,⟨kRC_ HO_3.out⟩,⟨h_HB HB.out⟩⟩
/-! ### spec_SetText: function 96 -/
def spec_SetText.l0:Nat→ByteArray→List Int→Int→Option (ByteArray)
 | 0,_,_,_=>none
 | k+1,x3,x4,x5=>if x5<(x4.length:Int) then (if 0≤x5 then (if 0≤(rd x4 x5) then (if (rd x4 x5)≤(wrap64 ((rd x4 x5)+1)) then (if (wrap64 ((rd x4 x5)+1))≤8 then (if x3.size+((⟨#[97,98,99,100,101,102,103,104]⟩:ByteArray).extract ((rd x4 x5):Int).toNat ((wrap64 ((rd x4 x5)+1)):Int).toNat).size≤9223372036854775807 then (spec_SetText.l0 k (x3++((⟨#[97,98,99,100,101,102,103,104]⟩:ByteArray).extract ((rd x4 x5):Int).toNat ((wrap64 ((rd x4 x5)+1)):Int).toNat)) x4 (wrap64 (x5+1))) else (none)) else (none)) else (none)) else (none)) else (none)) else (some x3)
def spec_SetText.f (k:Nat) (a0:Int):Option (ByteArray):=(spec_IsSet.f 8 a0).bind fun t238=>(if t238=true then (if a0=0 then (some (⟨#[45]⟩:ByteArray)) else ((spec_ElementsOf.f k a0).bind fun t239=>(spec_SetText.l0 k (⟨#[]⟩:ByteArray) t239 0))) else (some (⟨#[]⟩:ByteArray)))
set_option maxHeartbeats 8000000 in
set_option maxRecDepth 100000 in
theorem spec_SetText.calls (k:Nat) (a0:Int) (r:ByteArray) (w:World) (h:spec_SetText.f k a0=some r) :
    Calls Try.prog 96 #[.int .i64 a0] w fun e w'=>e=.returned (.string r)∧Below w.heap.size w w':=by
 have HB:=Aside0.mk (Below.refl w.heap.size w)
 unfold spec_SetText.f at h
 have H:=h
 clear h
 replace H:=bnd_ H;obtain ⟨t238,A2,H⟩:=H
 by_cases c3:t238=true
 rotate_left
 ·replace c3:=Bool.eq_false_iff.mpr c3
  subst c3
  replace H:=bF_ H
  obtain rfl:=Option.some.inj H
  go_enter Try.func96,Try.ntmps96
  go_wp2_with (first|(go_at_call 41;(with_reducible refine (spec_IsSet.calls 8 a0 false _ A2.out).mono ?_);rintro e w' ⟨rfl,⟨nd,rfl⟩⟩;(try first|exact ⟨rfl,_,World.drewN_drewN _ _ _⟩|exact ⟨rfl,_,Eq.trans (World.drewN_drewN _ _ _) (congrArg (World.drewN _) (Nat.add_assoc _ _ _))⟩)))
  repeat (go_quiet (first|(go_at_call 41;(with_reducible refine (spec_IsSet.calls 8 a0 false _ A2.out).mono ?_);rintro e w' ⟨rfl,⟨nd,rfl⟩⟩;(try first|exact ⟨rfl,_,World.drewN_drewN _ _ _⟩|exact ⟨rfl,_,Eq.trans (World.drewN_drewN _ _ _) (congrArg (World.drewN _) (Nat.add_assoc _ _ _))⟩)));try go_wp2_with (first|(go_at_call 41;(with_reducible refine (spec_IsSet.calls 8 a0 false _ A2.out).mono ?_);rintro e w' ⟨rfl,⟨nd,rfl⟩⟩;(try first|exact ⟨rfl,_,World.drewN_drewN _ _ _⟩|exact ⟨rfl,_,Eq.trans (World.drewN_drewN _ _ _) (congrArg (World.drewN _) (Nat.add_assoc _ _ _))⟩))))
  go_ret
  exact ⟨eT_,h_HB HB.out⟩
 subst c3
 replace H:=bT_ H
 by_cases c4:a0=0
 ·rw [if_pos c4] at H
  have c4b0:(a0==0)=true:=beq_iff_eq.mpr c4
  have c4b1:(a0 != 0)=false:=bne_eq_false_iff_eq.mpr c4
  clear c4
  obtain rfl:=Option.some.inj H
  go_enter Try.func96,Try.ntmps96
  go_wp2_with (first|(go_at_call 41;(with_reducible refine (spec_IsSet.calls 8 a0 true _ A2.out).mono ?_);rintro e w' ⟨rfl,⟨nd,rfl⟩⟩;(try first|exact ⟨rfl,_,World.drewN_drewN _ _ _⟩|exact ⟨rfl,_,Eq.trans (World.drewN_drewN _ _ _) (congrArg (World.drewN _) (Nat.add_assoc _ _ _))⟩)))
  repeat (go_quiet (first|(go_at_call 41;(with_reducible refine (spec_IsSet.calls 8 a0 true _ A2.out).mono ?_);rintro e w' ⟨rfl,⟨nd,rfl⟩⟩;(try first|exact ⟨rfl,_,World.drewN_drewN _ _ _⟩|exact ⟨rfl,_,Eq.trans (World.drewN_drewN _ _ _) (congrArg (World.drewN _) (Nat.add_assoc _ _ _))⟩)));try go_wp2_with (first|(go_at_call 41;(with_reducible refine (spec_IsSet.calls 8 a0 true _ A2.out).mono ?_);rintro e w' ⟨rfl,⟨nd,rfl⟩⟩;(try first|exact ⟨rfl,_,World.drewN_drewN _ _ _⟩|exact ⟨rfl,_,Eq.trans (World.drewN_drewN _ _ _) (congrArg (World.drewN _) (Nat.add_assoc _ _ _))⟩))))
  go_ret
  exact ⟨eT_,h_HB HB.out⟩
 rw [if_neg c4] at H
 have c4b0:(a0==0)=false:=beq_eq_false_iff_ne.mpr c4
 have c4b1:(a0 != 0)=true:=bne_iff_ne.mpr c4
 replace H:=bnd_ H;obtain ⟨t239,A5,H⟩:=H
 have H':=Aside0.mk H
 clear H
 go_enter Try.func96,Try.ntmps96
 go_wp2_with (first|(go_at_call 41;(with_reducible refine (spec_IsSet.calls 8 a0 true _ A2.out).mono ?_);rintro e w' ⟨rfl,⟨nd,rfl⟩⟩;(try first|exact ⟨rfl,_,World.drewN_drewN _ _ _⟩|exact ⟨rfl,_,Eq.trans (World.drewN_drewN _ _ _) (congrArg (World.drewN _) (Nat.add_assoc _ _ _))⟩))|(go_at_call 99;(with_reducible refine (spec_ElementsOf.calls k a0 t239 _ A5.out).mono ?_);rintro e w6 ⟨v240,rfl,ho0,hb⟩;have HO241:=Aside0.mk (Kd.R_lower ho0 (below_size (h_HB HB.out)));replace HB:=Aside0.mk (below_step (h_HB HB.out) hb);(try clear hb);(try clear hb2);(try clear hk);(try clear hi);(try clear ho0)))
 repeat (go_quiet (first|(go_at_call 41;(with_reducible refine (spec_IsSet.calls 8 a0 true _ A2.out).mono ?_);rintro e w' ⟨rfl,⟨nd,rfl⟩⟩;(try first|exact ⟨rfl,_,World.drewN_drewN _ _ _⟩|exact ⟨rfl,_,Eq.trans (World.drewN_drewN _ _ _) (congrArg (World.drewN _) (Nat.add_assoc _ _ _))⟩))|(go_at_call 99;(with_reducible refine (spec_ElementsOf.calls k a0 t239 _ A5.out).mono ?_);rintro e w6 ⟨v240,rfl,ho0,hb⟩;have HO241:=Aside0.mk (Kd.R_lower ho0 (below_size (h_HB HB.out)));replace HB:=Aside0.mk (below_step (h_HB HB.out) hb);(try clear hb);(try clear hb2);(try clear hk);(try clear hi);(try clear ho0)));try go_wp2_with (first|(go_at_call 41;(with_reducible refine (spec_IsSet.calls 8 a0 true _ A2.out).mono ?_);rintro e w' ⟨rfl,⟨nd,rfl⟩⟩;(try first|exact ⟨rfl,_,World.drewN_drewN _ _ _⟩|exact ⟨rfl,_,Eq.trans (World.drewN_drewN _ _ _) (congrArg (World.drewN _) (Nat.add_assoc _ _ _))⟩))|(go_at_call 99;(with_reducible refine (spec_ElementsOf.calls k a0 t239 _ A5.out).mono ?_);rintro e w6 ⟨v240,rfl,ho0,hb⟩;have HO241:=Aside0.mk (Kd.R_lower ho0 (below_size (h_HB HB.out)));replace HB:=Aside0.mk (below_step (h_HB HB.out) hb);(try clear hb);(try clear hb2);(try clear hk);(try clear hi);(try clear ho0))))
 go_loopg [3,5] k (fun kq v3 v5 w'=>∃ (x3_1:ByteArray) (x5_1:Int),v3=.string x3_1∧v5=.int .i64 x5_1∧Aside0 (spec_SetText.l0 kq x3_1 t239 x5_1=some r)∧Aside0 (kq≤k)∧Aside0 (Kd.R (Kd.int .i64) 3 w' w.heap.size (fun _=>True) v240 t239)∧Aside0 (Below w.heap.size w w'))
 case atStart=>exact ⟨((⟨#[]⟩:ByteArray)),(0),sT_,sT_,H',⟨Nat.le_refl _⟩,⟨kRC_ HO241.out⟩,⟨h_HB HB.out⟩⟩
 case round =>
 clear H'
 try clear p2
 try clear c3
 try clear c4
 try clear c4b0
 try clear c4b1
 obtain ⟨x3_1,x5_1,rfl,rfl,HA,HK1,HO_4,HB⟩:=hrel
 cases gk with
 | zero=>exact absurd HA.out (by simp [spec_SetText.l0])
 | succ k1 =>
 have H:=HA.out
 clear HA
 simp only [spec_SetText.l0] at H
 rcases gsn_ H with ⟨c7b0,H⟩|⟨c7b0,H⟩
 ·obtain rfl:=Option.some.inj H
  obtain ⟨Ao14,co14,eo14⟩:=Kd.R_slice HO_4.out
  subst eo14
  go_wp2
  repeat (go_quiet (fail);try go_wp2)
  go_ret
  exact ⟨eT_,h_HB HB.out⟩
 replace H:=gsm_ H;obtain ⟨c8b0,H⟩:=H
 by_cases c9:0≤(rd t239 x5_1)
 rotate_left
 ·rw [if_neg c9] at H
  exact absurd H (by simp)
 rw [if_pos c9] at H
 have c9b0:=eq_true c9
 have c9b1:decide (0≤(rd t239 x5_1))=true:=decide_eq_true c9
 clear c9
 by_cases c10:(rd t239 x5_1)≤(wrap64 ((rd t239 x5_1)+1))
 rotate_left
 ·rw [if_neg c10] at H
  exact absurd H (by simp)
 rw [if_pos c10] at H
 have c10b0:=eq_true c10
 have c10b1:decide ((rd t239 x5_1)≤(wrap64 ((rd t239 x5_1)+1)))=true:=decide_eq_true c10
 by_cases c11:(wrap64 ((rd t239 x5_1)+1))≤8
 rotate_left
 ·rw [if_neg c11] at H
  exact absurd H (by simp)
 rw [if_pos c11] at H
 have c11b0:=eq_true c11
 have c11b1:decide ((wrap64 ((rd t239 x5_1)+1))≤8)=true:=decide_eq_true c11
 by_cases c12:x3_1.size+((⟨#[97,98,99,100,101,102,103,104]⟩:ByteArray).extract ((rd t239 x5_1):Int).toNat ((wrap64 ((rd t239 x5_1)+1)):Int).toNat).size≤9223372036854775807
 rotate_left
 ·rw [if_neg c12] at H
  exact absurd H (by simp)
 rw [if_pos c12] at H
 have c12b0:=eq_true c12
 have c12b1:decide (x3_1.size+((⟨#[97,98,99,100,101,102,103,104]⟩:ByteArray).extract ((rd t239 x5_1):Int).toNat ((wrap64 ((rd t239 x5_1)+1)):Int).toNat).size≤9223372036854775807)=true:=decide_eq_true c12
 try have c12b2:(9223372036854775807<x3_1.size+((⟨#[97,98,99,100,101,102,103,104]⟩:ByteArray).extract ((rd t239 x5_1):Int).toNat ((wrap64 ((rd t239 x5_1)+1)):Int).toNat).size)=False:=eq_false (Nat.not_lt.2 c12)
 have H':=Aside0.mk H
 clear H
 obtain ⟨Ao13,co13,eo13⟩:=Kd.R_slice HO_4.out
 subst eo13
 obtain ⟨ad242,e242,hx242_0,p242,q242⟩:=aiI_ (Kd.R_reads' HO_4.out).2.2 x5_1
 cases e242
 obtain ⟨ad243,e243,hx243_0,p243,q243⟩:=aiI_ (Kd.R_reads' HO_4.out).2.2 x5_1
 obtain rfl:ad242=ad243:=(by injection e243)
 go_wp2
 repeat (go_quiet (fail);try go_wp2)
 go_roundg k1
 case measure=>have:=HK1.out;omega
 case rel=>exact ⟨(x3_1++((⟨#[97,98,99,100,101,102,103,104]⟩:ByteArray).extract ((rd t239 x5_1):Int).toNat ((wrap64 ((rd t239 x5_1)+1)):Int).toNat)),(wrap64 (x5_1+1)),sT_,sT_,H',⟨by have:=HK1.out;omega⟩,⟨kRC_ HO_4.out⟩,⟨h_HB HB.out⟩⟩
/-! ### spec_ParseSet: function 92 -/
mutual
def spec_ParseSet.l0:Nat→ByteArray→Int→Int→Option (Int × Bool)
 | 0,_,_,_=>none
 | k+1,x0,x4,x5=>if x5<(x0.size:Int) then (spec_ParseSet.j1 k x0 x4 x5 (x0.toList != ([45]:List UInt8))) else (spec_ParseSet.j1 k x0 x4 x5 false)
def spec_ParseSet.j1:Nat→ByteArray→Int→Int→Bool→Option (Int × Bool)
 | 0,_,_,_,_=>none
 | k+1,x0,x4,x5,x13=>if x13=true then (if 0≤x5 then (if x5<(x0.size:Int) then (if (bt x0 x5)<97 then (some (0,false)) else (if (bt x0 x5)>104 then (some (0,false)) else ((spec_WithElement.f x4 (((bt x0 x5)-97) % 256)).bind fun t244=>(spec_ParseSet.l0 k x0 t244 (wrap64 (x5+1)))))) else (none)) else (none)) else ((spec_SetText.f k x4).bind fun t245=>(if t245.toList=x0.toList then (some (x4,true)) else (some (0,false))))
end
def spec_ParseSet.f (k:Nat) (a0:ByteArray):Option (Int × Bool):=spec_ParseSet.l0 k a0 0 0
set_option maxHeartbeats 8000000 in
set_option maxRecDepth 100000 in
theorem spec_ParseSet.calls (k:Nat) (a0:ByteArray) (r1:Int) (r2:Bool) (w:World) (h:spec_ParseSet.f k a0=some (r1,r2)) :
    Calls Try.prog 92 #[.string a0] w fun e w'=>e=.returned (.tuple #[.int .i64 r1,.bool r2])∧Below w.heap.size w w':=by
 have HB:=Aside0.mk (Below.refl w.heap.size w)
 have H:(spec_ParseSet.l0 k a0 0 0)=some (r1,r2):=h
 clear h
 have H':=Aside0.mk H
 clear H
 go_enter Try.func92,Try.ntmps92
 go_wp2
 go_loopg [4,5] k (fun kq v4 v5 w'=>∃ (x4_1:Int) (x5_1:Int),v4=.int .i64 x4_1∧v5=.int .i64 x5_1∧Aside0 (spec_ParseSet.l0 kq a0 x4_1 x5_1=some (r1,r2))∧Aside0 (kq≤k)∧Aside0 (Below w.heap.size w w'))
 case atStart=>exact ⟨(0),(0),sT_,sT_,H',⟨Nat.le_refl _⟩,⟨h_HB HB.out⟩⟩
 case round =>
 clear H'
 obtain ⟨x4_1,x5_1,rfl,rfl,HA,HK1,HB⟩:=hrel
 cases gk with
 | zero=>exact absurd HA.out (by simp [spec_ParseSet.l0])
 | succ k1 =>
 have H:=HA.out
 clear HA
 simp only [spec_ParseSet.l0] at H
 have HC2:=Aside0.mk H
 clear H
 go_upto_region 3 with (fail)
 go_cut [13] (fun v13 wc=>∃ (kq:Nat) (x13_1:Bool),v13=.bool x13_1∧Aside0 (spec_ParseSet.j1 kq a0 x4_1 x5_1 x13_1=some (r1,r2))∧Aside0 (kq≤k1)∧Aside0 (Below w.heap.size w wc))
 case first =>
  have H:=HC2.out
  clear HC2
  rcases gsb_ H with ⟨c3b0,H⟩|⟨c3b0,H⟩
  ·(first|rw [c3b0]|(simp only [i64_w,i32_w];rw [c3b0])|skip)
   have H':=Aside0.mk H
   clear H
   go_wp2
   go_meet
   case rel=>exact ⟨_,((a0.toList != ([45]:List UInt8))),sT_,H',⟨by have:=HK1.out;first|omega|exact Nat.le_refl _⟩,⟨h_HB HB.out⟩⟩
  (first|rw [c3b0]|(simp only [i64_w,i32_w];rw [c3b0])|skip)
  have H':=Aside0.mk H
  clear H
  go_wp2
  go_meet
  case rel=>exact ⟨_,(false),sT_,H',⟨by have:=HK1.out;first|omega|exact Nat.le_refl _⟩,⟨h_HB HB.out⟩⟩
 case rest =>
 clear HC2
 try clear p2
 try clear c3
 try clear c3b0
 obtain ⟨kq,x13_1,rfl,HA,HJ1,HB⟩:=hcut
 cases kq with
 | zero=>exact absurd HA.out (by simp [spec_ParseSet.j1])
 | succ kj1 =>
 have H:=HA.out
 clear HA
 simp only [spec_ParseSet.j1] at H
 by_cases c4:x13_1=true
 rotate_left
 ·replace c4:=Bool.eq_false_iff.mpr c4
  subst c4
  replace H:=bF_ H
  replace H:=bnd_ H;obtain ⟨t245,A13,H⟩:=H
  by_cases c14:t245.toList=a0.toList
  ·rw [if_pos c14] at H
   have c14b0:(t245.toList==a0.toList)=true:=beq_iff_eq.mpr c14
   have c14b1:(t245.toList != a0.toList)=false:=bne_eq_false_iff_eq.mpr c14
   clear c14
   simp only [Option.some.injEq,Prod.mk.injEq] at H
   obtain ⟨rfl,rfl⟩:=H
   go_wp2_with (first|((with_reducible refine gate_callee (f:=96) rfl ?_);refine goesL_ (some 34) rfl rfl Try.func96 krT_ rfl #[.int .i64 x4_1] rfl agT_ ?_;(with_reducible refine (spec_SetText.calls kj1 x4_1 t245 _ A13.out).mono ?_);rintro e w15 ⟨rfl,hb⟩;refine ⟨_,rfl,?_⟩;replace HB:=Aside0.mk (below_step (h_HB HB.out) hb);(try clear hb)))
   go_ret2
   exact ⟨eT_,h_HB HB.out⟩
  ·rw [if_neg c14] at H
   have c14b0:(t245.toList==a0.toList)=false:=beq_eq_false_iff_ne.mpr c14
   have c14b1:(t245.toList != a0.toList)=true:=bne_iff_ne.mpr c14
   simp only [Option.some.injEq,Prod.mk.injEq] at H
   obtain ⟨rfl,rfl⟩:=H
   go_wp2_with (first|((with_reducible refine gate_callee (f:=96) rfl ?_);refine goesL_ (some 34) rfl rfl Try.func96 krT_ rfl #[.int .i64 x4_1] rfl agT_ ?_;(with_reducible refine (spec_SetText.calls kj1 x4_1 t245 _ A13.out).mono ?_);rintro e w16 ⟨rfl,hb⟩;refine ⟨_,rfl,?_⟩;replace HB:=Aside0.mk (below_step (h_HB HB.out) hb);(try clear hb)))
   go_ret2
   exact ⟨eT_,h_HB HB.out⟩
 subst c4
 replace H:=bT_ H
 replace H:=gsm_ H;obtain ⟨c5b0,H⟩:=H
 replace H:=gsm_ H;obtain ⟨c6b0,H⟩:=H
 rcases gsb_ H with ⟨c8b0,H⟩|⟨c8b0,H⟩
 ·simp only [Option.some.injEq,Prod.mk.injEq] at H
  obtain ⟨rfl,rfl⟩:=H
  have p7:0≤(x5_1:Int):=odT_
  have q7:x5_1<(a0.size:Int):=odT_
  have hx7:=bt_at a0 x5_1
  replace p7:=eq_true p7
  replace q7:=eq_true q7
  go_wp2
  go_ret2
  exact ⟨eT_,h_HB HB.out⟩
 by_cases c10:(bt a0 x5_1)>104
 ·rw [if_pos c10] at H
  have c10b0:decide (104<(bt a0 x5_1))=true:=decide_eq_true c10
  clear c10
  simp only [Option.some.injEq,Prod.mk.injEq] at H
  obtain ⟨rfl,rfl⟩:=H
  have p7:0≤(x5_1:Int):=odT_
  have q7:x5_1<(a0.size:Int):=odT_
  have hx7:=bt_at a0 x5_1
  replace p7:=eq_true p7
  replace q7:=eq_true q7
  have p9:0≤(x5_1:Int):=odT_
  have q9:x5_1<(a0.size:Int):=odT_
  have hx9:=bt_at a0 x5_1
  replace p9:=eq_true p9
  replace q9:=eq_true q9
  go_wp2
  go_ret2
  exact ⟨eT_,h_HB HB.out⟩
 rw [if_neg c10] at H
 have c10b0:decide (104<(bt a0 x5_1))=false:=decide_eq_false c10
 clear c10
 replace H:=bnd_ H;obtain ⟨t244,A12,H⟩:=H
 have H':=Aside0.mk H
 clear H
 have p7:0≤(x5_1:Int):=odT_
 have q7:x5_1<(a0.size:Int):=odT_
 have hx7:=bt_at a0 x5_1
 replace p7:=eq_true p7
 replace q7:=eq_true q7
 have p9:0≤(x5_1:Int):=odT_
 have q9:x5_1<(a0.size:Int):=odT_
 have hx9:=bt_at a0 x5_1
 replace p9:=eq_true p9
 replace q9:=eq_true q9
 have p11:0≤(x5_1:Int):=odT_
 have q11:x5_1<(a0.size:Int):=odT_
 have hx11:=bt_at a0 x5_1
 replace p11:=eq_true p11
 replace q11:=eq_true q11
 go_wp2_with (first|((with_reducible refine gate_callee (f:=95) rfl ?_);refine goesL_ (some 32) rfl rfl Try.func95 krT_ rfl #[.int .i64 x4_1,.int .i64 (((bt a0 x5_1)-97) % 256)] rfl agT_ ?_;(with_reducible refine (spec_WithElement.calls x4_1 (((bt a0 x5_1)-97) % 256) t244 _ A12.out).mono ?_);rintro e w' ⟨rfl,⟨nd,rfl⟩⟩;refine ⟨_,rfl,?_⟩))
 go_roundg kj1
 case measure=>have:=HK1.out;have:=HJ1.out;omega
 case rel=>exact ⟨(t244),(wrap64 (x5_1+1)),sT_,sT_,H',⟨by have:=HK1.out;have:=HJ1.out;omega⟩,⟨h_HB HB.out⟩⟩
/-! ### spec_l3Sets: function 97 -/
def spec_l3Sets.l0:Nat→Int→List Int→Int→Option (Bool)
 | 0,_,_,_=>none
 | k+1,x0,x1,x5=>if x5<(x1.length:Int) then (if 0≤x5 then ((spec_IsSet.f x0 (rd x1 x5)).bind fun t247=>(if t247=true then (spec_l3Sets.l0 k x0 x1 (wrap64 (x5+1))) else (some false))) else (none)) else (some true)
def spec_l3Sets.f (k:Nat) (a0:Int) (l1:List Int):Option (Bool):=spec_l3Sets.l0 k a0 l1 0
set_option maxHeartbeats 8000000 in
set_option maxRecDepth 100000 in
theorem spec_l3Sets.calls (k:Nat) (a0:Int) (A1:Option Addr) (c1:Nat) (l1:List Int) (r:Bool) (w:World) (hr1:Kd.C (Kd.int .i64) w A1 l1.length l1) (hc1:l1.length≤c1) (h:spec_l3Sets.f k a0 l1=some r) :
    Calls Try.prog 97 #[.int .i64 a0,.slice A1 l1.length c1] w fun e w'=>e=.returned (.bool r)∧Drawn0 w w':=by
 have HR1:=Aside0.mk hr1
 have HC1:=Aside0.mk hc1
 clear hr1 hc1
 have H:(spec_l3Sets.l0 k a0 l1 0)=some r:=h
 clear h
 have H':=Aside0.mk H
 clear H
 go_enter Try.func97,Try.ntmps97
 go_wp2
 go_loopg [5] k (fun kq v5 w'=>∃ (x5_1:Int),v5=.int .i64 x5_1∧Aside0 (spec_l3Sets.l0 kq a0 l1 x5_1=some r)∧Aside0 (kq≤k)∧Drawn0 w w')
 case atStart=>exact ⟨(0),sT_,H',⟨Nat.le_refl _⟩,dT_⟩
 case round =>
 clear H'
 try clear c1
 try clear p2
 obtain ⟨x5_1,rfl,HA,HK1,⟨m1,rfl⟩⟩:=hrel
 cases gk with
 | zero=>exact absurd HA.out (by simp [spec_l3Sets.l0])
 | succ k1 =>
 have H:=HA.out
 clear HA
 simp only [spec_l3Sets.l0] at H
 rcases gsn_ H with ⟨c3b0,H⟩|⟨c3b0,H⟩
 ·obtain rfl:=Option.some.inj H
  go_wp2
  go_ret
  exact ⟨sT_,dT_⟩
 replace H:=gsm_ H;obtain ⟨c4b0,H⟩:=H
 replace H:=bnd_ H;obtain ⟨t247,A5,H⟩:=H
 by_cases c6:t247=true
 ·subst c6
  replace H:=bT_ H
  have H':=Aside0.mk H
  clear H
  obtain ⟨ad246,e246,hx246_0,p246,q246⟩:=aiI_ HR1.out x5_1
  cases e246
  go_wp2_with (first|((with_reducible refine gate_callee (f:=41) rfl ?_);refine goesL_ (some 17) rfl rfl Try.func41 krT_ rfl #[.int .i64 a0,.int .i64 (rd l1 x5_1)] rfl agT_ ?_;(with_reducible refine (spec_IsSet.calls a0 (rd l1 x5_1) true _ A5.out).mono ?_);rintro e w' ⟨rfl,⟨nd,rfl⟩⟩;refine ⟨_,rfl,?_⟩))
  go_roundg k1
  case measure=>have:=HK1.out;omega
  case rel=>exact ⟨(wrap64 (x5_1+1)),sT_,H',⟨by have:=HK1.out;omega⟩,dT_⟩
 ·replace c6:=Bool.eq_false_iff.mpr c6
  subst c6
  replace H:=bF_ H
  obtain rfl:=Option.some.inj H
  obtain ⟨ad246,e246,hx246_0,p246,q246⟩:=aiI_ HR1.out x5_1
  cases e246
  go_wp2_with (first|((with_reducible refine gate_callee (f:=41) rfl ?_);refine goesL_ (some 17) rfl rfl Try.func41 krT_ rfl #[.int .i64 a0,.int .i64 (rd l1 x5_1)] rfl agT_ ?_;(with_reducible refine (spec_IsSet.calls a0 (rd l1 x5_1) false _ A5.out).mono ?_);rintro e w' ⟨rfl,⟨nd,rfl⟩⟩;refine ⟨_,rfl,?_⟩))
  go_ret
  exact ⟨sT_,dT_⟩
/-! ### spec_Join: function 98 -/
def spec_Join.l0:Nat→List ByteArray→ByteArray→List Int→Int→Option (ByteArray)
 | 0,_,_,_,_=>none
 | k+1,x0,x1,x5,x6=>if x6<(x0.length:Int) then (if x6>0 then (if x5.length+x1.size<140737488355328 then ((some (x5++bytesOf x1:List Int)).bind fun y251=>(if 0≤x6 then (if y251.length+(rdOf ByteArray.empty x0 x6).size<140737488355328 then (spec_Join.l0 k x0 x1 (y251++bytesOf (rdOf ByteArray.empty x0 x6)) (wrap64 (x6+1))) else (none)) else (none))) else (none)) else (if 0≤x6 then (if x5.length+(rdOf ByteArray.empty x0 x6).size<140737488355328 then (spec_Join.l0 k x0 x1 (x5++bytesOf (rdOf ByteArray.empty x0 x6)) (wrap64 (x6+1))) else (none)) else (none))) else (some (strOfNums x5))
def spec_Join.f (k:Nat) (l0:List ByteArray) (a1:ByteArray):Option (ByteArray):=spec_Join.l0 k l0 a1 (([]:List Int)) 0
set_option maxHeartbeats 8000000 in
set_option maxRecDepth 100000 in
theorem spec_Join.calls (k:Nat) (A0:Option Addr) (c0:Nat) (l0:List ByteArray) (a1:ByteArray) (r:ByteArray) (w:World) (hr0:Kd.C Kd.string w A0 l0.length l0) (hc0:l0.length≤c0) (h:spec_Join.f k l0 a1=some r) :
    Calls Try.prog 98 #[.slice A0 l0.length c0,.string a1] w fun e w'=>e=.returned (.string r)∧Below w.heap.size w w':=by
 have HR0:=Aside0.mk hr0
 have HC0:=Aside0.mk hc0
 clear hr0 hc0
 have HB:=Aside0.mk (Below.refl w.heap.size w)
 have H:(spec_Join.l0 k l0 a1 (([]:List Int)) 0)=some r:=h
 clear h
 obtain ⟨y248,hy248⟩:∃ y_:List Int,y_=(([]:List Int)):=⟨_,rfl⟩
 replace H:(spec_Join.l0 k l0 a1 y248 0)=some r:=by first|(rw [hy248];with_reducible exact H)|(have H2_:=(Option.bind_some _ _).symm.trans H;rw [hy248];with_reducible exact H2_)|(have H2_:=(Option.bind_some _ _).symm.trans H;with_reducible exact H2_)|with_reducible exact H|(rw [hy248];exact H)|exact H
 have Ny248:=Aside0.mk hy248
 clear hy248
 have H':=Aside0.mk H
 clear H
 go_enter Try.func98,Try.ntmps98
 go_wp2_with (first|((with_reducible refine gate_dst (N:=7) rfl ?_);refine Kd.R_lit (Kd.int .u8) _ 5 ?hg (N:=7) ?hd (xs:=([]:List Int)) (inner:=[]) (ok:=fun _=>True) (okp:=fun _=>True) ?hr ?hp (fun _ hk=>hk) trivial (Below.refl _ _) (Nat.le_refl _) (by simp) ?_;(case hd=>rfl);(case hg=>rfl);(case hr=>exact hrT_);(case hp=>exact (Reps.none _ _));intro v249 w3 ho4 hb hg_ hnew_;clear hg_ hnew_;(first|rw [← Ny248.out] at ho4|(simp only [Int.reduceToNat] at ho4;rw [← Ny248.out] at ho4));have HO250:=Aside0.mk (Kd.R_lower ho4 (below_size (h_HB HB.out)));replace HB:=Aside0.mk (below_step (h_HB HB.out) hb);clear hb ho4))
 go_loopg [5,6] k (fun kq v5 v6 w'=>∃ (x5_1:List Int) (x6_1:Int),v6=.int .i64 x6_1∧Aside0 (spec_Join.l0 kq l0 a1 x5_1 x6_1=some r)∧Aside0 (kq≤k)∧Aside0 (Kd.R (Kd.int .u8) 5 w' w.heap.size (fun _=>True) v5 x5_1)∧Aside0 (Below w.heap.size w w'))
 case atStart=>exact ⟨(y248),(0),sT_,H',⟨Nat.le_refl _⟩,⟨kRC_ HO250.out⟩,⟨h_HB HB.out⟩⟩
 case round =>
  clear H'
  try clear p2
  obtain ⟨x5_1,x6_1,rfl,HA,HK1,HO_5,HB⟩:=hrel
  cases gk with
  | zero=>exact absurd HA.out (by simp [spec_Join.l0])
  | succ k1 =>
   have H:=HA.out
   clear HA
   simp only [spec_Join.l0] at H
   rcases gsb_ H with ⟨c5b0,H⟩|⟨c5b0,H⟩
   ·by_cases c6:x6_1>0
    ·rw [if_pos c6] at H
     have c6b0:decide (0<x6_1)=true:=decide_eq_true c6
     clear c6
     by_cases c7:x5_1.length+a1.size<140737488355328
     ·rw [if_pos c7] at H
      have LMc7:=Aside0.mk c7
      clear c7
      obtain ⟨y251,hy251⟩:∃ y_:List Int,y_=(x5_1++bytesOf a1):=⟨_,rfl⟩
      replace H:(if 0≤x6_1 then (if y251.length+(rdOf ByteArray.empty l0 x6_1).size<140737488355328 then (spec_Join.l0 k1 l0 a1 (y251++bytesOf (rdOf ByteArray.empty l0 x6_1)) (wrap64 (x6_1+1))) else (none)) else (none))=some r:=by first|(rw [hy251];with_reducible exact H)|(have H2_:=(Option.bind_some _ _).symm.trans H;rw [hy251];with_reducible exact H2_)|(have H2_:=(Option.bind_some _ _).symm.trans H;with_reducible exact H2_)|with_reducible exact H|(rw [hy251];exact H)|exact H
      have Ny251:=Aside0.mk hy251
      clear hy251
      replace H:=gsm_ H;obtain ⟨c8b0,H⟩:=H
      by_cases c9:y251.length+(rdOf ByteArray.empty l0 x6_1).size<140737488355328
      ·rw [if_pos c9] at H
       have LMc9:=Aside0.mk c9
       clear c9
       obtain ⟨y255,hy255⟩:∃ y_:List Int,y_=(y251++bytesOf (rdOf ByteArray.empty l0 x6_1)):=⟨_,rfl⟩
       replace H:(spec_Join.l0 k1 l0 a1 y255 (wrap64 (x6_1+1)))=some r:=by first|(rw [hy255];with_reducible exact H)|(have H2_:=(Option.bind_some _ _).symm.trans H;rw [hy255];with_reducible exact H2_)|(have H2_:=(Option.bind_some _ _).symm.trans H;with_reducible exact H2_)|with_reducible exact H|(rw [hy255];exact H)|exact H
       have Ny255:=Aside0.mk hy255
       clear hy255
       have H':=Aside0.mk H
       clear H
       go_wp2_with (first|(at_builtin;refine print_append_str (w0:=w) w.heap.size rfl (.tmp 16) _ 22 9 5 rfl Try.underlying22 Try.underlying9 info5 u5 x5_1 a1 rfl rfl ?aO ?aB ?aS ?aL ?_;(case aB=>exact (h_HB HB.out));(case aO=>exact (Kd.own_of_R (kRC_ HO_5.out)));(case aS=>exact (below_size (h_HB HB.out)));(case aL=>have:=LMc7.out;omega);intro v252 w10 ho0 hb hg;have ho:=Kd.R_of_own (h1:=fun _=>rfl) (ok:=fun _=>True) ho0 (fun _ _=>trivial);clear ho0;have hat:=True.intro;rw [← Ny251.out] at ho;change Kd.R (Kd.int .u8) 5 w10 w.heap.size (fun _=>True) v252 y251 at ho;replace HB:=Aside0.mk (hb);have HO253:=Aside0.mk (ho);clear HO_5;clear ho hb hg hat;obtain ⟨ad254,e254,hx254_0,p254,q254⟩:=aiS_ HR0.out x6_1;cases e254;replace hx254_0:=(HB.out.cell (World.block_lt_of_cell? w _ hx254_0)).trans hx254_0)|(at_builtin;refine print_append_str (w0:=w) w.heap.size rfl (.tmp 19) _ 22 9 5 rfl Try.underlying22 Try.underlying9 info5 v252 y251 (rdOf ByteArray.empty l0 x6_1) rfl rfl ?aO ?aB ?aS ?aL ?_;(case aB=>exact (h_HB HB.out));(case aO=>exact (Kd.own_of_R (kRC_ HO253.out)));(case aS=>exact (below_size (h_HB HB.out)));(case aL=>have:=LMc9.out;omega);intro v256 w11 ho0 hb hg;have ho:=Kd.R_of_own (h1:=fun _=>rfl) (ok:=fun _=>True) ho0 (fun _ _=>trivial);clear ho0;have hat:=True.intro;rw [← Ny255.out] at ho;change Kd.R (Kd.int .u8) 5 w11 w.heap.size (fun _=>True) v256 y255 at ho;replace HB:=Aside0.mk (hb);have HO257:=Aside0.mk (ho);clear HO253;clear ho hb hg hat))
       go_roundg k1
       case measure=>have:=HK1.out;omega
       case rel=>exact ⟨(y255),(wrap64 (x6_1+1)),sT_,H',⟨by have:=HK1.out;omega⟩,⟨kRC_ HO257.out⟩,⟨h_HB HB.out⟩⟩
      ·rw [if_neg c9] at H
       exact absurd H (by simp)
     ·rw [if_neg c7] at H
      exact absurd H (by simp)
    ·rw [if_neg c6] at H
     have c6b0:decide (0<x6_1)=false:=decide_eq_false c6
     clear c6
     replace H:=gsm_ H;obtain ⟨c12b0,H⟩:=H
     by_cases c13:x5_1.length+(rdOf ByteArray.empty l0 x6_1).size<140737488355328
     ·rw [if_pos c13] at H
      have LMc13:=Aside0.mk c13
      clear c13
      obtain ⟨y259,hy259⟩:∃ y_:List Int,y_=(x5_1++bytesOf (rdOf ByteArray.empty l0 x6_1)):=⟨_,rfl⟩
      replace H:(spec_Join.l0 k1 l0 a1 y259 (wrap64 (x6_1+1)))=some r:=by first|(rw [hy259];with_reducible exact H)|(have H2_:=(Option.bind_some _ _).symm.trans H;rw [hy259];with_reducible exact H2_)|(have H2_:=(Option.bind_some _ _).symm.trans H;with_reducible exact H2_)|with_reducible exact H|(rw [hy259];exact H)|exact H
      have Ny259:=Aside0.mk hy259
      clear hy259
      have H':=Aside0.mk H
      clear H
      obtain ⟨ad258,e258,hx258_0,p258,q258⟩:=aiS_ HR0.out x6_1
      cases e258
      replace hx258_0:=(HB.out.cell (World.block_lt_of_cell? w _ hx258_0)).trans hx258_0
      go_wp2_with (first|(at_builtin;refine print_append_str (w0:=w) w.heap.size rfl (.tmp 19) _ 22 9 5 rfl Try.underlying22 Try.underlying9 info5 u5 x5_1 (rdOf ByteArray.empty l0 x6_1) rfl rfl ?aO ?aB ?aS ?aL ?_;(case aB=>exact (h_HB HB.out));(case aO=>exact (Kd.own_of_R (kRC_ HO_5.out)));(case aS=>exact (below_size (h_HB HB.out)));(case aL=>have:=LMc13.out;omega);intro v260 w14 ho0 hb hg;have ho:=Kd.R_of_own (h1:=fun _=>rfl) (ok:=fun _=>True) ho0 (fun _ _=>trivial);clear ho0;have hat:=True.intro;rw [← Ny259.out] at ho;change Kd.R (Kd.int .u8) 5 w14 w.heap.size (fun _=>True) v260 y259 at ho;replace HB:=Aside0.mk (hb);have HO261:=Aside0.mk (ho);clear HO_5;clear ho hb hg hat))
      go_roundg k1
      case measure=>have:=HK1.out;omega
      case rel=>exact ⟨(y259),(wrap64 (x6_1+1)),sT_,H',⟨by have:=HK1.out;omega⟩,⟨kRC_ HO261.out⟩,⟨h_HB HB.out⟩⟩
     ·rw [if_neg c13] at H
      exact absurd H (by simp)
   ·obtain rfl:=Option.some.inj H
    have hcv15:=own_string (P:=Try.prog) Try.underlying22 Try.underlying5 Try.underlying9 (Kd.own_of_R HO_5.out)
    go_wp2
    go_ret
    exact ⟨eT_,h_HB HB.out⟩
end Go.Proofs.Ytekegbacnagbcaa.P
