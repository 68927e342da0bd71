-- written by gprint (a program of this session's, round the kit's print), out of the translation and hand-written texts
import Derived.Test.YtekegbacnagbcaaPVFnRanksx0
namespace Go.Proofs.Ytekegbacnagbcaa.P
open Go.RowKit Go.Proofs.YtekegbacnagbcaaW.PrintWords Go.Proofs.YtekegbacnagbcaaW.PrintLast Go.Proofs.YtekegbacnagbcaaW.PrintMore
theorem ob_len_VFnRanksx2 {A:Option Addr} {n m c k:Nat} (h:some k≠(Value.slice A n c).ownBlock):some k≠(Value.slice A m c).ownBlock:=by cases A<;>exact h
attribute [local go_sem] max2_int min2_int max_two min_two max_three min_three max_four min_four   -- for this text's walks alone
set_option linter.unusedVariables false
set_option linter.unusedSimpArgs false
/-! ### spec_SortSets: function 47 -/
mutual
def spec_SortSets.l0:Nat→List Int→List Int→Int→Option (List Int)
 | 0,_,_,_=>none
 | k+1,x0,x3,x4=>if x4<(x0.length:Int) then (spec_SortSets.l1 k x0 x3 x4 0) else (some x3)
def spec_SortSets.l1:Nat→List Int→List Int→Int→Int→Option (List Int)
 | 0,_,_,_,_=>none
 | k+1,x0,x3,x4,x5=>if x5<(x3.length:Int) then (if 0≤x5 then (if 0≤x4 then (if x4<(x0.length:Int) then (if (rd x3 x5)<(rd x0 x4) then (spec_SortSets.l1 k x0 x3 x4 (wrap64 (x5+1))) else (if (rd x3 x5)=(rd x0 x4) then (spec_SortSets.l0 k x0 x3 (wrap64 (x4+1))) else ((some (([]:List Int):List Int)).bind fun y149=>(if x5≤(x3.length:Int) then ((some (x3.drop (x5:Int).toNat:List Int)).bind fun y152=>(if y149.length+y152.length<17592186044416 then ((some (y149++y152:List Int)).bind fun y156=>((some (x3.take (x5:Int).toNat:List Int)).bind fun y159=>(if y159.length<17592186044416 then ((some (y159++[rd x0 x4]:List Int)).bind fun y163=>(if y163.length+y156.length<17592186044416 then (spec_SortSets.l0 k x0 (y163++y156) (wrap64 (x4+1))) else (none))) else (none)))) else (none))) else (none))))) else (none)) else (none)) else (none)) else ((some (([]:List Int):List Int)).bind fun y169=>(if 0≤x5 then (if x5≤(x3.length:Int) then ((some (x3.drop (x5:Int).toNat:List Int)).bind fun y172=>(if y169.length+y172.length<17592186044416 then ((some (y169++y172:List Int)).bind fun y176=>((some (x3.take (x5:Int).toNat:List Int)).bind fun y179=>(if 0≤x4 then (if x4<(x0.length:Int) then (if y179.length<17592186044416 then ((some (y179++[rd x0 x4]:List Int)).bind fun y183=>(if y183.length+y176.length<17592186044416 then (spec_SortSets.l0 k x0 (y183++y176) (wrap64 (x4+1))) else (none))) else (none)) else (none)) else (none)))) else (none))) else (none)) else (none)))
end
def spec_SortSets.f (k:Nat) (l0:List Int):Option (List Int):=spec_SortSets.l0 k l0 (([]:List Int)) 0
def spec_SortSets.T6:Bool × List (List Nat × List Nat):=(true,[([],[]),([],[]),([1],[1]),([0,2],[0,2]),([3],[3]),([4],[4]),([4],[4]),([5,6,4],[4,5,6]),([7,4],[4,7]),([4],[4]),([4],[4]),([9,10,4],[4,9,10]),([11,4],[4,11]),([8,12,4],[4,8,12]),([4,13],[4,13])])
def spec_SortSets.B6:List Nat:=[0,0,2,7,15,31,31,127,255,31,31,1567,3615,8191,16383]
theorem spec_SortSets.tab6:rtab .any (opsOf Try.f47 6)=spec_SortSets.T6:=by kernel_rfl
theorem spec_SortSets.bits6:waitsOk spec_SortSets.T6.2 spec_SortSets.B6=true:=by kernel_rfl
def spec_SortSets.T8:Bool × List (List Nat × List Nat):=(true,[([],[]),([],[]),([1],[1]),([0,2],[0,2]),([3],[3]),([4],[4]),([4],[4]),([5,6,4],[4,5,6]),([7,4],[4,7]),([4],[4]),([4],[4]),([9,10,4],[4,9,10]),([11,4],[4,11]),([8,12,4],[4,8,12]),([4,13],[4,13])])
def spec_SortSets.B8:List Nat:=[0,0,2,7,15,31,31,127,255,31,31,1567,3615,8191,16383]
theorem spec_SortSets.tab8:rtab .any (opsOf Try.f47 8)=spec_SortSets.T8:=by kernel_rfl
theorem spec_SortSets.bits8:waitsOk spec_SortSets.T8.2 spec_SortSets.B8=true:=by kernel_rfl
def spec_SortSets.T10:Bool × List (List Nat × List Nat):=(true,[([],[]),([],[]),([0,1],[0,1]),([],[]),([],[]),([3,4],[3,4]),([5],[5]),([6],[6]),([2,7],[2,7]),([],[]),([8,9,8],[8,9]),([10,10,0,1,2,3,4,5,6,7,8,9,10],[0,10])])
def spec_SortSets.B10:List Nat:=[0,0,3,0,0,24,56,120,255,0,1023,2047]
theorem spec_SortSets.tab10:rtab .any (opsOf Try.f47 10)=spec_SortSets.T10:=by kernel_rfl
theorem spec_SortSets.bits10:waitsOk spec_SortSets.T10.2 spec_SortSets.B10=true:=by kernel_rfl
set_option maxHeartbeats 8000000 in
set_option maxRecDepth 100000 in
theorem spec_SortSets.calls (k:Nat) (A0:Option Addr) (c0:Nat) (l0:List Int) (r:List Int) (w:World) (hr0:Kd.C (Kd.int .i64) w A0 l0.length l0) (hc0:l0.length≤c0) (h:spec_SortSets.f k l0=some r) :
    Calls Try.prog 47 #[.slice A0 l0.length c0] w fun e w'=>∃ v0_:Value,e=.returned (v0_)∧Kd.R (Kd.int .i64) 3 w' w.heap.size (fun _=>True) v0_ r∧Below w.heap.size w w':=by
 have HR0:=Aside0.mk hr0
 have HC0:=Aside0.mk hc0
 clear hr0 hc0
 have HB:=Aside0.mk (Below.refl w.heap.size w)
 have H:(spec_SortSets.l0 k l0 (([]:List Int)) 0)=some r:=h
 clear h
 obtain ⟨y142,hy142⟩:∃ y_:List Int,y_=(([]:List Int)):=⟨_,rfl⟩
 replace H:(spec_SortSets.l0 k l0 y142 0)=some r:=by first|(rw [hy142];with_reducible exact H)|(have H2_:=(Option.bind_some _ _).symm.trans H;rw [hy142];with_reducible exact H2_)|(have H2_:=(Option.bind_some _ _).symm.trans H;with_reducible exact H2_)|with_reducible exact H|(rw [hy142];exact H)|exact H
 have Ny142:=Aside0.mk hy142
 clear hy142
 have H':=Aside0.mk H
 clear H
 go_enter Try.func47,Try.ntmps47
 go_wp2_with (first|((with_reducible refine gate_dst (N:=7) rfl ?_);refine Kd.R_lit (Kd.int .i64) _ 3 ?hg (N:=7) ?hd (xs:=([]:List Int)) (inner:=[]) (ok:=fun _=>True) (okp:=fun _=>True) ?hr ?hp (fun _ hk=>hk) trivial (Below.refl _ _) (Nat.le_refl _) (by simp) ?_;(case hd=>rfl);(case hg=>rfl);(case hr=>exact hrT_);(case hp=>exact (Reps.none _ _));intro v143 w2 ho3 hb hg_ hnew_;clear hg_ hnew_;(first|rw [← Ny142.out] at ho3|(simp only [Int.reduceToNat] at ho3;rw [← Ny142.out] at ho3));have HO144:=Aside0.mk (Kd.R_lower ho3 (below_size (h_HB HB.out)));replace HB:=Aside0.mk (below_step (h_HB HB.out) hb);clear hb ho3))
 go_loopg [3,4] k (fun kq v3 v4 w'=>∃ (x3_1:List Int) (x4_1:Int),v4=.int .i64 x4_1∧Aside0 (spec_SortSets.l0 kq l0 x3_1 x4_1=some r)∧Aside0 (kq≤k)∧Aside0 (Kd.R (Kd.int .i64) 3 w' w.heap.size (fun _=>True) v3 x3_1)∧Aside0 (Below w.heap.size w w'))
 case atStart=>exact ⟨(y142),(0),sT_,H',⟨Nat.le_refl _⟩,⟨kRC_ HO144.out⟩,⟨h_HB HB.out⟩⟩
 case round =>
  clear H'
  try clear p2
  obtain ⟨x3_1,x4_1,rfl,HA,HK1,HO_3,HB⟩:=hrel
  cases gk with
  | zero=>exact absurd HA.out (by simp [spec_SortSets.l0])
  | succ k1 =>
   have H:=HA.out
   clear HA
   simp only [spec_SortSets.l0] at H
   rcases gsb_ H with ⟨c4b0,H⟩|⟨c4b0,H⟩
   ·have H':=Aside0.mk H
    clear H
    go_wp2
    go_loopg [5] k1 (fun kq v5 w'=>∃ (x5_2:Int),v5=.int .i64 x5_2∧Aside0 (spec_SortSets.l1 kq l0 x3_1 x4_1 x5_2=some r)∧Aside0 (kq≤k1)∧Aside0 (Kd.R (Kd.int .i64) 3 w' w.heap.size (fun _=>True) u3 x3_1)∧Aside0 (Below w.heap.size w w'))
    case atStart=>exact ⟨(0),sT_,H',⟨Nat.le_refl _⟩,⟨kRC_ HO_3.out⟩,⟨h_HB HB.out⟩⟩
    case round =>
     clear H'
     try clear p2
     try clear c4
     try clear c4b0
     try clear p2
     obtain ⟨x5_2,rfl,HA,HK2,HO_3,HB⟩:=hrel
     cases gk with
     | zero=>exact absurd HA.out (by simp [spec_SortSets.l1])
     | succ k2 =>
      have H:=HA.out
      clear HA
      simp only [spec_SortSets.l1] at H
      rcases gsb_ H with ⟨c5b0,H⟩|⟨c5b0,H⟩
      ·replace H:=gsm_ H;obtain ⟨c6b0,H⟩:=H
       replace H:=gsm_ H;obtain ⟨c7b0,H⟩:=H
       replace H:=gsm_ H;obtain ⟨c8b0,H⟩:=H
       rcases gsb_ H with ⟨c9b0,H⟩|⟨c9b0,H⟩
       ·have H':=Aside0.mk H
        clear H
        try go_wp2
        replace HO_3:=Aside0.mk (Kd.R_drew HO_3.out);replace HB:=Aside0.mk (below_drew1 HB.out)
        obtain ⟨Ao11,co11,eo11⟩:=Kd.R_slice HO_3.out
        (first|subst eo11|(injection eo11 with f1_ f2_ f3_;have f4_:=f1_.symm;have f5_:=f3_.symm;clear f1_ f2_ f3_;subst f4_;subst f5_))
        obtain ⟨ad145,e145,hx145_0,p145,q145⟩:=aiI_ (Kd.R_reads' HO_3.out).2.2 x5_2
        cases e145
        have p146:0≤(x4_1:Int):=odT_
        have q146:x4_1<(l0.length:Int):=odT_
        obtain ⟨ad146,e146,hx146_0⟩:=Kd.at_int HR0.out x4_1 p146 q146
        have hw146_0:=hx146_0
        cases e146
        replace hx146_0:=(HB.out.cell (World.block_lt_of_cell? w _ hx146_0)).trans hx146_0
        replace p146:=eq_true p146
        replace q146:=eq_true q146
        refine start_ (n:=15) (S:=fun w'=>w'.cell? (ad145.add (x5_2).toNat)=some (.int .i64 (rd x3_1 x5_2))∧w'.cell? (ad146.add (x4_1).toNat)=some (.int .i64 (rd l0 x4_1))) (ds:=[]) #[F_,F_,F_,F_,F_,F_,F_,F_,F_,F_,F_,F_,F_,F_,F_] krT_ rfl rfl ⟨hx145_0,((HB.out.cell (World.block_lt_of_cell? w _ hw146_0)).trans hw146_0)⟩ (fun hHeld=>?_);refine with_tabW spec_SortSets.tab6 spec_SortSets.bits6 (fun HT_ HW_=>?_)
        generalize wr.drew=w10 at HO_3 HB hx145_0 hx146_0 hHeld ⊢
        refine pu_ 0 (some 14) (bm_ 15 1) rfl rfl HT_.out ?_
        refine pu_ 1 (some 15) (bm_ 15 3) rfl rfl HT_.out ?_
        refine pu_ 2 (some 16) (bm_ 15 7) rfl rfl HT_.out ?_
        refine pu_ 3 (some 17) (bm_ 15 15) rfl rfl HT_.out ?_
        refine pu_ 4 (some 18) (bm_ 15 31) rfl rfl HT_.out ?_
        refine pu_ 5 (some 19) (bm_ 15 63) rfl rfl HT_.out ?_
        refine pu_ 6 (some 20) (bm_ 15 127) rfl rfl HT_.out ?_
        refine pu_ 7 (some 21) (bm_ 15 255) rfl rfl HT_.out ?_
        refine pu_ 9 (some 23) (bm_ 15 767) rfl rfl HT_.out ?_
        refine pu_ 10 (some 24) (bm_ 15 1791) rfl rfl HT_.out ?_
        refine pu_ 11 (some 25) (bm_ 15 3839) rfl rfl HT_.out ?_
        refine take_ (i:=8) (N:=some 22) (v:=?_) (a':=?_) (bm_ 15 4095) rfl rfl (take_ofW HT_.out HW_.out krT_) (fun _ _ _ h=>h) (Or.inl ⟨by rfl,?_⟩) hHeld ?_ ?_
        rotate_left
        ·rintro w' ⟨s0,s1⟩
         go_simp
         with_reducible rfl
        rotate_left;exact apT_
        refine take_ (i:=12) (N:=some 26) (v:=?_) (a':=?_) (bm_ 15 8191) rfl rfl (take_ofW HT_.out HW_.out krT_) (fun _ _ _ h=>h) (Or.inl ⟨by rfl,?_⟩) hHeld ?_ ?_
        rotate_left
        ·rintro w' ⟨s0,s1⟩
         go_simp
         with_reducible rfl
        rotate_left;exact apT_
        refine pu_ 13 (some 27) (bm_ 15 16383) rfl rfl HT_.out ?_
        refine pu_ 14 (some 28) (bm_ 15 32767) rfl rfl HT_.out ?_
        refine done_ (done_of HT_.out krT_) ?_
        try go_wp2
        go_roundg k2
        case measure=>have:=HK1.out;have:=HK2.out;omega
        case rel=>exact ⟨(wrap64 (x5_2+1)),sT_,H',⟨by have:=HK1.out;have:=HK2.out;omega⟩,⟨kRC_ HO_3.out⟩,⟨h_HB HB.out⟩⟩
       ·by_cases c12:(rd x3_1 x5_2)=(rd l0 x4_1)
        ·rw [if_pos c12] at H
         have c12b0:((rd x3_1 x5_2)==(rd l0 x4_1))=true:=beq_iff_eq.mpr c12
         have c12b1:((rd x3_1 x5_2) != (rd l0 x4_1))=false:=bne_eq_false_iff_eq.mpr c12
         clear c12
         have H':=Aside0.mk H
         clear H
         try go_wp2
         replace HO_3:=Aside0.mk (Kd.R_drew HO_3.out);replace HB:=Aside0.mk (below_drew1 HB.out)
         obtain ⟨Ao14,co14,eo14⟩:=Kd.R_slice HO_3.out
         (first|subst eo14|(injection eo14 with f1_ f2_ f3_;have f4_:=f1_.symm;have f5_:=f3_.symm;clear f1_ f2_ f3_;subst f4_;subst f5_))
         obtain ⟨ad145,e145,hx145_0,p145,q145⟩:=aiI_ (Kd.R_reads' HO_3.out).2.2 x5_2
         cases e145
         have p146:0≤(x4_1:Int):=odT_
         have q146:x4_1<(l0.length:Int):=odT_
         obtain ⟨ad146,e146,hx146_0⟩:=Kd.at_int HR0.out x4_1 p146 q146
         have hw146_0:=hx146_0
         cases e146
         replace hx146_0:=(HB.out.cell (World.block_lt_of_cell? w _ hx146_0)).trans hx146_0
         replace p146:=eq_true p146
         replace q146:=eq_true q146
         refine start_ (n:=15) (S:=fun w'=>w'.cell? (ad145.add (x5_2).toNat)=some (.int .i64 (rd x3_1 x5_2))∧w'.cell? (ad146.add (x4_1).toNat)=some (.int .i64 (rd l0 x4_1))) (ds:=[]) #[F_,F_,F_,F_,F_,F_,F_,F_,F_,F_,F_,F_,F_,F_,F_] krT_ rfl rfl ⟨hx145_0,((HB.out.cell (World.block_lt_of_cell? w _ hw146_0)).trans hw146_0)⟩ (fun hHeld=>?_);refine with_tabW spec_SortSets.tab6 spec_SortSets.bits6 (fun HT_ HW_=>?_)
         generalize wr.drew=w13 at HO_3 HB hx145_0 hx146_0 hHeld ⊢
         refine pu_ 0 (some 14) (bm_ 15 1) rfl rfl HT_.out ?_
         refine pu_ 1 (some 15) (bm_ 15 3) rfl rfl HT_.out ?_
         refine pu_ 2 (some 16) (bm_ 15 7) rfl rfl HT_.out ?_
         refine pu_ 3 (some 17) (bm_ 15 15) rfl rfl HT_.out ?_
         refine pu_ 4 (some 18) (bm_ 15 31) rfl rfl HT_.out ?_
         refine pu_ 5 (some 19) (bm_ 15 63) rfl rfl HT_.out ?_
         refine pu_ 6 (some 20) (bm_ 15 127) rfl rfl HT_.out ?_
         refine pu_ 7 (some 21) (bm_ 15 255) rfl rfl HT_.out ?_
         refine pu_ 9 (some 23) (bm_ 15 767) rfl rfl HT_.out ?_
         refine pu_ 10 (some 24) (bm_ 15 1791) rfl rfl HT_.out ?_
         refine pu_ 11 (some 25) (bm_ 15 3839) rfl rfl HT_.out ?_
         refine take_ (i:=8) (N:=some 22) (v:=?_) (a':=?_) (bm_ 15 4095) rfl rfl (take_ofW HT_.out HW_.out krT_) (fun _ _ _ h=>h) (Or.inl ⟨by rfl,?_⟩) hHeld ?_ ?_
         rotate_left
         ·rintro w' ⟨s0,s1⟩
          go_simp
          with_reducible rfl
         rotate_left;exact apT_
         refine take_ (i:=12) (N:=some 26) (v:=?_) (a':=?_) (bm_ 15 8191) rfl rfl (take_ofW HT_.out HW_.out krT_) (fun _ _ _ h=>h) (Or.inl ⟨by rfl,?_⟩) hHeld ?_ ?_
         rotate_left
         ·rintro w' ⟨s0,s1⟩
          go_simp
          with_reducible rfl
         rotate_left;exact apT_
         refine pu_ 13 (some 27) (bm_ 15 16383) rfl rfl HT_.out ?_
         refine pu_ 14 (some 28) (bm_ 15 32767) rfl rfl HT_.out ?_
         refine done_ (done_of HT_.out krT_) ?_
         try go_wp2
         replace HO_3:=Aside0.mk (Kd.R_drew HO_3.out);replace HB:=Aside0.mk (below_drew1 HB.out)
         obtain ⟨ad147,e147,hx147_0,p147,q147⟩:=aiI_ (Kd.R_reads' HO_3.out).2.2 x5_2
         obtain rfl:ad145=ad147:=(by injection e147)
         have p148:0≤(x4_1:Int):=odT_
         have q148:x4_1<(l0.length:Int):=odT_
         obtain ⟨ad148,e148,hx148_0⟩:=Kd.at_int HR0.out x4_1 p148 q148
         have hw148_0:=hx148_0
         obtain rfl:ad146=ad148:=(by injection e148)
         replace hx148_0:=(HB.out.cell (World.block_lt_of_cell? w _ hx148_0)).trans hx148_0
         replace p148:=eq_true p148
         replace q148:=eq_true q148
         refine start_ (n:=15) (S:=fun w'=>w'.cell? (ad145.add (x5_2).toNat)=some (.int .i64 (rd x3_1 x5_2))∧w'.cell? (ad146.add (x4_1).toNat)=some (.int .i64 (rd l0 x4_1))) (ds:=[]) #[F_,F_,F_,F_,F_,F_,F_,F_,F_,F_,F_,F_,F_,F_,F_] krT_ rfl rfl ⟨hx147_0,((HB.out.cell (World.block_lt_of_cell? w _ hw148_0)).trans hw148_0)⟩ (fun hHeld=>?_);refine with_tabW spec_SortSets.tab8 spec_SortSets.bits8 (fun HT_ HW_=>?_)
         generalize w13.drew=w15 at HO_3 HB hx147_0 hx148_0 hHeld ⊢
         refine pu_ 0 (some 31) (bm_ 15 1) rfl rfl HT_.out ?_
         refine pu_ 1 (some 32) (bm_ 15 3) rfl rfl HT_.out ?_
         refine pu_ 2 (some 33) (bm_ 15 7) rfl rfl HT_.out ?_
         refine pu_ 3 (some 34) (bm_ 15 15) rfl rfl HT_.out ?_
         refine pu_ 4 (some 35) (bm_ 15 31) rfl rfl HT_.out ?_
         refine pu_ 5 (some 36) (bm_ 15 63) rfl rfl HT_.out ?_
         refine pu_ 6 (some 37) (bm_ 15 127) rfl rfl HT_.out ?_
         refine pu_ 7 (some 38) (bm_ 15 255) rfl rfl HT_.out ?_
         refine pu_ 9 (some 40) (bm_ 15 767) rfl rfl HT_.out ?_
         refine pu_ 10 (some 41) (bm_ 15 1791) rfl rfl HT_.out ?_
         refine pu_ 11 (some 42) (bm_ 15 3839) rfl rfl HT_.out ?_
         refine take_ (i:=8) (N:=some 39) (v:=?_) (a':=?_) (bm_ 15 4095) rfl rfl (take_ofW HT_.out HW_.out krT_) (fun _ _ _ h=>h) (Or.inl ⟨by rfl,?_⟩) hHeld ?_ ?_
         rotate_left
         ·rintro w' ⟨s0,s1⟩
          go_simp
          with_reducible rfl
         rotate_left;exact apT_
         refine take_ (i:=12) (N:=some 43) (v:=?_) (a':=?_) (bm_ 15 8191) rfl rfl (take_ofW HT_.out HW_.out krT_) (fun _ _ _ h=>h) (Or.inl ⟨by rfl,?_⟩) hHeld ?_ ?_
         rotate_left
         ·rintro w' ⟨s0,s1⟩
          go_simp
          with_reducible rfl
         rotate_left;exact apT_
         refine pu_ 13 (some 44) (bm_ 15 16383) rfl rfl HT_.out ?_
         refine pu_ 14 (some 45) (bm_ 15 32767) rfl rfl HT_.out ?_
         refine done_ (done_of HT_.out krT_) ?_
         try go_wp2
         go_roundg k2
         case measure=>have:=HK1.out;have:=HK2.out;omega
         case rel=>exact ⟨(x3_1),(wrap64 (x4_1+1)),sT_,H',⟨by have:=HK1.out;have:=HK2.out;omega⟩,⟨kRC_ HO_3.out⟩,⟨h_HB HB.out⟩⟩
        ·rw [if_neg c12] at H
         have c12b0:((rd x3_1 x5_2)==(rd l0 x4_1))=false:=beq_eq_false_iff_ne.mpr c12
         have c12b1:((rd x3_1 x5_2) != (rd l0 x4_1))=true:=bne_iff_ne.mpr c12
         obtain ⟨y149,hy149⟩:∃ y_:List Int,y_=(([]:List Int)):=⟨_,rfl⟩
         replace H:(if x5_2≤(x3_1.length:Int) then ((some (x3_1.drop (x5_2:Int).toNat:List Int)).bind fun y152=>(if y149.length+y152.length<17592186044416 then ((some (y149++y152:List Int)).bind fun y156=>((some (x3_1.take (x5_2:Int).toNat:List Int)).bind fun y159=>(if y159.length<17592186044416 then ((some (y159++[rd l0 x4_1]:List Int)).bind fun y163=>(if y163.length+y156.length<17592186044416 then (spec_SortSets.l0 k2 l0 (y163++y156) (wrap64 (x4_1+1))) else (none))) else (none)))) else (none))) else (none))=some r:=by first|(rw [hy149];with_reducible exact H)|(have H2_:=(Option.bind_some _ _).symm.trans H;rw [hy149];with_reducible exact H2_)|(have H2_:=(Option.bind_some _ _).symm.trans H;with_reducible exact H2_)|with_reducible exact H|(rw [hy149];exact H)|exact H
         have Ny149:=Aside0.mk hy149
         clear hy149
         have c16b0:=eq_true (odT_:0≤x5_2)
         by_cases c17:x5_2≤(x3_1.length:Int)
         ·rw [if_pos c17] at H
          have c17b0:=eq_true c17
          have c17b1:decide (x5_2≤(x3_1.length:Int))=true:=decide_eq_true c17
          clear c17
          obtain ⟨y152,hy152⟩:∃ y_:List Int,y_=(x3_1.drop (x5_2:Int).toNat):=⟨_,rfl⟩
          replace H:(if y149.length+y152.length<17592186044416 then ((some (y149++y152:List Int)).bind fun y156=>((some (x3_1.take (x5_2:Int).toNat:List Int)).bind fun y159=>(if y159.length<17592186044416 then ((some (y159++[rd l0 x4_1]:List Int)).bind fun y163=>(if y163.length+y156.length<17592186044416 then (spec_SortSets.l0 k2 l0 (y163++y156) (wrap64 (x4_1+1))) else (none))) else (none)))) else (none))=some r:=by first|(rw [hy152];with_reducible exact H)|(have H2_:=(Option.bind_some _ _).symm.trans H;rw [hy152];with_reducible exact H2_)|(have H2_:=(Option.bind_some _ _).symm.trans H;with_reducible exact H2_)|with_reducible exact H|(rw [hy152];exact H)|exact H
          have Ny152:=Aside0.mk hy152
          clear hy152
          by_cases c18:y149.length+y152.length<17592186044416
          ·rw [if_pos c18] at H
           have LMc18:=Aside0.mk c18
           clear c18
           obtain ⟨y156,hy156⟩:∃ y_:List Int,y_=(y149++y152):=⟨_,rfl⟩
           replace H:((some (x3_1.take (x5_2:Int).toNat:List Int)).bind fun y159=>(if y159.length<17592186044416 then ((some (y159++[rd l0 x4_1]:List Int)).bind fun y163=>(if y163.length+y156.length<17592186044416 then (spec_SortSets.l0 k2 l0 (y163++y156) (wrap64 (x4_1+1))) else (none))) else (none)))=some r:=by first|(rw [hy156];with_reducible exact H)|(have H2_:=(Option.bind_some _ _).symm.trans H;rw [hy156];with_reducible exact H2_)|(have H2_:=(Option.bind_some _ _).symm.trans H;with_reducible exact H2_)|with_reducible exact H|(rw [hy156];exact H)|exact H
           have Ny156:=Aside0.mk hy156
           clear hy156
           have c19b0:=eq_true (odT_:x5_2≤(x3_1.length:Int))
           obtain ⟨y159,hy159⟩:∃ y_:List Int,y_=(x3_1.take (x5_2:Int).toNat):=⟨_,rfl⟩
           replace H:(if y159.length<17592186044416 then ((some (y159++[rd l0 x4_1]:List Int)).bind fun y163=>(if y163.length+y156.length<17592186044416 then (spec_SortSets.l0 k2 l0 (y163++y156) (wrap64 (x4_1+1))) else (none))) else (none))=some r:=by first|(rw [hy159];with_reducible exact H)|(have H2_:=(Option.bind_some _ _).symm.trans H;rw [hy159];with_reducible exact H2_)|(have H2_:=(Option.bind_some _ _).symm.trans H;with_reducible exact H2_)|with_reducible exact H|(rw [hy159];exact H)|exact H
           have Ny159:=Aside0.mk hy159
           clear hy159
           by_cases c20:y159.length<17592186044416
           ·rw [if_pos c20] at H
            have LMc20:=Aside0.mk c20
            clear c20
            obtain ⟨y163,hy163⟩:∃ y_:List Int,y_=(y159++[rd l0 x4_1]):=⟨_,rfl⟩
            replace H:(if y163.length+y156.length<17592186044416 then (spec_SortSets.l0 k2 l0 (y163++y156) (wrap64 (x4_1+1))) else (none))=some r:=by first|(rw [hy163];with_reducible exact H)|(have H2_:=(Option.bind_some _ _).symm.trans H;rw [hy163];with_reducible exact H2_)|(have H2_:=(Option.bind_some _ _).symm.trans H;with_reducible exact H2_)|with_reducible exact H|(rw [hy163];exact H)|exact H
            have Ny163:=Aside0.mk hy163
            clear hy163
            by_cases c21:y163.length+y156.length<17592186044416
            ·rw [if_pos c21] at H
             have LMc21:=Aside0.mk c21
             clear c21
             obtain ⟨y166,hy166⟩:∃ y_:List Int,y_=(y163++y156):=⟨_,rfl⟩
             replace H:(spec_SortSets.l0 k2 l0 y166 (wrap64 (x4_1+1)))=some r:=by first|(rw [hy166];with_reducible exact H)|(have H2_:=(Option.bind_some _ _).symm.trans H;rw [hy166];with_reducible exact H2_)|(have H2_:=(Option.bind_some _ _).symm.trans H;with_reducible exact H2_)|with_reducible exact H|(rw [hy166];exact H)|exact H
             have Ny166:=Aside0.mk hy166
             clear hy166
             have H':=Aside0.mk H
             clear H
             try go_wp2
             replace HO_3:=Aside0.mk (Kd.R_drew HO_3.out);replace HB:=Aside0.mk (below_drew1 HB.out)
             obtain ⟨Ao23,co23,eo23⟩:=Kd.R_slice HO_3.out
             (first|subst eo23|(injection eo23 with f1_ f2_ f3_;have f4_:=f1_.symm;have f5_:=f3_.symm;clear f1_ f2_ f3_;subst f4_;subst f5_))
             obtain ⟨ad145,e145,hx145_0,p145,q145⟩:=aiI_ (Kd.R_reads' HO_3.out).2.2 x5_2
             cases e145
             have p146:0≤(x4_1:Int):=odT_
             have q146:x4_1<(l0.length:Int):=odT_
             obtain ⟨ad146,e146,hx146_0⟩:=Kd.at_int HR0.out x4_1 p146 q146
             have hw146_0:=hx146_0
             cases e146
             replace hx146_0:=(HB.out.cell (World.block_lt_of_cell? w _ hx146_0)).trans hx146_0
             replace p146:=eq_true p146
             replace q146:=eq_true q146
             refine start_ (n:=15) (S:=fun w'=>w'.cell? (ad145.add (x5_2).toNat)=some (.int .i64 (rd x3_1 x5_2))∧w'.cell? (ad146.add (x4_1).toNat)=some (.int .i64 (rd l0 x4_1))) (ds:=[]) #[F_,F_,F_,F_,F_,F_,F_,F_,F_,F_,F_,F_,F_,F_,F_] krT_ rfl rfl ⟨hx145_0,((HB.out.cell (World.block_lt_of_cell? w _ hw146_0)).trans hw146_0)⟩ (fun hHeld=>?_);refine with_tabW spec_SortSets.tab6 spec_SortSets.bits6 (fun HT_ HW_=>?_)
             generalize wr.drew=w22 at HO_3 HB hx145_0 hx146_0 hHeld ⊢
             refine pu_ 0 (some 14) (bm_ 15 1) rfl rfl HT_.out ?_
             refine pu_ 1 (some 15) (bm_ 15 3) rfl rfl HT_.out ?_
             refine pu_ 2 (some 16) (bm_ 15 7) rfl rfl HT_.out ?_
             refine pu_ 3 (some 17) (bm_ 15 15) rfl rfl HT_.out ?_
             refine pu_ 4 (some 18) (bm_ 15 31) rfl rfl HT_.out ?_
             refine pu_ 5 (some 19) (bm_ 15 63) rfl rfl HT_.out ?_
             refine pu_ 6 (some 20) (bm_ 15 127) rfl rfl HT_.out ?_
             refine pu_ 7 (some 21) (bm_ 15 255) rfl rfl HT_.out ?_
             refine pu_ 9 (some 23) (bm_ 15 767) rfl rfl HT_.out ?_
             refine pu_ 10 (some 24) (bm_ 15 1791) rfl rfl HT_.out ?_
             refine pu_ 11 (some 25) (bm_ 15 3839) rfl rfl HT_.out ?_
             refine take_ (i:=8) (N:=some 22) (v:=?_) (a':=?_) (bm_ 15 4095) rfl rfl (take_ofW HT_.out HW_.out krT_) (fun _ _ _ h=>h) (Or.inl ⟨by rfl,?_⟩) hHeld ?_ ?_
             rotate_left
             ·rintro w' ⟨s0,s1⟩
              go_simp
              with_reducible rfl
             rotate_left;exact apT_
             refine take_ (i:=12) (N:=some 26) (v:=?_) (a':=?_) (bm_ 15 8191) rfl rfl (take_ofW HT_.out HW_.out krT_) (fun _ _ _ h=>h) (Or.inl ⟨by rfl,?_⟩) hHeld ?_ ?_
             rotate_left
             ·rintro w' ⟨s0,s1⟩
              go_simp
              with_reducible rfl
             rotate_left;exact apT_
             refine pu_ 13 (some 27) (bm_ 15 16383) rfl rfl HT_.out ?_
             refine pu_ 14 (some 28) (bm_ 15 32767) rfl rfl HT_.out ?_
             refine done_ (done_of HT_.out krT_) ?_
             try go_wp2
             replace HO_3:=Aside0.mk (Kd.R_drew HO_3.out);replace HB:=Aside0.mk (below_drew1 HB.out)
             obtain ⟨ad147,e147,hx147_0,p147,q147⟩:=aiI_ (Kd.R_reads' HO_3.out).2.2 x5_2
             obtain rfl:ad145=ad147:=(by injection e147)
             have p148:0≤(x4_1:Int):=odT_
             have q148:x4_1<(l0.length:Int):=odT_
             obtain ⟨ad148,e148,hx148_0⟩:=Kd.at_int HR0.out x4_1 p148 q148
             have hw148_0:=hx148_0
             obtain rfl:ad146=ad148:=(by injection e148)
             replace hx148_0:=(HB.out.cell (World.block_lt_of_cell? w _ hx148_0)).trans hx148_0
             replace p148:=eq_true p148
             replace q148:=eq_true q148
             refine start_ (n:=15) (S:=fun w'=>w'.cell? (ad145.add (x5_2).toNat)=some (.int .i64 (rd x3_1 x5_2))∧w'.cell? (ad146.add (x4_1).toNat)=some (.int .i64 (rd l0 x4_1))) (ds:=[]) #[F_,F_,F_,F_,F_,F_,F_,F_,F_,F_,F_,F_,F_,F_,F_] krT_ rfl rfl ⟨hx147_0,((HB.out.cell (World.block_lt_of_cell? w _ hw148_0)).trans hw148_0)⟩ (fun hHeld=>?_);refine with_tabW spec_SortSets.tab8 spec_SortSets.bits8 (fun HT_ HW_=>?_)
             generalize w22.drew=w24 at HO_3 HB hx147_0 hx148_0 hHeld ⊢
             refine pu_ 0 (some 31) (bm_ 15 1) rfl rfl HT_.out ?_
             refine pu_ 1 (some 32) (bm_ 15 3) rfl rfl HT_.out ?_
             refine pu_ 2 (some 33) (bm_ 15 7) rfl rfl HT_.out ?_
             refine pu_ 3 (some 34) (bm_ 15 15) rfl rfl HT_.out ?_
             refine pu_ 4 (some 35) (bm_ 15 31) rfl rfl HT_.out ?_
             refine pu_ 5 (some 36) (bm_ 15 63) rfl rfl HT_.out ?_
             refine pu_ 6 (some 37) (bm_ 15 127) rfl rfl HT_.out ?_
             refine pu_ 7 (some 38) (bm_ 15 255) rfl rfl HT_.out ?_
             refine pu_ 9 (some 40) (bm_ 15 767) rfl rfl HT_.out ?_
             refine pu_ 10 (some 41) (bm_ 15 1791) rfl rfl HT_.out ?_
             refine pu_ 11 (some 42) (bm_ 15 3839) rfl rfl HT_.out ?_
             refine take_ (i:=8) (N:=some 39) (v:=?_) (a':=?_) (bm_ 15 4095) rfl rfl (take_ofW HT_.out HW_.out krT_) (fun _ _ _ h=>h) (Or.inl ⟨by rfl,?_⟩) hHeld ?_ ?_
             rotate_left
             ·rintro w' ⟨s0,s1⟩
              go_simp
              with_reducible rfl
             rotate_left;exact apT_
             refine take_ (i:=12) (N:=some 43) (v:=?_) (a':=?_) (bm_ 15 8191) rfl rfl (take_ofW HT_.out HW_.out krT_) (fun _ _ _ h=>h) (Or.inl ⟨by rfl,?_⟩) hHeld ?_ ?_
             rotate_left
             ·rintro w' ⟨s0,s1⟩
              go_simp
              with_reducible rfl
             rotate_left;exact apT_
             refine pu_ 13 (some 44) (bm_ 15 16383) rfl rfl HT_.out ?_
             refine pu_ 14 (some 45) (bm_ 15 32767) rfl rfl HT_.out ?_
             refine done_ (done_of HT_.out krT_) ?_
             try go_wp2_with (first|((with_reducible refine gate_dst (N:=46) rfl ?_);refine Kd.R_lit (Kd.int .i64) _ 3 ?hg (N:=46) ?hd (xs:=([]:List Int)) (inner:=[]) (ok:=fun _=>True) (okp:=fun _=>True) ?hr ?hp (fun _ hk=>hk) trivial (Below.refl _ _) (Nat.le_refl _) (by simp) ?_;(case hd=>rfl);(case hg=>rfl);(case hr=>exact hrT_);(case hp=>exact (Reps.none _ _));intro v150 w25 ho26 hb hg_ hnew_;clear hg_ hnew_;(first|rw [← Ny149.out] at ho26|(simp only [Int.reduceToNat] at ho26;rw [← Ny149.out] at ho26));have HO151:=Aside0.mk (Kd.R_lower (Kd.R_new' ho26 (Kd.R_lt (kRC_ HO_3.out))) (below_size (h_HB HB.out)));replace HO_3:=Aside0.mk (Kd.R_elder' (kRC_ HO_3.out) (Kd.R_base ho26) hb);replace HB:=Aside0.mk (below_step (h_HB HB.out) hb);clear hb ho26;have q27:(x5_2:Int)≤((x3_1.length:Int):Int):=odT_;obtain ⟨i027,hi027,_,hsz27,_⟩:=info_parts info3;have hroom27:x3_1.length≤co23:=(Kd.R_reads' HO_3.out).2.1;have hC27:Kd.C (Kd.int .i64) _ (some ad145) x3_1.length x3_1:=(Kd.R_reads' HO_3.out).2.2;have q027:(0:Int)≤(x5_2:Int):=odT_;have hcut27:=cut_from (P:=Try.prog) 24 3 .i64 Try.underlying24 hi027 1 hsz27 (some ad145) x3_1.length co23 x5_2 q027 q27;have hr27:=Kd.C_drop (m:=(x5_2:Int).toNat) (c:=co23) hC27 (by omega) hroom27;obtain ⟨A27,hA27⟩:∃ A1,A1=(if co23=(x5_2:Int).toNat then (some ad145) else ((some ad145):Option Addr).map (·.add ((x5_2:Int).toNat*1))):=⟨_,rfl⟩;obtain ⟨c27,hc27⟩:∃ c1,c1=co23-(x5_2:Int).toNat:=⟨_,rfl⟩;have hy27:y152.length=x3_1.length-(x5_2:Int).toNat:=(by rw [Ny152.out,List.length_drop]<;>omega);rw [show (x3_1).drop (x5_2:Int).toNat=y152 from Ny152.out.symm] at hr27;replace hr27:Kd.C (Kd.int .i64) _ A27 y152.length y152:=(by rw [hA27];exact hr27);rw [← hy27,← hA27,← hc27] at hcut27;have HR155:=Aside0.mk hr27;have HC155:=Aside0.mk (show y152.length≤c27 from by rw [hy27,hc27];exact Nat.sub_le_sub_right hroom27 _);clear hr27 hC27 hroom27 hi027 hsz27 hc27;have KY27:=Aside0.mk hy27;have KA27:=Aside0.mk hA27;clear hy27 hA27;have KL27:=Aside0.mk (show (x5_2:Int).toNat≤x3_1.length from by omega);replace q27:=eq_true q27)|((with_reducible refine gate_builtin (b:=.append) (xs:=#[.tmp 46,.tmp 49]) rfl ?_);at_builtin;refine Kd.R_append_rows (Kd.int .i64) (w0:=w) w.heap.size rfl (.tmp 46) (.tmp 49) 24 3 (.int .i64 0) 8 rfl Try.underlying24 info3 rfl (by decide) (by omega) v150 y149 y152 _ _ _ (fun k_=>some k_≠(.slice (some ad145) x3_1.length co23:Value).ownBlock) (fun _=>False) rfl rfl ?aO ?aR (fun _ _ h=>h) (fun _ h=>h.elim) ?aF ?aB ?aS ?aL ?_;(case aR=>repeat (first|exact (by repeat (first|(with_reducible exact HR155.out)|(with_reducible refine Kd.C_alloc ?_ _)|(with_reducible refine Kd.C_drewN ?_ _)|(with_reducible refine Kd.C_drew ?_)|exact HR155.out))|(with_reducible refine Kd.C_alloc ?_ _)|(with_reducible refine Kd.C_drewN ?_ _)|(with_reducible refine Kd.C_drew ?_)));(case aB=>exact (h_HB HB.out));(case aF=>exact (fun k_ hk=>Kd.fresh' (Kd.R_lt (kRC_ HO_3.out)) k_ hk));(case aO=>exact (by (with_reducible repeat (first|apply Kd.R_alloc|apply Kd.R_drewN|apply Kd.R_drew));exact Kd.R_mono HO151.out (fun _ hk=>hk.2)));(case aS=>exact (below_size (h_HB HB.out)));(case aL=>have:=LMc18.out;omega);intro v157 w28 ho hb hg hat;rw [← Ny156.out] at ho;replace HB:=Aside0.mk (hb);replace HR155:=Aside0.mk ((show Kd.C (Kd.int .i64) w28 A27 y152.length y152 from by rw [Ny152.out,KA27.out];exact Kd.C_drop (m:=(x5_2:Int).toNat) (c:=co23) ((Kd.R_reads' (Kd.R_after (ok:=(fun _=>True)) (kRC_ HO_3.out) hg hat)).2.2) KL27.out ((Kd.R_reads' (Kd.R_after (ok:=(fun _=>True)) (kRC_ HO_3.out) hg hat)).2.1)));replace HO_3:=Aside0.mk (Kd.R_after (ok:=(fun _=>True)) (kRC_ HO_3.out) hg hat);have HO158:=Aside0.mk (ho);clear HO151;clear ho hb hg hat))
             replace HO_3:=Aside0.mk (Kd.R_drew HO_3.out);replace HO158:=Aside0.mk (Kd.R_drew HO158.out);replace HR155:=Aside0.mk (Kd.C_drew HR155.out);replace HB:=Aside0.mk (below_drew1 HB.out)
             have q30:(x5_2:Int)≤((x3_1.length:Int):Int):=odT_
             obtain ⟨i030,hi030,_,hsz30,_⟩:=info_parts info3
             have hcut30:=cut_to (P:=Try.prog) 24 3 .i64 Try.underlying24 hi030 (some ad145) x3_1.length co23 x5_2 (odT_) q30 (Kd.R_reads' HO_3.out).2.1
             have hr30:=Kd.R_take (m:=(x5_2:Int).toNat) HO_3.out (by omega)
             have hy30:y159.length=(x5_2:Int).toNat:=(by rw [Ny159.out,List.length_take];omega)
             rw [← Ny159.out] at hr30
             rw [← hy30] at hr30 hcut30
             clear hy30 hi030 hsz30 HO_3
             have HO161:=Aside0.mk hr30
             clear hr30
             replace q30:=eq_true q30
             have p162:0≤(x4_1:Int):=odT_
             have q162:x4_1<(l0.length:Int):=odT_
             obtain ⟨ad162,e162,hx162_0⟩:=Kd.at_int HR0.out x4_1 p162 q162
             have hw162_0:=hx162_0
             obtain rfl:ad146=ad162:=(by injection e162)
             replace hx162_0:=(HB.out.cell (World.block_lt_of_cell? w _ hx162_0)).trans hx162_0
             replace p162:=eq_true p162
             replace q162:=eq_true q162
             refine start_ (n:=12) (S:=fun w'=>w'.cell? (ad146.add (x4_1).toNat)=some (.int .i64 (rd l0 x4_1))) (ds:=[]) #[F_,F_,F_,F_,F_,F_,F_,F_,F_,F_,F_,F_] krT_ rfl rfl (((HB.out.cell (World.block_lt_of_cell? w _ hw162_0)).trans hw162_0)) (fun hHeld=>?_);refine with_tabW spec_SortSets.tab10 spec_SortSets.bits10 (fun HT_ HW_=>?_)
             generalize w28.drew=w29 at HO_3 HO158 HR155 HB HO161 hx162_0 hHeld ⊢
             refine pu_ 0 (some 51) (bm_ 12 1) rfl rfl HT_.out ?_
             refine pu_ 1 (some 52) (bm_ 12 3) rfl rfl HT_.out ?_
             refine pu_ 2 (some 53) (bm_ 12 7) rfl rfl HT_.out ?_
             refine pu_ 3 (some 54) (bm_ 12 15) rfl rfl HT_.out ?_
             refine pu_ 4 (some 55) (bm_ 12 31) rfl rfl HT_.out ?_
             refine pu_ 5 (some 56) (bm_ 12 63) rfl rfl HT_.out ?_
             refine pu_ 9 (some 60) (bm_ 12 575) rfl rfl HT_.out ?_
             refine take_ (i:=6) (N:=some 57) (v:=?_) (a':=?_) (bm_ 12 639) rfl rfl (take_ofW HT_.out HW_.out krT_) (fun _ _ _ h=>h) (Or.inl ⟨by rfl,?_⟩) hHeld ?_ ?_
             rotate_left
             ·intro w' s0
              go_simp
              with_reducible rfl
             rotate_left;exact apT_
             refine one_ (i:=7) (N:=some 58) (bm_ 12 767) rfl rfl (one_of HT_.out krT_) (by decide) (fun K hK=>?_)
             refine value_ (w1:=?_) (v:=?_) (by rfl) rfl ?_ ?_
             rotate_left 2
             ·go_simp
              constructor
              ·rfl
              ·rfl
             refine hK.out _ _ ((World.cell?_alloc_lt _ _ _ (World.block_lt_of_cell? _ _ (((HB.out.cell (World.block_lt_of_cell? w _ hw162_0)).trans hw162_0)))).trans (((HB.out.cell (World.block_lt_of_cell? w _ hw162_0)).trans hw162_0))) (fun hHeld=>?_)
             clear hK K
             refine norm_ (a':=?_) ?_ ?_
             rotate_left
             ·show Act.put _ (some 58) _=_
              simp only [Act.put,List.setIfInBounds_toArray,List.set_cons_zero,List.set_cons_succ,i64_w,i32_w]
              rfl
             refine one_ (i:=8) (N:=some 59) (bm_ 12 1023) rfl rfl (one_of HT_.out krT_) (by decide) (fun K hK=>?_)
             refine Kd.R_append_step (Kd.int .i64) (w0:=w) w.heap.size (by rfl) (.tmp 53) (.tmp 58) 24 3 (.int .i64 0) 8 rfl Try.underlying24 info3 rfl (by decide) (by omega) (.slice (some ad145) y159.length co23) y159 (rd l0 x4_1) [.int .i64 (rd l0 x4_1)] (fun k_=>some k_≠(v157:Value).ownBlock) (fun _=>False) rfl rfl ?aP (fun _ hk=>hk.elim) ?aF ?aO ?aB ?aS ?aL ?_
             (case aP=>exact rfl)
             (case aB=>exact (h_HB HB.out))
             (case aF=>exact (fun k_ hk=>Kd.fresh' (Kd.R_lt (kRC_ HO158.out)) k_ hk))
             (case aO=>exact (by (with_reducible repeat (first|apply Kd.R_alloc|apply Kd.R_drewN|apply Kd.R_drew));exact Kd.R_mono HO161.out (fun _ hk=>hk.2)))
             (case aS=>exact (below_size (h_HB HB.out)))
             (case aL=>have:=LMc20.out;omega)
             intro v164 w31 ho hb hg hat
             rw [← Ny163.out] at ho
             replace HO158:=Aside0.mk (Kd.R_after (ok:=(fun _=>True)) (by (with_reducible repeat (first|apply Kd.R_alloc|apply Kd.R_drewN|apply Kd.R_drew));exact Kd.R_mono HO158.out (fun _ hk=>⟨trivial,by first|exact hk|exact ob_len_VFnRanksx2 hk⟩)) hg hat);replace HB:=Aside0.mk (hb);have HO165:=Aside0.mk (ho);clear HO161
             clear ho hb hg hat
             obtain ⟨Ao33,co33,eo33⟩:=Kd.R_slice HO158.out
             (first|subst eo33|(injection eo33 with f1_ f2_ f3_;have f4_:=f1_.symm;have f5_:=f3_.symm;clear f1_ f2_ f3_;subst f4_;subst f5_))
             refine hK.out _ _ (((HB.out.cell (World.block_lt_of_cell? w _ hw162_0)).trans hw162_0)) (fun hHeld=>?_)
             clear hK K
             refine norm_ (a':=?_) ?_ ?_
             rotate_left
             ·show Act.put _ (some 59) _=_
              simp only [Act.put,List.setIfInBounds_toArray,List.set_cons_zero,List.set_cons_succ,i64_w,i32_w]
              rfl
             refine one_ (i:=10) (N:=some 61) (bm_ 12 2047) rfl rfl (one_of HT_.out krT_) (by decide) (fun K hK=>?_)
             refine Kd.R_append_rows_step (Kd.int .i64) (w0:=w) w.heap.size (by rfl) (.tmp 59) (.tmp 60) 24 3 (.int .i64 0) 8 rfl Try.underlying24 info3 rfl (by decide) (by omega) v164 y163 y156 _ _ _ (fun k_=>some k_≠(.slice Ao33 y156.length co33:Value).ownBlock) (fun _=>False) rfl rfl ?aO ?aR (fun _ _ h=>h) (fun _ h=>h.elim) ?aF ?aB ?aS ?aL ?_
             (case aR=>repeat (first|exact (Kd.R_reads' HO158.out).2.2|(with_reducible refine Kd.C_alloc ?_ _)|(with_reducible refine Kd.C_drewN ?_ _)|(with_reducible refine Kd.C_drew ?_)))
             (case aB=>exact (h_HB HB.out))
             (case aF=>exact (fun k_ hk=>Kd.fresh' (Kd.R_lt (kRC_ HO158.out)) k_ hk))
             (case aO=>exact (kRC_ HO165.out))
             (case aS=>exact (below_size (h_HB HB.out)))
             (case aL=>have:=LMc21.out;omega)
             intro v167 w32 ho hb hg hat
             rw [← Ny166.out] at ho
             replace HO158:=Aside0.mk (Kd.R_after (ok:=(fun _=>True)) (kRC_ HO158.out) hg hat);replace HB:=Aside0.mk (hb);have HO168:=Aside0.mk (ho);clear HO165
             clear ho hb hg hat
             refine hK.out _ _ (((HB.out.cell (World.block_lt_of_cell? w _ hw162_0)).trans hw162_0)) (fun hHeld=>?_)
             clear hK K
             refine norm_ (a':=?_) ?_ ?_
             rotate_left
             ·show Act.put _ (some 61) _=_
              simp only [Act.put,List.setIfInBounds_toArray,List.set_cons_zero,List.set_cons_succ,i64_w,i32_w]
              rfl
             refine pu_ 11 (some 3) (bm_ 12 4095) rfl rfl HT_.out ?_
             refine done_ (done_of HT_.out krT_) ?_
             try go_wp2
             go_roundg k2
             case measure=>have:=HK1.out;have:=HK2.out;omega
             case rel=>exact ⟨(y166),(wrap64 (x4_1+1)),sT_,H',⟨by have:=HK1.out;have:=HK2.out;omega⟩,⟨by (with_reducible repeat (first|apply Kd.R_alloc|apply Kd.R_drewN|apply Kd.R_drew));exact Kd.R_mono HO168.out (fun _ hk=>trivial)⟩,⟨h_HB HB.out⟩⟩
            ·rw [if_neg c21] at H
             exact absurd H (by simp)
           ·rw [if_neg c20] at H
            exact absurd H (by simp)
          ·rw [if_neg c18] at H
           exact absurd H (by simp)
         ·rw [if_neg c17] at H
          exact absurd H (by simp)
      ·obtain ⟨y169,hy169⟩:∃ y_:List Int,y_=(([]:List Int)):=⟨_,rfl⟩
       replace H:(if 0≤x5_2 then (if x5_2≤(x3_1.length:Int) then ((some (x3_1.drop (x5_2:Int).toNat:List Int)).bind fun y172=>(if y169.length+y172.length<17592186044416 then ((some (y169++y172:List Int)).bind fun y176=>((some (x3_1.take (x5_2:Int).toNat:List Int)).bind fun y179=>(if 0≤x4_1 then (if x4_1<(l0.length:Int) then (if y179.length<17592186044416 then ((some (y179++[rd l0 x4_1]:List Int)).bind fun y183=>(if y183.length+y176.length<17592186044416 then (spec_SortSets.l0 k2 l0 (y183++y176) (wrap64 (x4_1+1))) else (none))) else (none)) else (none)) else (none)))) else (none))) else (none)) else (none))=some r:=by first|(rw [hy169];with_reducible exact H)|(have H2_:=(Option.bind_some _ _).symm.trans H;rw [hy169];with_reducible exact H2_)|(have H2_:=(Option.bind_some _ _).symm.trans H;with_reducible exact H2_)|with_reducible exact H|(rw [hy169];exact H)|exact H
       have Ny169:=Aside0.mk hy169
       clear hy169
       by_cases c34:0≤x5_2
       ·rw [if_pos c34] at H
        have c34b0:=eq_true c34
        have c34b1:decide (0≤x5_2)=true:=decide_eq_true c34
        clear c34
        by_cases c35:x5_2≤(x3_1.length:Int)
        ·rw [if_pos c35] at H
         have c35b0:=eq_true c35
         have c35b1:decide (x5_2≤(x3_1.length:Int))=true:=decide_eq_true c35
         clear c35
         obtain ⟨y172,hy172⟩:∃ y_:List Int,y_=(x3_1.drop (x5_2:Int).toNat):=⟨_,rfl⟩
         replace H:(if y169.length+y172.length<17592186044416 then ((some (y169++y172:List Int)).bind fun y176=>((some (x3_1.take (x5_2:Int).toNat:List Int)).bind fun y179=>(if 0≤x4_1 then (if x4_1<(l0.length:Int) then (if y179.length<17592186044416 then ((some (y179++[rd l0 x4_1]:List Int)).bind fun y183=>(if y183.length+y176.length<17592186044416 then (spec_SortSets.l0 k2 l0 (y183++y176) (wrap64 (x4_1+1))) else (none))) else (none)) else (none)) else (none)))) else (none))=some r:=by first|(rw [hy172];with_reducible exact H)|(have H2_:=(Option.bind_some _ _).symm.trans H;rw [hy172];with_reducible exact H2_)|(have H2_:=(Option.bind_some _ _).symm.trans H;with_reducible exact H2_)|with_reducible exact H|(rw [hy172];exact H)|exact H
         have Ny172:=Aside0.mk hy172
         clear hy172
         by_cases c36:y169.length+y172.length<17592186044416
         ·rw [if_pos c36] at H
          have LMc36:=Aside0.mk c36
          clear c36
          obtain ⟨y176,hy176⟩:∃ y_:List Int,y_=(y169++y172):=⟨_,rfl⟩
          replace H:((some (x3_1.take (x5_2:Int).toNat:List Int)).bind fun y179=>(if 0≤x4_1 then (if x4_1<(l0.length:Int) then (if y179.length<17592186044416 then ((some (y179++[rd l0 x4_1]:List Int)).bind fun y183=>(if y183.length+y176.length<17592186044416 then (spec_SortSets.l0 k2 l0 (y183++y176) (wrap64 (x4_1+1))) else (none))) else (none)) else (none)) else (none)))=some r:=by first|(rw [hy176];with_reducible exact H)|(have H2_:=(Option.bind_some _ _).symm.trans H;rw [hy176];with_reducible exact H2_)|(have H2_:=(Option.bind_some _ _).symm.trans H;with_reducible exact H2_)|with_reducible exact H|(rw [hy176];exact H)|exact H
          have Ny176:=Aside0.mk hy176
          clear hy176
          have c37b0:=eq_true (odT_:x5_2≤(x3_1.length:Int))
          obtain ⟨y179,hy179⟩:∃ y_:List Int,y_=(x3_1.take (x5_2:Int).toNat):=⟨_,rfl⟩
          replace H:(if 0≤x4_1 then (if x4_1<(l0.length:Int) then (if y179.length<17592186044416 then ((some (y179++[rd l0 x4_1]:List Int)).bind fun y183=>(if y183.length+y176.length<17592186044416 then (spec_SortSets.l0 k2 l0 (y183++y176) (wrap64 (x4_1+1))) else (none))) else (none)) else (none)) else (none))=some r:=by first|(rw [hy179];with_reducible exact H)|(have H2_:=(Option.bind_some _ _).symm.trans H;rw [hy179];with_reducible exact H2_)|(have H2_:=(Option.bind_some _ _).symm.trans H;with_reducible exact H2_)|with_reducible exact H|(rw [hy179];exact H)|exact H
          have Ny179:=Aside0.mk hy179
          clear hy179
          replace H:=gsm_ H;obtain ⟨c38b0,H⟩:=H
          replace H:=gsm_ H;obtain ⟨c39b0,H⟩:=H
          by_cases c40:y179.length<17592186044416
          ·rw [if_pos c40] at H
           have LMc40:=Aside0.mk c40
           clear c40
           obtain ⟨y183,hy183⟩:∃ y_:List Int,y_=(y179++[rd l0 x4_1]):=⟨_,rfl⟩
           replace H:(if y183.length+y176.length<17592186044416 then (spec_SortSets.l0 k2 l0 (y183++y176) (wrap64 (x4_1+1))) else (none))=some r:=by first|(rw [hy183];with_reducible exact H)|(have H2_:=(Option.bind_some _ _).symm.trans H;rw [hy183];with_reducible exact H2_)|(have H2_:=(Option.bind_some _ _).symm.trans H;with_reducible exact H2_)|with_reducible exact H|(rw [hy183];exact H)|exact H
           have Ny183:=Aside0.mk hy183
           clear hy183
           by_cases c41:y183.length+y176.length<17592186044416
           ·rw [if_pos c41] at H
            have LMc41:=Aside0.mk c41
            clear c41
            obtain ⟨y186,hy186⟩:∃ y_:List Int,y_=(y183++y176):=⟨_,rfl⟩
            replace H:(spec_SortSets.l0 k2 l0 y186 (wrap64 (x4_1+1)))=some r:=by first|(rw [hy186];with_reducible exact H)|(have H2_:=(Option.bind_some _ _).symm.trans H;rw [hy186];with_reducible exact H2_)|(have H2_:=(Option.bind_some _ _).symm.trans H;with_reducible exact H2_)|with_reducible exact H|(rw [hy186];exact H)|exact H
            have Ny186:=Aside0.mk hy186
            clear hy186
            have H':=Aside0.mk H
            clear H
            try go_wp2
            replace HO_3:=Aside0.mk (Kd.R_drew HO_3.out);replace HB:=Aside0.mk (below_drew1 HB.out)
            obtain ⟨Ao43,co43,eo43⟩:=Kd.R_slice HO_3.out
            (first|subst eo43|(injection eo43 with f1_ f2_ f3_;have f4_:=f1_.symm;have f5_:=f3_.symm;clear f1_ f2_ f3_;subst f4_;subst f5_))
            refine start_ (n:=15) (S:=fun w'=>True) (ds:=[]) #[F_,F_,F_,F_,F_,F_,F_,F_,F_,F_,F_,F_,F_,F_,F_] krT_ rfl rfl trivial (fun hHeld=>?_);refine with_tabW spec_SortSets.tab6 spec_SortSets.bits6 (fun HT_ HW_=>?_)
            generalize wr.drew=w42 at HO_3 HB hHeld ⊢
            refine pu_ 0 (some 14) (bm_ 15 1) rfl rfl HT_.out ?_
            refine pu_ 1 (some 15) (bm_ 15 3) rfl rfl HT_.out ?_
            refine pu_ 2 (some 16) (bm_ 15 7) rfl rfl HT_.out ?_
            refine pu_ 3 (some 17) (bm_ 15 15) rfl rfl HT_.out ?_
            refine pu_ 4 (some 18) (bm_ 15 31) rfl rfl HT_.out ?_
            refine pure_ (i:=5) (N:=some 19) (v:=undef) (a':=?_) (bm_ 15 63) rfl rfl (any_of HT_.out krT_) (fun _ _ _ h=>h) (Or.inr ⟨by rfl,rfl⟩) ?_ ?_
            rotate_left;exact apT_
            refine pure_ (i:=6) (N:=some 20) (v:=undef) (a':=?_) (bm_ 15 127) rfl rfl (any_of HT_.out krT_) (fun _ _ _ h=>h) (Or.inr ⟨by rfl,rfl⟩) ?_ ?_
            rotate_left;exact apT_
            refine pure_ (i:=7) (N:=some 21) (v:=undef) (a':=?_) (bm_ 15 255) rfl rfl (any_of HT_.out krT_) (fun _ _ _ h=>h) (Or.inr ⟨by rfl,rfl⟩) ?_ ?_
            rotate_left;exact apT_
            refine pure_ (i:=8) (N:=some 22) (v:=undef) (a':=?_) (bm_ 15 511) rfl rfl (any_of HT_.out krT_) (fun _ _ _ h=>h) (Or.inr ⟨by rfl,rfl⟩) ?_ ?_
            rotate_left;exact apT_
            refine pure_ (i:=9) (N:=some 23) (v:=undef) (a':=?_) (bm_ 15 1023) rfl rfl (any_of HT_.out krT_) (fun _ _ _ h=>h) (Or.inr ⟨by rfl,rfl⟩) ?_ ?_
            rotate_left;exact apT_
            refine pure_ (i:=10) (N:=some 24) (v:=undef) (a':=?_) (bm_ 15 2047) rfl rfl (any_of HT_.out krT_) (fun _ _ _ h=>h) (Or.inr ⟨by rfl,rfl⟩) ?_ ?_
            rotate_left;exact apT_
            refine pure_ (i:=11) (N:=some 25) (v:=undef) (a':=?_) (bm_ 15 4095) rfl rfl (any_of HT_.out krT_) (fun _ _ _ h=>h) (Or.inr ⟨by rfl,rfl⟩) ?_ ?_
            rotate_left;exact apT_
            refine pure_ (i:=12) (N:=some 26) (v:=undef) (a':=?_) (bm_ 15 8191) rfl rfl (any_of HT_.out krT_) (fun _ _ _ h=>h) (Or.inr ⟨by rfl,rfl⟩) ?_ ?_
            rotate_left;exact apT_
            refine pure_ (i:=13) (N:=some 27) (v:=undef) (a':=?_) (bm_ 15 16383) rfl rfl (any_of HT_.out krT_) (fun _ _ _ h=>h) (Or.inr ⟨by rfl,rfl⟩) ?_ ?_
            rotate_left;exact apT_
            refine pu_ 14 (some 28) (bm_ 15 32767) rfl rfl HT_.out ?_
            refine done_ (done_of HT_.out krT_) ?_
            try go_wp2
            replace HO_3:=Aside0.mk (Kd.R_drew HO_3.out);replace HB:=Aside0.mk (below_drew1 HB.out)
            refine start_ (n:=15) (S:=fun w'=>True) (ds:=[]) #[F_,F_,F_,F_,F_,F_,F_,F_,F_,F_,F_,F_,F_,F_,F_] krT_ rfl rfl trivial (fun hHeld=>?_);refine with_tabW spec_SortSets.tab8 spec_SortSets.bits8 (fun HT_ HW_=>?_)
            generalize w42.drew=w44 at HO_3 HB hHeld ⊢
            refine pu_ 0 (some 31) (bm_ 15 1) rfl rfl HT_.out ?_
            refine pu_ 1 (some 32) (bm_ 15 3) rfl rfl HT_.out ?_
            refine pu_ 2 (some 33) (bm_ 15 7) rfl rfl HT_.out ?_
            refine pu_ 3 (some 34) (bm_ 15 15) rfl rfl HT_.out ?_
            refine pu_ 4 (some 35) (bm_ 15 31) rfl rfl HT_.out ?_
            refine pure_ (i:=5) (N:=some 36) (v:=undef) (a':=?_) (bm_ 15 63) rfl rfl (any_of HT_.out krT_) (fun _ _ _ h=>h) (Or.inr ⟨by rfl,rfl⟩) ?_ ?_
            rotate_left;exact apT_
            refine pure_ (i:=6) (N:=some 37) (v:=undef) (a':=?_) (bm_ 15 127) rfl rfl (any_of HT_.out krT_) (fun _ _ _ h=>h) (Or.inr ⟨by rfl,rfl⟩) ?_ ?_
            rotate_left;exact apT_
            refine pure_ (i:=7) (N:=some 38) (v:=undef) (a':=?_) (bm_ 15 255) rfl rfl (any_of HT_.out krT_) (fun _ _ _ h=>h) (Or.inr ⟨by rfl,rfl⟩) ?_ ?_
            rotate_left;exact apT_
            refine pure_ (i:=8) (N:=some 39) (v:=undef) (a':=?_) (bm_ 15 511) rfl rfl (any_of HT_.out krT_) (fun _ _ _ h=>h) (Or.inr ⟨by rfl,rfl⟩) ?_ ?_
            rotate_left;exact apT_
            refine pure_ (i:=9) (N:=some 40) (v:=undef) (a':=?_) (bm_ 15 1023) rfl rfl (any_of HT_.out krT_) (fun _ _ _ h=>h) (Or.inr ⟨by rfl,rfl⟩) ?_ ?_
            rotate_left;exact apT_
            refine pure_ (i:=10) (N:=some 41) (v:=undef) (a':=?_) (bm_ 15 2047) rfl rfl (any_of HT_.out krT_) (fun _ _ _ h=>h) (Or.inr ⟨by rfl,rfl⟩) ?_ ?_
            rotate_left;exact apT_
            refine pure_ (i:=11) (N:=some 42) (v:=undef) (a':=?_) (bm_ 15 4095) rfl rfl (any_of HT_.out krT_) (fun _ _ _ h=>h) (Or.inr ⟨by rfl,rfl⟩) ?_ ?_
            rotate_left;exact apT_
            refine pure_ (i:=12) (N:=some 43) (v:=undef) (a':=?_) (bm_ 15 8191) rfl rfl (any_of HT_.out krT_) (fun _ _ _ h=>h) (Or.inr ⟨by rfl,rfl⟩) ?_ ?_
            rotate_left;exact apT_
            refine pure_ (i:=13) (N:=some 44) (v:=undef) (a':=?_) (bm_ 15 16383) rfl rfl (any_of HT_.out krT_) (fun _ _ _ h=>h) (Or.inr ⟨by rfl,rfl⟩) ?_ ?_
            rotate_left;exact apT_
            refine pu_ 14 (some 45) (bm_ 15 32767) rfl rfl HT_.out ?_
            refine done_ (done_of HT_.out krT_) ?_
            try go_wp2_with (first|((with_reducible refine gate_dst (N:=46) rfl ?_);refine Kd.R_lit (Kd.int .i64) _ 3 ?hg (N:=46) ?hd (xs:=([]:List Int)) (inner:=[]) (ok:=fun _=>True) (okp:=fun _=>True) ?hr ?hp (fun _ hk=>hk) trivial (Below.refl _ _) (Nat.le_refl _) (by simp) ?_;(case hd=>rfl);(case hg=>rfl);(case hr=>exact hrT_);(case hp=>exact (Reps.none _ _));intro v170 w45 ho46 hb hg_ hnew_;clear hg_ hnew_;(first|rw [← Ny169.out] at ho46|(simp only [Int.reduceToNat] at ho46;rw [← Ny169.out] at ho46));have HO171:=Aside0.mk (Kd.R_lower (Kd.R_new' ho46 (Kd.R_lt (kRC_ HO_3.out))) (below_size (h_HB HB.out)));replace HO_3:=Aside0.mk (Kd.R_elder' (kRC_ HO_3.out) (Kd.R_base ho46) hb);replace HB:=Aside0.mk (below_step (h_HB HB.out) hb);clear hb ho46;have q47:(x5_2:Int)≤((x3_1.length:Int):Int):=odT_;obtain ⟨i047,hi047,_,hsz47,_⟩:=info_parts info3;have hroom47:x3_1.length≤co43:=(Kd.R_reads' HO_3.out).2.1;have hC47:Kd.C (Kd.int .i64) _ Ao43 x3_1.length x3_1:=(Kd.R_reads' HO_3.out).2.2;have q047:(0:Int)≤(x5_2:Int):=odT_;have hcut47:=cut_from (P:=Try.prog) 24 3 .i64 Try.underlying24 hi047 1 hsz47 Ao43 x3_1.length co43 x5_2 q047 q47;have hr47:=Kd.C_drop (m:=(x5_2:Int).toNat) (c:=co43) hC47 (by omega) hroom47;obtain ⟨A47,hA47⟩:∃ A1,A1=(if co43=(x5_2:Int).toNat then Ao43 else (Ao43:Option Addr).map (·.add ((x5_2:Int).toNat*1))):=⟨_,rfl⟩;obtain ⟨c47,hc47⟩:∃ c1,c1=co43-(x5_2:Int).toNat:=⟨_,rfl⟩;have hy47:y172.length=x3_1.length-(x5_2:Int).toNat:=(by rw [Ny172.out,List.length_drop]<;>omega);rw [show (x3_1).drop (x5_2:Int).toNat=y172 from Ny172.out.symm] at hr47;replace hr47:Kd.C (Kd.int .i64) _ A47 y172.length y172:=(by rw [hA47];exact hr47);rw [← hy47,← hA47,← hc47] at hcut47;have HR175:=Aside0.mk hr47;have HC175:=Aside0.mk (show y172.length≤c47 from by rw [hy47,hc47];exact Nat.sub_le_sub_right hroom47 _);clear hr47 hC47 hroom47 hi047 hsz47 hc47;have KY47:=Aside0.mk hy47;have KA47:=Aside0.mk hA47;clear hy47 hA47;have KL47:=Aside0.mk (show (x5_2:Int).toNat≤x3_1.length from by omega);replace q47:=eq_true q47)|((with_reducible refine gate_builtin (b:=.append) (xs:=#[.tmp 46,.tmp 49]) rfl ?_);at_builtin;refine Kd.R_append_rows (Kd.int .i64) (w0:=w) w.heap.size rfl (.tmp 46) (.tmp 49) 24 3 (.int .i64 0) 8 rfl Try.underlying24 info3 rfl (by decide) (by omega) v170 y169 y172 _ _ _ (fun k_=>some k_≠(.slice Ao43 x3_1.length co43:Value).ownBlock) (fun _=>False) rfl rfl ?aO ?aR (fun _ _ h=>h) (fun _ h=>h.elim) ?aF ?aB ?aS ?aL ?_;(case aR=>repeat (first|exact (by repeat (first|(with_reducible exact HR175.out)|(with_reducible refine Kd.C_alloc ?_ _)|(with_reducible refine Kd.C_drewN ?_ _)|(with_reducible refine Kd.C_drew ?_)|exact HR175.out))|(with_reducible refine Kd.C_alloc ?_ _)|(with_reducible refine Kd.C_drewN ?_ _)|(with_reducible refine Kd.C_drew ?_)));(case aB=>exact (h_HB HB.out));(case aF=>exact (fun k_ hk=>Kd.fresh' (Kd.R_lt (kRC_ HO_3.out)) k_ hk));(case aO=>exact (by (with_reducible repeat (first|apply Kd.R_alloc|apply Kd.R_drewN|apply Kd.R_drew));exact Kd.R_mono HO171.out (fun _ hk=>hk.2)));(case aS=>exact (below_size (h_HB HB.out)));(case aL=>have:=LMc36.out;omega);intro v177 w48 ho hb hg hat;rw [← Ny176.out] at ho;replace HB:=Aside0.mk (hb);replace HR175:=Aside0.mk ((show Kd.C (Kd.int .i64) w48 A47 y172.length y172 from by rw [Ny172.out,KA47.out];exact Kd.C_drop (m:=(x5_2:Int).toNat) (c:=co43) ((Kd.R_reads' (Kd.R_after (ok:=(fun _=>True)) (kRC_ HO_3.out) hg hat)).2.2) KL47.out ((Kd.R_reads' (Kd.R_after (ok:=(fun _=>True)) (kRC_ HO_3.out) hg hat)).2.1)));replace HO_3:=Aside0.mk (Kd.R_after (ok:=(fun _=>True)) (kRC_ HO_3.out) hg hat);have HO178:=Aside0.mk (ho);clear HO171;clear ho hb hg hat))
            replace HO_3:=Aside0.mk (Kd.R_drew HO_3.out);replace HO178:=Aside0.mk (Kd.R_drew HO178.out);replace HR175:=Aside0.mk (Kd.C_drew HR175.out);replace HB:=Aside0.mk (below_drew1 HB.out)
            have q50:(x5_2:Int)≤((x3_1.length:Int):Int):=odT_
            obtain ⟨i050,hi050,_,hsz50,_⟩:=info_parts info3
            have hcut50:=cut_to (P:=Try.prog) 24 3 .i64 Try.underlying24 hi050 Ao43 x3_1.length co43 x5_2 (odT_) q50 (Kd.R_reads' HO_3.out).2.1
            have hr50:=Kd.R_take (m:=(x5_2:Int).toNat) HO_3.out (by omega)
            have hy50:y179.length=(x5_2:Int).toNat:=(by rw [Ny179.out,List.length_take];omega)
            rw [← Ny179.out] at hr50
            rw [← hy50] at hr50 hcut50
            clear hy50 hi050 hsz50 HO_3
            have HO181:=Aside0.mk hr50
            clear hr50
            replace q50:=eq_true q50
            have p182:0≤(x4_1:Int):=odT_
            have q182:x4_1<(l0.length:Int):=odT_
            obtain ⟨ad182,e182,hx182_0⟩:=Kd.at_int HR0.out x4_1 p182 q182
            have hw182_0:=hx182_0
            cases e182
            replace hx182_0:=(HB.out.cell (World.block_lt_of_cell? w _ hx182_0)).trans hx182_0
            replace p182:=eq_true p182
            replace q182:=eq_true q182
            refine start_ (n:=12) (S:=fun w'=>w'.cell? (ad182.add (x4_1).toNat)=some (.int .i64 (rd l0 x4_1))) (ds:=[]) #[F_,F_,F_,F_,F_,F_,F_,F_,F_,F_,F_,F_] krT_ rfl rfl (((HB.out.cell (World.block_lt_of_cell? w _ hw182_0)).trans hw182_0)) (fun hHeld=>?_);refine with_tabW spec_SortSets.tab10 spec_SortSets.bits10 (fun HT_ HW_=>?_)
            generalize w48.drew=w49 at HO_3 HO178 HR175 HB HO181 hx182_0 hHeld ⊢
            refine pu_ 0 (some 51) (bm_ 12 1) rfl rfl HT_.out ?_
            refine pu_ 1 (some 52) (bm_ 12 3) rfl rfl HT_.out ?_
            refine pu_ 2 (some 53) (bm_ 12 7) rfl rfl HT_.out ?_
            refine pu_ 3 (some 54) (bm_ 12 15) rfl rfl HT_.out ?_
            refine pu_ 4 (some 55) (bm_ 12 31) rfl rfl HT_.out ?_
            refine pu_ 5 (some 56) (bm_ 12 63) rfl rfl HT_.out ?_
            refine pu_ 9 (some 60) (bm_ 12 575) rfl rfl HT_.out ?_
            refine take_ (i:=6) (N:=some 57) (v:=?_) (a':=?_) (bm_ 12 639) rfl rfl (take_ofW HT_.out HW_.out krT_) (fun _ _ _ h=>h) (Or.inl ⟨by rfl,?_⟩) hHeld ?_ ?_
            rotate_left
            ·intro w' s0
             go_simp
             with_reducible rfl
            rotate_left;exact apT_
            refine one_ (i:=7) (N:=some 58) (bm_ 12 767) rfl rfl (one_of HT_.out krT_) (by decide) (fun K hK=>?_)
            refine value_ (w1:=?_) (v:=?_) (by rfl) rfl ?_ ?_
            rotate_left 2
            ·go_simp
             constructor
             ·rfl
             ·rfl
            refine hK.out _ _ ((World.cell?_alloc_lt _ _ _ (World.block_lt_of_cell? _ _ (((HB.out.cell (World.block_lt_of_cell? w _ hw182_0)).trans hw182_0)))).trans (((HB.out.cell (World.block_lt_of_cell? w _ hw182_0)).trans hw182_0))) (fun hHeld=>?_)
            clear hK K
            refine norm_ (a':=?_) ?_ ?_
            rotate_left
            ·show Act.put _ (some 58) _=_
             simp only [Act.put,List.setIfInBounds_toArray,List.set_cons_zero,List.set_cons_succ,i64_w,i32_w]
             rfl
            refine one_ (i:=8) (N:=some 59) (bm_ 12 1023) rfl rfl (one_of HT_.out krT_) (by decide) (fun K hK=>?_)
            refine Kd.R_append_step (Kd.int .i64) (w0:=w) w.heap.size (by rfl) (.tmp 53) (.tmp 58) 24 3 (.int .i64 0) 8 rfl Try.underlying24 info3 rfl (by decide) (by omega) (.slice Ao43 y179.length co43) y179 (rd l0 x4_1) [.int .i64 (rd l0 x4_1)] (fun k_=>some k_≠(v177:Value).ownBlock) (fun _=>False) rfl rfl ?aP (fun _ hk=>hk.elim) ?aF ?aO ?aB ?aS ?aL ?_
            (case aP=>exact rfl)
            (case aB=>exact (h_HB HB.out))
            (case aF=>exact (fun k_ hk=>Kd.fresh' (Kd.R_lt (kRC_ HO178.out)) k_ hk))
            (case aO=>exact (by (with_reducible repeat (first|apply Kd.R_alloc|apply Kd.R_drewN|apply Kd.R_drew));exact Kd.R_mono HO181.out (fun _ hk=>hk.2)))
            (case aS=>exact (below_size (h_HB HB.out)))
            (case aL=>have:=LMc40.out;omega)
            intro v184 w51 ho hb hg hat
            rw [← Ny183.out] at ho
            replace HO178:=Aside0.mk (Kd.R_after (ok:=(fun _=>True)) (by (with_reducible repeat (first|apply Kd.R_alloc|apply Kd.R_drewN|apply Kd.R_drew));exact Kd.R_mono HO178.out (fun _ hk=>⟨trivial,by first|exact hk|exact ob_len_VFnRanksx2 hk⟩)) hg hat);replace HB:=Aside0.mk (hb);have HO185:=Aside0.mk (ho);clear HO181
            clear ho hb hg hat
            obtain ⟨Ao53,co53,eo53⟩:=Kd.R_slice HO178.out
            (first|subst eo53|(injection eo53 with f1_ f2_ f3_;have f4_:=f1_.symm;have f5_:=f3_.symm;clear f1_ f2_ f3_;subst f4_;subst f5_))
            refine hK.out _ _ (((HB.out.cell (World.block_lt_of_cell? w _ hw182_0)).trans hw182_0)) (fun hHeld=>?_)
            clear hK K
            refine norm_ (a':=?_) ?_ ?_
            rotate_left
            ·show Act.put _ (some 59) _=_
             simp only [Act.put,List.setIfInBounds_toArray,List.set_cons_zero,List.set_cons_succ,i64_w,i32_w]
             rfl
            refine one_ (i:=10) (N:=some 61) (bm_ 12 2047) rfl rfl (one_of HT_.out krT_) (by decide) (fun K hK=>?_)
            refine Kd.R_append_rows_step (Kd.int .i64) (w0:=w) w.heap.size (by rfl) (.tmp 59) (.tmp 60) 24 3 (.int .i64 0) 8 rfl Try.underlying24 info3 rfl (by decide) (by omega) v184 y183 y176 _ _ _ (fun k_=>some k_≠(.slice Ao53 y176.length co53:Value).ownBlock) (fun _=>False) rfl rfl ?aO ?aR (fun _ _ h=>h) (fun _ h=>h.elim) ?aF ?aB ?aS ?aL ?_
            (case aR=>repeat (first|exact (Kd.R_reads' HO178.out).2.2|(with_reducible refine Kd.C_alloc ?_ _)|(with_reducible refine Kd.C_drewN ?_ _)|(with_reducible refine Kd.C_drew ?_)))
            (case aB=>exact (h_HB HB.out))
            (case aF=>exact (fun k_ hk=>Kd.fresh' (Kd.R_lt (kRC_ HO178.out)) k_ hk))
            (case aO=>exact (kRC_ HO185.out))
            (case aS=>exact (below_size (h_HB HB.out)))
            (case aL=>have:=LMc41.out;omega)
            intro v187 w52 ho hb hg hat
            rw [← Ny186.out] at ho
            replace HO178:=Aside0.mk (Kd.R_after (ok:=(fun _=>True)) (kRC_ HO178.out) hg hat);replace HB:=Aside0.mk (hb);have HO188:=Aside0.mk (ho);clear HO185
            clear ho hb hg hat
            refine hK.out _ _ (((HB.out.cell (World.block_lt_of_cell? w _ hw182_0)).trans hw182_0)) (fun hHeld=>?_)
            clear hK K
            refine norm_ (a':=?_) ?_ ?_
            rotate_left
            ·show Act.put _ (some 61) _=_
             simp only [Act.put,List.setIfInBounds_toArray,List.set_cons_zero,List.set_cons_succ,i64_w,i32_w]
             rfl
            refine pu_ 11 (some 3) (bm_ 12 4095) rfl rfl HT_.out ?_
            refine done_ (done_of HT_.out krT_) ?_
            try go_wp2
            go_roundg k2
            case measure=>have:=HK1.out;have:=HK2.out;omega
            case rel=>exact ⟨(y186),(wrap64 (x4_1+1)),sT_,H',⟨by have:=HK1.out;have:=HK2.out;omega⟩,⟨by (with_reducible repeat (first|apply Kd.R_alloc|apply Kd.R_drewN|apply Kd.R_drew));exact Kd.R_mono HO188.out (fun _ hk=>trivial)⟩,⟨h_HB HB.out⟩⟩
           ·rw [if_neg c41] at H
            exact absurd H (by simp)
          ·rw [if_neg c40] at H
           exact absurd H (by simp)
         ·rw [if_neg c36] at H
          exact absurd H (by simp)
        ·rw [if_neg c35] at H
         exact absurd H (by simp)
       ·rw [if_neg c34] at H
        exact absurd H (by simp)
   ·obtain rfl:=Option.some.inj H
    go_wp2
    go_ret
    exact ⟨_,eT_,kRC_ HO_3.out,h_HB HB.out⟩
end Go.Proofs.Ytekegbacnagbcaa.P
