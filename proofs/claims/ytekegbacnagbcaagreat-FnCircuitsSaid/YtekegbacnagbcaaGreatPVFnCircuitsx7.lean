-- written by gprint (a program of this session's, round the kit's print), out of the translation and hand-written texts
import Derived.Test.YtekegbacnagbcaaGreatPVFnCircuitsx0
import Derived.Test.YtekegbacnagbcaaGreatPVFnCircuitsx2
import Derived.Test.YtekegbacnagbcaaGreatPVFnCircuitsx3
import Derived.Test.YtekegbacnagbcaaGreatPVFnCircuitsx5
import Derived.Test.YtekegbacnagbcaaGreatPVFnCircuitsx6
namespace Go.Proofs.YtekegbacnagbcaaGreat.P
open Go.RowKit Go.Proofs.YtekegbacnagbcaaGreatW.PrintWords Go.Proofs.YtekegbacnagbcaaGreatW.PrintLast Go.Proofs.YtekegbacnagbcaaGreatW.PrintMore
attribute [local go_sem] max2_int min2_int max_two min_two max_three min_three max_four min_four
set_option linter.unusedVariables false
set_option maxHeartbeats 8000000
set_option maxRecDepth 100000
set_option linter.unusedSimpArgs false
def spec_MatroidText.f (k:Nat) (a0_0:Int) (l0_1:List Int):Option (ByteArray):=(spec_IsMatroid.f k a0_0 l0_1).bind fun t244=>(if t244=true then ((spec_FormatInt.f k a0_0).bind fun t245=>(if t245.size+1≤9223372036854775807 then ((spec_FamilyText.f k l0_1).bind fun t246=>(if (t245++(⟨#[32]⟩:ByteArray)).size+t246.size≤9223372036854775807 then (some ((t245++(⟨#[32]⟩:ByteArray))++t246)) else (none))) else (none))) else (some (⟨#[]⟩:ByteArray)))
def spec_MatroidText.T3:Bool × List (List Nat × List Nat):=(true,[([],[]),([0],[0]),([1],[1]),([2],[2]),([],[]),([4],[4]),([5,2],[5]),([3,6],[3,6]),([7,6,0,1,2,3,4,5,6,7],[7])])
def spec_MatroidText.B3:List Nat:=[0,1,3,7,0,16,55,127,255]
theorem spec_MatroidText.tab3:rtab .any (opsOf Tryz.f102 3)=spec_MatroidText.T3:=by kernel_rfl
theorem spec_MatroidText.bits3:waitsOk spec_MatroidText.T3.2 spec_MatroidText.B3=true:=by kernel_rfl
theorem spec_MatroidText.calls (k:Nat) (a0_0:Int) (A0_1:Option Addr) (c0_1:Nat) (l0_1:List Int) (r:ByteArray) (w:World) (hr0_1:Kd.C (Kd.int .i64) w A0_1 l0_1.length l0_1) (hc0_1:l0_1.length≤c0_1) (h:spec_MatroidText.f k a0_0 l0_1=some r) :
    Calls Tryz.prog 102 #[.agg #[.int .i64 a0_0,.slice A0_1 l0_1.length c0_1]] w fun e w'=>e=.returned (.string r)∧Below w.heap.size w w':=by
 have hu26:=Tryz.underlying26
 have HR0_1:=Aside0.mk hr0_1
 have HC0_1:=Aside0.mk hc0_1
 clear hr0_1 hc0_1
 have HB:=Aside0.mk (Below.refl w.heap.size w)
 unfold spec_MatroidText.f at h
 have H:=h
 clear h
 replace H:=bnd_ H;obtain ⟨t244,A2,H⟩:=H
 replace H:=(gst_ H).symm;rcases H with ⟨rfl,H⟩|⟨rfl,H⟩
 ·obtain rfl:=Option.some.inj H
  go_enter Tryz.func102,Tryz.ntmps102
  go_wp2_with (first|((with_reducible refine gate_dst (N:=1) rfl ?_);refine bx_ (N:=1) (cs:=#[.int .i64 a0_0,.slice A0_1 l0_1.length c0_1]) (t:=26) ?_;intro gb243 hg w14 hbox hb;have BK243:=Aside0.mk (hbox);have GW243:=Aside0.mk (gw_ hg (h_HB HB.out));have GE243:=GW243;replace HB:=s_HB HB.out hb;clear hb hbox hg;obtain ⟨hcz15_0,hcz15_1,hfz15_0,hfz15_1⟩:=bz2_ BK243.out)|((with_reducible refine gate_callee (f:=20) rfl ?_);refine goesL_ (some 4) rfl rfl Tryz.func20 krT_ rfl #[.agg #[.int .i64 a0_0,.slice A0_1 l0_1.length c0_1]] rfl agT_ ?_;(with_reducible refine (spec_IsMatroid.calls k a0_0 _ _ l0_1 false _ ?side1 ?side2 A2.out).mono ?_);(case side1=>exact cC_ HR0_1.out);(case side2=>exact HC0_1.out);rintro e w16 ⟨rfl,hb⟩;refine ⟨_,rfl,?_⟩;replace BK243:=sBK_ BK243.out hb;replace HB:=s_HB HB.out hb;(try clear hb)))
  go_ret
  exact ⟨eT_,h_HB HB.out⟩
 replace H:=bnd_ H;obtain ⟨t245,A4,H⟩:=H
 replace H:=gsp_ H;obtain ⟨c5,H⟩:=H
 have c5b0:=eq_true c5
 have c5b1:decide (t245.size+1≤9223372036854775807)=true:=decide_eq_true c5
 try have c5b2:(9223372036854775807<t245.size+1)=False:=eq_false (Nat.not_lt.2 c5)
 replace H:=bnd_ H;obtain ⟨t246,A6,H⟩:=H
 replace H:=gsp_ H;obtain ⟨c7,H⟩:=H
 have c7b0:=eq_true c7
 have c7b1:decide ((t245++(⟨#[32]⟩:ByteArray)).size+t246.size≤9223372036854775807)=true:=decide_eq_true c7
 try have c7b2:(9223372036854775807<(t245++(⟨#[32]⟩:ByteArray)).size+t246.size)=False:=eq_false (Nat.not_lt.2 c7)
 try have c7b3:(9223372036854775807<t245.size+1+t246.size)=False:=eq_false (by have h_:=c7;simp only [ByteArray.size_append] at h_;have e_:(⟨#[32]⟩:ByteArray).size=1:=rfl;omega)
 obtain rfl:=Option.some.inj H
 go_enter Tryz.func102,Tryz.ntmps102
 try go_wp2_with (first|((with_reducible refine gate_dst (N:=1) rfl ?_);refine bx_ (N:=1) (cs:=#[.int .i64 a0_0,.slice A0_1 l0_1.length c0_1]) (t:=26) ?_;intro gb243 hg w8 hbox hb;have BK243:=Aside0.mk (hbox);have GW243:=Aside0.mk (gw_ hg (h_HB HB.out));have GE243:=GW243;replace HB:=s_HB HB.out hb;clear hb hbox hg;obtain ⟨hcz9_0,hcz9_1,hfz9_0,hfz9_1⟩:=bz2_ BK243.out)|((with_reducible refine gate_callee (f:=20) rfl ?_);refine goesL_ (some 4) rfl rfl Tryz.func20 krT_ rfl #[.agg #[.int .i64 a0_0,.slice A0_1 l0_1.length c0_1]] rfl agT_ ?_;(with_reducible refine (spec_IsMatroid.calls k a0_0 _ _ l0_1 true _ ?side1 ?side2 A2.out).mono ?_);(case side1=>exact cC_ HR0_1.out);(case side2=>exact HC0_1.out);rintro e w10 ⟨rfl,hb⟩;refine ⟨_,rfl,?_⟩;replace BK243:=sBK_ BK243.out hb;replace HB:=s_HB HB.out hb;(try clear hb)))
 replace BK243:=Aside0.mk (blk_drew BK243.out);replace HB:=Aside0.mk (below_drew1 HB.out)
 refine start_ (n:=9) (S:=fun w'=>w'.cell? ⟨gb243,0,none⟩=some (.int .i64 a0_0)∧w'.cell? ⟨gb243,1,none⟩=some (.slice A0_1 l0_1.length c0_1)) (ds:=[]) #[F_,F_,F_,F_,F_,F_,F_,F_,F_] krT_ rfl rfl ⟨(blk_cell BK243.out 0).trans rfl,(blk_cell BK243.out 1).trans rfl⟩ (fun hHeld=>?_);refine with_tabW spec_MatroidText.tab3 spec_MatroidText.bits3 (fun HT_ HW_=>?_)
 generalize w10.drew=w11 at BK243 HB hHeld ⊢
 refine pu_ 0 (some 6) (bm_ 9 1) rfl rfl HT_.out ?_
 refine pu_ 4 (some 10) (bm_ 9 17) rfl rfl HT_.out ?_
 refine take_ (i:=1) (N:=some 7) (v:=?_) (a':=?_) (bm_ 9 19) rfl rfl (take_ofW HT_.out HW_.out krT_) (fun _ _ _ h=>h) (Or.inl ⟨by rfl,?_⟩) hHeld ?_ ?_
 rotate_left
 ·rintro w' ⟨s0,s1⟩
  go_simp
  with_reducible rfl
 rotate_left;exact apT_
 refine take_ (i:=5) (N:=some 11) (v:=?_) (a':=?_) (bm_ 9 51) rfl rfl (take_ofW HT_.out HW_.out krT_) (fun _ _ _ h=>h) (Or.inl ⟨by rfl,?_⟩) hHeld ?_ ?_
 rotate_left
 ·rintro w' ⟨s0,s1⟩
  go_simp
  with_reducible rfl
 rotate_left;exact apT_
 refine one_ (i:=2) (N:=some 8) (bm_ 9 55) rfl rfl (one_of HT_.out krT_) (by decide) (fun K hK=>?_)
 refine goes_ Tryz.func118 krT_ rfl #[.int .i64 a0_0] (by rfl) rfl rfl agT_ ?_
 with_reducible refine (spec_FormatInt.calls k a0_0 t245 _ A4.out).mono ?_
 rintro e w12 ⟨rfl,hb⟩
 refine ⟨_,rfl,?_⟩
 replace BK243:=sBK_ BK243.out hb;replace HB:=s_HB HB.out hb
 (try clear hb)
 (try clear hb2)
 (try clear hk)
 (try clear hi)
 refine hK.out _ _ ⟨(blk_cell BK243.out 0).trans rfl,(blk_cell BK243.out 1).trans rfl⟩ (fun hHeld=>?_)
 clear hK K
 refine norm_ (a':=?_) ?_ ?_
 rotate_left
 ·show Act.put _ (some 8) _=_
  simp only [Act.put,List.setIfInBounds_toArray,List.set_cons_zero,List.set_cons_succ,i64_w,i32_w]
  rfl
 refine pu_ 3 (some 9) (bm_ 9 63) rfl rfl HT_.out ?_
 refine one_ (i:=6) (N:=some 12) (bm_ 9 127) rfl rfl (one_of HT_.out krT_) (by decide) (fun K hK=>?_)
 refine goes_ Tryz.func117 krT_ rfl #[.slice A0_1 l0_1.length c0_1] (by rfl) rfl rfl agT_ ?_
 with_reducible refine (spec_FamilyText.calls k _ _ l0_1 t246 _ ?side1 ?side2 A6.out).mono ?_
 (case side1=>exact cC_ HR0_1.out)
 (case side2=>exact HC0_1.out)
 rintro e w13 ⟨rfl,hb⟩
 refine ⟨_,rfl,?_⟩
 replace BK243:=sBK_ BK243.out hb;replace HB:=s_HB HB.out hb
 (try clear hb)
 (try clear hb2)
 (try clear hk)
 (try clear hi)
 refine hK.out _ _ ⟨(blk_cell BK243.out 0).trans rfl,(blk_cell BK243.out 1).trans rfl⟩ (fun hHeld=>?_)
 clear hK K
 refine norm_ (a':=?_) ?_ ?_
 rotate_left
 ·show Act.put _ (some 12) _=_
  simp only [Act.put,List.setIfInBounds_toArray,List.set_cons_zero,List.set_cons_succ,i64_w,i32_w]
  rfl
 refine pu_ 7 (some 13) (bm_ 9 255) rfl rfl HT_.out ?_
 refine pu_ 8 (some 2) (bm_ 9 511) rfl rfl HT_.out ?_
 refine done_ (done_of HT_.out krT_) ?_
 try go_wp2
 go_ret
 exact ⟨eT_,h_HB HB.out⟩
def spec_ParseMatroid.f (k:Nat) (a0:ByteArray):Option (Int × List Int × Bool):=(spec_SplitByte.f k a0 32).bind fun t248=>(if (t248.length:Int)=2 then (if 0<(t248.length:Int) then ((spec_ParseInt.f k (rdOf ByteArray.empty t248 0)).bind fun bt252=>(if 1<(t248.length:Int) then ((spec_ParseFamily.f k bt252.1 (rdOf ByteArray.empty t248 1)).bind fun bt255=>(if bt252.2=true then (if bt255.2=true then ((spec_MatroidText.f k bt252.1 bt255.1).bind fun t260=>(if t260.toList=a0.toList then (some (bt252.1,bt255.1,true)) else (some (0,([]:List Int),false)))) else (some (0,([]:List Int),false))) else (some (0,([]:List Int),false)))) else (none))) else (none)) else (some (0,([]:List Int),false)))
theorem spec_ParseMatroid.calls (k:Nat) (a0:ByteArray) (r1:Int) (r2:List Int) (r3:Bool) (w:World) (h:spec_ParseMatroid.f k a0=some (r1,r2,r3)) :
    Calls Tryz.prog 91 #[.string a0] w fun e w'=>∃ v1_:Value,e=.returned (.tuple #[.agg #[.int .i64 r1,v1_],.bool r3])∧Kd.R (Kd.int .i64) 3 w' w.heap.size (fun _=>True) v1_ r2∧Below w.heap.size w w':=by
 have hu26:=Tryz.underlying26
 have HB:=Aside0.mk (Below.refl w.heap.size w)
 unfold spec_ParseMatroid.f at h
 have H:=h
 clear h
 replace H:=bnd_ H;obtain ⟨t248,A2,H⟩:=H
 replace H:=(gse_ H).symm;rcases H with ⟨c3b0,c3b1,c3,H⟩|⟨c3b0,c3b1,H⟩
 ·simp only [Option.some.injEq,Prod.mk.injEq] at H
  obtain ⟨rfl,rfl,rfl⟩:=H
  go_enter Tryz.func91,Tryz.ntmps91
  go_wp2_with (first|((with_reducible refine gate_dst (N:=2) rfl ?_);refine bx_ (N:=2) (cs:=#[.int .i64 0,.slice none 0 0]) (t:=26) ?_;intro gb247 hg w55 hbox hb;have BK247:=Aside0.mk (hbox);have GW247:=Aside0.mk (gw_ hg (h_HB HB.out));have GE247:=GW247;replace HB:=s_HB HB.out hb;clear hb hbox hg)|((with_reducible refine gate_callee (f:=99) rfl ?_);refine goesL_ (some 11) rfl rfl Tryz.func99 krT_ rfl #[.string a0,.int .u8 32] rfl agT_ ?_;(with_reducible refine (spec_SplitByte.calls k a0 32 t248 _ A2.out).mono ?_);rintro e w56 ⟨v249,rfl,ho0,hb⟩;refine ⟨_,rfl,?_⟩;have HO250:=Aside0.mk (Kd.R_lower ho0 (below_size (h_HB HB.out)));replace BK247:=sBK_ BK247.out hb;replace HB:=s_HB HB.out hb;(try clear hb);(try clear ho0);obtain ⟨Ao57,co57,eo57⟩:=Kd.R_slice HO250.out;subst eo57;obtain ⟨hcz58_0,hcz58_1,hfz58_0,hfz58_1⟩:=bz2_ BK247.out))
  refine bodyPost_ret (results_ct rfl _ _ gb247 26 #[.int .i64 0,.slice none 0 0] (0,0) _ rfl (by (with_reducible repeat (first|refine blk_drewN ?_ _|refine blk_drew ?_|refine blk_alloc ?_ _));exact bp2_ (bkC_ BK247.out)) Tryz.underlying26 rfl krT_) rfl ?_
  exact ⟨_,eT_,by first|exact Kd.R_nil _ _ _ _ _|exact Kd.N_nil _ _ _ _ _|exact Kd.V_nil _ _ _ _ _|exact Kd.Q_nil _ _ _ _ _|exact Kd.S_nil _ _ _ _ _,h_HB HB.out⟩
 replace H:=gsp_ H;obtain ⟨c4,H⟩:=H
 have c4b0:decide (0<(t248.length:Int))=true:=decide_eq_true c4
 have c4b1:decide (0<t248.length)=true:=decide_eq_true (by omega)
 clear c4
 replace H:=bnd_ H;obtain ⟨⟨t252,t253⟩,A5,H⟩:=H;dsimp only at H
 replace H:=gsp_ H;obtain ⟨c6,H⟩:=H
 have c6b0:decide (1<(t248.length:Int))=true:=decide_eq_true c6
 have c6b1:decide (1<t248.length)=true:=decide_eq_true (by omega)
 clear c6
 replace H:=bnd_ H;obtain ⟨⟨t255,t256⟩,A7,H⟩:=H;dsimp only at H
 replace H:=(gst_ H).symm;rcases H with ⟨rfl,H⟩|⟨rfl,H⟩
 ·simp only [Option.some.injEq,Prod.mk.injEq] at H
  obtain ⟨rfl,rfl,rfl⟩:=H
  go_enter Tryz.func91,Tryz.ntmps91
  go_wp2_with (first|((with_reducible refine gate_dst (N:=2) rfl ?_);refine bx_ (N:=2) (cs:=#[.int .i64 0,.slice none 0 0]) (t:=26) ?_;intro gb247 hg w45 hbox hb;have BK247:=Aside0.mk (hbox);have GW247:=Aside0.mk (gw_ hg (h_HB HB.out));have GE247:=GW247;replace HB:=s_HB HB.out hb;clear hb hbox hg)|((with_reducible refine gate_callee (f:=99) rfl ?_);refine goesL_ (some 11) rfl rfl Tryz.func99 krT_ rfl #[.string a0,.int .u8 32] rfl agT_ ?_;(with_reducible refine (spec_SplitByte.calls k a0 32 t248 _ A2.out).mono ?_);rintro e w46 ⟨v249,rfl,ho0,hb⟩;refine ⟨_,rfl,?_⟩;have HO250:=Aside0.mk (Kd.R_lower ho0 (below_size (h_HB HB.out)));replace BK247:=sBK_ BK247.out hb;replace HB:=s_HB HB.out hb;(try clear hb);(try clear ho0);obtain ⟨Ao47,co47,eo47⟩:=Kd.R_slice HO250.out;subst eo47;have p251:0≤(0:Int):=(by omega);have q251:0<(t248.length:Int):=odT_;obtain ⟨ad251,e251,hx251_0⟩:=Kd.at_string (Kd.R_reads' HO250.out).2.2 0 p251 q251;cases e251;have qi251:(0<t248.length)=True:=eq_true (by omega);(try rw [show ((0:Int)).toNat=0 from rfl] at hx251_0);(try rw [Addr.add_zero'] at hx251_0);replace p251:=eq_true p251;replace q251:=eq_true q251)|((with_reducible refine gate_callee (f:=100) rfl ?_);refine goesL_ (some 20) rfl rfl Tryz.func100 krT_ rfl #[.string (rdOf ByteArray.empty t248 0)] rfl agT_ ?_;(with_reducible refine (spec_ParseInt.calls k (rdOf ByteArray.empty t248 0) t252 false _ A5.out).mono ?_);rintro e w48 ⟨rfl,hb⟩;refine ⟨_,rfl,?_⟩;replace HO250:=Aside0.mk (Kd.R_below (kRC_ HO250.out) hb);replace BK247:=sBK_ BK247.out hb;replace HB:=s_HB HB.out hb;(try clear hb);have p254:0≤(1:Int):=(by omega);have q254:1<(t248.length:Int):=odT_;obtain ⟨ad254,e254,hx254_0⟩:=Kd.at_string (Kd.R_reads' HO250.out).2.2 1 p254 q254;obtain rfl:ad251=ad254:=(by injection e254);(try simp only [show (1:Int).toNat=1 from rfl,Nat.reduceMul,Nat.reduceEqDiff,Go.Addr.add,↓reduceIte] at hx254_0);have qi254:(1<t248.length)=True:=eq_true (by omega);(try rw [show ((1:Int)).toNat=1 from rfl] at hx254_0);replace p254:=eq_true p254;replace q254:=eq_true q254)|((with_reducible refine gate_callee (f:=101) rfl ?_);refine goesL_ (some 28) rfl rfl Tryz.func101 krT_ rfl #[.int .i64 t252,.string (rdOf ByteArray.empty t248 1)] rfl agT_ ?_;(with_reducible refine (spec_ParseFamily.calls k t252 (rdOf ByteArray.empty t248 1) t255 t256 _ A7.out).mono ?_);rintro e w49 ⟨v257,rfl,ho0,hb⟩;refine ⟨_,rfl,?_⟩;replace HO250:=Aside0.mk (Kd.R_below (kRC_ HO250.out) hb);have HO258:=Aside0.mk (Kd.R_lower ho0 (below_size (h_HB HB.out)));replace BK247:=sBK_ BK247.out hb;replace HB:=s_HB HB.out hb;(try clear hb);(try clear ho0);obtain ⟨Ao50,co50,eo50⟩:=Kd.R_slice HO258.out;subst eo50)|((with_reducible refine gate_dst (N:=9) rfl ?_);refine bx_ (N:=9) (cs:=#[.int .i64 0,.slice none 0 0]) (t:=26) ?_;intro gb259 hg w51 hbox hb;replace HO250:=Aside0.mk (Kd.R_below (kRC_ HO250.out) hb);replace HO258:=Aside0.mk (Kd.R_below (kRC_ HO258.out) hb);have BK259:=Aside0.mk (hbox);have GW259:=Aside0.mk (gw_ hg (h_HB HB.out));have GE259:=GW259;replace HB:=s_HB HB.out hb;have NB247_259:=Aside0.mk (nbl_ hg (bkC_ BK247.out));have NB259_247:=Aside0.mk NB247_259.out.symm;replace BK247:=sBK_ BK247.out hb;clear hb hbox hg;have hnb52:=NB259_247.out;have hnc52:=NB247_259.out;obtain ⟨hcz53_0,hcz53_1,hfz53_0,hfz53_1⟩:=bz2_ BK259.out;obtain ⟨hcz54_0,hcz54_1,hfz54_0,hfz54_1⟩:=bz2_ BK247.out))
  refine bodyPost_ret (results_ct rfl _ _ gb247 26 #[.int .i64 0,.slice none 0 0] (0,0) _ rfl (by (with_reducible repeat (first|refine blk_drewN ?_ _|refine blk_drew ?_|refine blk_alloc ?_ _));refine blk_put (cs:=#[.int .i64 0,.slice none 0 0]) ?_ 1 _ rfl;(with_reducible repeat (first|refine blk_drewN ?_ _|refine blk_drew ?_|refine blk_alloc ?_ _));refine blk_put (cs:=#[.int .i64 0,.slice none 0 0]) ?_ 0 _ rfl;exact bkC_ BK247.out) Tryz.underlying26 rfl krT_) rfl ?_
  exact ⟨_,eT_,by first|exact Kd.R_nil _ _ _ _ _|exact Kd.N_nil _ _ _ _ _|exact Kd.V_nil _ _ _ _ _|exact Kd.Q_nil _ _ _ _ _|exact Kd.S_nil _ _ _ _ _,h_HB HB.out⟩
 replace H:=(gst_ H).symm;rcases H with ⟨rfl,H⟩|⟨rfl,H⟩
 ·simp only [Option.some.injEq,Prod.mk.injEq] at H
  obtain ⟨rfl,rfl,rfl⟩:=H
  go_enter Tryz.func91,Tryz.ntmps91
  go_wp2_with (first|((with_reducible refine gate_dst (N:=2) rfl ?_);refine bx_ (N:=2) (cs:=#[.int .i64 0,.slice none 0 0]) (t:=26) ?_;intro gb247 hg w35 hbox hb;have BK247:=Aside0.mk (hbox);have GW247:=Aside0.mk (gw_ hg (h_HB HB.out));have GE247:=GW247;replace HB:=s_HB HB.out hb;clear hb hbox hg)|((with_reducible refine gate_callee (f:=99) rfl ?_);refine goesL_ (some 11) rfl rfl Tryz.func99 krT_ rfl #[.string a0,.int .u8 32] rfl agT_ ?_;(with_reducible refine (spec_SplitByte.calls k a0 32 t248 _ A2.out).mono ?_);rintro e w36 ⟨v249,rfl,ho0,hb⟩;refine ⟨_,rfl,?_⟩;have HO250:=Aside0.mk (Kd.R_lower ho0 (below_size (h_HB HB.out)));replace BK247:=sBK_ BK247.out hb;replace HB:=s_HB HB.out hb;(try clear hb);(try clear ho0);obtain ⟨Ao37,co37,eo37⟩:=Kd.R_slice HO250.out;subst eo37;have p251:0≤(0:Int):=(by omega);have q251:0<(t248.length:Int):=odT_;obtain ⟨ad251,e251,hx251_0⟩:=Kd.at_string (Kd.R_reads' HO250.out).2.2 0 p251 q251;cases e251;have qi251:(0<t248.length)=True:=eq_true (by omega);(try rw [show ((0:Int)).toNat=0 from rfl] at hx251_0);(try rw [Addr.add_zero'] at hx251_0);replace p251:=eq_true p251;replace q251:=eq_true q251)|((with_reducible refine gate_callee (f:=100) rfl ?_);refine goesL_ (some 20) rfl rfl Tryz.func100 krT_ rfl #[.string (rdOf ByteArray.empty t248 0)] rfl agT_ ?_;(with_reducible refine (spec_ParseInt.calls k (rdOf ByteArray.empty t248 0) t252 true _ A5.out).mono ?_);rintro e w38 ⟨rfl,hb⟩;refine ⟨_,rfl,?_⟩;replace HO250:=Aside0.mk (Kd.R_below (kRC_ HO250.out) hb);replace BK247:=sBK_ BK247.out hb;replace HB:=s_HB HB.out hb;(try clear hb);have p254:0≤(1:Int):=(by omega);have q254:1<(t248.length:Int):=odT_;obtain ⟨ad254,e254,hx254_0⟩:=Kd.at_string (Kd.R_reads' HO250.out).2.2 1 p254 q254;obtain rfl:ad251=ad254:=(by injection e254);(try simp only [show (1:Int).toNat=1 from rfl,Nat.reduceMul,Nat.reduceEqDiff,Go.Addr.add,↓reduceIte] at hx254_0);have qi254:(1<t248.length)=True:=eq_true (by omega);(try rw [show ((1:Int)).toNat=1 from rfl] at hx254_0);replace p254:=eq_true p254;replace q254:=eq_true q254)|((with_reducible refine gate_callee (f:=101) rfl ?_);refine goesL_ (some 28) rfl rfl Tryz.func101 krT_ rfl #[.int .i64 t252,.string (rdOf ByteArray.empty t248 1)] rfl agT_ ?_;(with_reducible refine (spec_ParseFamily.calls k t252 (rdOf ByteArray.empty t248 1) t255 false _ A7.out).mono ?_);rintro e w39 ⟨v257,rfl,ho0,hb⟩;refine ⟨_,rfl,?_⟩;replace HO250:=Aside0.mk (Kd.R_below (kRC_ HO250.out) hb);have HO258:=Aside0.mk (Kd.R_lower ho0 (below_size (h_HB HB.out)));replace BK247:=sBK_ BK247.out hb;replace HB:=s_HB HB.out hb;(try clear hb);(try clear ho0);obtain ⟨Ao40,co40,eo40⟩:=Kd.R_slice HO258.out;subst eo40)|((with_reducible refine gate_dst (N:=9) rfl ?_);refine bx_ (N:=9) (cs:=#[.int .i64 0,.slice none 0 0]) (t:=26) ?_;intro gb259 hg w41 hbox hb;replace HO250:=Aside0.mk (Kd.R_below (kRC_ HO250.out) hb);replace HO258:=Aside0.mk (Kd.R_below (kRC_ HO258.out) hb);have BK259:=Aside0.mk (hbox);have GW259:=Aside0.mk (gw_ hg (h_HB HB.out));have GE259:=GW259;replace HB:=s_HB HB.out hb;have NB247_259:=Aside0.mk (nbl_ hg (bkC_ BK247.out));have NB259_247:=Aside0.mk NB247_259.out.symm;replace BK247:=sBK_ BK247.out hb;clear hb hbox hg;have hnb42:=NB259_247.out;have hnc42:=NB247_259.out;obtain ⟨hcz43_0,hcz43_1,hfz43_0,hfz43_1⟩:=bz2_ BK259.out;obtain ⟨hcz44_0,hcz44_1,hfz44_0,hfz44_1⟩:=bz2_ BK247.out))
  refine bodyPost_ret (results_ct rfl _ _ gb247 26 #[.int .i64 0,.slice none 0 0] (0,0) _ rfl (by (with_reducible repeat (first|refine blk_drewN ?_ _|refine blk_drew ?_|refine blk_alloc ?_ _));refine blk_put (cs:=#[.int .i64 0,.slice none 0 0]) ?_ 1 _ rfl;(with_reducible repeat (first|refine blk_drewN ?_ _|refine blk_drew ?_|refine blk_alloc ?_ _));refine blk_put (cs:=#[.int .i64 0,.slice none 0 0]) ?_ 0 _ rfl;exact bkC_ BK247.out) Tryz.underlying26 rfl krT_) rfl ?_
  exact ⟨_,eT_,by first|exact Kd.R_nil _ _ _ _ _|exact Kd.N_nil _ _ _ _ _|exact Kd.V_nil _ _ _ _ _|exact Kd.Q_nil _ _ _ _ _|exact Kd.S_nil _ _ _ _ _,h_HB HB.out⟩
 replace H:=bnd_ H;obtain ⟨t260,A10,H⟩:=H
 replace H:=gse_ H;rcases H with ⟨c11b0,c11b1,H⟩|⟨c11b0,c11b1,c11,H⟩
 ·simp only [Option.some.injEq,Prod.mk.injEq] at H
  obtain ⟨rfl,rfl,rfl⟩:=H
  go_enter Tryz.func91,Tryz.ntmps91
  go_wp2_with (first|((with_reducible refine gate_dst (N:=2) rfl ?_);refine bx_ (N:=2) (cs:=#[.int .i64 0,.slice none 0 0]) (t:=26) ?_;intro gb247 hg w12 hbox hb;have BK247:=Aside0.mk (hbox);have GW247:=Aside0.mk (gw_ hg (h_HB HB.out));have GE247:=GW247;replace HB:=s_HB HB.out hb;clear hb hbox hg)|((with_reducible refine gate_callee (f:=99) rfl ?_);refine goesL_ (some 11) rfl rfl Tryz.func99 krT_ rfl #[.string a0,.int .u8 32] rfl agT_ ?_;(with_reducible refine (spec_SplitByte.calls k a0 32 t248 _ A2.out).mono ?_);rintro e w13 ⟨v249,rfl,ho0,hb⟩;refine ⟨_,rfl,?_⟩;have HO250:=Aside0.mk (Kd.R_lower ho0 (below_size (h_HB HB.out)));replace BK247:=sBK_ BK247.out hb;replace HB:=s_HB HB.out hb;(try clear hb);(try clear ho0);obtain ⟨Ao14,co14,eo14⟩:=Kd.R_slice HO250.out;subst eo14;have p251:0≤(0:Int):=(by omega);have q251:0<(t248.length:Int):=odT_;obtain ⟨ad251,e251,hx251_0⟩:=Kd.at_string (Kd.R_reads' HO250.out).2.2 0 p251 q251;cases e251;have qi251:(0<t248.length)=True:=eq_true (by omega);(try rw [show ((0:Int)).toNat=0 from rfl] at hx251_0);(try rw [Addr.add_zero'] at hx251_0);replace p251:=eq_true p251;replace q251:=eq_true q251)|((with_reducible refine gate_callee (f:=100) rfl ?_);refine goesL_ (some 20) rfl rfl Tryz.func100 krT_ rfl #[.string (rdOf ByteArray.empty t248 0)] rfl agT_ ?_;(with_reducible refine (spec_ParseInt.calls k (rdOf ByteArray.empty t248 0) t252 true _ A5.out).mono ?_);rintro e w15 ⟨rfl,hb⟩;refine ⟨_,rfl,?_⟩;replace HO250:=Aside0.mk (Kd.R_below (kRC_ HO250.out) hb);replace BK247:=sBK_ BK247.out hb;replace HB:=s_HB HB.out hb;(try clear hb);have p254:0≤(1:Int):=(by omega);have q254:1<(t248.length:Int):=odT_;obtain ⟨ad254,e254,hx254_0⟩:=Kd.at_string (Kd.R_reads' HO250.out).2.2 1 p254 q254;obtain rfl:ad251=ad254:=(by injection e254);(try simp only [show (1:Int).toNat=1 from rfl,Nat.reduceMul,Nat.reduceEqDiff,Go.Addr.add,↓reduceIte] at hx254_0);have qi254:(1<t248.length)=True:=eq_true (by omega);(try rw [show ((1:Int)).toNat=1 from rfl] at hx254_0);replace p254:=eq_true p254;replace q254:=eq_true q254)|((with_reducible refine gate_callee (f:=101) rfl ?_);refine goesL_ (some 28) rfl rfl Tryz.func101 krT_ rfl #[.int .i64 t252,.string (rdOf ByteArray.empty t248 1)] rfl agT_ ?_;(with_reducible refine (spec_ParseFamily.calls k t252 (rdOf ByteArray.empty t248 1) t255 true _ A7.out).mono ?_);rintro e w16 ⟨v257,rfl,ho0,hb⟩;refine ⟨_,rfl,?_⟩;replace HO250:=Aside0.mk (Kd.R_below (kRC_ HO250.out) hb);have HO258:=Aside0.mk (Kd.R_lower ho0 (below_size (h_HB HB.out)));replace BK247:=sBK_ BK247.out hb;replace HB:=s_HB HB.out hb;(try clear hb);(try clear ho0);obtain ⟨Ao17,co17,eo17⟩:=Kd.R_slice HO258.out;subst eo17)|((with_reducible refine gate_dst (N:=9) rfl ?_);refine bx_ (N:=9) (cs:=#[.int .i64 0,.slice none 0 0]) (t:=26) ?_;intro gb259 hg w18 hbox hb;replace HO250:=Aside0.mk (Kd.R_below (kRC_ HO250.out) hb);replace HO258:=Aside0.mk (Kd.R_below (kRC_ HO258.out) hb);have BK259:=Aside0.mk (hbox);have GW259:=Aside0.mk (gw_ hg (h_HB HB.out));have GE259:=GW259;replace HB:=s_HB HB.out hb;have NB247_259:=Aside0.mk (nbl_ hg (bkC_ BK247.out));have NB259_247:=Aside0.mk NB247_259.out.symm;replace BK247:=sBK_ BK247.out hb;clear hb hbox hg;have hnb19:=NB259_247.out;have hnc19:=NB247_259.out;obtain ⟨hcz20_0,hcz20_1,hfz20_0,hfz20_1⟩:=bz2_ BK259.out)|(go_at_call 102;(with_reducible refine (spec_MatroidText.calls k t252 _ _ t255 t260 _ ?side1 ?side2 A10.out).mono ?_);(case side1=>refine (Kd.R_reads' (e:=3) (base:=w.heap.size) (ok:=fun k_=>True) (n:=t255.length) (c:=co17) ?_).2.2;exact (kRF_ HO258.out));(case side2=>exact (Kd.R_reads' HO258.out).2.1);rintro e w21 ⟨rfl,hb⟩;replace HO250:=Aside0.mk (Kd.R_below (kRF_ HO250.out) hb);replace HO258:=Aside0.mk (Kd.R_below (kRF_ HO258.out) hb);replace BK247:=sBK_ BK247.out hb;replace BK259:=Aside0.mk (blk_below (g:=gb259) (o:=.cells #[.int .i64 t252,.slice Ao17 t255.length co17] 26 (0,0)) (by (with_reducible repeat (first|refine blk_drewN ?_ _|refine blk_drew ?_|refine blk_alloc ?_ _));exact bp2_ (bkC_ BK259.out)) hb);replace HB:=s_HB HB.out hb;(try clear hb);obtain ⟨hcz22_0,hcz22_1,hfz22_0,hfz22_1⟩:=bz2_ BK259.out;obtain ⟨hcz23_0,hcz23_1,hfz23_0,hfz23_1⟩:=bz2_ BK247.out))
  refine bodyPost_ret (results_ct rfl _ _ gb247 26 #[.int .i64 t252,.slice Ao17 t255.length co17] (0,0) _ rfl (by (with_reducible repeat (first|refine blk_drewN ?_ _|refine blk_drew ?_|refine blk_alloc ?_ _));exact bp2_ (bkC_ BK247.out)) Tryz.underlying26 rfl krT_) rfl ?_
  exact ⟨_,eT_,by (with_reducible repeat (first|apply Kd.R_alloc|apply Kd.R_drewN|apply Kd.R_drew));exact Kd.R_mono (Kd.R_far (p:=⟨gb247,1,none⟩) (Kd.R_far (p:=⟨gb247,0,none⟩) (Kd.R_types HO258.out BK247.out (by decide)) (fun _ hk=>hk.2) (.int .i64 t252)) (fun _ hk=>hk.2) (.slice Ao17 t255.length co17)) (fun _ hk=>trivial),h_HB HB.out⟩
 simp only [Option.some.injEq,Prod.mk.injEq] at H
 obtain ⟨rfl,rfl,rfl⟩:=H
 go_enter Tryz.func91,Tryz.ntmps91
 go_wp2_with (first|((with_reducible refine gate_dst (N:=2) rfl ?_);refine bx_ (N:=2) (cs:=#[.int .i64 0,.slice none 0 0]) (t:=26) ?_;intro gb247 hg w24 hbox hb;have BK247:=Aside0.mk (hbox);have GW247:=Aside0.mk (gw_ hg (h_HB HB.out));have GE247:=GW247;replace HB:=s_HB HB.out hb;clear hb hbox hg)|((with_reducible refine gate_callee (f:=99) rfl ?_);refine goesL_ (some 11) rfl rfl Tryz.func99 krT_ rfl #[.string a0,.int .u8 32] rfl agT_ ?_;(with_reducible refine (spec_SplitByte.calls k a0 32 t248 _ A2.out).mono ?_);rintro e w25 ⟨v249,rfl,ho0,hb⟩;refine ⟨_,rfl,?_⟩;have HO250:=Aside0.mk (Kd.R_lower ho0 (below_size (h_HB HB.out)));replace BK247:=sBK_ BK247.out hb;replace HB:=s_HB HB.out hb;(try clear hb);(try clear ho0);obtain ⟨Ao26,co26,eo26⟩:=Kd.R_slice HO250.out;subst eo26;have p251:0≤(0:Int):=(by omega);have q251:0<(t248.length:Int):=odT_;obtain ⟨ad251,e251,hx251_0⟩:=Kd.at_string (Kd.R_reads' HO250.out).2.2 0 p251 q251;cases e251;have qi251:(0<t248.length)=True:=eq_true (by omega);(try rw [show ((0:Int)).toNat=0 from rfl] at hx251_0);(try rw [Addr.add_zero'] at hx251_0);replace p251:=eq_true p251;replace q251:=eq_true q251)|((with_reducible refine gate_callee (f:=100) rfl ?_);refine goesL_ (some 20) rfl rfl Tryz.func100 krT_ rfl #[.string (rdOf ByteArray.empty t248 0)] rfl agT_ ?_;(with_reducible refine (spec_ParseInt.calls k (rdOf ByteArray.empty t248 0) t252 true _ A5.out).mono ?_);rintro e w27 ⟨rfl,hb⟩;refine ⟨_,rfl,?_⟩;replace HO250:=Aside0.mk (Kd.R_below (kRC_ HO250.out) hb);replace BK247:=sBK_ BK247.out hb;replace HB:=s_HB HB.out hb;(try clear hb);have p254:0≤(1:Int):=(by omega);have q254:1<(t248.length:Int):=odT_;obtain ⟨ad254,e254,hx254_0⟩:=Kd.at_string (Kd.R_reads' HO250.out).2.2 1 p254 q254;obtain rfl:ad251=ad254:=(by injection e254);(try simp only [show (1:Int).toNat=1 from rfl,Nat.reduceMul,Nat.reduceEqDiff,Go.Addr.add,↓reduceIte] at hx254_0);have qi254:(1<t248.length)=True:=eq_true (by omega);(try rw [show ((1:Int)).toNat=1 from rfl] at hx254_0);replace p254:=eq_true p254;replace q254:=eq_true q254)|((with_reducible refine gate_callee (f:=101) rfl ?_);refine goesL_ (some 28) rfl rfl Tryz.func101 krT_ rfl #[.int .i64 t252,.string (rdOf ByteArray.empty t248 1)] rfl agT_ ?_;(with_reducible refine (spec_ParseFamily.calls k t252 (rdOf ByteArray.empty t248 1) t255 true _ A7.out).mono ?_);rintro e w28 ⟨v257,rfl,ho0,hb⟩;refine ⟨_,rfl,?_⟩;replace HO250:=Aside0.mk (Kd.R_below (kRC_ HO250.out) hb);have HO258:=Aside0.mk (Kd.R_lower ho0 (below_size (h_HB HB.out)));replace BK247:=sBK_ BK247.out hb;replace HB:=s_HB HB.out hb;(try clear hb);(try clear ho0);obtain ⟨Ao29,co29,eo29⟩:=Kd.R_slice HO258.out;subst eo29)|((with_reducible refine gate_dst (N:=9) rfl ?_);refine bx_ (N:=9) (cs:=#[.int .i64 0,.slice none 0 0]) (t:=26) ?_;intro gb259 hg w30 hbox hb;replace HO250:=Aside0.mk (Kd.R_below (kRC_ HO250.out) hb);replace HO258:=Aside0.mk (Kd.R_below (kRC_ HO258.out) hb);have BK259:=Aside0.mk (hbox);have GW259:=Aside0.mk (gw_ hg (h_HB HB.out));have GE259:=GW259;replace HB:=s_HB HB.out hb;have NB247_259:=Aside0.mk (nbl_ hg (bkC_ BK247.out));have NB259_247:=Aside0.mk NB247_259.out.symm;replace BK247:=sBK_ BK247.out hb;clear hb hbox hg;have hnb31:=NB259_247.out;have hnc31:=NB247_259.out;obtain ⟨hcz32_0,hcz32_1,hfz32_0,hfz32_1⟩:=bz2_ BK259.out)|(go_at_call 102;(with_reducible refine (spec_MatroidText.calls k t252 _ _ t255 t260 _ ?side1 ?side2 A10.out).mono ?_);(case side1=>refine (Kd.R_reads' (e:=3) (base:=w.heap.size) (ok:=fun k_=>True) (n:=t255.length) (c:=co29) ?_).2.2;exact (kRF_ HO258.out));(case side2=>exact (Kd.R_reads' HO258.out).2.1);rintro e w33 ⟨rfl,hb⟩;replace HO250:=Aside0.mk (Kd.R_below (kRF_ HO250.out) hb);replace HO258:=Aside0.mk (Kd.R_below (kRF_ HO258.out) hb);replace BK247:=sBK_ BK247.out hb;replace BK259:=Aside0.mk (blk_below (g:=gb259) (o:=.cells #[.int .i64 t252,.slice Ao29 t255.length co29] 26 (0,0)) (by (with_reducible repeat (first|refine blk_drewN ?_ _|refine blk_drew ?_|refine blk_alloc ?_ _));exact bp2_ (bkC_ BK259.out)) hb);replace HB:=s_HB HB.out hb;(try clear hb);obtain ⟨hcz34_0,hcz34_1,hfz34_0,hfz34_1⟩:=bz2_ BK247.out))
 refine bodyPost_ret (results_ct rfl _ _ gb247 26 #[.int .i64 0,.slice none 0 0] (0,0) _ rfl (by (with_reducible repeat (first|refine blk_drewN ?_ _|refine blk_drew ?_|refine blk_alloc ?_ _));exact bp2_ (bkC_ BK247.out)) Tryz.underlying26 rfl krT_) rfl ?_
 exact ⟨_,eT_,by first|exact Kd.R_nil _ _ _ _ _|exact Kd.N_nil _ _ _ _ _|exact Kd.V_nil _ _ _ _ _|exact Kd.Q_nil _ _ _ _ _|exact Kd.S_nil _ _ _ _ _,h_HB HB.out⟩
def spec_l1Pick.f (s0_0:List Int) (s0_1:Int) (s0_2:Int) (l1:List ByteArray):Option (ByteArray × Int × Int):=(spec_l1Below.f s0_0 s0_1 s0_2 (l1.length:Int)).bind fun bt261=>(if 0≤bt261.1 then (if bt261.1<(l1.length:Int) then (some (rdOf ByteArray.empty l1 bt261.1,bt261.2.1,bt261.2.2)) else (none)) else (none))
theorem spec_l1Pick.calls (g:Nat) (s0_0:List Int) (s0_1:Int) (s0_2:Int) (A1:Option Addr) (c1:Nat) (l1:List ByteArray) (r1:ByteArray) (r2:Int) (r3:Int) (w0 w:World) (hI:IsS68 w0 w g s0_0 s0_1 s0_2) (hB:Below w0.heap.size w0 w) (hr1:Kd.C Kd.string w A1 l1.length l1) (hc1:l1.length≤c1) (hf1:∀ ad,A1=some ad→0<l1.length→ad.block≠g) (h:spec_l1Pick.f s0_0 s0_1 s0_2 l1=some (r1,r2,r3)) :
    Calls Tryz.prog 92 #[.pointer (some ⟨g,0,none⟩),.slice A1 l1.length c1] w fun e w'=>e=.returned (.string r1)∧IsS68 w0 w' g s0_0 r2 r3∧Below w0.heap.size w0 w'∧KeepBut w w' g none:=by
 have HR1:=Aside0.mk hr1
 have HC1:=Aside0.mk hc1
 clear hr1 hc1
 have HI0:=Aside0.mk hI
 have HK:=Aside0.mk (KeepBut.refl w g none)
 have HL:=Aside0.mk hB.size
 clear hI
 have HW0:=Aside0.mk hB.size
 have HB:=Aside0.mk hB
 clear hB
 unfold spec_l1Pick.f at h
 have H:=h
 clear h
 replace H:=bnd_ H;obtain ⟨⟨t261,t262,t263⟩,A3,H⟩:=H;dsimp only at H
 replace H:=gsm_ H;obtain ⟨c4b0,H⟩:=H
 replace H:=gsm_ H;obtain ⟨c5b0,H⟩:=H
 simp only [Option.some.injEq,Prod.mk.injEq] at H
 obtain ⟨rfl,rfl,rfl⟩:=H
 go_enter Tryz.func92,Tryz.ntmps92
 go_wp2_with (first|((with_reducible refine gate_callee (f:=46) rfl ?_);refine goesL_ (some 9) rfl rfl Tryz.func46 krT_ rfl #[.pointer (some ⟨g,0,none⟩),.int .i64 (l1.length:Int)] rfl agT_ ?_;(with_reducible refine (spec_l1Below.calls g s0_0 s0_1 s0_2 (l1.length:Int) t261 t262 t263 w0 _ ?side1 ?side2 A3.out).mono ?_);(case side1=>exact h_HI0 HI0.out);(case side2=>exact h_HB HB.out);rintro e w6 ⟨rfl,hi,hb,hk⟩;refine ⟨_,rfl,?_⟩;replace HK:=Aside0.mk (KeepBut.trans (h_HK HK.out) hk (.inl rfl));replace HB:=Aside0.mk (hb);replace HI0:=Aside0.mk (hi);(try clear hb);(try clear hk);(try clear hi);have p264:0≤(t261:Int):=odT_;have q264:t261<(l1.length:Int):=odT_;obtain ⟨ad264,e264,hx264_0⟩:=Kd.at_string HR1.out t261 p264 q264;cases e264;replace hx264_0:=keep_cell HK.out hx264_0 (by first|(rw [add_block];exact hf1 _ rfl (by omega))|exact hf1 _ rfl (by omega)|exact hf1 ad264 rfl (by omega));replace p264:=eq_true p264;replace q264:=eq_true q264))
 go_ret
 exact ⟨eT_,h_HI0 HI0.out,h_HB HB.out,h_HK HK.out⟩
def spec_l4Named.f (k:Nat) (s0_0:List Int) (s0_1:Int) (s0_2:Int):Option (Int × List Int × Int × Int):=(spec_l1Pick.f s0_0 s0_1 s0_2 (([(⟨#[48,32,45]⟩:ByteArray),(⟨#[49,32,45]⟩:ByteArray),(⟨#[49,32,97]⟩:ByteArray),(⟨#[52,32,97,98,44,97,99,44,98,99,44,97,100,44,98,100,44,99,100]⟩:ByteArray),(⟨#[52,32,97,98,44,97,99,44,97,100,44,98,100,44,99,100]⟩:ByteArray),(⟨#[51,32,97,44,98]⟩:ByteArray),(⟨#[53,32,97,98,44,97,99,44,98,99,44,97,100,44,98,100]⟩:ByteArray),(⟨#[50,32,45]⟩:ByteArray),(⟨#[51,32,97,98,99]⟩:ByteArray)]:List ByteArray))).bind fun bt269=>((spec_ParseMatroid.f k bt269.1).bind fun bt272=>(some (bt272.1,bt272.2.1,bt269.2.1,bt269.2.2)))
theorem spec_l4Named.calls (k:Nat) (g:Nat) (s0_0:List Int) (s0_1:Int) (s0_2:Int) (r1:Int) (r2:List Int) (r3:Int) (r4:Int) (w0 w:World) (hI:IsS68 w0 w g s0_0 s0_1 s0_2) (hB:Below w0.heap.size w0 w) (h:spec_l4Named.f k s0_0 s0_1 s0_2=some (r1,r2,r3,r4)) :
    Calls Tryz.prog 78 #[.pointer (some ⟨g,0,none⟩)] w fun e w'=>∃ v1_:Value,e=.returned (.agg #[.int .i64 r1,v1_])∧Kd.R (Kd.int .i64) 3 w' w.heap.size (fun _=>True) v1_ r2∧IsS68 w0 w' g s0_0 r3 r4∧Below w0.heap.size w0 w'∧KeepBut w w' g none:=by
 have hu26:=Tryz.underlying26
 have HI0:=Aside0.mk hI
 have HK:=Aside0.mk (KeepBut.refl w g none)
 have HL:=Aside0.mk hB.size
 clear hI
 have HW0:=Aside0.mk hB.size
 have HB:=Aside0.mk hB
 clear hB
 unfold spec_l4Named.f at h
 have H:=h
 clear h
 obtain ⟨y266,hy266⟩:∃ y_:List ByteArray,y_=(([(⟨#[48,32,45]⟩:ByteArray),(⟨#[49,32,45]⟩:ByteArray),(⟨#[49,32,97]⟩:ByteArray),(⟨#[52,32,97,98,44,97,99,44,98,99,44,97,100,44,98,100,44,99,100]⟩:ByteArray),(⟨#[52,32,97,98,44,97,99,44,97,100,44,98,100,44,99,100]⟩:ByteArray),(⟨#[51,32,97,44,98]⟩:ByteArray),(⟨#[53,32,97,98,44,97,99,44,98,99,44,97,100,44,98,100]⟩:ByteArray),(⟨#[50,32,45]⟩:ByteArray),(⟨#[51,32,97,98,99]⟩:ByteArray)]:List ByteArray)):=⟨_,rfl⟩
 rw [← hy266] at H
 have Ny266:=Aside0.mk hy266
 clear hy266
 replace H:=bnd_ H;obtain ⟨⟨t269,t270,t271⟩,A2,H⟩:=H;dsimp only at H
 replace H:=bnd_ H;obtain ⟨⟨t272,t273,t276⟩,A3,H⟩:=H;dsimp only at H
 simp only [Option.some.injEq,Prod.mk.injEq] at H
 obtain ⟨rfl,rfl,rfl,rfl⟩:=H
 go_enter Tryz.func78,Tryz.ntmps78
 go_wp2_with (first|((with_reducible refine gate_dst (N:=2) rfl ?_);refine bx_ (N:=2) (cs:=#[.int .i64 0,.slice none 0 0]) (t:=26) ?_;intro gb265 hg w4 hbox hb;replace HB:=s_HB HB.out hb;have BK265:=Aside0.mk (hbox);have GW265:=Aside0.mk ((by rw [hg];exact (keep_size (w:=w) (g:=g) (row:=none) (h_HK HK.out)):w.heap.size≤gb265));have GE265:=Aside0.mk ((Nat.le_trans HW0.out (by rw [hg];exact (keep_size (w:=w) (g:=g) (row:=none) (h_HK HK.out)):w.heap.size≤gb265):w0.heap.size≤gb265));replace HK:=Aside0.mk (KeepBut.trans (h_HK HK.out) (KeepBut.of_below hb g none) (.inl rfl));have NB0_265:=Aside0.mk ((by rw [hg];exact Nat.ne_of_lt (IsS68.lt (show IsS68 w0 _ g s0_0 s0_1 s0_2 from h_HI0 HI0.out)):g≠gb265));have NB265_0:=Aside0.mk ((by rw [hg];exact Nat.ne_of_gt (IsS68.lt (show IsS68 w0 _ g s0_0 s0_1 s0_2 from h_HI0 HI0.out)):gb265≠g));replace HI0:=Aside0.mk (IsS68.below (h_HI0 HI0.out) hb);clear hb hbox hg)|((with_reducible refine gate_dst (N:=7) rfl ?_);refine Kd.R_lit Kd.string _ 9 ?hg (N:=7) ?hd (xs:=([(⟨#[48,32,45]⟩:ByteArray),(⟨#[49,32,45]⟩:ByteArray),(⟨#[49,32,97]⟩:ByteArray),(⟨#[52,32,97,98,44,97,99,44,98,99,44,97,100,44,98,100,44,99,100]⟩:ByteArray),(⟨#[52,32,97,98,44,97,99,44,97,100,44,98,100,44,99,100]⟩:ByteArray),(⟨#[51,32,97,44,98]⟩:ByteArray),(⟨#[53,32,97,98,44,97,99,44,98,99,44,97,100,44,98,100]⟩:ByteArray),(⟨#[50,32,45]⟩:ByteArray),(⟨#[51,32,97,98,99]⟩:ByteArray)]:List ByteArray)) (inner:=[.string (⟨#[48,32,45]⟩:ByteArray),.string (⟨#[49,32,45]⟩:ByteArray),.string (⟨#[49,32,97]⟩:ByteArray),.string (⟨#[52,32,97,98,44,97,99,44,98,99,44,97,100,44,98,100,44,99,100]⟩:ByteArray),.string (⟨#[52,32,97,98,44,97,99,44,97,100,44,98,100,44,99,100]⟩:ByteArray),.string (⟨#[51,32,97,44,98]⟩:ByteArray),.string (⟨#[53,32,97,98,44,97,99,44,98,99,44,97,100,44,98,100]⟩:ByteArray),.string (⟨#[50,32,45]⟩:ByteArray),.string (⟨#[51,32,97,98,99]⟩:ByteArray)]) (ok:=fun _=>True) (okp:=fun _=>True) ?hr ?hp (fun _ hk=>hk) trivial (Below.refl _ _) (Nat.le_refl _) (by simp) ?_;(case hd=>rfl);(case hg=>rfl);(case hr=>exact hrT_);(case hp=>exact (Reps.one (show Kd.M Kd.string _ _ _ (⟨#[48,32,45]⟩:ByteArray) [.string (⟨#[48,32,45]⟩:ByteArray)] from rfl) (Reps.one (show Kd.M Kd.string _ _ _ (⟨#[49,32,45]⟩:ByteArray) [.string (⟨#[49,32,45]⟩:ByteArray)] from rfl) (Reps.one (show Kd.M Kd.string _ _ _ (⟨#[49,32,97]⟩:ByteArray) [.string (⟨#[49,32,97]⟩:ByteArray)] from rfl) (Reps.one (show Kd.M Kd.string _ _ _ (⟨#[52,32,97,98,44,97,99,44,98,99,44,97,100,44,98,100,44,99,100]⟩:ByteArray) [.string (⟨#[52,32,97,98,44,97,99,44,98,99,44,97,100,44,98,100,44,99,100]⟩:ByteArray)] from rfl) (Reps.one (show Kd.M Kd.string _ _ _ (⟨#[52,32,97,98,44,97,99,44,97,100,44,98,100,44,99,100]⟩:ByteArray) [.string (⟨#[52,32,97,98,44,97,99,44,97,100,44,98,100,44,99,100]⟩:ByteArray)] from rfl) (Reps.one (show Kd.M Kd.string _ _ _ (⟨#[51,32,97,44,98]⟩:ByteArray) [.string (⟨#[51,32,97,44,98]⟩:ByteArray)] from rfl) (Reps.one (show Kd.M Kd.string _ _ _ (⟨#[53,32,97,98,44,97,99,44,98,99,44,97,100,44,98,100]⟩:ByteArray) [.string (⟨#[53,32,97,98,44,97,99,44,98,99,44,97,100,44,98,100]⟩:ByteArray)] from rfl) (Reps.one (show Kd.M Kd.string _ _ _ (⟨#[50,32,45]⟩:ByteArray) [.string (⟨#[50,32,45]⟩:ByteArray)] from rfl) (Reps.one (show Kd.M Kd.string _ _ _ (⟨#[51,32,97,98,99]⟩:ByteArray) [.string (⟨#[51,32,97,98,99]⟩:ByteArray)] from rfl) (Reps.none _ _)))))))))));intro v267 w5 ho6 hb hg_ hnew_;clear hg_ hnew_;(first|rw [← Ny266.out] at ho6|(simp only [Int.reduceToNat] at ho6;rw [← Ny266.out] at ho6));have HO268:=Aside0.mk (Kd.R_lower ho6 (keep_size (w:=w) (g:=g) (row:=none) (h_HK HK.out)));replace HI0:=Aside0.mk (IsS68.below (h_HI0 HI0.out) hb);replace BK265:=sBK_ BK265.out hb;replace HK:=Aside0.mk (KeepBut.trans (h_HK HK.out) (KeepBut.of_below hb g none) (.inl rfl));replace HB:=s_HB HB.out hb;clear hb ho6;obtain ⟨Ao7,co7,eo7⟩:=Kd.R_slice HO268.out;subst eo7)|((with_reducible refine gate_callee (f:=92) rfl ?_);refine goesL_ (some 8) rfl rfl Tryz.func92 krT_ rfl #[.pointer (some ⟨g,0,none⟩),.slice Ao7 y266.length co7] rfl agT_ ?_;(with_reducible refine (spec_l1Pick.calls g s0_0 s0_1 s0_2 _ _ y266 t269 t270 t271 w0 _ ?side1 ?side2 ?side3 ?side4 ?side5 A2.out).mono ?_);(case side1=>exact h_HI0 HI0.out);(case side2=>exact h_HB HB.out);(case side3=>repeat (first|exact (Kd.R_reads' HO268.out).2.2|(with_reducible refine Kd.C_alloc ?_ _)|(with_reducible refine Kd.C_drewN ?_ _)|(with_reducible refine Kd.C_drew ?_)));(case side4=>exact (Kd.R_reads' HO268.out).2.1);(case side5=>exact far_slice (IsS68.own_ne HI0.out HO268.out (by decide)));rintro e w8 ⟨rfl,hi,hb,hk⟩;refine ⟨_,rfl,?_⟩;replace BK265:=Aside0.mk (KeepBut.blk hk (bkC_ BK265.out) NB265_0.out (by simp));replace HO268:=Aside0.mk (Kd.R_mono (Kd.R_keep (IsS68.apart (show IsS68 w0 _ g s0_0 s0_1 s0_2 from h_HI0 HI0.out) (kRC_ HO268.out) (by decide)) hk (fun _ h=>h.2)) (fun _ h=>h.1));replace HK:=Aside0.mk (KeepBut.trans (h_HK HK.out) hk (.inl rfl));replace HB:=Aside0.mk (hb);replace HI0:=Aside0.mk (hi);(try clear hb);(try clear hk);(try clear hi))|((with_reducible refine gate_callee (f:=91) rfl ?_);refine goesL_ (some 9) rfl rfl Tryz.func91 krT_ rfl #[.string t269] rfl agT_ ?_;(with_reducible refine (spec_ParseMatroid.calls k t269 t272 t273 t276 _ A3.out).mono ?_);rintro e w9 ⟨v274,rfl,ho0,hb⟩;refine ⟨_,rfl,?_⟩;replace HO268:=Aside0.mk (Kd.R_below (kRC_ HO268.out) hb);have HO275:=Aside0.mk (Kd.R_lower ho0 (keep_size (w:=w) (g:=g) (row:=none) (h_HK HK.out)));replace HI0:=Aside0.mk (IsS68.below (h_HI0 HI0.out) hb);replace BK265:=sBK_ BK265.out hb;replace HK:=Aside0.mk (KeepBut.trans (h_HK HK.out) (KeepBut.of_below hb g none) (.inl rfl));replace HB:=s_HB HB.out hb;(try clear hb);(try clear ho0))|((with_reducible refine gate_dst (N:=3) rfl ?_);refine bx_ (N:=3) (cs:=#[.int .i64 0,.slice none 0 0]) (t:=26) ?_;intro gb277 hg w10 hbox hb;replace HO268:=Aside0.mk (Kd.R_below (kRC_ HO268.out) hb);replace HO275:=Aside0.mk (Kd.R_below (kRC_ HO275.out) hb);replace HB:=s_HB HB.out hb;have BK277:=Aside0.mk (hbox);have GW277:=Aside0.mk ((by rw [hg];exact (keep_size (w:=w) (g:=g) (row:=none) (h_HK HK.out)):w.heap.size≤gb277));have GE277:=Aside0.mk ((Nat.le_trans HW0.out (by rw [hg];exact (keep_size (w:=w) (g:=g) (row:=none) (h_HK HK.out)):w.heap.size≤gb277):w0.heap.size≤gb277));replace HK:=Aside0.mk (KeepBut.trans (h_HK HK.out) (KeepBut.of_below hb g none) (.inl rfl));have NB265_277:=Aside0.mk (nbl_ hg (bkC_ BK265.out));have NB277_265:=Aside0.mk NB265_277.out.symm;replace BK265:=sBK_ BK265.out hb;have NB0_277:=Aside0.mk ((by rw [hg];exact Nat.ne_of_lt (IsS68.lt (show IsS68 w0 _ g s0_0 t270 t271 from h_HI0 HI0.out)):g≠gb277));have NB277_0:=Aside0.mk ((by rw [hg];exact Nat.ne_of_gt (IsS68.lt (show IsS68 w0 _ g s0_0 t270 t271 from h_HI0 HI0.out)):gb277≠g));replace HI0:=Aside0.mk (IsS68.below (h_HI0 HI0.out) hb);clear hb hbox hg;have hnb11:=NB277_265.out;have hnc11:=NB265_277.out;have hnb12:=NB277_0.out;have hnc12:=NB0_277.out;obtain ⟨hcz13_0,hcz13_1,hfz13_0,hfz13_1⟩:=bz2_ BK277.out;obtain ⟨Ao14,co14,eo14⟩:=Kd.R_slice HO275.out;subst eo14;have hnb15:=NB265_0.out;have hnc15:=NB0_265.out;obtain ⟨hcz16_0,hcz16_1,hfz16_0,hfz16_1⟩:=bz2_ BK265.out))
 refine bodyPost_ret (results_cell_row rfl _ _ gb265 26 #[.int .i64 t272,.slice Ao14 t273.length co14] (0,0) _ rfl (by (with_reducible repeat (first|refine blk_drewN ?_ _|refine blk_drew ?_|refine blk_alloc ?_ _));refine blk_put (cs:=#[.int .i64 t272,.slice none 0 0]) ?_ 1 _ rfl;(with_reducible repeat (first|refine blk_drewN ?_ _|refine blk_drew ?_|refine blk_alloc ?_ _));refine blk_put (cs:=#[.int .i64 0,.slice none 0 0]) ?_ 0 _ rfl;exact bkC_ BK265.out) Tryz.underlying26 rfl krT_) rfl ?_
 exact ⟨_,eT_,by (with_reducible repeat (first|apply Kd.R_alloc|apply Kd.R_drewN|apply Kd.R_drew));exact Kd.R_mono (Kd.R_far (p:=⟨gb265,1,none⟩) (Kd.R_far (p:=⟨gb265,0,none⟩) (Kd.R_far (p:=⟨gb277,1,none⟩) (Kd.R_far (p:=⟨gb277,0,none⟩) (Kd.R_types (Kd.R_types HO275.out BK277.out (by decide)) BK265.out (by decide)) (fun _ hk=>hk.1.2) (.int .i64 t272)) (fun _ hk=>hk.1.2) (.slice Ao14 t273.length co14)) (fun _ hk=>hk.2) (.int .i64 t272)) (fun _ hk=>hk.2) (.slice Ao14 t273.length co14)) (fun _ hk=>trivial),h_HI0 HI0.out,h_HB HB.out,h_HK HK.out⟩
def spec_l1PickInt.f (s0_0:List Int) (s0_1:Int) (s0_2:Int) (l1:List Int):Option (Int × Int × Int):=(spec_l1Below.f s0_0 s0_1 s0_2 (l1.length:Int)).bind fun bt278=>(if 0≤bt278.1 then (if bt278.1<(l1.length:Int) then (some (rd l1 bt278.1,bt278.2.1,bt278.2.2)) else (none)) else (none))
theorem spec_l1PickInt.calls (g:Nat) (s0_0:List Int) (s0_1:Int) (s0_2:Int) (A1:Option Addr) (c1:Nat) (l1:List Int) (r1:Int) (r2:Int) (r3:Int) (w0 w:World) (hI:IsS68 w0 w g s0_0 s0_1 s0_2) (hB:Below w0.heap.size w0 w) (hr1:Kd.C (Kd.int .i64) w A1 l1.length l1) (hc1:l1.length≤c1) (hf1:∀ ad,A1=some ad→0<l1.length→ad.block≠g) (h:spec_l1PickInt.f s0_0 s0_1 s0_2 l1=some (r1,r2,r3)) :
    Calls Tryz.prog 59 #[.pointer (some ⟨g,0,none⟩),.slice A1 l1.length c1] w fun e w'=>e=.returned (.int .i64 r1)∧IsS68 w0 w' g s0_0 r2 r3∧Below w0.heap.size w0 w'∧KeepBut w w' g none:=by
 have HR1:=Aside0.mk hr1
 have HC1:=Aside0.mk hc1
 clear hr1 hc1
 have HI0:=Aside0.mk hI
 have HK:=Aside0.mk (KeepBut.refl w g none)
 have HL:=Aside0.mk hB.size
 clear hI
 have HW0:=Aside0.mk hB.size
 have HB:=Aside0.mk hB
 clear hB
 unfold spec_l1PickInt.f at h
 have H:=h
 clear h
 replace H:=bnd_ H;obtain ⟨⟨t278,t279,t280⟩,A3,H⟩:=H;dsimp only at H
 replace H:=gsm_ H;obtain ⟨c4b0,H⟩:=H
 replace H:=gsm_ H;obtain ⟨c5b0,H⟩:=H
 simp only [Option.some.injEq,Prod.mk.injEq] at H
 obtain ⟨rfl,rfl,rfl⟩:=H
 go_enter Tryz.func59,Tryz.ntmps59
 go_wp2_with (first|((with_reducible refine gate_callee (f:=46) rfl ?_);refine goesL_ (some 9) rfl rfl Tryz.func46 krT_ rfl #[.pointer (some ⟨g,0,none⟩),.int .i64 (l1.length:Int)] rfl agT_ ?_;(with_reducible refine (spec_l1Below.calls g s0_0 s0_1 s0_2 (l1.length:Int) t278 t279 t280 w0 _ ?side1 ?side2 A3.out).mono ?_);(case side1=>exact h_HI0 HI0.out);(case side2=>exact h_HB HB.out);rintro e w6 ⟨rfl,hi,hb,hk⟩;refine ⟨_,rfl,?_⟩;replace HK:=Aside0.mk (KeepBut.trans (h_HK HK.out) hk (.inl rfl));replace HB:=Aside0.mk (hb);replace HI0:=Aside0.mk (hi);(try clear hb);(try clear hk);(try clear hi);have p281:0≤(t278:Int):=odT_;have q281:t278<(l1.length:Int):=odT_;obtain ⟨ad281,e281,hx281_0⟩:=Kd.at_int HR1.out t278 p281 q281;cases e281;replace hx281_0:=keep_cell HK.out hx281_0 (by first|(rw [add_block];exact hf1 _ rfl (by omega))|exact hf1 _ rfl (by omega)|exact hf1 ad281 rfl (by omega));replace p281:=eq_true p281;replace q281:=eq_true q281))
 go_ret
 exact ⟨eT_,h_HI0 HI0.out,h_HB HB.out,h_HK HK.out⟩
end Go.Proofs.YtekegbacnagbcaaGreat.P
