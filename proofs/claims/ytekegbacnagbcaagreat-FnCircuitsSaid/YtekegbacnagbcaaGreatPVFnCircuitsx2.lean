-- written by gprint (a program of this session's, round the kit's print), out of the translation and hand-written texts
import Derived.Test.YtekegbacnagbcaaGreatPVFnCircuitsx0
namespace Go.Proofs.YtekegbacnagbcaaGreat.P
open Go.RowKit Go.Proofs.YtekegbacnagbcaaGreatW.PrintWords Go.Proofs.YtekegbacnagbcaaGreatW.PrintLast Go.Proofs.YtekegbacnagbcaaGreatW.PrintMore
attribute [local go_sem] max2_int min2_int max_two min_two max_three min_three max_four min_four
set_option linter.unusedVariables false
set_option maxHeartbeats 8000000
set_option maxRecDepth 100000
set_option linter.unusedSimpArgs false
def laws_big.f (l0:List Int):Option (Bool):=some (decide ((l0.length:Int)>1048576))
theorem laws_big.calls (A0:Option Addr) (c0:Nat) (l0:List Int) (r:Bool) (w:World) (hr0:Kd.C (Kd.int .u8) w A0 l0.length l0) (hc0:l0.length≤c0) (h:laws_big.f l0=some r) :
    Calls Tryz.prog 4 #[.slice A0 l0.length c0] w fun e w'=>e=.returned (.bool r)∧Drawn0 w w':=by
 have HR0:=Aside0.mk hr0
 have HC0:=Aside0.mk hc0
 clear hr0 hc0
 have H:(some (decide ((l0.length:Int)>1048576)))=some r:=h
 clear h
 obtain rfl:=Option.some.inj H
 go_enter Tryz.func4,Tryz.ntmps4
 go_wp2
 go_ret
 exact ⟨sT_,dT_⟩
/-- A state of type 68 at block g of W; what its slices lead to came in by w0. -/
def IsS68 (w0 W:World) (g:Nat) (f0:List Int) (f1:Int) (f2:Int):Prop:=∃ A0 c0,W.heap[g]?=some (.cells #[.slice A0 f0.length c0,.int .i64 f1,.int .i64 f2] 68 (0,0))∧w0.heap.size≤g∧Kd.C (Kd.int .u8) w0 A0 f0.length f0
theorem IsS68.grown {w0 W:World} {g:Nat} {f0:List Int} {f1:Int} {f2:Int} {W1:World} {row:Option Nat} (h:IsS68 w0 W g f0 f1 f2) (hw:W.grownBy W1 row) (hne:some g≠row):IsS68 w0 W1 g f0 f1 f2:=by
 obtain ⟨A0,c0,hb,hg,hr0⟩:=h
 exact ⟨A0,c0,blk_grown hb hw hne,hg,hr0⟩
theorem IsS68.own_neN {w0 W:World} {g:Nat} {f0:List Int} {f1:Int} {f2:Int} {α:Type} {d:Kd α} {e:Nat} {base:Nat} {ok:Nat→Prop} {v:Value} {xs:List α} (h:IsS68 w0 W g f0 f1 f2) (ho:Kd.N d e W base ok v xs) (ht:e≠68):some g≠v.ownBlock:=by
 obtain ⟨A0,c0,hb,hg,hr0⟩:=h
 exact Kd.N_ne ho hb ht
theorem IsS68.fresh {w0 W:World} {g:Nat} {f0:List Int} {f1:Int} {f2:Int} (h:IsS68 w0 W g f0 f1 f2):∀ k,W.heap.size≤k→k≠g:=by
 obtain ⟨A0,c0,hb,hg,hr0⟩:=h
 exact Kd.freshB hb
theorem IsS68.kept {w0 W:World} {g:Nat} {f0:List Int} {f1:Int} {f2:Int} {W1:World} {S:Nat→Prop} (h:IsS68 w0 W g f0 f1 f2) (hk:Kept W W1 S) (hne:¬ S g):IsS68 w0 W1 g f0 f1 f2:=by
 obtain ⟨A0,c0,hb,hg,hr0⟩:=h
 exact ⟨A0,c0,blk_kept hb hk hne,hg,hr0⟩
theorem IsS68.below {w0 W:World} {g:Nat} {f0:List Int} {f1:Int} {f2:Int} {W1:World} (h:IsS68 w0 W g f0 f1 f2) (hw:Below W.heap.size W W1):IsS68 w0 W1 g f0 f1 f2:=h.grown (grown_of_below hw none) (by simp)
theorem IsS68.alloc {w0 W:World} {g:Nat} {f0:List Int} {f1:Int} {f2:Int} (h:IsS68 w0 W g f0 f1 f2) (o:Obj):IsS68 w0 (W.alloc o) g f0 f1 f2:=h.below (below_alloc (Below.refl _ _) o)
theorem IsS68.drewN {w0 W:World} {g:Nat} {f0:List Int} {f1:Int} {f2:Int} (h:IsS68 w0 W g f0 f1 f2) (m:Nat):IsS68 w0 (W.drewN m) g f0 f1 f2:=h
theorem IsS68.drew {w0 W:World} {g:Nat} {f0:List Int} {f1:Int} {f2:Int} (h:IsS68 w0 W g f0 f1 f2):IsS68 w0 W.drew g f0 f1 f2:=h
theorem IsS68.at_ {w0 W:World} {g:Nat} {f0:List Int} {f1:Int} {f2:Int} {w':World} {m:Nat} (hq:W.drewN m=w') (h:IsS68 w0 W g f0 f1 f2):IsS68 w0 w' g f0 f1 f2:=by subst hq;exact IsS68.drewN h m
theorem IsS68.apart {w0 W:World} {g:Nat} {f0:List Int} {f1:Int} {f2:Int} {α:Type} {d:Kd α} {e:Nat} {base:Nat} {ok:Nat→Prop} {v:Value} {xs:List α} (h:IsS68 w0 W g f0 f1 f2) (ho:d.R e W base ok v xs) (ht:∀ q,q ∈ e :: d.E→q≠68):d.R e W base (fun k=>ok k∧k≠g) v xs:=by
 obtain ⟨A0,c0,hb,hg,hr0⟩:=h
 exact Kd.R_types ho hb ht
theorem IsS68.own_ne {w0 W:World} {g:Nat} {f0:List Int} {f1:Int} {f2:Int} {α:Type} {d:Kd α} {e:Nat} {base:Nat} {ok:Nat→Prop} {v:Value} {xs:List α} (h:IsS68 w0 W g f0 f1 f2) (ho:d.R e W base ok v xs) (ht:e≠68):some g≠v.ownBlock:=by
 obtain ⟨A0,c0,hb,hg,hr0⟩:=h
 exact Kd.R_ne ho hb ht
theorem IsS68.apartQ {w0 W:World} {g:Nat} {f0:List Int} {f1:Int} {f2:Int} {α:Type} {d:Kd α} {e:Nat} {base:Nat} {ok:Nat→Prop} {v:Value} {xs:List α} (h:IsS68 w0 W g f0 f1 f2) (ho:d.Q e W base ok v xs) (ht:∀ q,q ∈ e :: d.E→q≠68):d.Q e W base (fun k=>ok k∧k≠g) v xs:=by
 obtain ⟨A0,c0,hb,hg,hr0⟩:=h
 exact Kd.Q_types ho hb ht
theorem IsS68.own_neQ {w0 W:World} {g:Nat} {f0:List Int} {f1:Int} {f2:Int} {α:Type} {d:Kd α} {e:Nat} {base:Nat} {ok:Nat→Prop} {v:Value} {xs:List α} (h:IsS68 w0 W g f0 f1 f2) (ho:d.Q e W base ok v xs) (ht:e≠68):some g≠v.ownBlock:=by
 obtain ⟨A0,c0,hb,hg,hr0⟩:=h
 exact Kd.Q_ne ho hb ht
theorem IsS68.apartS {w0 W:World} {g:Nat} {f0:List Int} {f1:Int} {f2:Int} {α:Type} {d:Kd α} {e:Nat} {base:Nat} {ok:Nat→Prop} {v:Value} {xs:List α} (h:IsS68 w0 W g f0 f1 f2) (ho:d.S e W base ok v xs) (ht:∀ q,q ∈ e :: d.E→q≠68):d.S e W base (fun k=>ok k∧k≠g) v xs:=by
 obtain ⟨A0,c0,hb,hg,hr0⟩:=h
 exact Kd.S_types ho hb ht
theorem IsS68.own_neS {w0 W:World} {g:Nat} {f0:List Int} {f1:Int} {f2:Int} {α:Type} {d:Kd α} {e:Nat} {base:Nat} {ok:Nat→Prop} {v:Value} {xs:List α} (h:IsS68 w0 W g f0 f1 f2) (ho:d.S e W base ok v xs) (ht:e≠68):some g≠v.ownBlock:=by
 obtain ⟨A0,c0,hb,hg,hr0⟩:=h
 exact Kd.S_ne ho hb ht
theorem IsS68.lt {w0 W:World} {g:Nat} {f0:List Int} {f1:Int} {f2:Int} (h:IsS68 w0 W g f0 f1 f2):g<W.heap.size:=by
 obtain ⟨A0,c0,hb,hg,hr0⟩:=h
 exact blk_lt hb
theorem IsS68.ge {w0 W:World} {g:Nat} {f0:List Int} {f1:Int} {f2:Int} (h:IsS68 w0 W g f0 f1 f2):w0.heap.size≤g:=by
 obtain ⟨A0,c0,hb,hg,hr0⟩:=h
 exact hg
theorem IsS68.ne_blk {w0 W:World} {g:Nat} {f0:List Int} {f1:Int} {f2:Int} {a:Nat} {cs:Array Value} {t:TypeId} {fr:Nat × Nat} (h:IsS68 w0 W g f0 f1 f2) (hb2:W.heap[a]?=some (.cells cs t fr)) (ht:t≠68):g≠a:=by
 obtain ⟨A0,c0,hb,hg,hr0⟩:=h
 rintro rfl
 rw [hb] at hb2
 injection hb2 with hb2
 injection hb2 with _ ht2
 exact ht ht2.symm
theorem IsS68.far {w0 W:World} {g:Nat} {f0:List Int} {f1:Int} {f2:Int} {p:Addr} (h:IsS68 w0 W g f0 f1 f2) (hne:g≠p.block) (u:Value):IsS68 w0 (W.setCell p u) g f0 f1 f2:=by
 obtain ⟨A0,c0,hb,hg,hr0⟩:=h
 exact ⟨A0,c0,blk_far hb hne u,hg,hr0⟩
theorem cellS68_0 {W:World} {g:Nat} {A0:Option Addr} {c0:Nat} {f0:List Int} {f1:Int} {f2:Int} (h:W.heap[g]?=some (.cells #[.slice A0 f0.length c0,.int .i64 f1,.int .i64 f2] 68 (0,0))):W.cell? ⟨g,0,none⟩=some (.slice A0 f0.length c0):=(blk_cell h 0).trans rfl
theorem cellS68_1 {W:World} {g:Nat} {A0:Option Addr} {c0:Nat} {f0:List Int} {f1:Int} {f2:Int} (h:W.heap[g]?=some (.cells #[.slice A0 f0.length c0,.int .i64 f1,.int .i64 f2] 68 (0,0))):W.cell? ⟨g,1,none⟩=some (.int .i64 f1):=(blk_cell h 1).trans rfl
theorem IsS68.set_1 {w0 W:World} {g:Nat} {f0:List Int} {f1:Int} {f2:Int} (h:IsS68 w0 W g f0 f1 f2) (x:Int):IsS68 w0 (W.setCell ⟨g,1,none⟩ (.int .i64 x)) g f0 x f2:=by
 obtain ⟨A0,c0,hb,hg,hr0⟩:=h
 exact ⟨A0,c0,by simpa using blk_set hb 1 (.int .i64 x),hg,hr0⟩
theorem cellS68_2 {W:World} {g:Nat} {A0:Option Addr} {c0:Nat} {f0:List Int} {f1:Int} {f2:Int} (h:W.heap[g]?=some (.cells #[.slice A0 f0.length c0,.int .i64 f1,.int .i64 f2] 68 (0,0))):W.cell? ⟨g,2,none⟩=some (.int .i64 f2):=(blk_cell h 2).trans rfl
theorem IsS68.set_2 {w0 W:World} {g:Nat} {f0:List Int} {f1:Int} {f2:Int} (h:IsS68 w0 W g f0 f1 f2) (x:Int):IsS68 w0 (W.setCell ⟨g,2,none⟩ (.int .i64 x)) g f0 f1 x:=by
 obtain ⟨A0,c0,hb,hg,hr0⟩:=h
 exact ⟨A0,c0,by simpa using blk_set hb 2 (.int .i64 x),hg,hr0⟩
theorem IsS68.new (w0 W:World) (A0:Option Addr) (c0:Nat) (f0:List Int) (f1:Int) (f2:Int) (hB:Below w0.heap.size w0 W) (hr0:Kd.C (Kd.int .u8) w0 A0 f0.length f0):IsS68 w0 (W.alloc (.cells #[.slice A0 f0.length c0,.int .i64 f1,.int .i64 f2] 68)) W.heap.size f0 f1 f2:=⟨A0,c0,by simpa using heap_alloc_new W _,hB.size,hr0⟩
theorem h_HI0 {w0 w1 W:World} {g:Nat} {af0 bf0:List Int} {af1 bf1:Int} {af2 bf2:Int} (_x:IsS68 w0 w1 g af0 af1 af2) (h:IsS68 w0 W g bf0 bf1 bf2:=by repeat (first|(with_reducible first|exact HI0.out|apply IsS68.alloc|apply IsS68.drewN|apply IsS68.drew|apply IsS68.set_1|apply IsS68.set_2|refine IsS68.far ?_ (Aside0.out (by with_reducible assumption)) _)|exact HI0.out)):IsS68 w0 W g bf0 bf1 bf2:=h
theorem h_HI653 {w0 w1 W:World} {g:Nat} {af0 bf0:List Int} {af1 bf1:Int} {af2 bf2:Int} (_x:IsS68 w0 w1 g af0 af1 af2) (h:IsS68 w0 W g bf0 bf1 bf2:=by repeat (first|(with_reducible first|exact HI653.out|apply IsS68.alloc|apply IsS68.drewN|apply IsS68.drew|apply IsS68.set_1|apply IsS68.set_2|refine IsS68.far ?_ (Aside0.out (by with_reducible assumption)) _)|exact HI653.out)):IsS68 w0 W g bf0 bf1 bf2:=h
theorem h_HI784 {w0 w1 W:World} {g:Nat} {af0 bf0:List Int} {af1 bf1:Int} {af2 bf2:Int} (_x:IsS68 w0 w1 g af0 af1 af2) (h:IsS68 w0 W g bf0 bf1 bf2:=by repeat (first|(with_reducible first|exact HI784.out|apply IsS68.alloc|apply IsS68.drewN|apply IsS68.drew|apply IsS68.set_1|apply IsS68.set_2|refine IsS68.far ?_ (Aside0.out (by with_reducible assumption)) _)|exact HI784.out)):IsS68 w0 W g bf0 bf1 bf2:=h
def spec_l1Byte.f (s0_0:List Int) (s0_1:Int) (s0_2:Int):Option (Int × Int × Int):=if s0_1<(s0_0.length:Int) then (if 0≤s0_1 then (some (Go.bits .and .i64 (wrap64 ((Go.bits .and .i64 (Go.bits .xor .i64 ((wrap64 ((wrap64 (s0_2*6364136223846793005))+1442695040888963407)) / 8589934592) ((wrap64 ((wrap64 (s0_2*6364136223846793005))+1442695040888963407)) / 35184372088832)) 255)+(wrap64 (rd s0_0 s0_1)))) 255,wrap64 (s0_1+1),wrap64 ((wrap64 (s0_2*6364136223846793005))+1442695040888963407))) else (none)) else (some (Go.bits .and .i64 (Go.bits .xor .i64 ((wrap64 ((wrap64 (s0_2*6364136223846793005))+1442695040888963407)) / 8589934592) ((wrap64 ((wrap64 (s0_2*6364136223846793005))+1442695040888963407)) / 35184372088832)) 255,s0_1,wrap64 ((wrap64 (s0_2*6364136223846793005))+1442695040888963407)))
theorem spec_l1Byte.calls (g:Nat) (s0_0:List Int) (s0_1:Int) (s0_2:Int) (r1:Int) (r2:Int) (r3:Int) (w0 w:World) (hI:IsS68 w0 w g s0_0 s0_1 s0_2) (hB:Below w0.heap.size w0 w) (h:spec_l1Byte.f s0_0 s0_1 s0_2=some (r1,r2,r3)) :
    Calls Tryz.prog 80 #[.pointer (some ⟨g,0,none⟩)] w fun e w'=>e=.returned (.int .i64 r1)∧IsS68 w0 w' g s0_0 r2 r3∧Below w0.heap.size w0 w'∧KeepBut w w' g none:=by
 have HI0:=Aside0.mk hI
 have HK:=Aside0.mk (KeepBut.refl w g none)
 have HL:=Aside0.mk hB.size
 clear hI
 have HW0:=Aside0.mk hB.size
 have HB:=Aside0.mk hB
 clear hB
 unfold spec_l1Byte.f at h
 have H:=h
 clear h
 replace H:=gsn_ H;rcases H with ⟨c2b0,H⟩|⟨c2b0,H⟩
 ·simp only [Option.some.injEq,Prod.mk.injEq] at H
  obtain ⟨rfl,rfl,rfl⟩:=H
  obtain ⟨ASz5_0,cSz5_0,HGz5,hgz5,HSz5_0⟩:=HI0.out
  have hcz5_0:=cellS68_0 HGz5
  have hcz5_1:=cellS68_1 HGz5
  have hcz5_2:=cellS68_2 HGz5
  have hfz5_1:=blk_frozen HGz5 1
  have hfz5_2:=blk_frozen HGz5 2
  clear HGz5 hgz5
  go_enter Tryz.func80,Tryz.ntmps80
  go_wp2
  repeat (go_quiet (fail);try go_wp2)
  go_ret
  exact ⟨eT_,h_HI0 HI0.out,h_HB HB.out,h_HK HK.out⟩
 replace H:=gsm_ H;obtain ⟨c3b0,H⟩:=H
 simp only [Option.some.injEq,Prod.mk.injEq] at H
 obtain ⟨rfl,rfl,rfl⟩:=H
 obtain ⟨ASz4_0,cSz4_0,HGz4,hgz4,HSz4_0⟩:=HI0.out
 have hcz4_0:=cellS68_0 HGz4
 have hcz4_1:=cellS68_1 HGz4
 have hcz4_2:=cellS68_2 HGz4
 have hfz4_1:=blk_frozen HGz4 1
 have hfz4_2:=blk_frozen HGz4 2
 clear HGz4 hgz4
 have p101:0≤(s0_1:Int):=odT_
 have q101:s0_1<(s0_0.length:Int):=odT_
 obtain ⟨ad101,e101,hx101_0⟩:=Kd.at_int HSz4_0 s0_1 p101 q101
 cases e101
 have hn101_0:ad101.block≠g:=Nat.ne_of_lt (Nat.lt_of_lt_of_le (by have:=World.block_lt_of_cell? _ _ hx101_0;first|rwa [add_block] at this|exact this) (IsS68.ge HI0.out))
 replace hx101_0:=pw_cell_below HB.out hx101_0
 replace hx101_0:=(cell_far (p:=⟨g,2,none⟩) (by first|(rw [add_block];exact hn101_0)|(show (Addr.add _ _).block≠_;rw [add_block];exact hn101_0)|exact hn101_0) (.int .i64 (wrap64 ((wrap64 (s0_2*6364136223846793005))+1442695040888963407)))).trans hx101_0
 (try have hy101_0:=fun (n_:Nat)=>(show (((w.drewN n_).setCell ⟨g,2,none⟩ (.int .i64 (wrap64 ((wrap64 (s0_2*6364136223846793005))+1442695040888963407))))).cell? _=some _ from hx101_0))
 clear hn101_0
 replace p101:=eq_true p101
 replace q101:=eq_true q101
 go_enter Tryz.func80,Tryz.ntmps80
 go_wp2
 repeat (go_quiet (fail);try go_wp2)
 go_ret
 exact ⟨eT_,h_HI0 HI0.out,h_HB HB.out,h_HK HK.out⟩
def spec_l1Below.f (s0_0:List Int) (s0_1:Int) (s0_2:Int) (a1:Int):Option (Int × Int × Int):=if a1≤0 then (some (0,s0_1,s0_2)) else (if a1≤256 then ((spec_l1Byte.f s0_0 s0_1 s0_2).bind fun bt102=>(if a1=0 then (none) else (some (Int.tmod bt102.1 a1,bt102.2.1,bt102.2.2)))) else ((spec_l1Byte.f s0_0 s0_1 s0_2).bind fun bt105=>((spec_l1Byte.f s0_0 bt105.2.1 bt105.2.2).bind fun bt108=>((spec_l1Byte.f s0_0 bt108.2.1 bt108.2.2).bind fun bt111=>((spec_l1Byte.f s0_0 bt111.2.1 bt111.2.2).bind fun bt114=>(if a1=0 then (none) else (some (Int.tmod (wrap64 ((wrap64 ((wrap64 ((wrap64 (bt105.1*16777216))+(wrap64 (bt108.1*65536))))+(wrap64 (bt111.1*256))))+bt114.1)) a1,bt114.2.1,bt114.2.2))))))))
theorem spec_l1Below.calls (g:Nat) (s0_0:List Int) (s0_1:Int) (s0_2:Int) (a1:Int) (r1:Int) (r2:Int) (r3:Int) (w0 w:World) (hI:IsS68 w0 w g s0_0 s0_1 s0_2) (hB:Below w0.heap.size w0 w) (h:spec_l1Below.f s0_0 s0_1 s0_2 a1=some (r1,r2,r3)) :
    Calls Tryz.prog 46 #[.pointer (some ⟨g,0,none⟩),.int .i64 a1] w fun e w'=>e=.returned (.int .i64 r1)∧IsS68 w0 w' g s0_0 r2 r3∧Below w0.heap.size w0 w'∧KeepBut w w' g none:=by
 have HI0:=Aside0.mk hI
 have HK:=Aside0.mk (KeepBut.refl w g none)
 have HL:=Aside0.mk hB.size
 clear hI
 have HW0:=Aside0.mk hB.size
 have HB:=Aside0.mk hB
 clear hB
 unfold spec_l1Below.f at h
 have H:=h
 clear h
 replace H:=gsb_ H;rcases H with ⟨c3b0,H⟩|⟨c3b0,H⟩
 ·simp only [Option.some.injEq,Prod.mk.injEq] at H
  obtain ⟨rfl,rfl,rfl⟩:=H
  go_enter Tryz.func46,Tryz.ntmps46
  go_wp2
  go_ret
  exact ⟨eT_,h_HI0 HI0.out,h_HB HB.out,h_HK HK.out⟩
 replace H:=gsb_ H;rcases H with ⟨c4b0,H⟩|⟨c4b0,H⟩
 ·replace H:=bnd_ H;obtain ⟨⟨t102,t103,t104⟩,A5,H⟩:=H;dsimp only at H
  replace H:=gsz_ H;obtain ⟨c6,H⟩:=H
  have c6b0:(a1==0)=false:=beq_eq_false_iff_ne.mpr c6
  have c6b1:(a1 != 0)=true:=bne_iff_ne.mpr c6
  simp only [Option.some.injEq,Prod.mk.injEq] at H
  obtain ⟨rfl,rfl,rfl⟩:=H
  go_enter Tryz.func46,Tryz.ntmps46
  go_wp2_with (first|((with_reducible refine gate_callee (f:=80) rfl ?_);refine goesL_ (some 14) rfl rfl Tryz.func80 krT_ rfl #[.pointer (some ⟨g,0,none⟩)] rfl agT_ ?_;(with_reducible refine (spec_l1Byte.calls g s0_0 s0_1 s0_2 t102 t103 t104 w0 _ ?side1 ?side2 A5.out).mono ?_);(case side1=>exact h_HI0 HI0.out);(case side2=>exact h_HB HB.out);rintro e w7 ⟨rfl,hi,hb,hk⟩;refine ⟨_,rfl,?_⟩;replace HK:=Aside0.mk (KeepBut.trans (h_HK HK.out) hk (.inl rfl));replace HB:=Aside0.mk (hb);replace HI0:=Aside0.mk (hi);(try clear hb);(try clear hk);(try clear hi)))
  go_ret
  exact ⟨eT_,h_HI0 HI0.out,h_HB HB.out,h_HK HK.out⟩
 replace H:=bnd_ H;obtain ⟨⟨t105,t106,t107⟩,A8,H⟩:=H;dsimp only at H
 replace H:=bnd_ H;obtain ⟨⟨t108,t109,t110⟩,A9,H⟩:=H;dsimp only at H
 replace H:=bnd_ H;obtain ⟨⟨t111,t112,t113⟩,A10,H⟩:=H;dsimp only at H
 replace H:=bnd_ H;obtain ⟨⟨t114,t115,t116⟩,A11,H⟩:=H;dsimp only at H
 replace H:=gsz_ H;obtain ⟨c12,H⟩:=H
 have c12b0:(a1==0)=false:=beq_eq_false_iff_ne.mpr c12
 have c12b1:(a1 != 0)=true:=bne_iff_ne.mpr c12
 simp only [Option.some.injEq,Prod.mk.injEq] at H
 obtain ⟨rfl,rfl,rfl⟩:=H
 go_enter Tryz.func46,Tryz.ntmps46
 go_wp2_with (first|((with_reducible refine gate_callee (f:=80) rfl ?_);refine goesL_ (some 18) rfl rfl Tryz.func80 krT_ rfl #[.pointer (some ⟨g,0,none⟩)] rfl agT_ ?_;(with_reducible refine (spec_l1Byte.calls g s0_0 s0_1 s0_2 t105 t106 t107 w0 _ ?side1 ?side2 A8.out).mono ?_);(case side1=>exact h_HI0 HI0.out);(case side2=>exact h_HB HB.out);rintro e w13 ⟨rfl,hi,hb,hk⟩;refine ⟨_,rfl,?_⟩;replace HK:=Aside0.mk (KeepBut.trans (h_HK HK.out) hk (.inl rfl));replace HB:=Aside0.mk (hb);replace HI0:=Aside0.mk (hi);(try clear hb);(try clear hk);(try clear hi))|((with_reducible refine gate_callee (f:=80) rfl ?_);refine goesL_ (some 20) rfl rfl Tryz.func80 krT_ rfl #[.pointer (some ⟨g,0,none⟩)] rfl agT_ ?_;(with_reducible refine (spec_l1Byte.calls g s0_0 t106 t107 t108 t109 t110 w0 _ ?side1 ?side2 A9.out).mono ?_);(case side1=>exact h_HI0 HI0.out);(case side2=>exact h_HB HB.out);rintro e w14 ⟨rfl,hi,hb,hk⟩;refine ⟨_,rfl,?_⟩;replace HK:=Aside0.mk (KeepBut.trans (h_HK HK.out) hk (.inl rfl));replace HB:=Aside0.mk (hb);replace HI0:=Aside0.mk (hi);(try clear hb);(try clear hk);(try clear hi))|((with_reducible refine gate_callee (f:=80) rfl ?_);refine goesL_ (some 22) rfl rfl Tryz.func80 krT_ rfl #[.pointer (some ⟨g,0,none⟩)] rfl agT_ ?_;(with_reducible refine (spec_l1Byte.calls g s0_0 t109 t110 t111 t112 t113 w0 _ ?side1 ?side2 A10.out).mono ?_);(case side1=>exact h_HI0 HI0.out);(case side2=>exact h_HB HB.out);rintro e w15 ⟨rfl,hi,hb,hk⟩;refine ⟨_,rfl,?_⟩;replace HK:=Aside0.mk (KeepBut.trans (h_HK HK.out) hk (.inl rfl));replace HB:=Aside0.mk (hb);replace HI0:=Aside0.mk (hi);(try clear hb);(try clear hk);(try clear hi))|((with_reducible refine gate_callee (f:=80) rfl ?_);refine goesL_ (some 24) rfl rfl Tryz.func80 krT_ rfl #[.pointer (some ⟨g,0,none⟩)] rfl agT_ ?_;(with_reducible refine (spec_l1Byte.calls g s0_0 t112 t113 t114 t115 t116 w0 _ ?side1 ?side2 A11.out).mono ?_);(case side1=>exact h_HI0 HI0.out);(case side2=>exact h_HB HB.out);rintro e w16 ⟨rfl,hi,hb,hk⟩;refine ⟨_,rfl,?_⟩;replace HK:=Aside0.mk (KeepBut.trans (h_HK HK.out) hk (.inl rfl));replace HB:=Aside0.mk (hb);replace HI0:=Aside0.mk (hi);(try clear hb);(try clear hk);(try clear hi)))
 go_ret
 exact ⟨eT_,h_HI0 HI0.out,h_HB HB.out,h_HK HK.out⟩
def spec_l1In.f (a0:Int) (a1:Int) (a2:Int):Option (Bool):=if a0≥a1 then (some (decide (a0≤a2))) else (some false)
theorem spec_l1In.calls (a0:Int) (a1:Int) (a2:Int) (r:Bool) (w:World) (h:spec_l1In.f a0 a1 a2=some r) :
    Calls Tryz.prog 53 #[.int .i64 a0,.int .i64 a1,.int .i64 a2] w fun e w'=>e=.returned (.bool r)∧Drawn0 w w':=by
 have H:(if a0≥a1 then (some (decide (a0≤a2))) else (some false))=some r:=h
 clear h
 replace H:=gsq_ H;rcases H with ⟨c4,H⟩|⟨c4,H⟩
 ·have c4b0:decide (a1≤a0)=true:=decide_eq_true c4
  clear c4
  obtain rfl:=Option.some.inj H
  go_enter Tryz.func53,Tryz.ntmps53
  go_wp2
  go_ret
  exact ⟨sT_,dT_⟩
 have c4b0:decide (a1≤a0)=false:=decide_eq_false c4
 clear c4
 obtain rfl:=Option.some.inj H
 go_enter Tryz.func53,Tryz.ntmps53
 go_wp2
 go_ret
 exact ⟨sT_,dT_⟩
def spec_FullSet.f (a0:Int):Option (Int):=(spec_l1In.f a0 0 8).bind fun t117=>(if t117=true then (if 0≤(IntKind.u64.wrap (a0)) then (some (wrap64 ((shl .i64 1 (IntKind.u64.wrap (a0)))-1))) else (none)) else (some 0))
theorem spec_FullSet.calls (a0:Int) (r:Int) (w:World) (h:spec_FullSet.f a0=some r) :
    Calls Tryz.prog 42 #[.int .i64 a0] w fun e w'=>e=.returned (.int .i64 r)∧Drawn0 w w':=by
 unfold spec_FullSet.f at h
 have H:=h
 clear h
 replace H:=bnd_ H;obtain ⟨t117,A2,H⟩:=H
 replace H:=(gst_ H).symm;rcases H with ⟨rfl,H⟩|⟨rfl,H⟩
 ·obtain rfl:=Option.some.inj H
  go_enter Tryz.func42,Tryz.ntmps42
  go_wp2_with (first|((with_reducible refine gate_callee (f:=53) rfl ?_);refine goesL_ (some 4) rfl rfl Tryz.func53 krT_ rfl #[.int .i64 a0,.int .i64 0,.int .i64 8] rfl agT_ ?_;(with_reducible refine (spec_l1In.calls a0 0 8 false _ A2.out).mono ?_);rintro e w' ⟨rfl,⟨nd,rfl⟩⟩;refine ⟨_,rfl,?_⟩))
  go_ret
  exact ⟨sT_,dT_⟩
 obtain ⟨ji4,hji4⟩:∃ j_:Int,(IntKind.u64.wrap (a0))=j_:=⟨_,rfl⟩
 first |rw [hji4] at H|simp only [hji4] at H
 (try rw [hji4] at A2)
 replace H:=gsp_ H;obtain ⟨c5,H⟩:=H
 have c5b0:=eq_true c5
 have c5b1:decide (0≤(ji4))=true:=decide_eq_true c5
 clear c5
 obtain ⟨ji6,hji6⟩:∃ j_:Int,(shl .i64 1 (ji4))=j_:=⟨_,rfl⟩
 first |rw [hji6] at H|simp only [hji6] at H
 (try rw [hji6] at A2)
 have hji6_:(IntKind.i64.wrap (1*2 ^ min (ji4).toNat 64))=ji6:=hji6
 have hji6z:(ji4)≤64→(IntKind.i64.wrap (1*2 ^ (ji4).toNat))=ji6:=shl_small hji6
 have hji6u:(IntKind.i64.wrap (2 ^ min (ji4).toNat 64))=ji6:=by have h_:=hji6_;rw [Int.one_mul] at h_;exact h_
 have hji6v:(ji4)≤64→(IntKind.i64.wrap (2 ^ (ji4).toNat))=ji6:=fun hle_=>by have h_:=hji6z hle_;rw [Int.one_mul] at h_;exact h_
 have hji6y:(wrap64 (1*2 ^ min (ji4).toNat 64))=ji6:=(i64_w _).symm.trans hji6_
 have hji6x:(ji4)≤64→(wrap64 (1*2 ^ (ji4).toNat))=ji6:=fun h_=>(i64_w _).symm.trans (hji6z h_)
 obtain rfl:=Option.some.inj H
 go_enter Tryz.func42,Tryz.ntmps42
 go_wp2_with (first|((with_reducible refine gate_callee (f:=53) rfl ?_);refine goesL_ (some 4) rfl rfl Tryz.func53 krT_ rfl #[.int .i64 a0,.int .i64 0,.int .i64 8] rfl agT_ ?_;(with_reducible refine (spec_l1In.calls a0 0 8 true _ A2.out).mono ?_);rintro e w' ⟨rfl,⟨nd,rfl⟩⟩;refine ⟨_,rfl,?_⟩))
 go_ret
 exact ⟨by first|rfl|(simp;done)|(simp only [← hji4,← hji6]<;>(first|rfl|simp))|(simp [*];done),dT_⟩
def spec_IsSet.f (a0:Int) (a1:Int):Option (Bool):=(spec_l1In.f a0 0 8).bind fun t118=>(if t118=true then (if 0≤(IntKind.u64.wrap (a0)) then ((spec_l1In.f a1 0 (wrap64 ((shl .i64 1 (IntKind.u64.wrap (a0)))-1))).bind fun t119=>(some t119)) else (none)) else (some false))
theorem spec_IsSet.calls (a0:Int) (a1:Int) (r:Bool) (w:World) (h:spec_IsSet.f a0 a1=some r) :
    Calls Tryz.prog 74 #[.int .i64 a0,.int .i64 a1] w fun e w'=>e=.returned (.bool r)∧Drawn0 w w':=by
 unfold spec_IsSet.f at h
 have H:=h
 clear h
 replace H:=bnd_ H;obtain ⟨t118,A3,H⟩:=H
 replace H:=(gst_ H).symm;rcases H with ⟨rfl,H⟩|⟨rfl,H⟩
 ·obtain rfl:=Option.some.inj H
  go_enter Tryz.func74,Tryz.ntmps74
  go_wp2_with (first|((with_reducible refine gate_callee (f:=53) rfl ?_);refine goesL_ (some 6) rfl rfl Tryz.func53 krT_ rfl #[.int .i64 a0,.int .i64 0,.int .i64 8] rfl agT_ ?_;(with_reducible refine (spec_l1In.calls a0 0 8 false _ A3.out).mono ?_);rintro e w' ⟨rfl,⟨nd,rfl⟩⟩;refine ⟨_,rfl,?_⟩))
  go_ret
  exact ⟨sT_,dT_⟩
 obtain ⟨ji5,hji5⟩:∃ j_:Int,(IntKind.u64.wrap (a0))=j_:=⟨_,rfl⟩
 first |rw [hji5] at H|simp only [hji5] at H
 (try rw [hji5] at A3)
 replace H:=gsp_ H;obtain ⟨c6,H⟩:=H
 have c6b0:=eq_true c6
 have c6b1:decide (0≤(ji5))=true:=decide_eq_true c6
 clear c6
 obtain ⟨ji7,hji7⟩:∃ j_:Int,(shl .i64 1 (ji5))=j_:=⟨_,rfl⟩
 first |rw [hji7] at H|simp only [hji7] at H
 (try rw [hji7] at A3)
 have hji7_:(IntKind.i64.wrap (1*2 ^ min (ji5).toNat 64))=ji7:=hji7
 have hji7z:(ji5)≤64→(IntKind.i64.wrap (1*2 ^ (ji5).toNat))=ji7:=shl_small hji7
 have hji7u:(IntKind.i64.wrap (2 ^ min (ji5).toNat 64))=ji7:=by have h_:=hji7_;rw [Int.one_mul] at h_;exact h_
 have hji7v:(ji5)≤64→(IntKind.i64.wrap (2 ^ (ji5).toNat))=ji7:=fun hle_=>by have h_:=hji7z hle_;rw [Int.one_mul] at h_;exact h_
 have hji7y:(wrap64 (1*2 ^ min (ji5).toNat 64))=ji7:=(i64_w _).symm.trans hji7_
 have hji7x:(ji5)≤64→(wrap64 (1*2 ^ (ji5).toNat))=ji7:=fun h_=>(i64_w _).symm.trans (hji7z h_)
 replace H:=bnd_ H;obtain ⟨t119,A8,H⟩:=H
 obtain rfl:=Option.some.inj H
 go_enter Tryz.func74,Tryz.ntmps74
 go_wp2_with (first|((with_reducible refine gate_callee (f:=53) rfl ?_);refine goesL_ (some 6) rfl rfl Tryz.func53 krT_ rfl #[.int .i64 a0,.int .i64 0,.int .i64 8] rfl agT_ ?_;(with_reducible refine (spec_l1In.calls a0 0 8 true _ A3.out).mono ?_);rintro e w' ⟨rfl,⟨nd,rfl⟩⟩;refine ⟨_,rfl,?_⟩)|(go_at_call 53;(with_reducible refine (spec_l1In.calls a1 0 (wrap64 ((ji7)-1)) t119 _ A8.out).mono ?_);rintro e w' ⟨rfl,⟨nd,rfl⟩⟩))
 go_ret
 exact ⟨by first|rfl|(simp;done)|(simp only [← hji5,← hji7]<;>(first|rfl|simp))|(simp [*];done),dT_⟩
def spec_CountOf.l0:Nat→Int→Int→Option (Int)
 | 0,_,_=>none
 | k+1,x0,x3=>if x0>0 then (spec_CountOf.l0 k (x0 / 2) (wrap64 (x3+(Go.bits .and .i64 x0 1)))) else (some x3)
def spec_CountOf.f (k:Nat) (a0:Int):Option (Int):=(spec_IsSet.f 8 a0).bind fun t120=>(if t120=true then (spec_CountOf.l0 k a0 0) else (some 0))
theorem spec_CountOf.calls (k:Nat) (a0:Int) (r:Int) (w:World) (h:spec_CountOf.f k a0=some r) :
    Calls Tryz.prog 56 #[.int .i64 a0] w fun e w'=>e=.returned (.int .i64 r)∧Drawn0 w w':=by
 have H:((spec_IsSet.f 8 a0).bind fun t120=>(if t120=true then (spec_CountOf.l0 k a0 0) else (some 0)))=some r:=h
 clear h
 replace H:=bnd_ H;obtain ⟨t120,A2,H⟩:=H
 replace H:=(gst_ H).symm;rcases H with ⟨rfl,H⟩|⟨rfl,H⟩
 ·obtain rfl:=Option.some.inj H
  go_enter Tryz.func56,Tryz.ntmps56
  go_wp2_with (first|((with_reducible refine gate_callee (f:=74) rfl ?_);refine goesL_ (some 5) rfl rfl Tryz.func74 krT_ rfl #[.int .i64 8,.int .i64 a0] rfl agT_ ?_;(with_reducible refine (spec_IsSet.calls 8 a0 false _ A2.out).mono ?_);rintro e w' ⟨rfl,⟨nd,rfl⟩⟩;refine ⟨_,rfl,?_⟩))
  go_ret
  exact ⟨sT_,dT_⟩
 have H':=Aside0.mk H
 clear H
 go_enter Tryz.func56,Tryz.ntmps56
 go_wp2_with (first|((with_reducible refine gate_callee (f:=74) rfl ?_);refine goesL_ (some 5) rfl rfl Tryz.func74 krT_ rfl #[.int .i64 8,.int .i64 a0] rfl agT_ ?_;(with_reducible refine (spec_IsSet.calls 8 a0 true _ A2.out).mono ?_);rintro e w' ⟨rfl,⟨nd,rfl⟩⟩;refine ⟨_,rfl,?_⟩))
 go_loopg [0,3] k (fun kq v0 v3 w'=>∃ (x0_1:Int) (x3_1:Int),v0=.int .i64 x0_1∧v3=.int .i64 x3_1∧Aside0 (spec_CountOf.l0 kq x0_1 x3_1=some r)∧Aside0 (kq≤k)∧Drawn0 w w')
 case atStart=>exact ⟨(a0),(0),sT_,sT_,H',⟨Nat.le_refl _⟩,dT_⟩
 case round =>
 clear H'
 try clear p2
 try clear c3
 obtain ⟨x0_1,x3_1,rfl,rfl,HA,HK1,⟨m1,rfl⟩⟩:=hrel
 cases gk with
 | zero=>exact absurd HA.out (by simp [spec_CountOf.l0])
 | succ k1 =>
 have H:=HA.out
 clear HA
 simp only [spec_CountOf.l0] at H
 replace H:=(gsq_ H).symm;rcases H with ⟨c4,H⟩|⟨c4,H⟩
 ·have c4b0:decide (0<x0_1)=false:=decide_eq_false c4
  clear c4
  obtain rfl:=Option.some.inj H
  go_wp2
  go_ret
  exact ⟨sT_,dT_⟩
 have c4b0:decide (0<x0_1)=true:=decide_eq_true c4
 clear c4
 have H':=Aside0.mk H
 clear H
 go_wp2
 go_roundg k1
 case measure=>have:=HK1.out;omega
 case rel=>exact ⟨(x0_1 / 2),(wrap64 (x3_1+(Go.bits .and .i64 x0_1 1))),sT_,sT_,H',⟨by have:=HK1.out;omega⟩,dT_⟩
mutual
def spec_Uniform.j0:Nat→Int→Int→Bool→Option (Int × List Int)
 | 0,_,_,_=>none
 | k+1,x0,x1,x15=>if x15=true then (some (0,([]:List Int))) else (spec_Uniform.l0 k x0 x1 0 x1 ([]:List Int))
def spec_Uniform.l0:Nat→Int→Int→Int→Int→List Int→Option (Int × List Int)
 | 0,_,_,_,_,_=>none
 | k+1,x0,x1,x6,x125000,x125001=>(spec_FullSet.f x1).bind fun t125=>(if x6≤t125 then ((spec_CountOf.f k x6).bind fun t126=>(if t126=x0 then (if x125001.length<17592186044416 then (spec_Uniform.l0 k x0 x1 (wrap64 (x6+1)) x125000 (x125001++[x6])) else (none)) else (spec_Uniform.l0 k x0 x1 (wrap64 (x6+1)) x125000 x125001))) else (some (x125000,x125001)))
end
def spec_Uniform.f (k:Nat) (a0:Int) (a1:Int):Option (Int × List Int):=(spec_l1In.f a1 0 8).bind fun t122=>(if t122=true then ((spec_l1In.f a0 0 a1).bind fun t123=>(spec_Uniform.j0 k a0 a1 (!t123))) else (spec_Uniform.j0 k a0 a1 true))
theorem spec_Uniform.calls (k:Nat) (a0:Int) (a1:Int) (r1:Int) (r2:List Int) (w:World) (h:spec_Uniform.f k a0 a1=some (r1,r2)) :
    Calls Tryz.prog 77 #[.int .i64 a0,.int .i64 a1] w fun e w'=>∃ v1_:Value,e=.returned (.agg #[.int .i64 r1,v1_])∧Kd.R (Kd.int .i64) 3 w' w.heap.size (fun _=>True) v1_ r2∧Below w.heap.size w w':=by
 have hu26:=Tryz.underlying26
 have HB:=Aside0.mk (Below.refl w.heap.size w)
 unfold spec_Uniform.f at h
 have H:=h
 clear h
 have HC3:=Aside0.mk H
 clear H
 go_enter Tryz.func77,Tryz.ntmps77
 go_upto_region 1 with (first|((with_reducible refine gate_dst (N:=4) rfl ?_);refine bx_ (N:=4) (cs:=#[.int .i64 0,.slice none 0 0]) (t:=26) ?_;intro gb121 hg w4 hbox hb;have BK121:=Aside0.mk (hbox);have GW121:=Aside0.mk (gw_ hg (h_HB HB.out));have GE121:=GW121;replace HB:=s_HB HB.out hb;clear hb hbox hg))
 (try simp only [Act.put,List.setIfInBounds_toArray,List.set_cons_zero,List.set_cons_succ])
 go_cut [15] (fun v15 wc=>∃ (kq:Nat) (x15_2:Bool),v15=.bool x15_2∧Aside0 (spec_Uniform.j0 kq a0 a1 x15_2=some (r1,r2))∧Aside0 (kq≤k)∧Aside0 (wc.heap[gb121]?=some (.cells #[.int .i64 0,(.slice none 0 0)] 26 (0,0)))∧Aside0 (Below w.heap.size w wc))
 case first =>
  have H:=HC3.out
  clear HC3
  replace H:=bnd_ H;obtain ⟨t122,A5,H⟩:=H
  replace H:=(gst_ H).symm;rcases H with ⟨rfl,H⟩|⟨rfl,H⟩
  ·have H':=Aside0.mk H
   clear H
   go_wp2_with (first|((with_reducible refine gate_callee (f:=53) rfl ?_);refine goesL_ (some 8) rfl rfl Tryz.func53 krT_ rfl #[.int .i64 a1,.int .i64 0,.int .i64 8] rfl agT_ ?_;(with_reducible refine (spec_l1In.calls a1 0 8 false _ A5.out).mono ?_);rintro e w' ⟨rfl,⟨nd,rfl⟩⟩;refine ⟨_,rfl,?_⟩))
   go_meet
   case rel=>exact ⟨_,(true),sT_,H',⟨by first|omega|exact Nat.le_refl _⟩,⟨bkC_ BK121.out⟩,⟨h_HB HB.out⟩⟩
  replace H:=bnd_ H;obtain ⟨t123,A7,H⟩:=H
  have H':=Aside0.mk H
  clear H
  go_wp2_with (first|((with_reducible refine gate_callee (f:=53) rfl ?_);refine goesL_ (some 8) rfl rfl Tryz.func53 krT_ rfl #[.int .i64 a1,.int .i64 0,.int .i64 8] rfl agT_ ?_;(with_reducible refine (spec_l1In.calls a1 0 8 true _ A5.out).mono ?_);rintro e w' ⟨rfl,⟨nd,rfl⟩⟩;refine ⟨_,rfl,?_⟩)|(go_at_call 53;(with_reducible refine (spec_l1In.calls a0 0 a1 t123 _ A7.out).mono ?_);rintro e w' ⟨rfl,⟨nd,rfl⟩⟩))
  go_meet
  case rel=>exact ⟨_,(!t123),sT_,H',⟨by first|omega|exact Nat.le_refl _⟩,⟨bkC_ BK121.out⟩,⟨h_HB HB.out⟩⟩
 case rest =>
 clear HC3
 try clear p2
 try clear c5
 try clear c6
 try clear c7
 obtain ⟨kq,x15_2,rfl,HA,HJ2,BK121,HB⟩:=hcut
 cases kq with
 | zero=>exact absurd HA.out (by simp [spec_Uniform.j0])
 | succ kj2 =>
 have H:=HA.out
 clear HA
 simp only [spec_Uniform.j0] at H
 replace H:=gst_ H;rcases H with ⟨rfl,H⟩|⟨rfl,H⟩
 ·simp only [Option.some.injEq,Prod.mk.injEq] at H
  obtain ⟨rfl,rfl⟩:=H
  obtain ⟨hcz9_0,hcz9_1,hfz9_0,hfz9_1⟩:=bz2_ BK121.out
  go_wp2
  refine bodyPost_ret (results_cell_row rfl _ _ gb121 26 #[.int .i64 0,.slice none 0 0] (0,0) _ rfl (by (with_reducible repeat (first|refine blk_drewN ?_ _|refine blk_drew ?_|refine blk_alloc ?_ _));exact bp2_ (bkC_ BK121.out)) Tryz.underlying26 rfl krT_) rfl ?_
  exact ⟨_,eT_,by first|exact Kd.R_nil _ _ _ _ _|exact Kd.N_nil _ _ _ _ _|exact Kd.V_nil _ _ _ _ _|exact Kd.Q_nil _ _ _ _ _|exact Kd.S_nil _ _ _ _ _,h_HB HB.out⟩
 have H':=Aside0.mk H
 clear H
 go_wp2_with (first|((with_reducible refine gate_dst (N:=5) rfl ?_);refine bx_ (N:=5) (cs:=#[.int .i64 0,.slice none 0 0]) (t:=26) ?_;intro gb124 hg w10 hbox hb;have BK124:=Aside0.mk (hbox);have GW124:=Aside0.mk (gw_ hg (h_HB HB.out));have GE124:=GW124;replace HB:=s_HB HB.out hb;have NB121_124:=Aside0.mk (nbl_ hg (bkC_ BK121.out));have NB124_121:=Aside0.mk NB121_124.out.symm;replace BK121:=sBK_ BK121.out hb;clear hb hbox hg;have hnb11:=NB124_121.out;have hnc11:=NB121_124.out;obtain ⟨hcz12_0,hcz12_1,hfz12_0,hfz12_1⟩:=bz2_ BK124.out))
 go_loopg [6] kj2 (fun kq v6 w'=>∃ (x6_2:Int) (x125001_2:List Int) (u125001:Value),v6=.int .i64 x6_2∧Aside0 (spec_Uniform.l0 kq a0 a1 x6_2 a1 x125001_2=some (r1,r2))∧Aside0 (kq≤kj2)∧Aside0 (Kd.R (Kd.int .i64) 3 w' w.heap.size (fun _=>True) u125001 x125001_2)∧Aside0 (w'.heap[gb121]?=some (.cells #[.int .i64 0,(.slice none 0 0)] 26 (0,0)))∧Aside0 (w'.heap[gb124]?=some (.cells #[.int .i64 a1,u125001] 26 (0,0)))∧Aside0 (Below w.heap.size w w'))
 case atStart=>exact ⟨(0),(([]:List Int)),(.slice none 0 0),sT_,H',⟨Nat.le_refl _⟩,⟨by first|exact Kd.R_nil _ _ _ _ _|exact Kd.N_nil _ _ _ _ _|exact Kd.V_nil _ _ _ _ _|exact Kd.Q_nil _ _ _ _ _|exact Kd.S_nil _ _ _ _ _⟩,⟨bkC_ BK121.out⟩,⟨by (with_reducible repeat (first|refine blk_drewN ?_ _|refine blk_drew ?_|refine blk_alloc ?_ _));exact bp2_ (bkC_ BK124.out)⟩,⟨h_HB HB.out⟩⟩
 case round =>
 clear H'
 try clear c1
 try clear p2
 try clear c5
 try clear c6
 try clear c7
 try clear c8
 try clear c11
 try clear hcz12_0
 try clear hcz12_1
 try clear hcz9_0
 try clear hcz9_1
 try clear hfz12_0
 try clear hfz12_1
 try clear hfz9_0
 try clear hfz9_1
 try clear p2
 obtain ⟨x6_2,x125001_2,u125001,rfl,HA,HK2,HO_125001,BK121,BK124,HB⟩:=hrel
 cases gk with
 | zero=>exact absurd HA.out (by simp [spec_Uniform.l0])
 | succ k2 =>
 have H:=HA.out
 clear HA
 simp only [spec_Uniform.l0] at H
 replace H:=bnd_ H;obtain ⟨t125,A13,H⟩:=H
 replace H:=gsn_ H;rcases H with ⟨c14b0,H⟩|⟨c14b0,H⟩
 ·simp only [Option.some.injEq,Prod.mk.injEq] at H
  obtain ⟨rfl,rfl⟩:=H
  go_wp2_with (first|((with_reducible refine gate_callee (f:=42) rfl ?_);refine goesL_ (some 21) rfl rfl Tryz.func42 krT_ rfl #[.int .i64 a1] rfl agT_ ?_;(with_reducible refine (spec_FullSet.calls a1 t125 _ A13.out).mono ?_);rintro e w' ⟨rfl,⟨nd,rfl⟩⟩;refine ⟨_,rfl,?_⟩;(try (rw [drewN_self wr];generalize hq_:World.drewN wr _=wr;replace HO_125001:Aside0 (Kd.R (Kd.int .i64) 3 wr w.heap.size (fun _=>True) u125001 x125001_2):=⟨by rw [← hq_];exact (kRC_ HO_125001.out)⟩;replace BK121:Aside0 (wr.heap[gb121]?=some (.cells #[.int .i64 0,.slice none 0 0] 26 (0,0))):=⟨by rw [← hq_];exact (bkC_ BK121.out)⟩;replace BK124:Aside0 (wr.heap[gb124]?=some (.cells #[.int .i64 a1,u125001] 26 (0,0))):=⟨by rw [← hq_];exact (bkC_ BK124.out)⟩;replace HB:Aside0 (Below w.heap.size w wr):=⟨by rw [← hq_];exact (h_HB HB.out)⟩;clear hq_;have hcuz25_gb121_0:wr.cell? ⟨gb121,0,none⟩=some (.int .i64 0):=(blk_cell BK121.out 0).trans rfl;have hfuz25_gb121_0:=blk_frozen BK121.out 0;have hcuz25_gb121_1:wr.cell? ⟨gb121,1,none⟩=some (.slice none 0 0):=(blk_cell BK121.out 1).trans rfl;have hfuz25_gb121_1:=blk_frozen BK121.out 1;have hcuz25_gb124_0:wr.cell? ⟨gb124,0,none⟩=some (.int .i64 a1):=(blk_cell BK124.out 0).trans rfl;have hfuz25_gb124_0:=blk_frozen BK124.out 0;have hcuz25_gb124_1:wr.cell? ⟨gb124,1,none⟩=some (u125001):=(blk_cell BK124.out 1).trans rfl;have hfuz25_gb124_1:=blk_frozen BK124.out 1));have hnb26:=NB124_121.out;have hnc26:=NB121_124.out;obtain ⟨hcz27_0,hcz27_1,hfz27_0,hfz27_1⟩:=bz2_ BK124.out;obtain ⟨hcz28_0,hcz28_1,hfz28_0,hfz28_1⟩:=bz2_ BK121.out;obtain ⟨Ao29,co29,eo29⟩:=Kd.R_slice HO_125001.out;subst eo29))
  refine bodyPost_ret (results_cell_row rfl _ _ gb121 26 #[.int .i64 a1,.slice Ao29 x125001_2.length co29] (0,0) _ rfl (by (with_reducible repeat (first|refine blk_drewN ?_ _|refine blk_drew ?_|refine blk_alloc ?_ _));exact bp2_ (bkC_ BK121.out)) Tryz.underlying26 rfl krT_) rfl ?_
  exact ⟨_,eT_,by (with_reducible repeat (first|apply Kd.R_alloc|apply Kd.R_drewN|apply Kd.R_drew));exact Kd.R_mono (Kd.R_far (p:=⟨gb121,1,none⟩) (Kd.R_far (p:=⟨gb121,0,none⟩) (Kd.R_types HO_125001.out BK121.out (by decide)) (fun _ hk=>hk.2) (.int .i64 a1)) (fun _ hk=>hk.2) (.slice Ao29 x125001_2.length co29)) (fun _ hk=>trivial),h_HB HB.out⟩
 replace H:=bnd_ H;obtain ⟨t126,A15,H⟩:=H
 replace H:=(gse_ H).symm;rcases H with ⟨c16b0,c16b1,c16,H⟩|⟨c16b0,c16b1,H⟩
 ·have H':=Aside0.mk H
  clear H
  go_wp2_with (first|((with_reducible refine gate_callee (f:=42) rfl ?_);refine goesL_ (some 21) rfl rfl Tryz.func42 krT_ rfl #[.int .i64 a1] rfl agT_ ?_;(with_reducible refine (spec_FullSet.calls a1 t125 _ A13.out).mono ?_);rintro e w' ⟨rfl,⟨nd,rfl⟩⟩;refine ⟨_,rfl,?_⟩)|((with_reducible refine gate_callee (f:=56) rfl ?_);refine goesL_ (some 26) rfl rfl Tryz.func56 krT_ rfl #[.int .i64 x6_2] rfl agT_ ?_;(with_reducible refine (spec_CountOf.calls k2 x6_2 t126 _ A15.out).mono ?_);rintro e w' ⟨rfl,⟨nd,rfl⟩⟩;refine ⟨_,rfl,?_⟩))
  go_roundg k2
  case measure=>have:=HJ2.out;have:=HK2.out;omega
  case rel=>exact ⟨(wrap64 (x6_2+1)),(x125001_2),(u125001),sT_,H',⟨by have:=HJ2.out;have:=HK2.out;omega⟩,⟨kRC_ HO_125001.out⟩,⟨bkC_ BK121.out⟩,⟨bkC_ BK124.out⟩,⟨h_HB HB.out⟩⟩
 replace H:=gsl_ H;obtain ⟨LMc17,H⟩:=H
 obtain ⟨y127,hy127⟩:∃ y_:List Int,y_=(x125001_2++[x6_2]):=⟨_,rfl⟩
 rw [← hy127] at H
 have Ny127:=Aside0.mk hy127
 clear hy127
 have H':=Aside0.mk H
 clear H
 go_wp2_with (first|((with_reducible refine gate_callee (f:=42) rfl ?_);refine goesL_ (some 21) rfl rfl Tryz.func42 krT_ rfl #[.int .i64 a1] rfl agT_ ?_;(with_reducible refine (spec_FullSet.calls a1 t125 _ A13.out).mono ?_);rintro e w' ⟨rfl,⟨nd,rfl⟩⟩;refine ⟨_,rfl,?_⟩;(try (rw [drewN_self wr];generalize hq_:World.drewN wr _=wr;replace HO_125001:Aside0 (Kd.R (Kd.int .i64) 3 wr w.heap.size (fun _=>True) u125001 x125001_2):=⟨by rw [← hq_];exact (kRC_ HO_125001.out)⟩;replace BK121:Aside0 (wr.heap[gb121]?=some (.cells #[.int .i64 0,.slice none 0 0] 26 (0,0))):=⟨by rw [← hq_];exact (bkC_ BK121.out)⟩;replace BK124:Aside0 (wr.heap[gb124]?=some (.cells #[.int .i64 a1,u125001] 26 (0,0))):=⟨by rw [← hq_];exact (bkC_ BK124.out)⟩;replace HB:Aside0 (Below w.heap.size w wr):=⟨by rw [← hq_];exact (h_HB HB.out)⟩;clear hq_;have hcuz18_gb121_0:wr.cell? ⟨gb121,0,none⟩=some (.int .i64 0):=(blk_cell BK121.out 0).trans rfl;have hfuz18_gb121_0:=blk_frozen BK121.out 0;have hcuz18_gb121_1:wr.cell? ⟨gb121,1,none⟩=some (.slice none 0 0):=(blk_cell BK121.out 1).trans rfl;have hfuz18_gb121_1:=blk_frozen BK121.out 1;have hcuz18_gb124_0:wr.cell? ⟨gb124,0,none⟩=some (.int .i64 a1):=(blk_cell BK124.out 0).trans rfl;have hfuz18_gb124_0:=blk_frozen BK124.out 0;have hcuz18_gb124_1:wr.cell? ⟨gb124,1,none⟩=some (u125001):=(blk_cell BK124.out 1).trans rfl;have hfuz18_gb124_1:=blk_frozen BK124.out 1)))|((with_reducible refine gate_callee (f:=56) rfl ?_);refine goesL_ (some 26) rfl rfl Tryz.func56 krT_ rfl #[.int .i64 x6_2] rfl agT_ ?_;(with_reducible refine (spec_CountOf.calls k2 x6_2 t126 _ A15.out).mono ?_);rintro e w' ⟨rfl,⟨nd,rfl⟩⟩;refine ⟨_,rfl,?_⟩;(try (rw [drewN_self wr];generalize hq_:World.drewN wr _=wr;replace HO_125001:Aside0 (Kd.R (Kd.int .i64) 3 wr w.heap.size (fun _=>True) u125001 x125001_2):=⟨by rw [← hq_];exact (kRC_ HO_125001.out)⟩;replace BK121:Aside0 (wr.heap[gb121]?=some (.cells #[.int .i64 0,.slice none 0 0] 26 (0,0))):=⟨by rw [← hq_];exact (bkC_ BK121.out)⟩;replace BK124:Aside0 (wr.heap[gb124]?=some (.cells #[.int .i64 a1,u125001] 26 (0,0))):=⟨by rw [← hq_];exact (bkC_ BK124.out)⟩;replace HB:Aside0 (Below w.heap.size w wr):=⟨by rw [← hq_];exact (h_HB HB.out)⟩;clear hq_;have hcuz19_gb121_0:wr.cell? ⟨gb121,0,none⟩=some (.int .i64 0):=(blk_cell BK121.out 0).trans rfl;have hfuz19_gb121_0:=blk_frozen BK121.out 0;have hcuz19_gb121_1:wr.cell? ⟨gb121,1,none⟩=some (.slice none 0 0):=(blk_cell BK121.out 1).trans rfl;have hfuz19_gb121_1:=blk_frozen BK121.out 1;have hcuz19_gb124_0:wr.cell? ⟨gb124,0,none⟩=some (.int .i64 a1):=(blk_cell BK124.out 0).trans rfl;have hfuz19_gb124_0:=blk_frozen BK124.out 0;have hcuz19_gb124_1:wr.cell? ⟨gb124,1,none⟩=some (u125001):=(blk_cell BK124.out 1).trans rfl;have hfuz19_gb124_1:=blk_frozen BK124.out 1));have hnb20:=NB124_121.out;have hnc20:=NB121_124.out;obtain ⟨hcz21_0,hcz21_1,hfz21_0,hfz21_1⟩:=bz2_ BK124.out)|((with_reducible refine gate_builtin (b:=.append) (xs:=#[.tmp 30,.tmp 32]) rfl ?_);at_builtin;refine Kd.R_append (Kd.int .i64) (w0:=w) w.heap.size rfl (.tmp 30) (.tmp 32) 24 3 (.int .i64 0) 8 rfl Tryz.underlying24 info3 rfl (by decide) (by omega) u125001 x125001_2 x6_2 [.int .i64 x6_2] (fun _=>True) (fun _=>False) rfl rfl ?aP (fun _ hk=>hk.elim) ?aF ?aO ?aB ?aS ?aL ?_;(case aP=>exact rfl);(case aB=>exact (h_HB HB.out));(case aF=>exact (fun _ _=>trivial));(case aO=>exact (kRC_ HO_125001.out));(case aS=>exact (below_size (h_HB HB.out)));(case aL=>have:=LMc17.out;omega);intro v128 w22 ho hb hg hat;rw [← Ny127.out] at ho;replace BK121:=Aside0.mk (blk_grown (bkC_ BK121.out) hg (Kd.R_ne HO_125001.out BK121.out (by decide)));replace BK124:=Aside0.mk (blk_grown (bkC_ BK124.out) hg (Kd.R_ne HO_125001.out BK124.out (by decide)));replace HB:=Aside0.mk (hb);have HO129:=Aside0.mk (ho);clear HO_125001;clear ho hb hg hat;obtain ⟨Ao23,co23,eo23⟩:=Kd.R_slice HO129.out;subst eo23;obtain ⟨hcz24_0,hcz24_1,hfz24_0,hfz24_1⟩:=bz2_ BK124.out))
 go_roundg k2
 case measure=>have:=HJ2.out;have:=HK2.out;omega
 case rel=>exact ⟨(wrap64 (x6_2+1)),(y127),(.slice Ao23 y127.length co23),sT_,H',⟨by have:=HJ2.out;have:=HK2.out;omega⟩,⟨by (with_reducible repeat (first|apply Kd.R_alloc|apply Kd.R_drewN|apply Kd.R_drew));exact Kd.R_mono (Kd.R_far (p:=⟨gb124,1,none⟩) (Kd.R_types HO129.out BK124.out (by decide)) (fun _ hk=>hk.2) (.slice Ao23 y127.length co23)) (fun _ hk=>trivial)⟩,⟨bkC_ BK121.out⟩,⟨by (with_reducible repeat (first|refine blk_drewN ?_ _|refine blk_drew ?_|refine blk_alloc ?_ _));refine blk_put (cs:=#[.int .i64 a1,u125001]) ?_ 1 _ rfl;exact bkC_ BK124.out⟩,⟨h_HB HB.out⟩⟩
def spec_SplitByte.l0:Nat→ByteArray→Int→List ByteArray→Int→Int→Option (List ByteArray)
 | 0,_,_,_,_,_=>none
 | k+1,x0,x1,x5,x6,x7=>if x7≤(x0.size:Int) then (if x7=(x0.size:Int) then (if 0≤x6 then (if x6≤x7 then (if x5.length<8796093022208 then (spec_SplitByte.l0 k x0 x1 (x5++[x0.extract (x6:Int).toNat (x7:Int).toNat]) (wrap64 (x7+1)) (wrap64 (x7+1))) else (none)) else (none)) else (none)) else (if 0≤x7 then (if x7<(x0.size:Int) then (if (bt x0 x7)=x1 then (if 0≤x6 then (if x6≤x7 then (if x5.length<8796093022208 then (spec_SplitByte.l0 k x0 x1 (x5++[x0.extract (x6:Int).toNat (x7:Int).toNat]) (wrap64 (x7+1)) (wrap64 (x7+1))) else (none)) else (none)) else (none)) else (spec_SplitByte.l0 k x0 x1 x5 x6 (wrap64 (x7+1)))) else (none)) else (none))) else (some x5)
def spec_SplitByte.f (k:Nat) (a0:ByteArray) (a1:Int):Option (List ByteArray):=spec_SplitByte.l0 k a0 a1 (([]:List ByteArray)) 0 0
theorem spec_SplitByte.calls (k:Nat) (a0:ByteArray) (a1:Int) (r:List ByteArray) (w:World) (h:spec_SplitByte.f k a0 a1=some r) :
    Calls Tryz.prog 99 #[.string a0,.int .u8 a1] w fun e w'=>∃ v0_:Value,e=.returned (v0_)∧Kd.R Kd.string 9 w' w.heap.size (fun _=>True) v0_ r∧Below w.heap.size w w':=by
 have HB:=Aside0.mk (Below.refl w.heap.size w)
 have H:(spec_SplitByte.l0 k a0 a1 (([]:List ByteArray)) 0 0)=some r:=h
 clear h
 obtain ⟨y130,hy130⟩:∃ y_:List ByteArray,y_=(([]:List ByteArray)):=⟨_,rfl⟩
 rw [← hy130] at H
 have Ny130:=Aside0.mk hy130
 clear hy130
 have H':=Aside0.mk H
 clear H
 go_enter Tryz.func99,Tryz.ntmps99
 go_wp2_with (first|((with_reducible refine gate_dst (N:=8) rfl ?_);refine Kd.R_lit Kd.string _ 9 ?hg (N:=8) ?hd (xs:=([]:List ByteArray)) (inner:=[]) (ok:=fun _=>True) (okp:=fun _=>True) ?hr ?hp (fun _ hk=>hk) trivial (Below.refl _ _) (Nat.le_refl _) (by simp) ?_;(case hd=>rfl);(case hg=>rfl);(case hr=>exact hrT_);(case hp=>exact (Reps.none _ _));intro v131 w3 ho4 hb hg_ hnew_;clear hg_ hnew_;(first|rw [← Ny130.out] at ho4|(simp only [Int.reduceToNat] at ho4;rw [← Ny130.out] at ho4));have HO132:=Aside0.mk (Kd.R_lower ho4 (below_size (h_HB HB.out)));replace HB:=s_HB HB.out hb;clear hb ho4))
 go_loopg [5,6,7] k (fun kq v5 v6 v7 w'=>∃ (x5_1:List ByteArray) (x6_1:Int) (x7_1:Int),v6=.int .i64 x6_1∧v7=.int .i64 x7_1∧Aside0 (spec_SplitByte.l0 kq a0 a1 x5_1 x6_1 x7_1=some r)∧Aside0 (kq≤k)∧Aside0 (Kd.R Kd.string 9 w' w.heap.size (fun _=>True) v5 x5_1)∧Aside0 (Below w.heap.size w w'))
 case atStart=>exact ⟨(y130),(0),(0),sT_,sT_,H',⟨Nat.le_refl _⟩,⟨kRC_ HO132.out⟩,⟨h_HB HB.out⟩⟩
 case round =>
 clear H'
 try clear p2
 obtain ⟨x5_1,x6_1,x7_1,rfl,rfl,HA,HK1,HO_5,HB⟩:=hrel
 cases gk with
 | zero=>exact absurd HA.out (by simp [spec_SplitByte.l0])
 | succ k1 =>
 have H:=HA.out
 clear HA
 simp only [spec_SplitByte.l0] at H
 replace H:=gsn_ H;rcases H with ⟨c5b0,H⟩|⟨c5b0,H⟩
 ·obtain rfl:=Option.some.inj H
  go_wp2
  go_ret
  exact ⟨_,eT_,kRC_ HO_5.out,h_HB HB.out⟩
 replace H:=gse_ H;rcases H with ⟨c6b0,c6b1,H⟩|⟨c6b0,c6b1,c6,H⟩
 ·replace H:=gsp_ H;obtain ⟨c7,H⟩:=H
  have c7b0:=eq_true c7
  have c7b1:decide (0≤x6_1)=true:=decide_eq_true c7
  clear c7
  replace H:=gsp_ H;obtain ⟨c8,H⟩:=H
  have c8b0:=eq_true c8
  have c8b1:decide (x6_1≤x7_1)=true:=decide_eq_true c8
  clear c8
  have c9b0:=eq_true (odT_:x7_1≤(a0.size:Int))
  replace H:=gsl_ H;obtain ⟨LMc10,H⟩:=H
  obtain ⟨y133,hy133⟩:∃ y_:List ByteArray,y_=(x5_1++[a0.extract (x6_1:Int).toNat (x7_1:Int).toNat]):=⟨_,rfl⟩
  rw [← hy133] at H
  have Ny133:=Aside0.mk hy133
  clear hy133
  have H':=Aside0.mk H
  clear H
  go_wp2_with (first|((with_reducible refine gate_builtin (b:=.append) (xs:=#[.tmp 26,.tmp 31]) rfl ?_);at_builtin;refine Kd.R_append Kd.string (w0:=w) w.heap.size rfl (.tmp 26) (.tmp 31) 79 9 (.string ⟨#[]⟩) 16 rfl Tryz.underlying79 info9 rfl (by decide) (by omega) u5 x5_1 (a0.extract (x6_1:Int).toNat (x7_1:Int).toNat) [.string (a0.extract (x6_1:Int).toNat (x7_1:Int).toNat)] (fun _=>True) (fun _=>False) rfl rfl ?aP (fun _ hk=>hk.elim) ?aF ?aO ?aB ?aS ?aL ?_;(case aP=>exact rfl);(case aB=>exact (h_HB HB.out));(case aF=>exact (fun _ _=>trivial));(case aO=>exact (kRC_ HO_5.out));(case aS=>exact (below_size (h_HB HB.out)));(case aL=>have:=LMc10.out;omega);intro v134 w11 ho hb hg hat;rw [← Ny133.out] at ho;replace HB:=Aside0.mk (hb);have HO135:=Aside0.mk (ho);clear HO_5;clear ho hb hg hat))
  go_roundg k1
  case measure=>have:=HK1.out;omega
  case rel=>exact ⟨(y133),(wrap64 (x7_1+1)),(wrap64 (x7_1+1)),sT_,sT_,H',⟨by have:=HK1.out;omega⟩,⟨kRC_ HO135.out⟩,⟨h_HB HB.out⟩⟩
 replace H:=gsm_ H;obtain ⟨c12b0,H⟩:=H
 replace H:=gsm_ H;obtain ⟨c13b0,H⟩:=H
 replace H:=(gse_ H).symm;rcases H with ⟨c15b0,c15b1,c15,H⟩|⟨c15b0,c15b1,H⟩
 ·have H':=Aside0.mk H
  clear H
  have p14:0≤(x7_1:Int):=odT_
  have q14:x7_1<(a0.size:Int):=odT_
  have hx14:=bt_at a0 x7_1
  replace p14:=eq_true p14
  replace q14:=eq_true q14
  go_wp2
  go_roundg k1
  case measure=>have:=HK1.out;omega
  case rel=>exact ⟨(x5_1),(x6_1),(wrap64 (x7_1+1)),sT_,sT_,H',⟨by have:=HK1.out;omega⟩,⟨kRC_ HO_5.out⟩,⟨h_HB HB.out⟩⟩
 replace H:=gsp_ H;obtain ⟨c16,H⟩:=H
 have c16b0:=eq_true c16
 have c16b1:decide (0≤x6_1)=true:=decide_eq_true c16
 clear c16
 replace H:=gsp_ H;obtain ⟨c17,H⟩:=H
 have c17b0:=eq_true c17
 have c17b1:decide (x6_1≤x7_1)=true:=decide_eq_true c17
 clear c17
 have c18b0:=eq_true (odT_:x7_1≤(a0.size:Int))
 replace H:=gsl_ H;obtain ⟨LMc19,H⟩:=H
 obtain ⟨y136,hy136⟩:∃ y_:List ByteArray,y_=(x5_1++[a0.extract (x6_1:Int).toNat (x7_1:Int).toNat]):=⟨_,rfl⟩
 rw [← hy136] at H
 have Ny136:=Aside0.mk hy136
 clear hy136
 have H':=Aside0.mk H
 clear H
 have p14:0≤(x7_1:Int):=odT_
 have q14:x7_1<(a0.size:Int):=odT_
 have hx14:=bt_at a0 x7_1
 replace p14:=eq_true p14
 replace q14:=eq_true q14
 go_wp2_with (first|((with_reducible refine gate_builtin (b:=.append) (xs:=#[.tmp 26,.tmp 31]) rfl ?_);at_builtin;refine Kd.R_append Kd.string (w0:=w) w.heap.size rfl (.tmp 26) (.tmp 31) 79 9 (.string ⟨#[]⟩) 16 rfl Tryz.underlying79 info9 rfl (by decide) (by omega) u5 x5_1 (a0.extract (x6_1:Int).toNat (x7_1:Int).toNat) [.string (a0.extract (x6_1:Int).toNat (x7_1:Int).toNat)] (fun _=>True) (fun _=>False) rfl rfl ?aP (fun _ hk=>hk.elim) ?aF ?aO ?aB ?aS ?aL ?_;(case aP=>exact rfl);(case aB=>exact (h_HB HB.out));(case aF=>exact (fun _ _=>trivial));(case aO=>exact (kRC_ HO_5.out));(case aS=>exact (below_size (h_HB HB.out)));(case aL=>have:=LMc19.out;omega);intro v137 w20 ho hb hg hat;rw [← Ny136.out] at ho;replace HB:=Aside0.mk (hb);have HO138:=Aside0.mk (ho);clear HO_5;clear ho hb hg hat))
 go_roundg k1
 case measure=>have:=HK1.out;omega
 case rel=>exact ⟨(y136),(wrap64 (x7_1+1)),(wrap64 (x7_1+1)),sT_,sT_,H',⟨by have:=HK1.out;omega⟩,⟨kRC_ HO138.out⟩,⟨h_HB HB.out⟩⟩
end Go.Proofs.YtekegbacnagbcaaGreat.P
