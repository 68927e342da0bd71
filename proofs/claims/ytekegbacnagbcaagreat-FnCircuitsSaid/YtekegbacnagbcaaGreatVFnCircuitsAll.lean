/- What the printed functions come to: the law's plain texts, joined. -/
import Derived.Test.YtekegbacnagbcaaGreatPVFnCircuitsx
import Derived.Test.YtekegbacnagbcaaGreatTBits
import Derived.Laws.Strings
import Derived.Laws.BytesArg
import Derived.Lib.Join
import Derived.Lib.ItoaNum
import Derived.Lib.AtoiAll
import Derived.Lib.SplitLaws
import Derived.Lib.AtoiAllCases
import Derived.Lib.Strings
/- What the small functions on sets of elements come to: the printed functions as plain functions of whole numbers. -/
namespace Go.Proofs.YtekegbacnagbcaaGreat.L
open Go.RowKit Go.Proofs.YtekegbacnagbcaaGreatW.PrintWords Go.Proofs.YtekegbacnagbcaaGreatW.PrintMore Go.Proofs.YtekegbacnagbcaaGreat.P Go.Proofs.YtekegbacnagbcaaGreat.B
def any (s:Int):Bool:=decide (0≤s∧s<256)
def isSet (n s:Int):Bool:=decide (0≤n∧n≤8∧0≤s∧s<2 ^ n.toNat)
def hasE (s e:Int):Bool:=decide (0≤s∧s<256∧0≤e∧e<8) && s.toNat.testBit e.toNat
def fullSet (n:Int):Int:=if 0≤n∧n≤8 then 2 ^ n.toNat - 1 else 0
def withE (s e:Int):Int:=if 0≤s∧s<256∧0≤e∧e<8 then ((Mt.ins s.toNat e.toNat:Nat):Int) else s
def woE (s e:Int):Int:=if 0≤s∧s<256∧0≤e∧e<8 then ((Mt.del s.toNat e.toNat:Nat):Int) else s
def subB (s t:Int):Bool:=decide (0≤s∧s<256∧0≤t∧t<256) && (s.toNat &&& t.toNat==s.toNat)
theorem pow_cast (m:Nat):(2:Int) ^ m=((2 ^ m:Nat):Int):=by norm_cast
theorem pow_le8 {m:Nat} (h:m≤8):0<2 ^ m∧2 ^ m≤256:=by
 have:=Nat.pow_le_pow_right (show 0<2 by decide) h;exact ⟨Nat.two_pow_pos m,by omega⟩
theorem nat_of {s:Int} (h:0≤s):∃ n:Nat,s=n:=⟨s.toNat,by omega⟩
theorem isSet_8 (s:Int):isSet 8 s=any s:=by unfold isSet any;rw [decide_eq_decide];simp
theorem l1In_eq (a b c:Int):spec_l1In.f a b c=some (decide (b≤a∧a≤c)):=by
 unfold spec_l1In.f;by_cases h:a≥b
 ·rw [if_pos h];congr 1;exact decide_eq_decide.mpr ⟨fun k=>⟨h,k⟩,fun k=>k.2⟩
 ·rw [if_neg h];congr 1;exact (decide_eq_false (fun k=>h k.1)).symm
theorem isSize_eq (n:Int):impl_isSize.f n=some (decide (0≤n∧n≤8)):=by
 unfold impl_isSize.f;by_cases h:n≥0
 ·rw [if_pos h];congr 1;exact decide_eq_decide.mpr ⟨fun k=>⟨h,k⟩,fun k=>k.2⟩
 ·rw [if_neg h];congr 1;exact (decide_eq_false (fun k=>h k.1)).symm
theorem isAny_eq (s:Int):impl_isAny.f s=some (any s):=by
 unfold impl_isAny.f any;by_cases h:s≥0
 ·rw [if_pos h];congr 1;exact decide_eq_decide.mpr ⟨fun k=>⟨h,k⟩,fun k=>k.2⟩
 ·rw [if_neg h];congr 1;exact (decide_eq_false (fun k=>h k.1)).symm
theorem IsSet_spec (n s:Int):spec_IsSet.f n s=some (isSet n s):=by
 unfold spec_IsSet.f;rw [l1In_eq];simp only [Option.bind_some]
 by_cases h:0≤n∧n≤8
 ·obtain ⟨m,rfl⟩:=nat_of h.1
  have hm:m≤8:=by omega
  have hp:=pow_le8 hm
  rw [if_pos (decide_eq_true h),u64_nat (m:Int) (by omega) (by omega),if_pos (by omega),shl_one m (by omega),w64 _ (by omega) (by omega),l1In_eq]
  simp only [Option.bind_some];congr 1;unfold isSet;rw [decide_eq_decide,Int.toNat_natCast,pow_cast];omega
 ·rw [if_neg (by simpa using h)];congr 1;unfold isSet;exact (decide_eq_false (fun k=>h ⟨k.1,k.2.1⟩)).symm
theorem IsSet_impl (n s:Int):impl_IsSet.f n s=some (isSet n s):=by
 unfold impl_IsSet.f;rw [isSize_eq];simp only [Option.bind_some]
 by_cases h:0≤n∧n≤8
 ·obtain ⟨m,rfl⟩:=nat_of h.1
  rw [if_pos (decide_eq_true h)]
  by_cases hs:s≥0
  ·rw [if_pos hs,if_pos h.1,shl_one m (by omega)];congr 1;unfold isSet;rw [decide_eq_decide,Int.toNat_natCast,pow_cast];omega
  ·rw [if_neg hs];congr 1;unfold isSet;exact (decide_eq_false (by omega)).symm
 ·rw [if_neg (by simpa using h)];congr 1;unfold isSet;exact (decide_eq_false (fun k=>h ⟨k.1,k.2.1⟩)).symm
theorem FullSet_spec (n:Int):spec_FullSet.f n=some (fullSet n):=by
 unfold spec_FullSet.f fullSet;rw [l1In_eq];simp only [Option.bind_some]
 by_cases h:0≤n∧n≤8
 ·obtain ⟨m,rfl⟩:=nat_of h.1
  have hp:=pow_le8 (show m≤8 by omega)
  rw [if_pos (decide_eq_true h),if_pos h,u64_nat (m:Int) (by omega) (by omega),if_pos (by omega),shl_one m (by omega),w64 _ (by omega) (by omega),Int.toNat_natCast,pow_cast]
 ·rw [if_neg (by simpa using h),if_neg h]
theorem FullSet_impl (n:Int):impl_FullSet.f n=some (fullSet n):=by
 unfold impl_FullSet.f fullSet;rw [isSize_eq];simp only [Option.bind_some]
 by_cases h:0≤n∧n≤8
 ·obtain ⟨m,rfl⟩:=nat_of h.1
  have hp:=pow_le8 (show m≤8 by omega)
  rw [if_pos (decide_eq_true h),if_pos h,if_pos h.1,shl_one m (by omega),w64 _ (by omega) (by omega),Int.toNat_natCast,pow_cast]
 ·rw [if_neg (by simpa using h),if_neg h]
theorem l2Has_eq (s e:Nat) (hs:s<9223372036854775808) (he:e<64):spec_l2Has.f s e=some (s.testBit e):=by
 unfold spec_l2Has.f
 rw [u64_nat (e:Int) (by omega) (by omega),if_pos (by omega),tb s e hs he]
theorem HasElement_spec (s e:Int):spec_HasElement.f s e=some (hasE s e):=by
 unfold spec_HasElement.f hasE;rw [IsSet_spec,isSet_8];simp only [Option.bind_some]
 by_cases h:0≤s∧s<256
 ·rw [if_pos (by unfold any;exact decide_eq_true h),l1In_eq];simp only [Option.bind_some]
  by_cases he:0≤e∧e≤7
  ·obtain ⟨x,rfl⟩:=nat_of h.1;obtain ⟨y,rfl⟩:=nat_of he.1
   rw [if_pos (decide_eq_true he),l2Has_eq x y (by omega) (by omega),decide_eq_true (show 0≤(x:Int)∧(x:Int)<256∧0≤(y:Int)∧(y:Int)<8 by omega)];simp
  ·rw [if_neg (by simpa using he),decide_eq_false (by omega)];rfl
 ·rw [if_neg (by unfold any;simpa using h),decide_eq_false (by omega)];rfl
theorem HasElement_impl (s e:Int):impl_HasElement.f s e=some (hasE s e):=by
 unfold impl_HasElement.f hasE;rw [isAny_eq];simp only [Option.bind_some]
 by_cases h:0≤s∧s<256
 ·rw [if_pos (by unfold any;exact decide_eq_true h)]
  by_cases he:e≥0
  ·rw [if_pos he]
   by_cases he':e<8
   ·obtain ⟨x,rfl⟩:=nat_of h.1;obtain ⟨y,rfl⟩:=nat_of he
    rw [if_pos he',if_pos he,tb x y (by omega) (by omega),decide_eq_true (show 0≤(x:Int)∧(x:Int)<256∧0≤(y:Int)∧(y:Int)<8 by omega)];simp
   ·rw [if_neg he',decide_eq_false (by omega)];rfl
  ·rw [if_neg he,decide_eq_false (by omega)];rfl
 ·rw [if_neg (by unfold any;simpa using h),decide_eq_false (by omega)];rfl
theorem pow_small {y:Nat} (h:y<8):2 ^ y<9223372036854775808:=by have:=pow_le8 (Nat.le_of_lt h);omega
theorem WithElement_spec (s e:Int):spec_WithElement.f s e=some (withE s e):=by
 unfold spec_WithElement.f withE;rw [IsSet_spec,isSet_8];simp only [Option.bind_some]
 by_cases h:0≤s∧s<256
 ·rw [if_pos (by unfold any;exact decide_eq_true h),l1In_eq];simp only [Option.bind_some]
  by_cases he:0≤e∧e≤7
  ·obtain ⟨x,rfl⟩:=nat_of h.1;obtain ⟨y,rfl⟩:=nat_of he.1
   rw [if_pos (decide_eq_true he),u64_nat (y:Int) (by omega) (by omega),if_pos (by omega),shl_one y (by omega),if_pos (by omega),or_nat x (2 ^ y) (by omega) (pow_small (by omega))]
   simp [Mt.ins]
  ·rw [if_neg (by simpa using he),if_neg (by omega)]
 ·rw [if_neg (by unfold any;simpa using h),if_neg (by omega)]
theorem diff_zero (x y:Nat):Mt.diff x y=0↔x &&& y=x:=by
 constructor
 ·intro h;refine Mt.ext fun i=>?_
  rw [Mt.in_and];refine ⟨fun k=>k.1,fun k=>⟨k,Classical.byContradiction fun hn=>?_⟩⟩
  have:Mt.In i (Mt.diff x y):=(Mt.in_diff x y i).mpr ⟨k,hn⟩
  rw [h] at this;exact Mt.not_in_zero i this
 ·intro h;refine Mt.ext fun i=>?_
  rw [Mt.in_diff];refine ⟨fun k=>?_,fun k=>absurd k (Mt.not_in_zero i)⟩
  rw [← h] at k;exact absurd ((Mt.in_and x y i).mp k.1).2 k.2
theorem IsSubset_impl (s t:Int):impl_IsSubset.f s t=some (subB s t):=by
 unfold impl_IsSubset.f subB;rw [isAny_eq,isAny_eq];simp only [Option.bind_some]
 by_cases h:0≤s∧s<256
 ·rw [if_pos (by unfold any;exact decide_eq_true h)]
  by_cases ht:0≤t∧t<256
  ·obtain ⟨x,rfl⟩:=nat_of h.1;obtain ⟨y,rfl⟩:=nat_of ht.1
   rw [if_pos (by unfold any;exact decide_eq_true ht),andNot_nat x y (by omega) (by omega),decide_eq_true (show 0≤(x:Int)∧(x:Int)<256∧0≤(y:Int)∧(y:Int)<256 by omega),Bool.true_and]
   congr 1;rw [Bool.eq_iff_iff];simp only [beq_iff_eq,Int.toNat_natCast];rw [← diff_zero];omega
  ·rw [if_neg (by unfold any;simpa using ht),decide_eq_false (by omega)];rfl
 ·rw [if_neg (by unfold any;simpa using h),decide_eq_false (by omega)];rfl
end Go.Proofs.YtekegbacnagbcaaGreat.L
/- What the printed loops over lists of whole numbers come to, and the small functions above them, as plain functions of lists. -/
namespace Go.Proofs.YtekegbacnagbcaaGreat.L
open Go.RowKit Go.Proofs.YtekegbacnagbcaaGreatW.PrintWords Go.Proofs.YtekegbacnagbcaaGreatW.PrintMore Go.Proofs.YtekegbacnagbcaaGreat.P Go.Proofs.YtekegbacnagbcaaGreat.B
def Big:Nat:=4194304
theorem big_eq:Big=4194304:=rfl
theorem rd_nat (xs:List Int) (i:Nat):rd xs (i:Int)=xs.getD i 0:=by simp [rd]
theorem drop_rd {xs:List Int} {i:Nat} (h:i<xs.length):xs.drop i=rd xs (i:Int) :: xs.drop (i+1):=by
 rw [rd_nat,List.drop_eq_getElem_cons h];simp [List.getD,h]
theorem rd_mem {xs:List Int} {i:Nat} (h:i<xs.length):rd xs (i:Int) ∈ xs:=by
 rw [rd_nat];simp [List.getD,h]
theorem w1 {i:Nat} (h:i<4611686018427387904):wrap64 ((i:Int)+1)=((i+1:Nat):Int):=by
 rw [w64 _ (by omega) (by omega)];rfl
theorem pos {k:Nat} (h:0<k):∃ m,k=m+1:=⟨k - 1,by omega⟩
theorem HasSet_spec_l0 (xs:List Int) (s:Int) (hn:xs.length<4611686018427387904):∀ d k i:Nat,i+d=xs.length→d<k→spec_HasSet.l0 k xs s (i:Int)=some (decide (s ∈ xs.drop i)):=by
 intro d
 induction d with
 | zero =>
  intro k i h hk;obtain ⟨k,rfl⟩:=pos (show 0<k by omega)
  simp only [spec_HasSet.l0];rw [if_neg (by omega),List.drop_eq_nil_of_le (by omega)];simp
 | succ d ih =>
  intro k i h hk;obtain ⟨k,rfl⟩:=pos (show 0<k by omega)
  have hi:i<xs.length:=by omega
  simp only [spec_HasSet.l0];rw [if_pos (by omega),if_pos (by omega),drop_rd hi]
  by_cases e:rd xs (i:Int)=s
  ·rw [if_pos e];simp [e]
  ·rw [if_neg e,w1 (by omega),ih k (i+1) (by omega) (by omega)]
   congr 1;rw [decide_eq_decide,List.mem_cons];exact ⟨.inr,fun h=>h.resolve_left (fun q=>e q.symm)⟩
theorem HasSet_spec (xs:List Int) (s:Int) (k:Nat) (hn:xs.length<4194000) (hk:Big≤k):spec_HasSet.f k xs s=some (decide (s ∈ xs)):=by
 have:=big_eq;unfold spec_HasSet.f;exact HasSet_spec_l0 xs s (by omega) xs.length k 0 (by omega) (by omega)
theorem Index_l0 (xs:List Int) (s:Int) (hn:xs.length<4611686018427387904):∀ d k i:Nat,i+d=xs.length→d<k→∃ r,slices_Index_int_int.l0 k xs s (xs.length:Int) (i:Int)=some r∧decide (r≥0)=decide (s ∈ xs.drop i):=by
 intro d
 induction d with
 | zero =>
  intro k i h hk;obtain ⟨k,rfl⟩:=pos (show 0<k by omega)
  refine ⟨-1,?_,?_⟩
  ·simp only [slices_Index_int_int.l0];rw [if_neg (by omega)]
  ·rw [List.drop_eq_nil_of_le (by omega)];simp
 | succ d ih =>
  intro k i h hk;obtain ⟨k,rfl⟩:=pos (show 0<k by omega)
  have hi:i<xs.length:=by omega
  by_cases e:s=rd xs (i:Int)
  ·refine ⟨(i:Int),?_,?_⟩
   ·simp only [slices_Index_int_int.l0];rw [if_pos (by omega),if_pos (by omega),if_pos (by omega),if_pos e]
   ·rw [drop_rd hi];simp [e]
  ·obtain ⟨r,h1,h2⟩:=ih k (i+1) (by omega) (by omega)
   refine ⟨r,?_,?_⟩
   ·simp only [slices_Index_int_int.l0];rw [if_pos (by omega),if_pos (by omega),if_pos (by omega),if_neg e,w1 (by omega),h1]
   ·rw [h2,drop_rd hi,decide_eq_decide,List.mem_cons];exact ⟨.inr,fun h=>h.resolve_left e⟩
theorem sameInts_l0 (xs ys:List Int) (hl:xs.length=ys.length) (hn:xs.length<4611686018427387904):∀ d k i:Nat,i+d=xs.length→d<k→laws_sameInts.l0 k xs ys (i:Int)=some (decide (xs.drop i=ys.drop i)):=by
 intro d
 induction d with
 | zero =>
  intro k i h hk;obtain ⟨k,rfl⟩:=pos (show 0<k by omega)
  simp only [laws_sameInts.l0];rw [if_neg (by omega),List.drop_eq_nil_of_le (by omega),List.drop_eq_nil_of_le (by omega)];simp
 | succ d ih =>
  intro k i h hk;obtain ⟨k,rfl⟩:=pos (show 0<k by omega)
  have hi:i<xs.length:=by omega
  simp only [laws_sameInts.l0];rw [if_pos (by omega),if_pos (by omega),if_pos (by omega),drop_rd hi,drop_rd (show i<ys.length by omega)]
  by_cases e:rd xs (i:Int)=rd ys (i:Int)
  ·rw [if_pos e,w1 (by omega),ih k (i+1) (by omega) (by omega),e];congr 1;rw [decide_eq_decide];simp
  ·rw [if_neg e];congr 1;exact (decide_eq_false (fun h=>e (List.cons.inj h).1)).symm
theorem sameInts_eq (xs ys:List Int) (k:Nat) (hn:xs.length<4194000) (hk:Big≤k):laws_sameInts.f k xs ys=some (decide (xs=ys)):=by
 have:=big_eq;unfold laws_sameInts.f
 by_cases hl:xs.length=ys.length
 ·rw [if_pos (by omega)];exact sameInts_l0 xs ys hl (by omega) xs.length k 0 (by omega) (by omega)
 ·rw [if_neg (by omega)];congr 1;exact (decide_eq_false (fun h=>hl (congrArg _ h))).symm
def marks (m:Int):Nat→List Int
 | 0=>[]
 | n+1=>m :: marks (m+1) n
end Go.Proofs.YtekegbacnagbcaaGreat.L
/- The draws: that they answer, and within which bounds. -/
namespace Go.Proofs.YtekegbacnagbcaaGreat.L
open Go.RowKit Go.Proofs.YtekegbacnagbcaaGreatW.PrintWords Go.Proofs.YtekegbacnagbcaaGreatW.PrintMore Go.Proofs.YtekegbacnagbcaaGreat.P Go.Proofs.YtekegbacnagbcaaGreat.B
theorem byte_ok (b:List Int) (i h:Int) (hb:b.length<4611686018427387904) (h0:0≤i):∃ x j g,spec_l1Byte.f b i h=some (x,j,g)∧0≤x∧x≤255∧0≤j:=by
 unfold spec_l1Byte.f
 by_cases hi:i<(b.length:Int)
 ·rw [if_pos hi,if_pos h0]
  refine ⟨_,_,_,rfl,(and_range _ 255 (by omega)).1,(and_range _ 255 (by omega)).2,?_⟩
  rw [w64 _ (by omega) (by omega)];omega
 ·rw [if_neg hi]
  exact ⟨_,_,_,rfl,(and_range _ 255 (by omega)).1,(and_range _ 255 (by omega)).2,h0⟩
theorem below_ok (b:List Int) (i h n:Int) (hb:b.length<4611686018427387904) (h0:0≤i):∃ x j g,spec_l1Below.f b i h n=some (x,j,g)∧0≤j∧0≤x∧(n≤0→x=0)∧(0<n→x<n):=by
 unfold spec_l1Below.f
 by_cases hn:n≤0
 ·rw [if_pos hn];exact ⟨_,_,_,rfl,h0,Int.le_refl _,fun _=>rfl,fun q=>by omega⟩
 ·rw [if_neg hn]
  by_cases h2:n≤256
  ·obtain ⟨x,j,g,e,x0,x1,j0⟩:=byte_ok b i h hb h0
   rw [if_pos h2,e];simp only [Option.bind_some];rw [if_neg (by omega)]
   exact ⟨_,_,_,rfl,j0,Int.tmod_nonneg _ x0,fun q=>absurd q hn,fun q=>Int.tmod_lt_of_pos _ q⟩
  ·obtain ⟨x,j,g,e,x0,x1,j0⟩:=byte_ok b i h hb h0
   obtain ⟨y,j',g',e',y0,y1,j0'⟩:=byte_ok b j g hb j0
   obtain ⟨z,j'',g'',e'',z0,z1,j0''⟩:=byte_ok b j' g' hb j0'
   obtain ⟨t,j3,g3,e3,t0,t1,j03⟩:=byte_ok b j'' g'' hb j0''
   rw [if_neg h2,e];simp only [Option.bind_some]
   rw [e'];simp only [Option.bind_some]
   rw [e''];simp only [Option.bind_some]
   rw [e3];simp only [Option.bind_some]
   rw [if_neg (by omega)]
   refine ⟨_,_,_,rfl,j03,Int.tmod_nonneg _ ?_,fun q=>absurd q hn,fun q=>Int.tmod_lt_of_pos _ q⟩
   rw [w64 (x*16777216) (by omega) (by omega),w64 (y*65536) (by omega) (by omega),w64 (z*256) (by omega) (by omega),w64 (x*16777216+y*65536) (by omega) (by omega),w64 (x*16777216+y*65536+z*256) (by omega) (by omega),w64 _ (by omega) (by omega)];omega
theorem once_ok (b:List Int) (i h n:Int) (hb:b.length<4611686018427387904) (h0:0≤i):∃ t j g,spec_l1Once.f b i h n=some (t,j,g)∧0≤j:=by
 obtain ⟨x,j,g,e,j0,_⟩:=below_ok b i h n hb h0
 unfold spec_l1Once.f;rw [e];exact ⟨_,_,_,rfl,j0⟩
theorem pickInt_ok (b:List Int) (i h:Int) (l:List Int) (hb:b.length<4611686018427387904) (h0:0≤i) (hl:0<l.length):∃ x j g,spec_l1PickInt.f b i h l=some (x,j,g)∧0≤j∧x ∈ l:=by
 obtain ⟨x,j,g,e,j0,x0,_,x1⟩:=below_ok b i h (l.length:Int) hb h0
 have:=x1 (by omega)
 unfold spec_l1PickInt.f;rw [e];simp only [Option.bind_some]
 rw [if_pos x0,if_pos this]
 obtain ⟨m,rfl⟩:=nat_of x0
 exact ⟨_,_,_,rfl,j0,rd_mem (by omega)⟩
theorem pick_ok (b:List Int) (i h:Int) (l:List ByteArray) (hb:b.length<4611686018427387904) (h0:0≤i) (hl:0<l.length):∃ x j g,spec_l1Pick.f b i h l=some (x,j,g)∧0≤j∧x ∈ l:=by
 obtain ⟨x,j,g,e,j0,x0,_,x1⟩:=below_ok b i h (l.length:Int) hb h0
 have:=x1 (by omega)
 unfold spec_l1Pick.f;rw [e];simp only [Option.bind_some]
 rw [if_pos x0,if_pos this]
 obtain ⟨m,rfl⟩:=nat_of x0
 refine ⟨_,_,_,rfl,j0,?_⟩
 have hm:m<l.length:=by omega
 simp [rdOf,hm]
theorem draw2_ok (b:List Int) (i h:Int) (hb:b.length<4611686018427387904) (h0:0≤i):∃ x j g,spec_l2Draw.f b i h=some (x,j,g)∧0≤j∧0≤x∧x<256:=by
 obtain ⟨x,j,g,e,j0,x0,_,x1⟩:=below_ok b i h 256 hb h0
 unfold spec_l2Draw.f;rw [e];exact ⟨_,_,_,rfl,j0,x0,x1 (by omega)⟩
theorem bent2_ok (b:List Int) (i h:Int) (hb:b.length<4611686018427387904) (h0:0≤i):∃ x j g,spec_l2Bent.f b i h=some (x,j,g)∧0≤j∧-9223372036854775808≤x∧x<9223372036854775808:=by
 obtain ⟨t,j,g,e,j0⟩:=once_ok b i h 8 hb h0
 unfold spec_l2Bent.f;rw [e];simp only [Option.bind_some]
 cases t
 ·obtain ⟨x,j',g',e',j0',x0,x1⟩:=draw2_ok b j g hb j0
  rw [if_neg (by simp),e'];exact ⟨_,_,_,rfl,j0',by omega,by omega⟩
 ·obtain ⟨x,j',g',e',j0',hx⟩:=pickInt_ok b j g [(-1),256,1000,(-9223372036854775808)] hb j0 (by simp)
  rw [if_pos rfl,e']
  simp only [List.mem_cons,List.not_mem_nil,or_false] at hx
  exact ⟨_,_,_,rfl,j0',by omega,by omega⟩
theorem new_l0 (b:List Int) (hb:b.length<4611686018427387904):∀ d k i:Nat,∀ h:Int,i+d=b.length→d<k→∃ g,spec_l1New.l0 k b h (i:Int)=some (b,0,g):=by
 intro d
 induction d with
 | zero =>
  intro k i h e hk;obtain ⟨k,rfl⟩:=pos (show 0<k by omega)
  simp only [spec_l1New.l0];rw [if_neg (by omega)];exact ⟨_,rfl⟩
 | succ d ih =>
  intro k i h e hk;obtain ⟨k,rfl⟩:=pos (show 0<k by omega)
  simp only [spec_l1New.l0];rw [if_pos (by omega)]
  by_cases h4:(i:Int)<4000
  ·rw [if_pos h4,if_pos (by omega),w1 (by omega)];exact ih k (i+1) _ (by omega) (by omega)
  ·rw [if_neg h4];exact ⟨_,rfl⟩
theorem new_ok (b:List Int) (k:Nat) (hb:b.length<4611686018427387904) (hk:b.length<k):∃ g,spec_l1New.f k b=some (b,0,g):=by
 unfold spec_l1New.f;exact new_l0 b hb b.length k 0 _ (Nat.zero_add _) hk
end Go.Proofs.YtekegbacnagbcaaGreat.L
/- Elements of a set, their count, and sets without one: what the printed functions come to. -/
namespace Go.Proofs.YtekegbacnagbcaaGreat.L
open Go.RowKit Go.Proofs.YtekegbacnagbcaaGreatW.PrintWords Go.Proofs.YtekegbacnagbcaaGreatW.PrintMore Go.Proofs.YtekegbacnagbcaaGreat.P Go.Proofs.YtekegbacnagbcaaGreat.B
theorem del_256:∀ x,x<256→∀ y,y<8→x.testBit y=true→Mt.del x y+2 ^ y=x:=by decide +kernel
theorem hasE_nat (x y:Nat) (hx:x<256) (hy:y<8):hasE (x:Int) (y:Int)=x.testBit y:=by
 unfold hasE;rw [decide_eq_true (by omega),Bool.true_and,Int.toNat_natCast,Int.toNat_natCast]
theorem hasE_some {s e:Int} (h:hasE s e=true):0≤s∧s<256∧0≤e∧e<8:=by
 unfold hasE at h;simp only [Bool.and_eq_true,decide_eq_true_eq] at h;exact h.1
theorem del_none {x y:Nat} (h:x.testBit y=false):Mt.del x y=x:=by
 refine Mt.ext fun i=>?_
 rw [Mt.in_del];refine ⟨fun k=>k.1,fun k=>⟨k,fun e=>?_⟩⟩
 subst e;unfold Mt.In at k;rw [h] at k;cases k
theorem WithoutElement_spec (s e:Int):spec_WithoutElement.f s e=some (woE s e):=by
 unfold spec_WithoutElement.f woE;rw [HasElement_spec];simp only [Option.bind_some]
 by_cases h:0≤s∧s<256∧0≤e∧e<8
 ·obtain ⟨x,rfl⟩:=nat_of h.1;obtain ⟨y,rfl⟩:=nat_of h.2.2.1
  rw [if_pos h,hasE_nat x y (by omega) (by omega),Int.toNat_natCast,Int.toNat_natCast]
  cases ht:x.testBit y
  ·rw [if_neg (by simp),del_none ht]
  ·have e1:=del_256 x (by omega) y (by omega) ht
   rw [if_pos rfl,u64_nat (y:Int) (by omega) (by omega),if_pos (by omega),shl_one y (by omega)]
   have e2:(x:Int) - ((2 ^ y:Nat):Int)=((Mt.del x y:Nat):Int):=by
    generalize 2 ^ y=q at e1;generalize Mt.del x y=z at e1;omega
   have e3:Mt.del x y<256:=by generalize 2 ^ y=q at e1;omega
   rw [e2,w64 _ (by omega) (by omega)]
 ·rw [if_neg h,if_neg (fun q=>h (hasE_some q))]
def elemsFrom (s:Int) (i:Nat):Nat→List Int
 | 0=>[]
 | d+1=>if hasE s (i:Int)=true then (i:Int) :: elemsFrom s (i+1) d else elemsFrom s (i+1) d
def elems (s:Int):List Int:=elemsFrom s 0 8
theorem elemsFrom_mem (s x:Int):∀ d i,x ∈ elemsFrom s i d↔(i:Int)≤x∧x<i+d∧hasE s x=true:=by
 intro d
 induction d with
 | zero=>intro i;simp only [elemsFrom,List.not_mem_nil,false_iff];omega
 | succ d ih =>
  intro i;simp only [elemsFrom]
  by_cases h:hasE s (i:Int)=true
  ·rw [if_pos h,List.mem_cons,ih]
   constructor
   ·rintro (rfl|h2)
    ·exact ⟨by omega,by omega,h⟩
    ·exact ⟨by omega,by omega,h2.2.2⟩
   ·intro h2
    by_cases hx:x=i
    ·exact .inl hx
    ·exact .inr ⟨by omega,by omega,h2.2.2⟩
  ·rw [if_neg h,ih]
   constructor
   ·intro h2;exact ⟨by omega,by omega,h2.2.2⟩
   ·intro h2
    have:x≠i:=fun q=>h (q ▸ h2.2.2)
    exact ⟨by omega,by omega,h2.2.2⟩
theorem mem_elems (s x:Int):x ∈ elems s↔hasE s x=true:=by
 unfold elems;rw [elemsFrom_mem];exact ⟨fun h=>h.2.2,fun h=>⟨by have:=hasE_some h;omega,by have:=hasE_some h;omega,h⟩⟩
theorem elemsFrom_length (s:Int):∀ d i,(elemsFrom s i d).length≤d:=by
 intro d
 induction d with
 | zero=>intro i;simp [elemsFrom]
 | succ d ih =>
  intro i;simp only [elemsFrom];have:=ih (i+1)
  split
  ·simp only [List.length_cons];omega
  ·omega
theorem elems_length (s:Int):(elems s).length≤8:=elemsFrom_length s 8 0
theorem elems_range {s e:Int} (h:e ∈ elems s):0≤e∧e<8:=by have:=hasE_some ((mem_elems s e).mp h);omega
theorem ElementsOf_spec_l0 (s:Int):∀ d k i:Nat,∀ acc:List Int,i+d=8→d<k→acc.length≤i→spec_ElementsOf.l0 k s acc (i:Int)=some (acc++elemsFrom s i d):=by
 intro d
 induction d with
 | zero =>
  intro k i acc h hk hl;obtain ⟨k,rfl⟩:=pos (show 0<k by omega)
  simp only [spec_ElementsOf.l0];rw [if_neg (by omega)];simp [elemsFrom]
 | succ d ih =>
  intro k i acc h hk hl;obtain ⟨k,rfl⟩:=pos (show 0<k by omega)
  simp only [spec_ElementsOf.l0];rw [if_pos (by omega),HasElement_spec,w1 (by omega)];simp only [Option.bind_some,elemsFrom]
  by_cases hh:hasE s (i:Int)=true
  ·rw [if_pos hh,if_pos hh,if_pos (by omega),ih k (i+1) _ (by omega) (by omega) (by rw [List.length_append,List.length_singleton];omega)];simp
  ·rw [if_neg hh,if_neg hh,ih k (i+1) _ (by omega) (by omega) (by omega)]
theorem ElementsOf_spec (s:Int) (k:Nat) (hk:8<k):spec_ElementsOf.f k s=some (elems s):=by
 unfold spec_ElementsOf.f;exact ElementsOf_spec_l0 s 8 k 0 [] (by omega) hk (by simp)
theorem ElementsOf_impl_l0 (s:Int):∀ d k i:Nat,∀ acc:List Int,i+d=8→d<k→acc.length≤i→impl_ElementsOf.l0 k s acc (i:Int)=some (acc++elemsFrom s i d):=by
 intro d
 induction d with
 | zero =>
  intro k i acc h hk hl;obtain ⟨k,rfl⟩:=pos (show 0<k by omega)
  simp only [impl_ElementsOf.l0];rw [if_neg (by omega)];simp [elemsFrom]
 | succ d ih =>
  intro k i acc h hk hl;obtain ⟨k,rfl⟩:=pos (show 0<k by omega)
  simp only [impl_ElementsOf.l0];rw [if_pos (by omega),HasElement_impl,w1 (by omega)];simp only [Option.bind_some,elemsFrom]
  by_cases hh:hasE s (i:Int)=true
  ·rw [if_pos hh,if_pos hh,if_pos (by omega),ih k (i+1) _ (by omega) (by omega) (by rw [List.length_append,List.length_singleton];omega)];simp
  ·rw [if_neg hh,if_neg hh,ih k (i+1) _ (by omega) (by omega) (by omega)]
theorem ElementsOf_impl (s:Int) (k:Nat) (hk:8<k):impl_ElementsOf.f k s=some (elems s):=by
 unfold impl_ElementsOf.f;exact ElementsOf_impl_l0 s 8 k 0 [] (by omega) hk (by simp)
def cnt (s:Int):Int:=if any s=true then ((Mt.card s.toNat:Nat):Int) else 0
theorem CountOf_spec_256:∀ n:Nat,n<256→spec_CountOf.l0 10 (n:Int) 0=some ((Mt.card n:Nat):Int):=by decide +kernel
theorem CountOf_spec_one:∀ (k:Nat) (x y r:Int),spec_CountOf.l0 k x y=some r→spec_CountOf.l0 (k+1) x y=some r
 | 0,x,y,r,h=>by simp [spec_CountOf.l0] at h
 | k+1,x,y,r,h=>by
  rw [spec_CountOf.l0] at h ⊢
  by_cases c:x>0
  ·rw [if_pos c] at h ⊢;exact CountOf_spec_one k _ _ r h
  ·rw [if_neg c] at h ⊢;exact h
theorem CountOf_spec_up (x y r:Int) (h:spec_CountOf.l0 10 x y=some r):∀ d,spec_CountOf.l0 (10+d) x y=some r
 | 0=>h
 | d+1=>CountOf_spec_one (10+d) x y r (CountOf_spec_up x y r h d)
theorem CountOf_spec (s:Int) (k:Nat) (hk:10≤k):spec_CountOf.f k s=some (cnt s):=by
 unfold spec_CountOf.f cnt;rw [IsSet_spec,isSet_8];simp only [Option.bind_some]
 by_cases h:any s=true
 ·rw [if_pos h,if_pos h]
  have h':=h;unfold any at h';have h2:=of_decide_eq_true h'
  obtain ⟨x,rfl⟩:=nat_of h2.1
  have:=CountOf_spec_up (x:Int) 0 _ (CountOf_spec_256 x (by omega)) (k - 10)
  rw [show 10+(k - 10)=k by omega] at this;rw [this,Int.toNat_natCast]
 ·rw [if_neg h,if_neg h]
theorem OnesCount64_256:∀ n:Nat,n<256→bits_OnesCount64.f (n:Int)=some ((Mt.card n:Nat):Int):=by decide +kernel
theorem CountOf_impl (s:Int):impl_CountOf.f s=some (cnt s):=by
 unfold impl_CountOf.f cnt;rw [isAny_eq];simp only [Option.bind_some]
 by_cases h:any s=true
 ·rw [if_pos h,if_pos h]
  have h':=h;unfold any at h';have h2:=of_decide_eq_true h'
  obtain ⟨x,rfl⟩:=nat_of h2.1
  unfold bits_OnesCount.f
  rw [u64_nat (x:Int) (by omega) (by omega),OnesCount64_256 x (by omega),Int.toNat_natCast];rfl
 ·rw [if_neg h,if_neg h]
theorem EqualMatroid_spec_l0 (a b:Int) (xs ys:List Int) (hl:xs.length=ys.length) (hn:xs.length<4611686018427387904):∀ d k i:Nat,i+d=xs.length→d<k→spec_EqualMatroid.l0 k (i:Int) a xs b ys=some (decide (xs.drop i=ys.drop i)):=by
 intro d
 induction d with
 | zero =>
  intro k i h hk;obtain ⟨k,rfl⟩:=pos (show 0<k by omega)
  simp only [spec_EqualMatroid.l0];rw [if_neg (by omega),List.drop_eq_nil_of_le (by omega),List.drop_eq_nil_of_le (by omega)];simp
 | succ d ih =>
  intro k i h hk;obtain ⟨k,rfl⟩:=pos (show 0<k by omega)
  have hi:i<xs.length:=by omega
  simp only [spec_EqualMatroid.l0];rw [if_pos (by omega),if_pos (by omega),if_pos (by omega),drop_rd hi,drop_rd (show i<ys.length by omega)]
  by_cases e:rd xs (i:Int)=rd ys (i:Int)
  ·rw [if_pos e,w1 (by omega),ih k (i+1) (by omega) (by omega),e];congr 1;rw [decide_eq_decide];simp
  ·rw [if_neg e];congr 1;exact (decide_eq_false (fun h=>e (List.cons.inj h).1)).symm
theorem EqualMatroid_spec (a b:Int) (xs ys:List Int) (k:Nat) (hn:xs.length<4194000) (hk:Big≤k):spec_EqualMatroid.f k a xs b ys=some (decide (a=b∧xs=ys)):=by
 have:=big_eq;unfold spec_EqualMatroid.f;obtain ⟨k,rfl⟩:=pos (show 0<k by omega)
 simp only [spec_EqualMatroid.j0]
 by_cases h:a=b
 ·rw [if_pos h]
  by_cases hl:xs.length=ys.length
  ·rw [if_neg (by simp [hl])]
   have:=EqualMatroid_spec_l0 a b xs ys hl (by omega) xs.length k 0 (by omega) (by omega)
   refine this.trans ?_;simp [h]
  ·rw [if_pos (by simp;omega)];congr 1;exact (decide_eq_false (fun q=>hl (congrArg _ q.2))).symm
 ·rw [if_neg h];simp [h]
end Go.Proofs.YtekegbacnagbcaaGreat.L
/- Families of sets and the exchange: what the printed functions come to. -/
namespace Go.Proofs.YtekegbacnagbcaaGreat.L
open Go.RowKit Go.Proofs.YtekegbacnagbcaaGreatW.PrintWords Go.Proofs.YtekegbacnagbcaaGreatW.PrintMore Go.Proofs.YtekegbacnagbcaaGreat.P Go.Proofs.YtekegbacnagbcaaGreat.B
def scan {α:Type} (p:Nat→Option α):Nat→Nat→Option α
 | _,0=>none
 | i,d+1=>match p i with
  | some r=>some r
  | none=>scan p (i+1) d
theorem scan_getD {α:Type} (p:Nat→Option α) (i d:Nat) (r:α):(scan p i (d+1)).getD r=(p i).getD ((scan p (i+1) d).getD r):=by
 simp only [scan];cases p i<;>rfl
theorem scan_congr {α:Type} {p q:Nat→Option α}:∀ d i,(∀ j,i≤j→j<i+d→p j=q j)→scan p i d=scan q i d:=by
 intro d
 induction d with
 | zero=>intro i h;rfl
 | succ d ih=>intro i h;simp only [scan];rw [h i (Nat.le_refl _) (by omega),ih (i+1) (fun j a b=>h j (by omega) (by omega))]
theorem scan_none {α:Type} {p:Nat→Option α}:∀ d i,(∀ j,i≤j→j<i+d→p j=none)→scan p i d=none:=by
 intro d
 induction d with
 | zero=>intro i h;rfl
 | succ d ih=>intro i h;simp only [scan];rw [h i (Nat.le_refl _) (by omega)];exact ih (i+1) (fun j a b=>h j (by omega) (by omega))
theorem scan_none_iff {α:Type} {p:Nat→Option α}:∀ d i,scan p i d=none↔∀ j,i≤j→j<i+d→p j=none:=by
 intro d
 induction d with
 | zero=>intro i;exact ⟨fun _ j a b=>by omega,fun _=>rfl⟩
 | succ d ih =>
  intro i;simp only [scan]
  cases hp:p i with
  | some r=>exact ⟨fun h=>(by cases h),fun h=>by rw [h i (Nat.le_refl _) (by omega)] at hp;cases hp⟩
  | none =>
   refine (ih (i+1)).trans ⟨fun h j a b=>?_,fun h j a b=>h j (by omega) (by omega)⟩
   by_cases e:j=i
   ·rw [e];exact hp
   ·exact h j (by omega) (by omega)
theorem scan_some {α:Type} {p:Nat→Option α} {r:α}:∀ d i,scan p i d=some r→∃ j,i≤j∧j<i+d∧p j=some r:=by
 intro d
 induction d with
 | zero=>intro i h;cases h
 | succ d ih =>
  intro i h;simp only [scan] at h
  cases hp:p i with
  | some q=>rw [hp] at h;exact ⟨i,Nat.le_refl _,by omega,by rw [hp];exact h⟩
  | none=>rw [hp] at h;obtain ⟨j,a,b,c⟩:=ih (i+1) h;exact ⟨j,by omega,by omega,c⟩
theorem scan_more {α:Type} {p:Nat→Option α} (m:Nat):∀ d i,(∀ j,i+d≤j→p j=none)→scan p i (d+m)=scan p i d:=by
 intro d
 induction d with
 | zero=>intro i h;rw [Nat.zero_add];exact scan_none m i (fun j a _=>h j (by omega))
 | succ d ih=>intro i h;rw [show d+1+m=(d+m)+1 by omega];simp only [scan];rw [ih (i+1) (fun j a=>h j (by omega))]
def scanL {α:Type} (q:Int→Option α):List Int→Option α
 | []=>none
 | y :: ys=>match q y with
  | some r=>some r
  | none=>scanL q ys
theorem scanL_elems {α:Type} (q:Int→Option α) (s:Int):∀ d i,scanL q (elemsFrom s i d)=scan (fun e=>if hasE s (e:Int)=true then q (e:Int) else none) i d:=by
 intro d
 induction d with
 | zero=>intro i;rfl
 | succ d ih =>
  intro i;simp only [elemsFrom,scan]
  by_cases h:hasE s (i:Int)=true
  ·rw [if_pos h,if_pos h];simp only [scanL];rw [ih]
  ·rw [if_neg h,if_neg h,ih]
def anyFrom (p:Nat→Bool):Nat→Nat→Bool
 | _,0=>false
 | i,d+1=>p i || anyFrom p (i+1) d
theorem anyFrom_iff (p:Nat→Bool):∀ d i,anyFrom p i d=true↔∃ j,i≤j∧j<i+d∧p j=true:=by
 intro d
 induction d with
 | zero=>intro i;simp only [anyFrom];exact ⟨fun h=>(by cases h),fun ⟨j,a,b,_⟩=>by omega⟩
 | succ d ih =>
  intro i;simp only [anyFrom,Bool.or_eq_true];rw [ih]
  constructor
  ·rintro (h|⟨j,a,b,c⟩)
   ·exact ⟨i,Nat.le_refl _,by omega,h⟩
   ·exact ⟨j,by omega,by omega,c⟩
  ·rintro ⟨j,a,b,c⟩
   by_cases e:j=i
   ·subst e;exact .inl c
   ·exact .inr ⟨j,by omega,by omega,c⟩
structure Fam (n:Int) (xs:List Int):Prop where
 n0:0≤n
 n8:n≤8
 set:∀ x ∈ xs,0≤x∧x<2 ^ n.toNat
 inc:xs.Pairwise (·<·)
def famFrom (n:Int) (xs:List Int):Nat→Nat→Bool
 | _,0=>decide (0≤n∧n≤8)
 | i,d+1=>isSet n (rd xs (i:Int)) && (decide (i=0) || decide (rd xs ((i - 1:Nat):Int)<rd xs (i:Int))) && famFrom n xs (i+1) d
def fam (n:Int) (xs:List Int):Bool:=famFrom n xs 0 xs.length
theorem isSet_true {n s:Int} (h:isSet n s=true):0≤n∧n≤8∧0≤s∧s<2 ^ n.toNat:=of_decide_eq_true h
theorem famFrom_iff (n:Int) (xs:List Int):∀ d i,i+d=xs.length→(famFrom n xs i d=true↔0≤n∧n≤8∧(∀ j,i≤j→j<xs.length→0≤rd xs (j:Int)∧rd xs (j:Int)<2 ^ n.toNat)∧(∀ j,i≤j→j<xs.length→j≠0→rd xs ((j - 1:Nat):Int)<rd xs (j:Int))):=by
 intro d
 induction d with
 | zero =>
  intro i h;simp only [famFrom,decide_eq_true_eq]
  exact ⟨fun q=>⟨q.1,q.2,fun j a b=>by omega,fun j a b=>by omega⟩,fun q=>⟨q.1,q.2.1⟩⟩
 | succ d ih =>
  intro i h;simp only [famFrom,Bool.and_eq_true,Bool.or_eq_true,decide_eq_true_eq];rw [ih (i+1) (by omega)]
  constructor
  ·rintro ⟨⟨h1,h2⟩,h3,h4,h5,h6⟩
   have h1':=isSet_true h1
   refine ⟨h3,h4,fun j a b=>?_,fun j a b c=>?_⟩
   ·by_cases e:j=i
    ·subst e;exact h1'.2.2
    ·exact h5 j (by omega) b
   ·by_cases e:j=i
    ·subst e;rcases h2 with h2|h2
     ·exact absurd h2 c
     ·exact h2
    ·exact h6 j (by omega) b c
  ·rintro ⟨h3,h4,h5,h6⟩
   refine ⟨⟨?_,?_⟩,h3,h4,fun j a b=>h5 j (by omega) b,fun j a b=>h6 j (by omega) b⟩
   ·have:=h5 i (Nat.le_refl _) (by omega);exact decide_eq_true ⟨h3,h4,this.1,this.2⟩
   ·by_cases e:i=0
    ·exact .inl e
    ·exact .inr (h6 i (Nat.le_refl _) (by omega) e)
theorem rd_get {xs:List Int} {j:Nat} (h:j<xs.length):rd xs (j:Int)=xs[j]:=by rw [rd_nat];simp [List.getD,h]
theorem mem_rd {xs:List Int} {x:Int} (h:x ∈ xs):∃ j,j<xs.length∧rd xs (j:Int)=x:=by
 obtain ⟨j,hj,e⟩:=List.getElem_of_mem h;exact ⟨j,hj,by rw [rd_get hj];exact e⟩
theorem inc_of_step {xs:List Int} (h:∀ j,0≤j→j<xs.length→j≠0→rd xs ((j - 1:Nat):Int)<rd xs (j:Int)):xs.Pairwise (·<·):=by
 rw [List.pairwise_iff_getElem]
 have key:∀ m i,i+m+1<xs.length→rd xs (i:Int)<rd xs ((i+m+1:Nat):Int):=by
  intro m
  induction m with
  | zero=>intro i q;have:=h (i+0+1) (Nat.zero_le _) q (by omega);exact this
  | succ m ih =>
   intro i q;have h1:=ih i (by omega);have h2:=h (i+(m+1)+1) (Nat.zero_le _) q (by omega)
   rw [show i+(m+1)+1 - 1=i+m+1 by omega] at h2;omega
 intro i j hi hj hij
 have:=key (j - i - 1) i (by omega)
 rw [show i+(j - i - 1)+1=j by omega,rd_get hi,rd_get hj] at this;exact this
theorem fam_iff (n:Int) (xs:List Int):fam n xs=true↔Fam n xs:=by
 unfold fam;rw [famFrom_iff n xs xs.length 0 (Nat.zero_add _)]
 constructor
 ·rintro ⟨h1,h2,h3,h4⟩
  refine ⟨h1,h2,fun x hx=>?_,inc_of_step h4⟩
  obtain ⟨j,hj,rfl⟩:=mem_rd hx;exact h3 j (Nat.zero_le _) hj
 ·rintro ⟨h1,h2,h3,h4⟩
  refine ⟨h1,h2,fun j _ hj=>h3 _ (rd_mem hj),fun j _ hj h0=>?_⟩
  rw [List.pairwise_iff_getElem] at h4
  have:=h4 (j - 1) j (by omega) hj (by omega)
  rw [rd_get hj,rd_get (by omega)];exact this
theorem Fam.small {n:Int} {xs:List Int} (h:Fam n xs) {x:Int} (hx:x ∈ xs):0≤x∧x<256:=by
 have h1:=h.set x hx;have h2:=pow_le8 (show n.toNat≤8 by have:=h.n0;have:=h.n8;omega);have h3:=pow_cast n.toNat;omega
theorem rd_out {xs:List Int} {j:Nat} (h:xs.length≤j):rd xs (j:Int)=0:=by rw [rd_nat];simp [List.getD,h]
def X (xs:List Int) (i:Nat):Nat:=(rd xs (i:Int)).toNat
theorem Fam.X {n:Int} {xs:List Int} (h:Fam n xs) (i:Nat):rd xs (i:Int)=((L.X xs i:Nat):Int)∧L.X xs i<2 ^ n.toNat∧L.X xs i<256:=by
 by_cases hi:i<xs.length
 ·have h1:=h.set _ (rd_mem hi);have h2:=h.small (rd_mem hi);have h3:=pow_cast n.toNat;unfold L.X;omega
 ·have h1:=rd_out (show xs.length≤i by omega);have h2:=pow_le8 (show n.toNat≤8 by have:=h.n0;have:=h.n8;omega);unfold L.X;rw [h1];exact ⟨rfl,h2.1,by decide⟩
theorem inc_len {xs:List Int} (h:xs.Pairwise (·<·)) (lo hi:Int) (hb:∀ x ∈ xs,lo≤x∧x<hi):lo≤hi→(xs.length:Int)≤hi - lo:=by
 induction xs generalizing lo with
 | nil=>intro h;simp;omega
 | cons x xs ih =>
  intro _;rw [List.pairwise_cons] at h
  have hx:=hb x List.mem_cons_self
  have:=ih h.2 (x+1) (fun y hy=>⟨by have:=h.1 y hy;omega,(hb y (List.mem_cons_of_mem _ hy)).2⟩) (by omega)
  simp only [List.length_cons];omega
theorem Fam.len {n:Int} {xs:List Int} (h:Fam n xs):xs.length≤256:=by
 have:=inc_len h.inc 0 256 (fun x hx=>h.small hx) (by omega);omega
theorem Fam.le8 {n:Int} {xs:List Int} (h:Fam n xs):n.toNat≤8:=by have:=h.n0;have:=h.n8;omega
theorem Fam.nn {n:Int} {xs:List Int} (h:Fam n xs):n=(n.toNat:Int):=by have:=h.n0;omega
theorem bit_lt {m a e:Nat} (h:a<2 ^ m) (he:a.testBit e=true):e<m:=by
 refine Classical.byContradiction fun hn=>?_
 have:=Nat.testBit_lt_two_pow (x:=a) (i:=e) (Nat.lt_of_lt_of_le h (Nat.pow_le_pow_right (by omega) (by omega)))
 rw [this] at he;cases he
theorem bnot_false {b:Bool} (h:¬ b=true):b=false:=by cases b<;>simp_all
theorem IsFamily_spec_l0 (n:Int) (xs:List Int) (hn:xs.length<4611686018427387904):∀ d k i:Nat,i+d=xs.length→d<k→spec_IsFamily.l0 k n xs (i:Int)=some (famFrom n xs i d):=by
 intro d
 induction d with
 | zero =>
  intro k i h hk;obtain ⟨k,rfl⟩:=pos (show 0<k by omega)
  simp only [spec_IsFamily.l0];rw [if_neg (by omega),l1In_eq];rfl
 | succ d ih =>
  intro k i h hk;obtain ⟨k,rfl⟩:=pos (show 0<k by omega)
  simp only [spec_IsFamily.l0,famFrom];rw [if_pos (by omega),if_pos (by omega),IsSet_spec,w1 (by omega)];simp only [Option.bind_some]
  by_cases hs:isSet n (rd xs (i:Int))=true
  ·rw [if_pos hs,hs,Bool.true_and]
   by_cases h0:i=0
   ·subst h0;rw [if_neg (by omega),ih k 1 (by omega) (by omega)];simp
   ·have e:wrap64 ((i:Int) - 1)=((i - 1:Nat):Int):=by rw [w64 _ (by omega) (by omega)];omega
    rw [if_pos (by omega),e,if_pos (by omega),if_pos (by omega),ih k (i+1) (by omega) (by omega),decide_eq_false h0,Bool.false_or]
    by_cases hl:rd xs ((i - 1:Nat):Int)<rd xs (i:Int)
    ·rw [if_neg (by omega),decide_eq_true hl,Bool.true_and]
    ·rw [if_pos (by omega),decide_eq_false hl,Bool.false_and]
  ·rw [if_neg hs,bnot_false hs];rfl
theorem IsFamily_spec (n:Int) (xs:List Int) (k:Nat) (hn:xs.length<4194000) (hk:xs.length<k):spec_IsFamily.f k n xs=some (fam n xs):=by
 unfold spec_IsFamily.f;exact IsFamily_spec_l0 n xs (by omega) xs.length k 0 (Nat.zero_add _) hk
theorem IsFamily_impl_l0 (n:Int) (xs:List Int) (hn:xs.length<4611686018427387904):∀ d k i:Nat,i+d=xs.length→d<k→impl_IsFamily.l0 k n xs xs (xs.length:Int) (i:Int)=some (famFrom n xs i d):=by
 intro d
 induction d with
 | zero =>
  intro k i h hk;obtain ⟨k,rfl⟩:=pos (show 0<k by omega)
  simp only [impl_IsFamily.l0];rw [if_neg (by omega),isSize_eq];rfl
 | succ d ih =>
  intro k i h hk;obtain ⟨k,rfl⟩:=pos (show 0<k by omega)
  simp only [impl_IsFamily.l0,famFrom];rw [if_pos (by omega),if_pos (by omega),if_pos (by omega),IsSet_impl,w1 (by omega)];simp only [Option.bind_some]
  by_cases hs:isSet n (rd xs (i:Int))=true
  ·rw [if_pos hs,hs,Bool.true_and]
   by_cases h0:i=0
   ·subst h0;rw [if_neg (by omega),ih k 1 (by omega) (by omega)];simp
   ·have e:wrap64 ((i:Int) - 1)=((i - 1:Nat):Int):=by rw [w64 _ (by omega) (by omega)];omega
    rw [if_pos (by omega),e,if_pos (by omega),if_pos (by omega),ih k (i+1) (by omega) (by omega),decide_eq_false h0,Bool.false_or]
    by_cases hl:rd xs ((i - 1:Nat):Int)<rd xs (i:Int)
    ·rw [if_neg (by omega),decide_eq_true hl,Bool.true_and]
    ·rw [if_pos (by omega),decide_eq_false hl,Bool.false_and]
  ·rw [if_neg hs,bnot_false hs];rfl
theorem IsFamily_impl (n:Int) (xs:List Int) (k:Nat) (hn:xs.length<4194000) (hk:xs.length<k):impl_IsFamily.f k n xs=some (fam n xs):=by
 unfold impl_IsFamily.f;exact IsFamily_impl_l0 n xs (by omega) xs.length k 0 (Nat.zero_add _) hk
theorem HasSet_spec_k (xs:List Int) (s:Int) (k:Nat) (hn:xs.length<4194000) (hk:xs.length<k):spec_HasSet.f k xs s=some (decide (s ∈ xs)):=by
 unfold spec_HasSet.f;exact HasSet_spec_l0 xs s (by omega) xs.length k 0 (by omega) (by omega)
theorem HasSet_impl_k (xs:List Int) (s:Int) (k:Nat) (hn:xs.length<4194000) (hk:xs.length<k):impl_HasSet.f k xs s=some (decide (s ∈ xs)):=by
 obtain ⟨r,h1,h2⟩:=Index_l0 xs s (by omega) xs.length k 0 (by omega) (by omega)
 unfold impl_HasSet.f slices_Contains_int_int.f slices_Index_int_int.f
 rw [show (0:Int)=((0:Nat):Int) from rfl,h1];simp only [Option.bind_some];exact congrArg some h2
def exB (xs:List Int) (a b e:Nat):Bool:=anyFrom (fun f=>b.testBit f && !a.testBit f && decide (((Mt.ins (Mt.del a e) f:Nat):Int) ∈ xs)) 0 8
theorem ins_add {x f:Nat} (hx:x<256) (hf:f<8) (h:x.testBit f=false):Mt.ins x f=x+2 ^ f:=by
 have h1:=del_256 (Mt.ins x f) (Mt.small_ins hx hf) f hf (Mt.in_ins_self x f)
 have h2:Mt.del (Mt.ins x f) f=x:=Mt.ext fun i=>by
  rw [Mt.in_del,Mt.in_ins]
  refine ⟨fun h=>h.1.elim id (fun q=>absurd q h.2),fun k=>⟨.inl k,fun q=>?_⟩⟩
  subst q;unfold Mt.In at k;rw [h] at k;cases k
 omega
theorem del_small {x e:Nat} (hx:x<256):Mt.del x e<256:=Mt.small_sub (Mt.sub_del x e) hx
theorem del_bit {x e f:Nat} (h:x.testBit f=false):(Mt.del x e).testBit f=false:=by
 refine bnot_false fun q=>?_
 have:=((Mt.in_del x e f).mp q).1;unfold Mt.In at this;rw [h] at this;cases this
theorem swap_eq {a e f:Nat} (ha:a<256) (he:e<8) (hf:f<8) (h1:a.testBit e=true) (h2:a.testBit f=false) :
  wrap64 (wrap64 ((a:Int) - ((2 ^ e:Nat):Int))+((2 ^ f:Nat):Int))=((Mt.ins (Mt.del a e) f:Nat):Int):=by
 have e1:=del_256 a ha e he h1
 have e2:=ins_add (del_small ha (e:=e)) hf (del_bit h2)
 have p1:=pow_le8 (Nat.le_of_lt hf);have p2:=del_small ha (e:=e)
 generalize Mt.del a e=z at *;generalize Mt.ins z f=y at *;generalize 2 ^ e=p at *;generalize 2 ^ f=q at *
 rw [w64 ((a:Int) - p) (by omega) (by omega),w64 _ (by omega) (by omega)];omega
theorem u64e {e:Nat} (h:e<64):IntKind.u64.wrap (e:Int)=(e:Int):=u64_nat _ (by omega) (by omega)
theorem l4Exchange_l0 {n:Int} {xs:List Int} (F:Fam n xs) (a b e:Nat) (ha:a<256) (hb:b<256) (he:e<8) (hae:a.testBit e=true):∀ d k f:Nat,f+d=n.toNat→d+xs.length+1<k →
  spec_l4Exchange.l0 k (a:Int) (b:Int) (e:Int) (f:Int) n xs=some (anyFrom (fun f=>b.testBit f && !a.testBit f && decide (((Mt.ins (Mt.del a e) f:Nat):Int) ∈ xs)) f d):=by
 have hl:=F.len;have hn:=F.nn;have hn8:=F.le8
 intro d
 induction d with
 | zero =>
  intro k f h hk;obtain ⟨k,rfl⟩:=pos (show 0<k by omega)
  simp only [spec_l4Exchange.l0,anyFrom];rw [if_neg (by omega)]
 | succ d ih =>
  intro k f h hk;obtain ⟨k,rfl⟩:=pos (show 0<k by omega)
  simp only [spec_l4Exchange.l0,anyFrom];rw [if_pos (by omega),l2Has_eq b f (by omega) (by omega),l2Has_eq a f (by omega) (by omega),w1 (by omega),u64e (show e<64 by omega),u64e (show f<64 by omega)];simp only [Option.bind_some]
  rw [ih k (f+1) (by omega) (by omega)]
  cases hbf:b.testBit f
  ·rw [if_neg (by simp)];simp
  ·cases haf:a.testBit f
   ·rw [if_pos rfl,if_neg (by simp),if_pos (by omega),if_pos (by omega),shl_one e (by omega),shl_one f (by omega),swap_eq ha he (by omega) hae haf,HasSet_spec_k _ _ k (by omega) (by omega)];simp only [Option.bind_some]
    by_cases hm:((Mt.ins (Mt.del a e) f:Nat):Int) ∈ xs
    ·rw [if_pos (decide_eq_true hm)];simp [hm]
    ·rw [if_neg (by simpa using hm)];simp [hm]
   ·rw [if_pos rfl,if_pos rfl];simp
theorem l4Exchange_eq {n:Int} {xs:List Int} (F:Fam n xs) (a b e k:Nat) (ha:a<256) (hb:b<2 ^ n.toNat) (he:e<8) (hae:a.testBit e=true) (hk:xs.length+10<k) :
  spec_l4Exchange.f k n xs (a:Int) (b:Int) (e:Int)=some (exB xs a b e):=by
 have hn8:=F.le8;have hb8:=pow_le8 hn8
 unfold spec_l4Exchange.f exB
 refine (l4Exchange_l0 F a b e ha (by omega) he hae n.toNat k 0 (Nat.zero_add _) (by omega)).trans ?_
 congr 1;rw [Bool.eq_iff_iff,anyFrom_iff,anyFrom_iff]
 constructor
 ·rintro ⟨j,h1,h2,h3⟩;exact ⟨j,h1,by omega,h3⟩
 ·rintro ⟨j,h1,h2,h3⟩
  refine ⟨j,h1,?_,h3⟩
  simp only [Bool.and_eq_true] at h3
  have:=bit_lt hb h3.1.1;omega
def noFail:Int × Int × Int × Bool:=(0,0,0,false)
def failE (xs:List Int) (a b e:Nat):Option (Int × Int × Int × Bool):=if a.testBit e=true∧b.testBit e=false∧exB xs a b e=false then some ((a:Int),(b:Int),(e:Int),true) else none
def failB (n:Int) (xs:List Int) (i j:Nat):Option (Int × Int × Int × Bool):=scan (failE xs (X xs i) (X xs j)) 0 n.toNat
def failA (n:Int) (xs:List Int) (i:Nat):Option (Int × Int × Int × Bool):=scan (failB n xs i) 0 xs.length
def fail (n:Int) (xs:List Int):Int × Int × Int × Bool:=if fam n xs=true then (scan (failA n xs) 0 xs.length).getD noFail else noFail
theorem failE_none {xs:List Int} {a b e:Nat} (h:¬ (a.testBit e=true∧b.testBit e=false∧exB xs a b e=false)):failE xs a b e=none:=by unfold failE;rw [if_neg h]
theorem FirstFailure_spec_l2 {n:Int} {xs:List Int} (F:Fam n xs) (i j:Nat) (hi:i<xs.length) (hj:j<xs.length) (C:Nat) (hC:xs.length+10<C) (r:Int × Int × Int × Bool)
  (next:∀ k,C≤k→spec_FirstFailure.l1 k (i:Int) ((j+1:Nat):Int) n xs=some r) :
  ∀ d k e:Nat,e+d=n.toNat→C+d+1≤k→spec_FirstFailure.l2 k (i:Int) (j:Int) (e:Int) n xs=some ((scan (failE xs (X xs i) (X xs j)) e d).getD r):=by
 have hl:=F.len;have hn:=F.nn;have hn8:=F.le8;have h1:=F.X i;have h2:=F.X j
 intro d
 induction d with
 | zero =>
  intro k e h hk;obtain ⟨k,rfl⟩:=pos (show 0<k by omega)
  simp only [spec_FirstFailure.l2];rw [if_neg (by omega),w1 (by omega),next k (by omega)];rfl
 | succ d ih =>
  intro k e h hk;obtain ⟨k,rfl⟩:=pos (show 0<k by omega)
  simp only [spec_FirstFailure.l2]
  rw [scan_getD,if_pos (by omega),if_pos (by omega),if_pos (by omega),if_pos (by omega),if_pos (by omega),h1.1,h2.1,l2Has_eq (X xs i) e (by omega) (by omega),l2Has_eq (X xs j) e (by omega) (by omega),w1 (by omega)];simp only [Option.bind_some]
  rw [ih k (e+1) (by omega) (by omega)]
  cases hb1:(X xs i).testBit e
  ·rw [if_neg (by simp),failE_none (by simp [hb1])];rfl
  ·cases hb2:(X xs j).testBit e
   ·rw [if_pos rfl,if_neg (by simp),l4Exchange_eq F (X xs i) (X xs j) e k h1.2.2 h2.2.1 (by omega) hb1 (by omega)];simp only [Option.bind_some]
    cases hx:exB xs (X xs i) (X xs j) e
    ·rw [if_neg (by simp)];unfold failE;rw [if_pos ⟨hb1,hb2,hx⟩];rfl
    ·rw [if_pos rfl,failE_none (by simp [hx])];rfl
   ·rw [if_pos rfl,if_pos rfl,failE_none (by simp [hb2])];rfl
theorem FirstFailure_spec_l1 {n:Int} {xs:List Int} (F:Fam n xs) (i:Nat) (hi:i<xs.length) (C:Nat) (hC:xs.length+10<C) (r:Int × Int × Int × Bool)
  (next:∀ k,C≤k→spec_FirstFailure.l0 k ((i+1:Nat):Int) n xs=some r) :
  ∀ d k j:Nat,j+d=xs.length→C+d*10+1≤k→spec_FirstFailure.l1 k (i:Int) (j:Int) n xs=some ((scan (failB n xs i) j d).getD r):=by
 have hl:=F.len;have hn8:=F.le8
 intro d
 induction d with
 | zero =>
  intro k j h hk;obtain ⟨k,rfl⟩:=pos (show 0<k by omega)
  simp only [spec_FirstFailure.l1];rw [if_neg (by omega),w1 (by omega),next k (by omega)];rfl
 | succ d ih =>
  intro k j h hk;obtain ⟨k,rfl⟩:=pos (show 0<k by omega)
  simp only [spec_FirstFailure.l1]
  rw [scan_getD,if_pos (by omega)]
  exact FirstFailure_spec_l2 F i j hi (by omega) (C+d*10+1) (by omega) _ (fun k' hk'=>ih k' (j+1) (by omega) hk') n.toNat k 0 (Nat.zero_add _) (by omega)
theorem FirstFailure_spec_l0 {n:Int} {xs:List Int} (F:Fam n xs) :
  ∀ d k i:Nat,i+d=xs.length→d*2562+300≤k→spec_FirstFailure.l0 k (i:Int) n xs=some ((scan (failA n xs) i d).getD noFail):=by
 have hl:=F.len
 intro d
 induction d with
 | zero =>
  intro k i h hk;obtain ⟨k,rfl⟩:=pos (show 0<k by omega)
  simp only [spec_FirstFailure.l0];rw [if_neg (by omega)];rfl
 | succ d ih =>
  intro k i h hk;obtain ⟨k,rfl⟩:=pos (show 0<k by omega)
  simp only [spec_FirstFailure.l0]
  rw [scan_getD,if_pos (by omega)]
  exact FirstFailure_spec_l1 F i (by omega) (d*2562+300) (by omega) _ (fun k' hk'=>ih k' (i+1) (by omega) hk') xs.length k 0 (Nat.zero_add _) (by omega)
theorem FirstFailure_spec (n:Int) (xs:List Int) (k:Nat) (hn:xs.length<2000000) (hk:2000000≤k):spec_FirstFailure.f k n xs=some (fail n xs):=by
 unfold spec_FirstFailure.f fail;rw [IsFamily_spec n xs k (by omega) (by omega)];simp only [Option.bind_some]
 by_cases h:fam n xs=true
 ·have F:=(fam_iff n xs).mp h;have hl:=F.len
  rw [if_pos h,if_pos h];exact FirstFailure_spec_l0 F xs.length k 0 (Nat.zero_add _) (by omega)
 ·rw [if_neg h,if_neg h];rfl
theorem anyL_eq (p:Int→Option Bool) (q:Int→Bool) (l:List Int) (hl:l.length<4194000) (hp:∀ y ∈ l,p y=some (q y)):∀ d k i:Nat,i+d=l.length→d<k→anyL p l k (i:Int)=some ((l.drop i).any q):=by
 intro d
 induction d with
 | zero =>
  intro k i h hk;obtain ⟨k,rfl⟩:=pos (show 0<k by omega)
  simp only [anyL];rw [if_neg (by omega),List.drop_eq_nil_of_le (by omega)];rfl
 | succ d ih =>
  intro k i h hk;obtain ⟨k,rfl⟩:=pos (show 0<k by omega)
  have hi:i<l.length:=by omega
  simp only [anyL];rw [if_pos (by omega),if_pos (by omega),hp _ (rd_mem hi),drop_rd hi,w1 (by omega)];simp only [Option.bind_some,List.any_cons]
  cases hq:q (rd l (i:Int))
  ·rw [if_neg (by simp),ih k (i+1) (by omega) (by omega)];simp
  ·rw [if_pos rfl];rfl
theorem on_FirstFailure_1 {n:Int} {xs:List Int} (F:Fam n xs) (a b e k:Nat) (ha:a<256) (hb:b<256) (he:e<8) (hk:xs.length+10<k) :
  on_impl_FirstFailure_1.f k (elems ((Mt.diff b a:Nat):Int)) n xs (a:Int) (e:Int)=some (exB xs a b e):=by
 have hl:=F.len;have hel:=elems_length ((Mt.diff b a:Nat):Int)
 unfold on_impl_FirstFailure_1.f
 have:=anyL_eq (impl_FirstFailure_1.f k n xs (a:Int) (e:Int)) (fun y=>decide (((Mt.ins (Mt.del a e) y.toNat:Nat):Int) ∈ xs)) (elems ((Mt.diff b a:Nat):Int)) (by omega) (fun y hy=>by
  have hr:=elems_range hy;obtain ⟨f,rfl⟩:=nat_of hr.1
  unfold impl_FirstFailure_1.f
  rw [if_pos (by omega),if_pos (by omega),shl_one e (by omega),shl_one f (by omega),andNot_nat a (2 ^ e) (by omega) (pow_small he),or_nat _ (2 ^ f) (by have:=del_small ha (e:=e);exact Nat.lt_of_lt_of_le this (by omega)) (pow_small (by omega)),HasSet_impl_k _ _ k (by omega) (by omega),Int.toNat_natCast]
  rfl) (elems ((Mt.diff b a:Nat):Int)).length k 0 (Nat.zero_add _) (by omega)
 rw [show (0:Int)=((0:Nat):Int) from rfl,this]
 refine congrArg some ?_;unfold exB;rw [Bool.eq_iff_iff,anyFrom_iff,List.drop_zero,List.any_eq_true]
 have hd:Mt.diff b a<256:=Mt.small_sub (fun i hi=>((Mt.in_diff b a i).mp hi).1) hb
 constructor
 ·rintro ⟨y,hy,hm⟩
  have hr:=elems_range hy;obtain ⟨f,rfl⟩:=nat_of hr.1
  rw [mem_elems,hasE_nat _ _ hd (by omega)] at hy
  have hy':=(Mt.in_diff b a f).mp hy
  rw [Int.toNat_natCast] at hm
  refine ⟨f,by omega,by omega,?_⟩
  rw [show b.testBit f=true from hy'.1,show a.testBit f=false from bnot_false hy'.2,hm];rfl
 ·rintro ⟨f,_,hf,hm⟩
  simp only [Bool.and_eq_true,Bool.not_eq_true'] at hm
  refine ⟨(f:Int),?_,by rw [Int.toNat_natCast];exact hm.2⟩
  rw [mem_elems,hasE_nat _ _ hd (by omega)]
  refine (Mt.in_diff b a f).mpr ⟨hm.1.1,fun q=>?_⟩
  unfold Mt.In at q;rw [hm.1.2] at q;cases q
theorem FirstFailure_impl_l2 {n:Int} {xs:List Int} (F:Fam n xs) (i j:Nat) (C:Nat) (hC:xs.length+10<C) (r:Int × Int × Int × Bool) (es:List Int) (hes:∀ e ∈ es,0≤e∧e<8) (hel:es.length≤8)
  (hj:j<xs.length)
  (next:∀ k,C≤k→impl_FirstFailure.l1 k xs (xs.length:Int) (i:Int) xs (xs.length:Int) ((j+1:Nat):Int) n xs ((X xs i:Nat):Int)=some r) :
  ∀ d k t:Nat,t+d=es.length→C+d+1≤k→impl_FirstFailure.l2 k ((X xs j:Nat):Int) xs (xs.length:Int) (i:Int) xs (xs.length:Int) (j:Int) es (es.length:Int) (t:Int) n xs ((X xs i:Nat):Int) =
   some ((scanL (fun e=>if exB xs (X xs i) (X xs j) e.toNat=true then none else some (((X xs i:Nat):Int),((X xs j:Nat):Int),e,true)) (es.drop t)).getD r):=by
 have hl:=F.len;have h1:=F.X i;have h2:=F.X j
 intro d
 induction d with
 | zero =>
  intro k t h hk;obtain ⟨k,rfl⟩:=pos (show 0<k by omega)
  simp only [impl_FirstFailure.l2];rw [if_neg (by omega),w1 (by omega),next k (by omega),List.drop_eq_nil_of_le (by omega)];rfl
 | succ d ih =>
  intro k t h hk;obtain ⟨k,rfl⟩:=pos (show 0<k by omega)
  have ht:t<es.length:=by omega
  have hr:=hes _ (rd_mem ht)
  obtain ⟨e,he⟩:=nat_of hr.1
  simp only [impl_FirstFailure.l2]
  rw [if_pos (by omega),if_pos (by omega),if_pos (by omega),andNot_nat _ _ (by omega) (by omega),ElementsOf_impl _ k (by omega),drop_rd ht,he];simp only [Option.bind_some]
  rw [on_FirstFailure_1 F (X xs i) (X xs j) e k (by omega) (by omega) (by omega) (by omega),w1 (by omega)];simp only [Option.bind_some,scanL]
  rw [ih k (t+1) (by omega) (by omega),Int.toNat_natCast]
  cases hx:exB xs (X xs i) (X xs j) e
  ·rw [if_neg (by simp),if_neg (by simp)];rfl
  ·rw [if_pos rfl,if_pos rfl]
theorem failB_scanL {n:Int} {xs:List Int} (F:Fam n xs) (i j:Nat):scanL (fun e=>if exB xs (X xs i) (X xs j) e.toNat=true then none else some (((X xs i:Nat):Int),((X xs j:Nat):Int),e,true)) (elems ((Mt.diff (X xs i) (X xs j):Nat):Int))=failB n xs i j:=by
 have h1:=F.X i;have h2:=F.X j;have hn8:=F.le8
 have hd:Mt.diff (X xs i) (X xs j)<256:=Mt.small_sub (fun i hi=>((Mt.in_diff _ _ i).mp hi).1) h1.2.2
 unfold elems failB;rw [scanL_elems]
 have hm:=scan_more (p:=failE xs (X xs i) (X xs j)) (8 - n.toNat) n.toNat 0 (fun e he=>failE_none (fun q=>by have:=bit_lt h1.2.1 q.1;omega))
 rw [show n.toNat+(8 - n.toNat)=8 by omega] at hm
 rw [← hm]
 refine scan_congr 8 0 fun e _ he=>?_
 rw [hasE_nat _ _ hd (by omega),Int.toNat_natCast]
 unfold failE
 by_cases hin:Mt.In e (Mt.diff (X xs i) (X xs j))
 ·have q:=(Mt.in_diff _ _ e).mp hin
  rw [if_pos (show (Mt.diff (X xs i) (X xs j)).testBit e=true from hin)]
  cases hx:exB xs (X xs i) (X xs j) e
  ·rw [if_neg (by simp),if_pos ⟨q.1,bnot_false q.2,rfl⟩]
  ·rw [if_pos rfl,if_neg (by simp)]
 ·rw [if_neg (show ¬ (Mt.diff (X xs i) (X xs j)).testBit e=true from hin),if_neg]
  rintro ⟨q1,q2,_⟩
  exact hin ((Mt.in_diff _ _ e).mpr ⟨q1,fun q=>by unfold Mt.In at q;rw [q2] at q;cases q⟩)
theorem FirstFailure_impl_l1 {n:Int} {xs:List Int} (F:Fam n xs) (i:Nat) (hi:i<xs.length) (C:Nat) (hC:xs.length+10<C) (r:Int × Int × Int × Bool)
  (next:∀ k,C≤k→impl_FirstFailure.l0 k xs (xs.length:Int) ((i+1:Nat):Int) n xs=some r) :
  ∀ d k j:Nat,j+d=xs.length→C+d*10+1≤k→impl_FirstFailure.l1 k xs (xs.length:Int) (i:Int) xs (xs.length:Int) (j:Int) n xs ((X xs i:Nat):Int)=some ((scan (failB n xs i) j d).getD r):=by
 have hl:=F.len;have hn8:=F.le8;have h1:=F.X i
 intro d
 induction d with
 | zero =>
  intro k j h hk;obtain ⟨k,rfl⟩:=pos (show 0<k by omega)
  simp only [impl_FirstFailure.l1];rw [if_neg (by omega),w1 (by omega),next k (by omega)];rfl
 | succ d ih =>
  intro k j h hk;obtain ⟨k,rfl⟩:=pos (show 0<k by omega)
  have h2:=F.X j
  simp only [impl_FirstFailure.l1]
  rw [scan_getD,if_pos (by omega),if_pos (by omega),if_pos (by omega),h2.1,andNot_nat _ _ (by omega) (by omega),ElementsOf_impl _ k (by omega)];simp only [Option.bind_some]
  have hel:=elems_length ((Mt.diff (X xs i) (X xs j):Nat):Int)
  rw [← failB_scanL F i j]
  have key:=FirstFailure_impl_l2 F i j (C+d*10+1) (by omega) _ (elems ((Mt.diff (X xs i) (X xs j):Nat):Int)) (fun e he=>elems_range he) hel (by omega) (fun k' hk'=>ih k' (j+1) (by omega) hk') _ k 0 (Nat.zero_add _) (by omega)
  rw [List.drop_zero] at key
  exact key
theorem FirstFailure_impl_l0 {n:Int} {xs:List Int} (F:Fam n xs) :
  ∀ d k i:Nat,i+d=xs.length→d*2562+300≤k→impl_FirstFailure.l0 k xs (xs.length:Int) (i:Int) n xs=some ((scan (failA n xs) i d).getD noFail):=by
 have hl:=F.len
 intro d
 induction d with
 | zero =>
  intro k i h hk;obtain ⟨k,rfl⟩:=pos (show 0<k by omega)
  simp only [impl_FirstFailure.l0];rw [if_neg (by omega)];rfl
 | succ d ih =>
  intro k i h hk;obtain ⟨k,rfl⟩:=pos (show 0<k by omega)
  have h1:=F.X i
  simp only [impl_FirstFailure.l0]
  rw [scan_getD,if_pos (by omega),if_pos (by omega),if_pos (by omega),h1.1]
  exact FirstFailure_impl_l1 F i (by omega) (d*2562+300) (by omega) _ (fun k' hk'=>ih k' (i+1) (by omega) hk') xs.length k 0 (Nat.zero_add _) (by omega)
theorem FirstFailure_impl (n:Int) (xs:List Int) (k:Nat) (hn:xs.length<2000000) (hk:2000000≤k):impl_FirstFailure.f k n xs=some (fail n xs):=by
 unfold impl_FirstFailure.f fail;rw [IsFamily_impl n xs k (by omega) (by omega)];simp only [Option.bind_some]
 by_cases h:fam n xs=true
 ·have F:=(fam_iff n xs).mp h;have hl:=F.len
  rw [if_pos h,if_pos h];exact FirstFailure_impl_l0 F xs.length k 0 (Nat.zero_add _) (by omega)
 ·rw [if_neg h,if_neg h];rfl
def mat (n:Int) (xs:List Int):Bool:=fam n xs && (decide (0<xs.length) && !(fail n xs).2.2.2)
theorem IsMatroid_spec (n:Int) (xs:List Int) (k:Nat) (hn:xs.length<2000000) (hk:2000000≤k):spec_IsMatroid.f k n xs=some (mat n xs):=by
 unfold spec_IsMatroid.f mat;rw [FirstFailure_spec n xs k hn hk,IsFamily_spec n xs k (by omega) (by omega)];simp only [Option.bind_some]
 cases hf:fam n xs
 ·rfl
 ·rw [if_pos rfl]
  by_cases h0:0<xs.length
  ·rw [if_pos (by omega),decide_eq_true h0];rfl
  ·rw [if_neg (by omega),decide_eq_false h0];rfl
theorem IsMatroid_impl (n:Int) (xs:List Int) (k:Nat) (hn:xs.length<2000000) (hk:2000000≤k):impl_IsMatroid.f k n xs=some (mat n xs):=by
 unfold impl_IsMatroid.f mat;rw [FirstFailure_impl n xs k hn hk,IsFamily_impl n xs k (by omega) (by omega)];simp only [Option.bind_some]
 cases hf:fam n xs
 ·rfl
 ·rw [if_pos rfl]
  by_cases h0:0<xs.length
  ·rw [if_pos (by omega),decide_eq_true h0];rfl
  ·rw [if_neg (by omega),decide_eq_false h0];rfl
end Go.Proofs.YtekegbacnagbcaaGreat.L
/- Sets of whole numbers as rising lists: what the printed sorting comes to. -/
namespace Go.Proofs.YtekegbacnagbcaaGreat.L
open Go.RowKit Go.Proofs.YtekegbacnagbcaaGreatW.PrintWords Go.Proofs.YtekegbacnagbcaaGreatW.PrintMore Go.Proofs.YtekegbacnagbcaaGreat.P Go.Proofs.YtekegbacnagbcaaGreat.B
theorem inc_ext:∀ r s:List Int,r.Pairwise (·<·)→s.Pairwise (·<·)→(∀ x,x ∈ r↔x ∈ s)→r=s:=by
 intro r
 induction r with
 | nil =>
  intro s _ _ h
  cases s with
  | nil=>rfl
  | cons b t=>exact absurd ((h b).mpr List.mem_cons_self) (by simp)
 | cons a r ih =>
  intro s hr hs h
  cases s with
  | nil=>exact absurd ((h a).mp List.mem_cons_self) (by simp)
  | cons b t =>
   rw [List.pairwise_cons] at hr hs
   have hab:a=b:=by
    have h1:=List.mem_cons.mp ((h a).mp List.mem_cons_self)
    have h2:=List.mem_cons.mp ((h b).mpr List.mem_cons_self)
    rcases h1 with h1|h1
    ·exact h1
    ·rcases h2 with h2|h2
     ·exact h2.symm
     ·have:=hs.1 a h1;have:=hr.1 b h2;omega
   subst hab
   congr 1
   refine ih t hr.2 hs.2 fun x=>⟨fun hx=>?_,fun hx=>?_⟩
   ·rcases List.mem_cons.mp ((h x).mp (List.mem_cons_of_mem _ hx)) with e|e
    ·have:=hr.1 x hx;omega
    ·exact e
   ·rcases List.mem_cons.mp ((h x).mpr (List.mem_cons_of_mem _ hx)) with e|e
    ·have:=hs.1 x hx;omega
    ·exact e
def insS (x:Int):List Int→List Int
 | []=>[x]
 | y :: ys=>if y<x then y :: insS x ys else if y=x then y :: ys else x :: y :: ys
theorem insS_mem (x z:Int):∀ l,z ∈ insS x l↔z=x∨z ∈ l:=by
 intro l
 induction l with
 | nil=>simp [insS]
 | cons y ys ih =>
  simp only [insS]
  split
  ·rw [List.mem_cons,ih,List.mem_cons]
   exact ⟨fun h=>h.elim (fun h=>.inr (.inl h)) (fun h=>h.elim .inl (fun h=>.inr (.inr h))),fun h=>h.elim (fun h=>.inr (.inl h)) (fun h=>h.elim .inl (fun h=>.inr (.inr h)))⟩
  ·split
   ·rename_i e;subst e;exact ⟨.inr,fun h=>h.elim (fun h=>h ▸ List.mem_cons_self) id⟩
   ·rw [List.mem_cons]
theorem insS_inc (x:Int):∀ l:List Int,l.Pairwise (·<·)→(insS x l).Pairwise (·<·):=by
 intro l
 induction l with
 | nil=>intro _;exact List.pairwise_singleton _ _
 | cons y ys ih =>
  intro h;simp only [insS]
  have h':=List.pairwise_cons.mp h
  split
  ·rename_i e
   refine List.pairwise_cons.mpr ⟨fun z hz=>?_,ih h'.2⟩
   rcases (insS_mem x z ys).mp hz with q|q
   ·omega
   ·exact h'.1 z q
  ·split
   ·exact h
   ·refine List.pairwise_cons.mpr ⟨fun z hz=>?_,h⟩
    rcases List.mem_cons.mp hz with q|q
    ·omega
    ·have:=h'.1 z q;omega
theorem insS_len (x:Int):∀ l:List Int,(insS x l).length≤l.length+1:=by
 intro l
 induction l with
 | nil=>simp [insS]
 | cons y ys ih =>
  simp only [insS]
  split
  ·simp only [List.length_cons];omega
  ·split
   ·simp only [List.length_cons];omega
   ·simp only [List.length_cons];omega
def srtFrom (xs:List Int):Nat→Nat→List Int→List Int
 | 0,_,out=>out
 | d+1,i,out=>srtFrom xs d (i+1) (insS (rd xs (i:Int)) out)
def srt (xs:List Int):List Int:=srtFrom xs xs.length 0 []
theorem srtFrom_inc (xs:List Int):∀ d i out,out.Pairwise (·<·)→(srtFrom xs d i out).Pairwise (·<·):=by
 intro d
 induction d with
 | zero=>intro i out h;exact h
 | succ d ih=>intro i out h;exact ih (i+1) _ (insS_inc _ _ h)
theorem srtFrom_mem (xs:List Int) (z:Int):∀ d i out,z ∈ srtFrom xs d i out↔z ∈ out∨∃ j:Nat,i≤j∧j<i+d∧rd xs (j:Int)=z:=by
 intro d
 induction d with
 | zero=>intro i out;simp only [srtFrom];exact ⟨.inl,fun h=>h.elim id (fun ⟨j,a,b,_⟩=>by omega)⟩
 | succ d ih =>
  intro i out;simp only [srtFrom];rw [ih,insS_mem]
  constructor
  ·rintro ((h|h)|⟨j,a,b,c⟩)
   ·exact .inr ⟨i,Nat.le_refl _,by omega,h.symm⟩
   ·exact .inl h
   ·exact .inr ⟨j,by omega,by omega,c⟩
  ·rintro (h|⟨j,a,b,c⟩)
   ·exact .inl (.inr h)
   ·by_cases e:j=i
    ·subst e;exact .inl (.inl c.symm)
    ·exact .inr ⟨j,by omega,by omega,c⟩
theorem srt_inc (xs:List Int):(srt xs).Pairwise (·<·):=srtFrom_inc xs _ _ _ List.Pairwise.nil
theorem srt_mem (xs:List Int) (z:Int):z ∈ srt xs↔z ∈ xs:=by
 unfold srt;rw [srtFrom_mem]
 constructor
 ·rintro (h|⟨j,_,b,rfl⟩)
  ·exact absurd h (by simp)
  ·exact rd_mem (by omega)
 ·intro h;obtain ⟨j,hj,e⟩:=mem_rd h;exact .inr ⟨j,Nat.zero_le _,by omega,e⟩
theorem srt_eq {xs r:List Int} (h:r.Pairwise (·<·)) (hm:∀ x,x ∈ r↔x ∈ xs):r=srt xs :=
 inc_ext r (srt xs) h (srt_inc xs) fun x=>(hm x).trans (srt_mem xs x).symm
theorem srt_len (xs:List Int):(srt xs).length≤xs.length:=by
 have:∀ d i out,(srtFrom xs d i out).length≤out.length+d:=by
  intro d
  induction d with
  | zero=>intro i out;exact Nat.le_refl _
  | succ d ih=>intro i out;simp only [srtFrom];have:=ih (i+1) (insS (rd xs (i:Int)) out);have:=insS_len (rd xs (i:Int)) out;omega
 have:=this xs.length 0 [];unfold srt;simpa using this
def Big2:Nat:=17592202821636
theorem big2 {n:Nat} (h:n≤4194304):n*(n+4)+4≤Big2:=by
 have:=Nat.mul_le_mul h (show n+4≤4194308 by omega)
 unfold Big2;omega
theorem SortSets_spec_l1 (xs out:List Int) (i:Nat) (hi:i<xs.length) (hx:xs.length≤4194304) (hout:out.length≤4194304) (C:Nat) (r:List Int)
  (next:∀ k,C≤k→spec_SortSets.l0 k xs (insS (rd xs (i:Int)) out) ((i+1:Nat):Int)=some r) :
  ∀ d k a:Nat,a+d=out.length→C+d+1≤k→insS (rd xs (i:Int)) out=out.take a++insS (rd xs (i:Int)) (out.drop a)→spec_SortSets.l1 k xs out (i:Int) (a:Int)=some r:=by
 intro d
 induction d with
 | zero =>
  intro k a h hk hp;obtain ⟨k,rfl⟩:=pos (show 0<k by omega)
  rw [List.drop_eq_nil_of_le (by omega)] at hp
  simp only [insS] at hp
  have hn:=next k (by omega)
  rw [hp] at hn
  simp only [spec_SortSets.l1]
  rw [if_neg (by omega)]
  simp only [Option.bind_some,List.nil_append,Int.toNat_natCast]
  rw [List.drop_eq_nil_of_le (show out.length≤a by omega),if_pos (by omega),if_pos (by omega),if_pos (by simp),if_pos (by omega),if_pos (by omega),if_pos (by simp;omega),if_pos (by simp;omega),List.append_nil,w1 (by omega)]
  exact hn
 | succ d ih =>
  intro k a h hk hp;obtain ⟨k,rfl⟩:=pos (show 0<k by omega)
  have ha:a<out.length:=by omega
  simp only [spec_SortSets.l1]
  rw [if_pos (by omega),if_pos (by omega),if_pos (by omega),if_pos (by omega)]
  rw [drop_rd ha] at hp
  simp only [insS] at hp
  by_cases hlt:rd out (a:Int)<rd xs (i:Int)
  ·rw [if_pos hlt,w1 (by omega)]
   rw [if_pos hlt] at hp
   refine ih k (a+1) (by omega) (by omega) ?_
   rw [hp,List.take_succ_eq_append_getElem ha,List.append_assoc,rd_get ha];rfl
  ·rw [if_neg hlt] at hp ⊢
   by_cases he:rd out (a:Int)=rd xs (i:Int)
   ·rw [if_pos he] at hp ⊢
    rw [w1 (by omega)]
    rw [← drop_rd ha,List.take_append_drop] at hp
    have hn:=next k (by omega)
    rw [hp] at hn;exact hn
   ·rw [if_neg he] at hp ⊢
    rw [← drop_rd ha] at hp
    have hn:=next k (by omega)
    rw [hp] at hn
    simp only [Option.bind_some,List.nil_append,Int.toNat_natCast]
    rw [if_pos (by omega),if_pos (by simp;omega),if_pos (by simp;omega),if_pos (by simp;omega),w1 (by omega),List.append_assoc]
    exact hn
theorem SortSets_spec_l0 (xs:List Int) (hx:xs.length≤4194304):∀ d k i:Nat,∀ out:List Int,i+d=xs.length→d*(xs.length+4)+4≤k→out.length≤i→spec_SortSets.l0 k xs out (i:Int)=some (srtFrom xs d i out):=by
 intro d
 induction d with
 | zero =>
  intro k i out h hk ho;obtain ⟨k,rfl⟩:=pos (show 0<k by omega)
  simp only [spec_SortSets.l0,srtFrom];rw [if_neg (by omega)]
 | succ d ih =>
  intro k i out h hk ho
  rw [Nat.succ_mul] at hk
  obtain ⟨k,rfl⟩:=pos (show 0<k by omega)
  simp only [spec_SortSets.l0,srtFrom];rw [if_pos (by omega)]
  have hl:=insS_len (rd xs (i:Int)) out
  exact SortSets_spec_l1 xs out i (by omega) hx (by omega) (d*(xs.length+4)+4) _ (fun k' hk'=>ih k' (i+1) _ (by omega) hk' (by omega)) out.length k 0 (Nat.zero_add _) (by omega) rfl
theorem SortSets_spec (xs:List Int) (k:Nat) (hx:xs.length≤4194304) (hk:xs.length*(xs.length+4)+4≤k):spec_SortSets.f k xs=some (srt xs) :=
 SortSets_spec_l0 xs hx xs.length k 0 [] (Nat.zero_add _) hk (Nat.le_refl _)
theorem bang_get {zs:List Int} {j:Nat} (h:j<zs.length):zs.toArray[j]! = zs[j]:=by simp [h]
theorem compact_ok (zs:List Int) (hs:zs.Pairwise (·≤·)):∀ m,m≤zs.length→(Lib.compactUpTo zs.toArray m).Pairwise (·<·)∧∀ x,x ∈ Lib.compactUpTo zs.toArray m↔∃ j,j<m∧zs.toArray[j]! = x:=by
 rw [List.pairwise_iff_getElem] at hs
 have hle:∀ i j,i≤j→j<zs.length→zs.toArray[i]! ≤ zs.toArray[j]! := by
  intro i j hij hj
  rw [bang_get (by omega),bang_get hj]
  by_cases e:i=j
  ·subst e;exact Int.le_refl _
  ·exact hs i j (by omega) hj (by omega)
 intro m
 induction m with
 | zero=>intro _;exact ⟨List.Pairwise.nil,fun x=>⟨fun h=>absurd h (by simp [Lib.compactUpTo]),fun ⟨j,h,_⟩=>by omega⟩⟩
 | succ m ih =>
  intro hm
  obtain ⟨h1,h2⟩:=ih (by omega)
  rw [Lib.compactUpTo_succ]
  by_cases hk:Lib.keeps zs.toArray m=true
  ·rw [if_pos hk]
   have hk':=of_decide_eq_true hk
   refine ⟨List.pairwise_append.mpr ⟨h1,List.pairwise_singleton _ _,fun a ha b hb=>?_⟩,fun x=>?_⟩
   ·obtain ⟨j,hj,rfl⟩:=(h2 a).mp ha
    rw [List.mem_singleton] at hb;subst hb
    have q1:=hle j (m - 1) (by omega) (by omega)
    have q2:=hle (m - 1) m (by omega) (by omega)
    rcases hk' with e|e
    ·omega
    ·generalize zs.toArray[m]! = u at *;generalize zs.toArray[m - 1]! = v at *;omega
   ·rw [List.mem_append,h2,List.mem_singleton]
    constructor
    ·rintro (⟨j,a,b⟩|rfl)
     ·exact ⟨j,by omega,b⟩
     ·exact ⟨m,by omega,rfl⟩
    ·rintro ⟨j,a,b⟩
     by_cases e:j=m
     ·subst e;exact .inr b.symm
     ·exact .inl ⟨j,by omega,b⟩
  ·rw [if_neg hk,List.append_nil]
   refine ⟨h1,fun x=>(h2 x).trans ⟨fun ⟨j,a,b⟩=>⟨j,by omega,b⟩,fun ⟨j,a,b⟩=>?_⟩⟩
   have hk':¬ (m=0∨zs.toArray[m]! ≠ zs.toArray[m - 1]!):=fun q=>hk (decide_eq_true q)
   by_cases e:j=m
   ·subst e
    have h0:j≠0:=fun q=>hk' (.inl q)
    refine ⟨j - 1,by omega,?_⟩
    rw [← b]
    exact (Classical.byContradiction fun q=>hk' (.inr fun r=>q r.symm))
   ·exact ⟨j,by omega,b⟩
theorem SortSets_impl (xs:List Int) (hx:xs.length≤4194304):impl_SortSets.f xs=some (srt xs):=by
 unfold impl_SortSets.f slices_Sort_int_int.f slices_Compact_int_int.f
 simp only [Option.bind_some,List.nil_append]
 have hl:(xs.mergeSort fun x y=>decide (x≤y)).length=xs.length:=by simp
 rw [if_pos (by simp;omega),if_pos (by omega)]
 simp only [Option.bind_some]
 rw [if_pos (by omega)]
 simp only [Option.bind_some]
 have hs:(xs.mergeSort fun x y=>decide (x≤y)).Pairwise (·≤·):=by
  have:=List.pairwise_mergeSort (le:=fun (x y:Int)=>decide (x≤y)) (fun a b c h1 h2=>by simp only [decide_eq_true_eq] at *;omega) (fun a b=>by simp only [Bool.or_eq_true,decide_eq_true_eq];omega) xs
  exact this.imp (fun h=>of_decide_eq_true h)
 obtain ⟨h1,h2⟩:=compact_ok _ hs _ (Nat.le_refl _)
 refine congrArg some (srt_eq h1 fun x=>(h2 x).trans ?_)
 constructor
 ·rintro ⟨j,hj,rfl⟩
  rw [bang_get hj];exact List.mem_mergeSort.mp (List.getElem_mem hj)
 ·intro h
  obtain ⟨j,hj,e⟩:=List.getElem_of_mem (List.mem_mergeSort.mpr h:x ∈ xs.mergeSort fun x y=>decide (x≤y))
  exact ⟨j,hj,by rw [bang_get hj];exact e⟩
end Go.Proofs.YtekegbacnagbcaaGreat.L
/- Drawn lists of sets: the draws answer. -/
namespace Go.Proofs.YtekegbacnagbcaaGreat.D3
open Go.RowKit Go.Proofs.YtekegbacnagbcaaGreatW.PrintWords Go.Proofs.YtekegbacnagbcaaGreatW.PrintMore Go.Proofs.YtekegbacnagbcaaGreat.P Go.Proofs.YtekegbacnagbcaaGreat.B Go.Proofs.YtekegbacnagbcaaGreat.L
theorem bsome {α β:Type} (a:α) (f:α→Option β):(some a).bind f=f a:=(Option.bind_some a f).trans rfl
theorem l3Draw_l0 (b:List Int) (a:Int) (hb:b.length<4611686018427387904) (ha:0≤a∧a≤10) (c:Nat) (hc:c≤5):∀ d k i:Nat,∀ out:List Int,∀ j g:Int,i+d=c→d<k→out.length≤i→0≤j →
  ∃ l j' g',spec_l3Draw.l0 k a out (c:Int) (i:Int) b j g=some (l,j',g')∧0≤j'∧l.length≤c:=by
 have hu:0≤IntKind.u64.wrap a:=by
  obtain ⟨m,rfl⟩:∃ m:Nat,a=m:=⟨a.toNat,by omega⟩
  have:m=0∨m=1∨m=2∨m=3∨m=4∨m=5∨m=6∨m=7∨m=8∨m=9∨m=10:=by omega
  rcases this with rfl|rfl|rfl|rfl|rfl|rfl|rfl|rfl|rfl|rfl|rfl<;>decide
 intro d
 induction d with
 | zero =>
  intro k i out j g hi hk ho hj;obtain ⟨k,rfl⟩:=pos (show 0<k by omega)
  simp only [spec_l3Draw.l0];rw [if_neg (by omega)]
  exact ⟨out,j,g,rfl,hj,by omega⟩
 | succ d ih =>
  intro k i out j g hi hk ho hj;obtain ⟨k,rfl⟩:=pos (show 0<k by omega)
  obtain ⟨x,j',g',e,j0,_⟩:=below_ok b j g (shl .i64 1 (IntKind.u64.wrap a)) hb hj
  simp only [spec_l3Draw.l0];rw [if_pos (by omega),if_pos hu,e,bsome,if_pos (by omega),w1 (by omega)]
  exact ih k (i+1) _ j' g' (by omega) (by omega) (by rw [List.length_append,List.length_singleton];omega) j0
theorem l3Draw_ok (b:List Int) (i h a:Int) (hb:b.length<4611686018427387904) (h0:0≤i) (ha:0≤a∧a≤10) (k:Nat) (hk:10<k):∃ l j g,spec_l3Draw.f k b i h a=some (l,j,g)∧0≤j∧l.length≤5:=by
 unfold spec_l3Draw.f
 obtain ⟨x,j,g,e,j0,x0,_,x1⟩:=below_ok b i h 6 hb h0
 have:=x1 (by omega)
 rw [e,bsome]
 obtain ⟨c,rfl⟩:∃ c:Nat,x=c:=⟨x.toNat,by omega⟩
 obtain ⟨l,j',g',e',j0',hl⟩:=l3Draw_l0 b a hb ha c (by omega) c k 0 [] j g (Nat.zero_add _) (by omega) (by simp) j0
 exact ⟨l,j',g',e',j0',by omega⟩
theorem l3Bent_ok (b:List Int) (i h a:Int) (hb:b.length<4611686018427387904) (h0:0≤i) (ha:0≤a∧a≤10) (k:Nat) (hk:100<k):∃ l j g,spec_l3Bent.f k b i h a=some (l,j,g)∧0≤j∧l.length≤6:=by
 obtain ⟨l,j,g,e,j0,hl⟩:=l3Draw_ok b i h a hb h0 ha k (by omega)
 unfold spec_l3Bent.f;rw [e,bsome]
 obtain ⟨x,j1,g1,e1,j10,_⟩:=below_ok b j g 5 hb j0
 simp only [];rw [e1,bsome]
 by_cases c:x=0
 ·rw [if_pos c]
  obtain ⟨y,j2,g2,e2,j20,_⟩:=bent2_ok b j1 g1 hb j10
  simp only [];rw [e2,bsome,if_pos (by omega)]
  exact ⟨_,_,_,rfl,j20,by rw [List.length_append,List.length_singleton];omega⟩
 ·rw [if_neg c]
  by_cases c2:x=1
  ·rw [if_pos c2];exact ⟨_,_,_,rfl,j10,by omega⟩
  ·have hm:l.length*(l.length+4)≤5*9:=Nat.mul_le_mul hl (by omega)
   have hs:=srt_len l
   rw [if_neg c2,SortSets_spec l k (by omega) (by omega),bsome];exact ⟨_,_,_,rfl,j10,by omega⟩
end Go.Proofs.YtekegbacnagbcaaGreat.D3
/- What is asked of a matroid: what the printed functions come to. -/
namespace Go.Proofs.YtekegbacnagbcaaGreat.L
open Go.RowKit Go.Proofs.YtekegbacnagbcaaGreatW.PrintWords Go.Proofs.YtekegbacnagbcaaGreatW.PrintMore Go.Proofs.YtekegbacnagbcaaGreat.P Go.Proofs.YtekegbacnagbcaaGreat.B
theorem mat_fam {n:Int} {xs:List Int} (h:mat n xs=true):Fam n xs∧0<xs.length∧(fail n xs).2.2.2=false:=by
 unfold mat at h;simp only [Bool.and_eq_true,decide_eq_true_eq,Bool.not_eq_true'] at h
 exact ⟨(fam_iff n xs).mp h.1,h.2.1,h.2.2⟩
theorem cnt_nat {x:Nat} (h:x<256):cnt (x:Int)=((Mt.card x:Nat):Int):=by
 unfold cnt;rw [if_pos (by unfold any;exact decide_eq_true (by omega)),Int.toNat_natCast]
theorem fullSet_nat {n:Int} (h0:0≤n) (h8:n≤8):fullSet n=((2 ^ n.toNat - 1:Nat):Int):=by
 unfold fullSet;rw [if_pos ⟨h0,h8⟩];have:=pow_le8 (show n.toNat≤8 by omega);have:=pow_cast n.toNat;omega
theorem land_small {x y:Nat} (h:x<256):x &&& y<256:=Mt.small_sub (Mt.sub_and_left x y) h
def diffAll (xs:List Int):Nat→Nat→Nat→Nat
 | 0,_,s=>s
 | d+1,i,s=>diffAll xs d (i+1) (Mt.diff s (X xs i))
def loops (n:Int) (xs:List Int):Int:=if mat n xs=true then ((diffAll xs xs.length 0 (2 ^ n.toNat - 1):Nat):Int) else 0
def rkFrom (xs:List Int) (s:Nat):Nat→Nat→Nat→Nat
 | 0,_,r=>r
 | d+1,i,r=>rkFrom xs s d (i+1) (max r (Mt.card (X xs i &&& s)))
def rk (xs:List Int) (s:Nat):Nat:=rkFrom xs s xs.length 0 0
theorem rkFrom_iff (xs:List Int) (s:Nat):∀ d i r,(rkFrom xs s d i r=r∨∃ j,i≤j∧j<i+d∧rkFrom xs s d i r=Mt.card (X xs j &&& s))∧r≤rkFrom xs s d i r∧∀ j,i≤j→j<i+d→Mt.card (X xs j &&& s)≤rkFrom xs s d i r:=by
 intro d
 induction d with
 | zero=>intro i r;exact ⟨.inl rfl,Nat.le_refl _,fun j a b=>by omega⟩
 | succ d ih =>
  intro i r;simp only [rkFrom]
  obtain ⟨h1,h2,h3⟩:=ih (i+1) (max r (Mt.card (X xs i &&& s)))
  refine ⟨?_,by omega,fun j a b=>?_⟩
  ·rcases h1 with h1|⟨j,a,b,c⟩
   ·rw [h1]
    by_cases q:r≤Mt.card (X xs i &&& s)
    ·exact .inr ⟨i,Nat.le_refl _,by omega,by omega⟩
    ·exact .inl (by omega)
   ·exact .inr ⟨j,by omega,by omega,c⟩
  ·by_cases e:j=i
   ·subst e;omega
   ·exact h3 j (by omega) (by omega)
theorem rk_iff {xs:List Int} (h:0<xs.length) (s:Nat):(∃ j,j<xs.length∧Mt.card (X xs j &&& s)=rk xs s)∧∀ j,j<xs.length→Mt.card (X xs j &&& s)≤rk xs s:=by
 obtain ⟨h1,h2,h3⟩:=rkFrom_iff xs s xs.length 0 0
 refine ⟨?_,fun j hj=>h3 j (Nat.zero_le _) (by omega)⟩
 rcases h1 with h1|⟨j,_,b,c⟩
 ·refine ⟨0,h,?_⟩
  have:=h3 0 (Nat.le_refl _) (by omega);unfold rk;omega
 ·exact ⟨j,by omega,c.symm⟩
theorem l5Rank_l0 {n:Int} {xs:List Int} (F:Fam n xs) (s:Nat) (hs:s<256):∀ d k i r:Nat,i+d=xs.length→d+10<k→spec_l5Rank.l0 k (s:Int) (r:Int) (i:Int) n xs=some ((rkFrom xs s d i r:Nat):Int):=by
 have hl:=F.len
 intro d
 induction d with
 | zero =>
  intro k i r h hk;obtain ⟨k,rfl⟩:=pos (show 0<k by omega)
  simp only [spec_l5Rank.l0];rw [if_neg (by omega)];rfl
 | succ d ih =>
  intro k i r h hk;obtain ⟨k,rfl⟩:=pos (show 0<k by omega)
  have h1:=F.X i
  simp only [spec_l5Rank.l0,rkFrom];rw [if_pos (by omega),if_pos (by omega),h1.1,and_nat _ _ (by omega) (by omega),CountOf_spec _ k (by omega),cnt_nat (land_small h1.2.2),w1 (by omega)];simp only [Option.bind_some]
  have e:spec_l1Max.f (r:Int) ((Mt.card (X xs i &&& s):Nat):Int)=some ((max r (Mt.card (X xs i &&& s)):Nat):Int):=by
   unfold spec_l1Max.f;split<;>congr 1<;>omega
  rw [e];simp only [Option.bind_some]
  exact ih k (i+1) _ (by omega) (by omega)
theorem l5Rank_eq {n:Int} {xs:List Int} (F:Fam n xs) (s k:Nat) (hs:s<256) (hk:300≤k):spec_l5Rank.f k n xs (s:Int)=some ((rk xs s:Nat):Int):=by
 have hl:=F.len;unfold spec_l5Rank.f rk
 exact l5Rank_l0 F s hs xs.length k 0 0 (Nat.zero_add _) (by omega)
theorem independent_l0 (xs:List Int) (s:Int) (hn:xs.length<2000000):∀ d k i:Nat,i+d=xs.length→d<k→impl_independent.l0 k s xs (xs.length:Int) (i:Int)=some (anyFrom (fun i=>subB s (rd xs (i:Int))) i d):=by
 intro d
 induction d with
 | zero =>
  intro k i h hk;obtain ⟨k,rfl⟩:=pos (show 0<k by omega)
  simp only [impl_independent.l0];rw [if_neg (by omega)];rfl
 | succ d ih =>
  intro k i h hk;obtain ⟨k,rfl⟩:=pos (show 0<k by omega)
  simp only [impl_independent.l0,anyFrom];rw [if_pos (by omega),if_pos (by omega),if_pos (by omega),IsSubset_impl,w1 (by omega)];simp only [Option.bind_some]
  cases hq:subB s (rd xs (i:Int))
  ·rw [if_neg (by simp),ih k (i+1) (by omega) (by omega),Bool.false_or]
  ·rw [if_pos rfl,Bool.true_or]
theorem independent_eq (n:Int) (xs:List Int) (s:Int) (k:Nat) (hn:xs.length<2000000) (hk:xs.length<k):impl_independent.f k n xs s=some (anyFrom (fun i=>subB s (rd xs (i:Int))) 0 xs.length):=by
 unfold impl_independent.f;exact independent_l0 xs s hn xs.length k 0 (Nat.zero_add _) hk
theorem subB_iff {n:Int} {xs:List Int} (F:Fam n xs) {s:Int} (i:Nat):subB s (rd xs (i:Int))=true↔0≤s∧Mt.Sub s.toNat (X xs i):=by
 have h1:=F.X i
 unfold subB;simp only [Bool.and_eq_true,decide_eq_true_eq,beq_iff_eq]
 rw [h1.1,Int.toNat_natCast]
 constructor
 ·rintro ⟨h2,h3⟩;refine ⟨h2.1,fun j hj=>?_⟩
  rw [← h3] at hj;exact ((Mt.in_and _ _ j).mp hj).2
 ·rintro ⟨h2,h3⟩
  have:=Mt.small_sub h3 h1.2.2
  refine ⟨⟨h2,by omega,by omega,by omega⟩,Mt.ext fun j=>?_⟩
  rw [Mt.in_and];exact ⟨fun q=>q.1,fun q=>⟨q,h3 j q⟩⟩
theorem two_small {i:Nat} (h:i<8):2 ^ i<256:=by have:=Mt.small_ins (show 0<256 by omega) h;unfold Mt.ins at this;rw [Nat.zero_or] at this;exact this
def ciFrom (xs:List Int) (a e:Nat):Nat→Nat→Nat→Nat
 | 0,_,acc=>acc
 | d+1,f,acc=>ciFrom xs a e d (f+1) (if a.testBit f=true∧((Mt.ins (Mt.del a f) e:Nat):Int) ∈ xs then Mt.ins acc f else acc)
theorem ciFrom_in (xs:List Int) (a e:Nat):∀ d i acc j,Mt.In j (ciFrom xs a e d i acc)↔Mt.In j acc∨(i≤j∧j<i+d∧a.testBit j=true∧((Mt.ins (Mt.del a j) e:Nat):Int) ∈ xs):=by
 intro d
 induction d with
 | zero=>intro i acc j;simp only [ciFrom];exact ⟨.inl,fun h=>h.elim id (fun q=>by omega)⟩
 | succ d ih =>
  intro i acc j;simp only [ciFrom];rw [ih]
  constructor
  ·rintro (h|⟨h1,h2,h3⟩)
   ·by_cases q:a.testBit i=true∧((Mt.ins (Mt.del a i) e:Nat):Int) ∈ xs
    ·rw [if_pos q] at h
     rcases (Mt.in_ins _ _ j).mp h with h|h
     ·exact .inl h
     ·subst h;exact .inr ⟨Nat.le_refl _,by omega,q⟩
    ·rw [if_neg q] at h;exact .inl h
   ·exact .inr ⟨by omega,by omega,h3⟩
  ·rintro (h|⟨h1,h2,h3⟩)
   ·left;split
    ·exact (Mt.in_ins _ _ j).mpr (.inl h)
    ·exact h
   ·by_cases q:j=i
    ·subst q;left;rw [if_pos h3];exact Mt.in_ins_self _ _
    ·exact .inr ⟨by omega,by omega,h3⟩
def circ (xs:List Int) (a e:Nat):Nat:=ciFrom xs a e 8 0 (2 ^ e)
def ciL (xs:List Int) (a e:Nat):List Int→Nat→Nat
 | [],acc=>acc
 | y :: ys,acc=>ciL xs a e ys (if ((Mt.ins (Mt.del a y.toNat) e:Nat):Int) ∈ xs then Mt.ins acc y.toNat else acc)
theorem ciL_elems (xs:List Int) {a:Nat} (ha:a<256) (e:Nat):∀ d i acc,i+d≤8→ciL xs a e (elemsFrom (a:Int) i d) acc=ciFrom xs a e d i acc:=by
 intro d
 induction d with
 | zero=>intro i acc h;rfl
 | succ d ih =>
  intro i acc h;simp only [elemsFrom,ciFrom]
  rw [hasE_nat a i ha (by omega)]
  by_cases q:a.testBit i=true
  ·rw [if_pos q];simp only [ciL];rw [ih (i+1) _ (by omega),Int.toNat_natCast]
   by_cases m:((Mt.ins (Mt.del a i) e:Nat):Int) ∈ xs
   ·rw [if_pos m,if_pos ⟨q,m⟩]
   ·rw [if_neg m,if_neg (fun z=>m z.2)]
  ·rw [if_neg q,if_neg (fun z=>q z.1),ih (i+1) _ (by omega)]
def circOf (n:Int) (xs:List Int) (a e:Int):Int:=if mat n xs=true∧a ∈ xs∧(0≤e∧e<n)∧a.toNat.testBit e.toNat=false then ((circ xs a.toNat e.toNat:Nat):Int) else 0
theorem CircuitOf_spec_l0 {n:Int} {xs:List Int} (F:Fam n xs) (a e:Nat) (ha:a<256) (he:e<8) (hae:a.testBit e=false):∀ d k f acc:Nat,f+d=n.toNat→d+xs.length+1<k→acc<256→(∀ j,f≤j→a.testBit j=true→acc.testBit j=false) →
  spec_CircuitOf.l0 k (a:Int) (e:Int) (acc:Int) (f:Int) n xs=some ((ciFrom xs a e d f acc:Nat):Int):=by
 have hn:=F.nn;have hn8:=F.le8;have hl:=F.len
 intro d
 induction d with
 | zero =>
  intro k f acc h hk hc hacc;obtain ⟨k,rfl⟩:=pos (show 0<k by omega)
  simp only [spec_CircuitOf.l0];rw [if_neg (by omega)];rfl
 | succ d ih =>
  intro k f acc h hk hc hacc;obtain ⟨k,rfl⟩:=pos (show 0<k by omega)
  simp only [spec_CircuitOf.l0,ciFrom];rw [if_pos (by omega),l2Has_eq a f (by omega) (by omega),u64e (show f<64 by omega),u64e (show e<64 by omega),shl_one f (by omega),shl_one e (by omega),w1 (by omega)];simp only [Option.bind_some]
  by_cases q:a.testBit f=true
  ·have e1:=ins_add hc (show f<8 by omega) (hacc f (Nat.le_refl _) q)
   have e3:=Mt.small_ins hc (show f<8 by omega)
   have e2:wrap64 ((acc:Int)+((2 ^ f:Nat):Int))=((Mt.ins acc f:Nat):Int):=by
    generalize 2 ^ f=p at *;rw [w64 _ (by omega) (by omega)];omega
   rw [if_pos q,if_pos (by omega),if_pos (by omega),swap_eq ha (by omega) he q hae,HasSet_spec_k _ _ k (by omega) (by omega),e2];simp only [Option.bind_some]
   by_cases m:((Mt.ins (Mt.del a f) e:Nat):Int) ∈ xs
   ·rw [if_pos (decide_eq_true m),if_pos ⟨q,m⟩]
    refine ih k (f+1) _ (by omega) (by omega) e3 (fun j hj haj=>bnot_false fun z=>?_)
    rcases (Mt.in_ins acc f j).mp z with z|z
    ·unfold Mt.In at z;rw [hacc j (by omega) haj] at z;cases z
    ·omega
   ·rw [if_neg (by simpa using m),if_neg (fun z=>m z.2)]
    exact ih k (f+1) _ (by omega) (by omega) hc (fun j hj haj=>hacc j (by omega) haj)
  ·rw [if_neg q,if_neg (fun z=>q z.1)]
   exact ih k (f+1) _ (by omega) (by omega) hc (fun j hj haj=>hacc j (by omega) haj)
theorem CircuitOf_spec (n:Int) (xs:List Int) (a e:Int) (k:Nat) (hn:xs.length<2000000) (hk:2000001≤k):spec_CircuitOf.f k n xs a e=some (circOf n xs a e):=by
 unfold spec_CircuitOf.f;obtain ⟨k,rfl⟩:=pos (show 0<k by omega)
 rw [IsMatroid_spec n xs (k+1) hn (by omega),HasSet_spec_k xs a (k+1) (by omega) (by omega)];simp only [Option.bind_some]
 have j0t:spec_CircuitOf.j0 (k+1) a e true n xs=some 0:=by simp only [spec_CircuitOf.j0];rw [if_pos trivial]
 unfold circOf
 by_cases h:mat n xs=true
 ·have F:=(mat_fam h).1;have hp:=F.n8;have hp0:=F.n0
  rw [if_pos h]
  by_cases m:a ∈ xs
  ·have hs:=F.small m
   have hs2:=F.set a m
   have hpw:=pow_cast n.toNat
   rw [if_pos (decide_eq_true m),w64 (n - 1) (by omega) (by omega),l1In_eq];simp only [Option.bind_some]
   by_cases r:0≤e∧e<n
   ·obtain ⟨x,rfl⟩:=nat_of hs.1;obtain ⟨y,rfl⟩:=nat_of r.1
    rw [if_pos (decide_eq_true (by omega)),l2Has_eq x y (by omega) (by omega)];simp only [Option.bind_some,spec_CircuitOf.j0,Int.toNat_natCast]
    by_cases q:x.testBit y=true
    ·rw [if_pos q,if_neg (fun z=>by rw [z.2.2.2] at q;cases q)]
    ·have hq:=bnot_false q
     rw [if_neg q,u64e (show y<64 by omega),if_pos (by omega),shl_one y (by omega),if_pos ⟨h,m,r,hq⟩]
     refine (CircuitOf_spec_l0 F x y (by omega) (by omega) hq n.toNat k 0 (2 ^ y) (Nat.zero_add _) (by have:=F.len;omega) (two_small (by omega)) (fun j _ hj=>bnot_false fun z=>?_)).trans ?_
     ·have:=(Mt.in_two y j).mp z;subst this;rw [hq] at hj;cases hj
     ·refine congrArg (fun z:Nat=>some (z:Int)) (Mt.ext fun j=>?_)
      unfold circ;rw [ciFrom_in,ciFrom_in]
      constructor
      ·rintro (z|⟨z1,z2,z3⟩)
       ·exact .inl z
       ·exact .inr ⟨z1,by omega,z3⟩
      ·rintro (z|⟨z1,z2,z3⟩)
       ·exact .inl z
       ·exact .inr ⟨z1,by have:=bit_lt (show x<2 ^ n.toNat by omega) z3.1;omega,z3⟩
   ·rw [if_neg (by simp;omega),if_neg (fun z=>r z.2.2.1),j0t]
  ·rw [if_neg (by simpa using m),if_neg (fun z=>m z.2.1),j0t]
 ·rw [if_neg h,if_neg (fun z=>h z.1),j0t]
theorem circuit_l0 {n:Int} {xs:List Int} (F:Fam n xs) (a e:Nat) (ha:a<256) (he:e<8) (es:List Int) (hes:∀ y ∈ es,0≤y∧y<8) (hel:es.length≤8):∀ d k t acc:Nat,t+d=es.length→d+xs.length+1<k→acc<256 →
  impl_circuit.l0 k (a:Int) (e:Int) (acc:Int) es (es.length:Int) (t:Int) n xs=some ((ciL xs a e (es.drop t) acc:Nat):Int):=by
 have hl:=F.len
 intro d
 induction d with
 | zero =>
  intro k t acc h hk hc;obtain ⟨k,rfl⟩:=pos (show 0<k by omega)
  simp only [impl_circuit.l0];rw [if_neg (by omega),List.drop_eq_nil_of_le (by omega)];rfl
 | succ d ih =>
  intro k t acc h hk hc;obtain ⟨k,rfl⟩:=pos (show 0<k by omega)
  have ht:t<es.length:=by omega
  have hr:=hes _ (rd_mem ht)
  obtain ⟨f,hf⟩:=nat_of hr.1
  have ds:=del_small ha (e:=f)
  simp only [impl_circuit.l0];rw [if_pos (by omega),if_pos (by omega),if_pos (by omega),if_pos (by omega),if_pos (by omega),drop_rd ht,hf,shl_one f (by omega),shl_one e (by omega),andNot_nat a (2 ^ f) (by omega) (pow_small (by omega)),show Mt.diff a (2 ^ f)=Mt.del a f from rfl,or_nat (Mt.del a f) (2 ^ e) (Nat.lt_of_lt_of_le ds (by omega)) (pow_small he),show Mt.del a f ||| 2 ^ e=Mt.ins (Mt.del a f) e from rfl,or_nat acc (2 ^ f) (by omega) (pow_small (by omega)),show acc ||| 2 ^ f=Mt.ins acc f from rfl,HasSet_impl_k _ _ k (by omega) (by omega),w1 (by omega)];simp only [Option.bind_some,ciL,Int.toNat_natCast]
  by_cases m:((Mt.ins (Mt.del a f) e:Nat):Int) ∈ xs
  ·rw [if_pos (decide_eq_true m),if_pos m];exact ih k (t+1) _ (by omega) (by omega) (Mt.small_ins hc (by omega))
  ·rw [if_neg (show ¬ decide (((Mt.ins (Mt.del a f) e:Nat):Int) ∈ xs)=true by simpa using m),if_neg m];exact ih k (t+1) _ (by omega) (by omega) hc
theorem circuit_eq {n:Int} {xs:List Int} (F:Fam n xs) (a e:Nat) (ha:a<256) (he:e<8) (k:Nat) (hk:300≤k):impl_circuit.f k n xs (a:Int) (e:Int)=some ((circ xs a e:Nat):Int):=by
 have hl:=F.len;have hel:=elems_length (a:Int)
 unfold impl_circuit.f;rw [if_pos (by omega),ElementsOf_impl _ k (by omega),shl_one e (by omega)];simp only [Option.bind_some]
 have key:=circuit_l0 F a e ha he (elems (a:Int)) (fun y hy=>elems_range hy) hel _ k 0 (2 ^ e) (Nat.zero_add _) (by omega) (two_small he)
 rw [List.drop_zero] at key
 have k2:=ciL_elems xs ha e 8 0 (2 ^ e) (by omega)
 unfold circ;rw [← k2];exact key
theorem CircuitOf_impl (n:Int) (xs:List Int) (a e:Int) (k:Nat) (hn:xs.length<2000000) (hk:2000000≤k):impl_CircuitOf.f k n xs a e=some (circOf n xs a e):=by
 unfold impl_CircuitOf.f
 rw [IsMatroid_impl n xs k hn (by omega),HasSet_impl_k xs a k (by omega) (by omega),HasElement_impl];simp only [Option.bind_some]
 unfold circOf
 by_cases h:mat n xs=true
 ·have F:=(mat_fam h).1;have hp:=F.n8;have hp0:=F.n0
  rw [if_pos h]
  by_cases m:a ∈ xs
  ·have hs:=F.small m
   rw [if_pos (decide_eq_true m)]
   by_cases r:0≤e∧e<n
   ·obtain ⟨x,rfl⟩:=nat_of hs.1;obtain ⟨y,rfl⟩:=nat_of r.1
    rw [if_neg (by omega),if_neg (by omega),hasE_nat x y (by omega) (by omega)];simp only [Int.toNat_natCast]
    by_cases q:x.testBit y=true
    ·rw [if_pos q,if_neg (fun z=>by rw [z.2.2.2] at q;cases q)]
    ·rw [if_neg q,if_pos ⟨h,m,r,bnot_false q⟩,circuit_eq F x y (by omega) (by omega) k (by omega)];rfl
   ·by_cases r0:e<0
    ·rw [if_pos r0,if_neg (fun z=>r z.2.2.1)]
    ·rw [if_neg r0,if_pos (by omega),if_neg (fun z=>r z.2.2.1)]
  ·rw [if_neg (by simpa using m),if_neg (fun z=>m z.2.1)]
 ·rw [if_neg h,if_neg (fun z=>h z.1)]
end Go.Proofs.YtekegbacnagbcaaGreat.L
/- The sets of n elements of which something holds: what the printed loops come to. -/
namespace Go.Proofs.YtekegbacnagbcaaGreat.L
open Go.RowKit Go.Proofs.YtekegbacnagbcaaGreatW.PrintWords Go.Proofs.YtekegbacnagbcaaGreatW.PrintMore Go.Proofs.YtekegbacnagbcaaGreat.P Go.Proofs.YtekegbacnagbcaaGreat.B
def setsFrom (q:Nat→Bool):Nat→Nat→List Int
 | _,0=>[]
 | i,d+1=>if q i=true then (i:Int) :: setsFrom q (i+1) d else setsFrom q (i+1) d
theorem setsFrom_len (q:Nat→Bool):∀ d i,(setsFrom q i d).length≤d:=by
 intro d
 induction d with
 | zero=>intro i;exact Nat.le_refl _
 | succ d ih =>
  intro i;simp only [setsFrom];have:=ih (i+1)
  split
  ·simp only [List.length_cons];omega
  ·omega
theorem setsFrom_mem (q:Nat→Bool) (x:Int):∀ d i,x ∈ setsFrom q i d↔∃ j:Nat,x=j∧i≤j∧j<i+d∧q j=true:=by
 intro d
 induction d with
 | zero=>intro i;simp only [setsFrom,List.not_mem_nil,false_iff];rintro ⟨j,_,a,b,_⟩;omega
 | succ d ih =>
  intro i;simp only [setsFrom]
  by_cases h:q i=true
  ·rw [if_pos h,List.mem_cons,ih]
   constructor
   ·rintro (e|⟨j,e,a,b,c⟩)
    ·exact ⟨i,e,Nat.le_refl _,by omega,h⟩
    ·exact ⟨j,e,by omega,by omega,c⟩
   ·rintro ⟨j,e,a,b,c⟩
    by_cases z:j=i
    ·subst z;exact .inl e
    ·exact .inr ⟨j,e,by omega,by omega,c⟩
  ·rw [if_neg h,ih]
   constructor
   ·rintro ⟨j,e,a,b,c⟩;exact ⟨j,e,by omega,by omega,c⟩
   ·rintro ⟨j,e,a,b,c⟩
    have:j≠i:=fun z=>h (z ▸ c)
    exact ⟨j,e,by omega,by omega,c⟩
def sets (n:Int) (q:Nat→Bool):List Int:=setsFrom q 0 (2 ^ n.toNat)
theorem sets_len {n:Int} (h0:0≤n) (h8:n≤8) (q:Nat→Bool):(sets n q).length≤256:=by
 have:=setsFrom_len q (2 ^ n.toNat) 0;have:=pow_le8 (show n.toNat≤8 by omega);unfold sets;omega
theorem setsL_eq {n:Int} (h0:0≤n) (h8:n≤8) (p:Int→Option Bool) (q:Nat→Bool) (hp:∀ j:Nat,j<2 ^ n.toNat→p (j:Int)=some (q j)):∀ d k i:Nat,∀ out:List Int,i+d=2 ^ n.toNat→d<k→out.length≤i→setsL n p k out (i:Int)=some (out++setsFrom q i d):=by
 have hw:=pow_le8 (show n.toNat≤8 by omega)
 intro d
 induction d with
 | zero =>
  intro k i out h hk ho;obtain ⟨k,rfl⟩:=pos (show 0<k by omega)
  simp only [setsL];rw [FullSet_impl,fullSet_nat h0 h8];simp only [Option.bind_some];rw [if_neg (by omega)];simp [setsFrom]
 | succ d ih =>
  intro k i out h hk ho;obtain ⟨k,rfl⟩:=pos (show 0<k by omega)
  simp only [setsL];rw [FullSet_impl,fullSet_nat h0 h8,hp i (by omega)];simp only [Option.bind_some,setsFrom];rw [if_pos (by omega),w1 (by omega)]
  by_cases hq:q i=true
  ·rw [if_pos hq,if_pos hq,if_pos (by omega),ih k (i+1) _ (by omega) (by omega) (by rw [List.length_append,List.length_singleton];omega)];simp
  ·rw [if_neg hq,if_neg hq,ih k (i+1) _ (by omega) (by omega) (by omega)]
theorem setsL_sets {n:Int} (h0:0≤n) (h8:n≤8) (p:Int→Option Bool) (q:Nat→Bool) (hp:∀ j:Nat,j<2 ^ n.toNat→p (j:Int)=some (q j)) (k:Nat) (hk:257≤k):setsL n p k [] 0=some (sets n q):=by
 have hw:=pow_le8 (show n.toNat≤8 by omega)
 exact setsL_eq h0 h8 p q hp (2 ^ n.toNat) k 0 [] (Nat.zero_add _) (by omega) (Nat.zero_le _)
def uni (r n:Int):Int × List Int:=if (0≤n∧n≤8)∧0≤r∧r≤n then (n,sets n fun s=>decide (((Mt.card s:Nat):Int)=r)) else (0,[])
theorem Uniform_spec_l0 {n:Int} (r:Int) (h0:0≤n) (h8:n≤8):∀ d k i:Nat,∀ out:List Int,i+d=2 ^ n.toNat→d+10<k→out.length≤i→spec_Uniform.l0 k r n (i:Int) n out=some (n,out++setsFrom (fun s=>decide (((Mt.card s:Nat):Int)=r)) i d):=by
 have hw:=pow_le8 (show n.toNat≤8 by omega)
 intro d
 induction d with
 | zero =>
  intro k i out h hk ho;obtain ⟨k,rfl⟩:=pos (show 0<k by omega)
  simp only [spec_Uniform.l0];rw [FullSet_spec,fullSet_nat h0 h8];simp only [Option.bind_some];rw [if_neg (by omega)];simp [setsFrom]
 | succ d ih =>
  intro k i out h hk ho;obtain ⟨k,rfl⟩:=pos (show 0<k by omega)
  simp only [spec_Uniform.l0];rw [FullSet_spec,fullSet_nat h0 h8,CountOf_spec _ k (by omega),cnt_nat (by omega)];simp only [Option.bind_some,setsFrom,decide_eq_true_eq];rw [if_pos (by omega),w1 (by omega)]
  by_cases hq:((Mt.card i:Nat):Int)=r
  ·rw [if_pos hq,if_pos hq,if_pos (by omega),ih k (i+1) _ (by omega) (by omega) (by rw [List.length_append,List.length_singleton];omega)];simp
  ·rw [if_neg hq,if_neg hq,ih k (i+1) _ (by omega) (by omega) (by omega)]
theorem Uniform_spec (r n:Int) (k:Nat) (hk:300≤k):spec_Uniform.f k r n=some (uni r n):=by
 unfold spec_Uniform.f uni;rw [l1In_eq,l1In_eq];simp only [Option.bind_some];obtain ⟨k,rfl⟩:=pos (show 0<k by omega)
 simp only [spec_Uniform.j0,decide_eq_true_eq]
 by_cases h:0≤n∧n≤8
 ·rw [if_pos h]
  by_cases hr:0≤r∧r≤n
  ·have hw:=pow_le8 (show n.toNat≤8 by omega)
   rw [decide_eq_true hr,if_neg (by simp),if_pos ⟨h,hr⟩]
   exact Uniform_spec_l0 r h.1 h.2 (2 ^ n.toNat) k 0 [] (Nat.zero_add _) (by omega) (Nat.zero_le _)
  ·rw [decide_eq_false hr,if_pos (by simp),if_neg (fun z=>hr z.2)]
 ·rw [if_neg h,if_pos trivial,if_neg (fun z=>h z.1)]
theorem uni_len (r n:Int):(uni r n).2.length≤256:=by
 unfold uni;split
 ·rename_i h;exact sets_len h.1.1 h.1.2 _
 ·exact Nat.zero_le _
end Go.Proofs.YtekegbacnagbcaaGreat.L
/- Independent sets of a matroid: what the printed functions come to. -/
namespace Go.Proofs.YtekegbacnagbcaaGreat.L
open Go.RowKit Go.Proofs.YtekegbacnagbcaaGreatW.PrintWords Go.Proofs.YtekegbacnagbcaaGreatW.PrintMore Go.Proofs.YtekegbacnagbcaaGreat.P Go.Proofs.YtekegbacnagbcaaGreat.B
def indN (xs:List Int) (s:Nat):Bool:=anyFrom (fun i=>subB (s:Int) (rd xs (i:Int))) 0 xs.length
theorem indN_iff {n:Int} {xs:List Int} (F:Fam n xs) (s:Nat):indN xs s=true↔∃ i,i<xs.length∧Mt.Sub s (X xs i):=by
 unfold indN;rw [anyFrom_iff]
 constructor
 ·rintro ⟨i,_,hi,h⟩
  have:=(subB_iff F i).mp h
  rw [Int.toNat_natCast] at this
  exact ⟨i,by omega,this.2⟩
 ·rintro ⟨i,hi,h⟩
  exact ⟨i,Nat.zero_le _,by omega,(subB_iff F i).mpr ⟨by omega,by rw [Int.toNat_natCast];exact h⟩⟩
theorem rk_le {xs:List Int} (h0:0<xs.length) (s:Nat):rk xs s≤Mt.card s:=by
 obtain ⟨⟨j,hj,e⟩,_⟩:=rk_iff h0 s
 rw [← e];exact Mt.card_mono (Mt.sub_and_right _ _)
theorem rk_card {n:Int} {xs:List Int} (F:Fam n xs) (h0:0<xs.length) {s:Nat} (hs:s<256):rk xs s=Mt.card s↔indN xs s=true:=by
 rw [indN_iff F]
 obtain ⟨⟨j,hj,e⟩,hr⟩:=rk_iff h0 s
 constructor
 ·intro h
  have:=Mt.card_eq (Mt.sub_and_right (X xs j) s) hs (by omega)
  refine ⟨j,hj,fun i hi=>?_⟩
  rw [← this] at hi;exact ((Mt.in_and _ _ i).mp hi).1
 ·rintro ⟨i,hi,h⟩
  have e1:X xs i &&& s=s:=Mt.ext fun j=>by
   rw [Mt.in_and];exact ⟨fun q=>q.2,fun q=>⟨h j q,q⟩⟩
  have h1:=hr i hi;rw [e1] at h1
  have h2:=rk_le h0 s
  omega
end Go.Proofs.YtekegbacnagbcaaGreat.L
/- Families of sets as lists of natural numbers: matroids and circuits in the sense of the plain theory. -/
namespace Go.Proofs.YtekegbacnagbcaaGreat.L
open Go.RowKit Go.Proofs.YtekegbacnagbcaaGreatW.PrintWords Go.Proofs.YtekegbacnagbcaaGreatW.PrintMore Go.Proofs.YtekegbacnagbcaaGreat.P Go.Proofs.YtekegbacnagbcaaGreat.B
def NB (xs:List Int):List Nat:=xs.map Int.toNat
theorem mem_NB {n:Int} {xs:List Int} (F:Fam n xs) (s:Nat):s ∈ NB xs↔(s:Int) ∈ xs:=by
 unfold NB;rw [List.mem_map]
 constructor
 ·rintro ⟨x,hx,rfl⟩
  have:=(F.set x hx).1
  rw [Int.toNat_of_nonneg this];exact hx
 ·intro h;exact ⟨_,h,Int.toNat_natCast s⟩
theorem NB_X {n:Int} {xs:List Int} (F:Fam n xs) {s:Nat}:s ∈ NB xs↔∃ i,i<xs.length∧X xs i=s:=by
 rw [mem_NB F]
 constructor
 ·intro h;obtain ⟨j,hj,e⟩:=mem_rd h;exact ⟨j,hj,by unfold X;rw [e];exact Int.toNat_natCast s⟩
 ·rintro ⟨i,hi,rfl⟩;have:=rd_mem hi;rw [(F.X i).1] at this;exact this
theorem lt_bits {m s:Nat}:s<2 ^ m↔∀ i,Mt.In i s→i<m :=
 ⟨fun h i hi=>bit_lt h hi,fun h=>Nat.lt_pow_two_of_testBit s fun i hi=>bnot_false fun q=>by have:=h i q;omega⟩
theorem exB_iff (xs:List Int) (a b e:Nat):exB xs a b e=true↔∃ f,f<8∧Mt.In f b∧¬ Mt.In f a∧((Mt.ins (Mt.del a e) f:Nat):Int) ∈ xs:=by
 unfold exB;rw [anyFrom_iff]
 constructor
 ·rintro ⟨f,_,hf,h⟩
  simp only [Bool.and_eq_true,decide_eq_true_eq,Bool.not_eq_true'] at h
  exact ⟨f,by omega,h.1.1,fun q=>(by unfold Mt.In at q;rw [h.1.2] at q;cases q),h.2⟩
 ·rintro ⟨f,hf,h1,h2,h3⟩
  refine ⟨f,Nat.zero_le _,by omega,?_⟩
  simp only [Bool.and_eq_true,decide_eq_true_eq,Bool.not_eq_true']
  exact ⟨⟨h1,bnot_false h2⟩,h3⟩
theorem fail_iff {n:Int} {xs:List Int} (F:Fam n xs):(fail n xs).2.2.2=false↔∀ i,i<xs.length→∀ j,j<xs.length→∀ e,e<n.toNat→failE xs (X xs i) (X xs j) e=none:=by
 unfold fail;rw [if_pos ((fam_iff n xs).mpr F)]
 have key:scan (failA n xs) 0 xs.length=none↔∀ i,i<xs.length→∀ j,j<xs.length→∀ e,e<n.toNat→failE xs (X xs i) (X xs j) e=none:=by
  rw [scan_none_iff]
  constructor
  ·intro h i hi j hj e he
   have h1:=h i (Nat.zero_le _) (by omega)
   unfold failA at h1;rw [scan_none_iff] at h1
   have h2:=h1 j (Nat.zero_le _) (by omega)
   unfold failB at h2;rw [scan_none_iff] at h2
   exact h2 e (Nat.zero_le _) (by omega)
  ·intro h i _ hi
   unfold failA;rw [scan_none_iff];intro j _ hj
   unfold failB;rw [scan_none_iff];intro e _ he
   exact h i (by omega) j (by omega) e (by omega)
 rw [← key]
 constructor
 ·intro h
  cases hs:scan (failA n xs) 0 xs.length with
  | none=>rfl
  | some r =>
   rw [hs] at h
   obtain ⟨i,_,_,h1⟩:=scan_some _ _ hs
   unfold failA at h1;obtain ⟨j,_,_,h2⟩:=scan_some _ _ h1
   unfold failB at h2;obtain ⟨e,_,_,h3⟩:=scan_some _ _ h2
   unfold failE at h3;split at h3
   ·cases h3;cases h
   ·cases h3
 ·intro h;rw [h];rfl
theorem mat_iff (n:Int) (xs:List Int):mat n xs=true↔Fam n xs∧Mt.M (NB xs):=by
 constructor
 ·intro h
  obtain ⟨F,h0,hf⟩:=mat_fam h
  rw [fail_iff F] at hf
  refine ⟨F,⟨_,(NB_X F).mpr ⟨0,h0,rfl⟩⟩,fun b hb=>?_,fun a ha b hb e ea eb=>?_⟩
  ·obtain ⟨i,_,rfl⟩:=(NB_X F).mp hb;exact (F.X i).2.2
  ·obtain ⟨i,hi,rfl⟩:=(NB_X F).mp ha
   obtain ⟨j,hj,rfl⟩:=(NB_X F).mp hb
   have h1:=hf i hi j hj e (bit_lt (F.X i).2.1 ea)
   have h2:exB xs (X xs i) (X xs j) e=true:=by
    by_cases q:exB xs (X xs i) (X xs j) e=true
    ·exact q
    ·unfold failE at h1;rw [if_pos ⟨ea,bnot_false eb,bnot_false q⟩] at h1;cases h1
   obtain ⟨f,_,h3,h4,h5⟩:=(exB_iff _ _ _ _).mp h2
   exact ⟨f,h3,h4,(mem_NB F _).mpr h5⟩
 ·rintro ⟨F,m⟩
  unfold mat
  rw [(fam_iff n xs).mpr F,Bool.true_and,Bool.and_eq_true,decide_eq_true_eq,Bool.not_eq_true',fail_iff F]
  constructor
  ·obtain ⟨b,hb⟩:=m.ne
   obtain ⟨i,hi,_⟩:=(NB_X F).mp hb;omega
  ·intro i hi j hj e he
   refine failE_none fun ⟨h1,h2,h3⟩=>?_
   obtain ⟨f,f1,f2,f3⟩:=m.ex _ ((NB_X F).mpr ⟨i,hi,rfl⟩) _ ((NB_X F).mpr ⟨j,hj,rfl⟩) e h1 (fun q=>by unfold Mt.In at q;rw [h2] at q;cases q)
   have h4:=(exB_iff xs (X xs i) (X xs j) e).mpr ⟨f,Mt.in_lt (F.X j).2.2 f1,f1,f2,(mem_NB F _).mp f3⟩
   rw [h3] at h4;cases h4
theorem indN_Indep {n:Int} {xs:List Int} (F:Fam n xs) (s:Nat):indN xs s=true↔Mt.Indep (NB xs) s:=by
 rw [indN_iff F]
 constructor
 ·rintro ⟨i,hi,h⟩;exact ⟨_,(NB_X F).mpr ⟨i,hi,rfl⟩,h⟩
 ·rintro ⟨b,hb,h⟩;obtain ⟨i,hi,rfl⟩:=(NB_X F).mp hb;exact ⟨i,hi,h⟩
theorem sets_mem {n:Int} (q:Nat→Bool) (s:Nat):((s:Nat):Int) ∈ sets n q↔s<2 ^ n.toNat∧q s=true:=by
 unfold sets;rw [setsFrom_mem]
 constructor
 ·rintro ⟨j,e,_,h,hq⟩
  have:s=j:=by omega
  subst this;exact ⟨by omega,hq⟩
 ·rintro ⟨h,hq⟩;exact ⟨s,rfl,Nat.zero_le _,by omega,hq⟩
theorem sets_nat {n:Int} {q:Nat→Bool} {x:Int} (h:x ∈ sets n q):∃ s:Nat,x=s∧s<2 ^ n.toNat∧q s=true:=by
 unfold sets at h;obtain ⟨j,e,_,h,hq⟩:=(setsFrom_mem _ _ _ _).mp h
 exact ⟨j,e,by omega,hq⟩
theorem subN {t s:Nat} (ht:t<256) (hs:s<256):subB (t:Int) (s:Int)=true↔Mt.Sub t s:=by
 unfold subB;rw [decide_eq_true (by omega),Bool.true_and,Int.toNat_natCast,Int.toNat_natCast,beq_iff_eq]
 constructor
 ·intro h j hj;rw [← h] at hj;exact ((Mt.in_and _ _ j).mp hj).2
 ·intro h;refine Mt.ext fun j=>?_;rw [Mt.in_and];exact ⟨fun q=>q.1,fun q=>⟨q,h j q⟩⟩
end Go.Proofs.YtekegbacnagbcaaGreat.L
/- The text of a set, and its reading: what the printed functions come to. -/
namespace Go.Proofs.YtekegbacnagbcaaGreat.L
open Go.RowKit Go.Proofs.YtekegbacnagbcaaGreatW.PrintWords Go.Proofs.YtekegbacnagbcaaGreatW.PrintMore Go.Proofs.YtekegbacnagbcaaGreat.P Go.Proofs.YtekegbacnagbcaaGreat.B
def tbyte (e:Int):UInt8:=UInt8.ofNat (97+e).toNat
def textL (s:Int):List UInt8:=if any s=true then if s=0 then [45] else (elems s).map tbyte else []
def textB (s:Int):ByteArray:=⟨(textL s).toArray⟩
theorem textB_list (s:Int):(textB s).toList=textL s:=by unfold textB;rw [ByteArray.toList_mk]
theorem tbyte_nat {e:Int} (h0:0≤e) (h1:e<8):(tbyte e).toNat=97+e.toNat:=by
 unfold tbyte;rw [UInt8.toNat_ofNat'];omega
theorem tbyte_cases {e:Int} (h0:0≤e) (h1:e<8):(⟨#[97,98,99,100,101,102,103,104]⟩:ByteArray).extract e.toNat (wrap64 (e+1)).toNat=⟨#[tbyte e]⟩:=by
 obtain rfl|rfl|rfl|rfl|rfl|rfl|rfl|rfl:e=0∨e=1∨e=2∨e=3∨e=4∨e=5∨e=6∨e=7:=by omega
 all_goals decide +kernel
theorem mk_append (a b:List UInt8):(⟨a.toArray⟩:ByteArray)++⟨b.toArray⟩=⟨(a++b).toArray⟩:=by
 apply ByteArray.ext;rw [ByteArray.data_append];simp
theorem SetText_spec_l0 (es:List Int) (he:∀ e ∈ es,0≤e∧e<8) (hn:es.length≤8):∀ d k i:Nat,∀ acc:List UInt8,i+d=es.length→d<k→acc.length≤i→spec_SetText.l0 k ⟨acc.toArray⟩ es (i:Int)=some ⟨(acc++(es.drop i).map tbyte).toArray⟩:=by
 intro d
 induction d with
 | zero =>
  intro k i acc h hk hl;obtain ⟨k,rfl⟩:=pos (show 0<k by omega)
  simp only [spec_SetText.l0];rw [if_neg (by omega),List.drop_eq_nil_of_le (by omega)];simp
 | succ d ih =>
  intro k i acc h hk hl;obtain ⟨k,rfl⟩:=pos (show 0<k by omega)
  have hi:i<es.length:=by omega
  have hr:=he _ (rd_mem hi)
  simp only [spec_SetText.l0];rw [tbyte_cases hr.1 hr.2,drop_rd hi,w64 (rd es (i:Int)+1) (by omega) (by omega),if_pos (by omega),if_pos (by omega),if_pos (by omega),if_pos (by omega),if_pos (by omega)]
  have e1:(⟨acc.toArray⟩:ByteArray).size=acc.length:=by simp [ByteArray.size]
  have e2:(⟨#[tbyte (rd es (i:Int))]⟩:ByteArray).size=1:=rfl
  rw [if_pos (by rw [e1,e2];omega),mk_append acc [tbyte (rd es (i:Int))],w1 (by omega),ih k (i+1) _ (by omega) (by omega) (by rw [List.length_append,List.length_singleton];omega)];simp
theorem SetText_spec (s:Int) (k:Nat) (hk:8<k):spec_SetText.f k s=some (textB s):=by
 unfold spec_SetText.f textB textL;rw [IsSet_spec,isSet_8];simp only [Option.bind_some]
 by_cases h:any s=true
 ·rw [if_pos h,if_pos h]
  by_cases h0:s=0
  ·rw [if_pos h0,if_pos h0]
  ·rw [if_neg h0,if_neg h0,ElementsOf_spec s k hk];simp only [Option.bind_some]
   exact SetText_spec_l0 (elems s) (fun e he=>elems_range he) (elems_length s) _ k 0 [] (Nat.zero_add _) (by have:=elems_length s;omega) (by simp)
 ·rw [if_neg h,if_neg h]
theorem some_ite {α:Type} {p:Prop} [Decidable p] (a b:α):(if p then some a else some b)=some (if p then a else b):=by split<;>rfl
def foldS (x:ByteArray):Nat→Nat→Nat→Nat
 | 0,_,s=>s
 | d+1,i,s=>foldS x d (i+1) (if 97≤bt x (i:Int)∧bt x (i:Int)≤104 then Mt.ins s (bt x (i:Int) - 97).toNat else s)
def goodR (x:ByteArray) (f:Nat):Int × Bool:=if textL (f:Int)=x.toList then ((f:Int),true) else (0,false)
def parseR (x:ByteArray) (f:Nat):Int × Bool:=if x.toList=([]:List UInt8) then (0,false) else goodR x f
theorem withE_nat (s y:Nat) (hs:s<256) (hy:y<8):withE (s:Int) (y:Int)=((Mt.ins s y:Nat):Int):=by
 unfold withE;rw [if_pos (by omega),Int.toNat_natCast,Int.toNat_natCast]
theorem ParseSet_spec_good (x:ByteArray) (hx:(x.toList != ([45]:List UInt8))=true) (hn:x.size≤1048576):∀ d k i s:Nat,i+d=x.size→2*d+10<k→s<256→(∀ j,i≤j→j<x.size→97≤bt x (j:Int)∧bt x (j:Int)≤104) →
  spec_ParseSet.l0 k x (s:Int) (i:Int)=some (goodR x (foldS x d i s)):=by
 intro d
 induction d with
 | zero =>
  intro k i s h hk hs hg;obtain ⟨k,rfl⟩:=pos (show 0<k by omega);obtain ⟨k,rfl⟩:=pos (show 0<k by omega)
  simp only [spec_ParseSet.l0];rw [if_neg (by omega)];simp only [spec_ParseSet.j1]
  rw [if_neg (by simp),SetText_spec _ k (by omega)];simp only [Option.bind_some,textB_list,foldS]
  unfold goodR;exact some_ite _ _
 | succ d ih =>
  intro k i s h hk hs hg;obtain ⟨k,rfl⟩:=pos (show 0<k by omega);obtain ⟨k,rfl⟩:=pos (show 0<k by omega)
  have hc:=hg i (Nat.le_refl _) (by omega)
  have hmod:(bt x (i:Int) - 97) % 256=bt x (i:Int) - 97:=Int.emod_eq_of_lt (by omega) (by omega)
  obtain ⟨c,hce⟩:=nat_of (show 0≤bt x (i:Int) - 97 by omega)
  simp only [spec_ParseSet.l0,foldS];rw [if_pos (by omega)];simp only [spec_ParseSet.j1]
  rw [if_pos hx,if_pos (by omega),if_pos (by omega),if_neg (by omega),if_neg (by omega),hmod,WithElement_spec,hce,withE_nat s c hs (by omega)];simp only [Option.bind_some]
  rw [w1 (by omega),if_pos hc,Int.toNat_natCast]
  exact ih k (i+1) _ (by omega) (by omega) (Mt.small_ins hs (by omega)) (fun j h1 h2=>hg j (by omega) h2)
theorem ParseSet_spec_bad (x:ByteArray) (hx:(x.toList != ([45]:List UInt8))=true) (hn:x.size≤1048576):∀ d k i s:Nat,i+d=x.size→2*d+10<k→s<256→(∃ j,i≤j∧j<x.size∧¬ (97≤bt x (j:Int)∧bt x (j:Int)≤104)) →
  spec_ParseSet.l0 k x (s:Int) (i:Int)=some (0,false):=by
 intro d
 induction d with
 | zero=>intro k i s h hk hs ⟨j,h1,h2,_⟩;omega
 | succ d ih =>
  intro k i s h hk hs ⟨j,h1,h2,h3⟩;obtain ⟨k,rfl⟩:=pos (show 0<k by omega);obtain ⟨k,rfl⟩:=pos (show 0<k by omega)
  simp only [spec_ParseSet.l0];rw [if_pos (by omega)];simp only [spec_ParseSet.j1]
  rw [if_pos hx,if_pos (by omega),if_pos (by omega)]
  by_cases hc:bt x (i:Int)<97
  ·rw [if_pos hc]
  ·by_cases hc2:bt x (i:Int)>104
   ·rw [if_neg hc,if_pos hc2]
   ·have hij:j≠i:=fun q=>h3 (q ▸ ⟨by omega,by omega⟩)
    obtain ⟨c,hce⟩:=nat_of (show 0≤bt x (i:Int) - 97 by omega)
    rw [if_neg hc,if_neg hc2,Int.emod_eq_of_lt (by omega) (by omega),WithElement_spec,hce,withE_nat s c hs (by omega)];simp only [Option.bind_some]
    rw [w1 (by omega)]
    exact ih k (i+1) _ (by omega) (by omega) (Mt.small_ins hs (by omega)) ⟨j,by omega,h2,h3⟩
theorem ParseSet_spec_dash (x:ByteArray) (hx:x.toList=[45]∨x.size=0) (k:Nat) (hk:20<k):spec_ParseSet.f k x=some (goodR x 0):=by
 unfold spec_ParseSet.f;obtain ⟨k,rfl⟩:=pos (show 0<k by omega);obtain ⟨k,rfl⟩:=pos (show 0<k by omega)
 have:spec_ParseSet.l0 (k+1+1) x 0 0=spec_ParseSet.j1 (k+1) x 0 0 false:=by
  simp only [spec_ParseSet.l0]
  rcases hx with hx|hx
  ·rw [hx];split<;>rfl
  ·rw [if_neg (by omega)]
 rw [this];simp only [spec_ParseSet.j1];rw [if_neg (by simp),SetText_spec _ k (by omega)];simp only [Option.bind_some,textB_list]
 unfold goodR;exact some_ite _ _
theorem bt_mem {x:ByteArray} {j:Nat} (h:j<x.size):∃ b:UInt8,b ∈ x.toList∧bt x (j:Int)=(b.toNat:Int):=by
 have hj:((j:Int)).toNat<x.size:=by rw [Int.toNat_natCast];exact h
 refine ⟨x[((j:Int)).toNat]'hj,?_,?_⟩
 ·rw [ByteArray.toList_eq];cases x with
  | mk d=>exact Array.mem_toList_iff.mpr (Array.getElem_mem _)
 ·unfold bt;rw [dif_pos hj]
theorem size_list (x:ByteArray):x.size=x.toList.length:=by rw [ByteArray.toList_eq];cases x;rfl
theorem text_bad {x:ByteArray} (hx:x.toList≠[45]) {j:Nat} (hj:j<x.size) (hb:¬ (97≤bt x (j:Int)∧bt x (j:Int)≤104)) (s:Int):textL s≠x.toList:=by
 intro h
 unfold textL at h
 by_cases ha:any s=true
 ·rw [if_pos ha] at h
  by_cases h0:s=0
  ·rw [if_pos h0] at h;exact hx h.symm
  ·rw [if_neg h0] at h
   obtain ⟨b,hm,e⟩:=bt_mem hj
   rw [← h] at hm
   obtain ⟨y,hy,rfl⟩:=List.mem_map.mp hm
   have:=elems_range hy
   rw [tbyte_nat this.1 this.2] at e;omega
 ·rw [if_neg ha] at h
  have:=size_list x;rw [← h,List.length_nil] at this;omega
def parseS (x:ByteArray):Int × Bool:=parseR x (foldS x x.size 0 0)
theorem ParseSet_spec (x:ByteArray) (hn:x.size≤1048576) (k:Nat) (hk:Big≤k):spec_ParseSet.f k x=some (parseS x):=by
 have hB:=big_eq
 unfold parseS parseR
 by_cases he:x.toList=([]:List UInt8)
 ·have h0:x.size=0:=by rw [size_list,he];rfl
  rw [ParseSet_spec_dash x (.inr h0) k (by omega),if_pos he];unfold goodR;rw [he];rfl
 ·rw [if_neg he]
  by_cases hd:x.toList=[45]
  ·rw [ParseSet_spec_dash x (.inl hd) k (by omega)]
   have h1:x.size=1:=by rw [size_list,hd];rfl
   have hb:bt x ((0:Nat):Int)=45:=by
    obtain ⟨b,hm,e⟩:=bt_mem (show 0<x.size by omega)
    rw [hd] at hm;rw [e,List.mem_singleton.mp hm];rfl
   have hf:foldS x x.size 0 0=0:=by
    rw [h1];simp only [foldS];rw [if_neg (by omega)]
   rw [hf]
  ·have hx:(x.toList != ([45]:List UInt8))=true:=by simpa using hd
   unfold spec_ParseSet.f
   by_cases hg:∀ j,0≤j→j<x.size→97≤bt x (j:Int)∧bt x (j:Int)≤104
   ·exact ParseSet_spec_good x hx hn x.size k 0 0 (Nat.zero_add _) (by omega) (by omega) hg
   ·obtain ⟨j,h1,h2,h3⟩:∃ j,0≤j∧j<x.size∧¬ (97≤bt x (j:Int)∧bt x (j:Int)≤104) :=
     Classical.byContradiction fun q=>hg fun j a b=>Classical.byContradiction fun r=>q ⟨j,a,b,r⟩
    unfold goodR;rw [if_neg (text_bad hd h2 h3 _)]
    exact ParseSet_spec_bad x hx hn x.size k 0 0 (Nat.zero_add _) (by omega) (by omega) ⟨j,h1,h2,h3⟩
end Go.Proofs.YtekegbacnagbcaaGreat.L
/- A set's text, read, is the set. -/
namespace Go.Proofs.YtekegbacnagbcaaGreat.Ps
open Go.RowKit Go.Proofs.YtekegbacnagbcaaGreat.P Go.Proofs.YtekegbacnagbcaaGreat.L Go.Proofs.YtekegbacnagbcaaGreatW.PrintWords Go.Proofs.YtekegbacnagbcaaGreatW.PrintLast
def foldE:List Int→Nat→Nat
 | [],s=>s
 | e :: l,s=>foldE l (Mt.ins s e.toNat)
theorem foldE_in (j:Nat):∀ (l:List Int) (s:Nat),(∀ e ∈ l,0≤e)→(Mt.In j (foldE l s)↔Mt.In j s∨(j:Int) ∈ l)
 | [],s,_=>by simp [foldE]
 | e :: l,s,h=>by
  have h0:=h e (List.mem_cons_self ..)
  rw [foldE,foldE_in j l _ (fun x hx=>h x (List.mem_cons_of_mem _ hx)),List.mem_cons]
  unfold Mt.ins;rw [Mt.in_or,Mt.in_two]
  constructor
  ·rintro ((h|h)|h)
   ·exact .inl h
   ·exact .inr (.inl (by omega))
   ·exact .inr (.inr h)
  ·rintro (h|h|h)
   ·exact .inl (.inl h)
   ·exact .inl (.inr (by omega))
   ·exact .inr h
theorem fold_list (l:List Int) (hl:∀ e ∈ l,0≤e∧e<8) (x:ByteArray) (hx:x.toList=l.map tbyte):∀ d i s,i+d=l.length→foldS x d i s=foldE (l.drop i) s:=by
 intro d
 induction d with
 | zero=>intro i s h;rw [foldS,List.drop_eq_nil_of_le (by omega),foldE]
 | succ d ih =>
  intro i s h
  have hi:i<l.length:=by omega
  have hz:x.size=l.length:=by rw [size_list,hx,List.length_map]
  have hb:bt x (i:Int)=97+l[i]:=by
   have:=hl _ (List.getElem_mem hi)
   unfold bt;rw [Int.toNat_natCast,dif_pos (by omega)]
   have e:x[i]'(by omega)=tbyte l[i]:=by
    have:x.toList[i]'(by rw [hx,List.length_map];exact hi)=tbyte l[i]:=by simp [hx]
    rw [← this];simp only [ByteArray.toList_eq];rfl
   rw [e,tbyte_nat this.1 this.2];omega
  have:=hl _ (List.getElem_mem hi)
  rw [foldS,hb,if_pos (by omega),ih (i+1) _ (by omega),List.drop_eq_getElem_cons hi,foldE,show (97+l[i] - 97:Int)=l[i] by omega]
theorem fold_text_256 (n:Nat) (hn:n<256):foldS (textB (n:Int)) (textB (n:Int)).size 0 0=n:=by
 by_cases h0:n=0
 ·subst h0;decide +kernel
 ·have ht:(textB (n:Int)).toList=(elems (n:Int)).map tbyte:=by
   rw [textB_list];unfold textL;rw [if_pos (show any (n:Int)=true from decide_eq_true (by omega)),if_neg (by omega)]
  have hz:(textB (n:Int)).size=(elems (n:Int)).length:=by rw [size_list,ht,List.length_map]
  rw [fold_list (elems (n:Int)) (fun e he=>elems_range he) _ ht _ _ _ (by omega),List.drop_zero]
  refine Mt.ext fun j=>?_
  rw [foldE_in j _ _ (fun e he=>(elems_range he).1),mem_elems]
  unfold hasE;rw [Int.toNat_natCast,Int.toNat_natCast,Bool.and_eq_true,decide_eq_true_eq]
  constructor
  ·rintro (h|h)
   ·unfold Mt.In at h;simp at h
   ·exact h.2
  ·intro h
   refine .inr ⟨⟨by omega,by omega,by omega,?_⟩,h⟩
   rcases Nat.lt_or_ge j 8 with q|q
   ·omega
   ·unfold Mt.In at h
    rw [Nat.testBit_lt_two_pow (Nat.lt_of_lt_of_le hn (by simpa using Nat.pow_le_pow_right (n:=2) (by omega) q))] at h;cases h
theorem textL_ne {s:Int} (h:any s=true):textL s≠[]:=by
 have h':0≤s∧s<256:=of_decide_eq_true h
 obtain ⟨n,rfl⟩:=nat_of h'.1
 have:∀ n:Nat,n<256→(textL (n:Int)).isEmpty=false:=by decide +kernel
 intro q
 have:=this n (by omega);rw [q] at this;cases this
theorem parse_text (s:Int):parseS (textB s)=if any s=true then (s,true) else (0,false):=by
 unfold parseS parseR;rw [textB_list]
 by_cases h:any s=true
 ·have h':0≤s∧s<256:=of_decide_eq_true h
  rw [if_pos h,if_neg (textL_ne h)]
  obtain ⟨n,rfl⟩:=nat_of h'.1
  rw [fold_text_256 n (by omega)];unfold goodR;rw [textB_list,if_pos rfl]
 ·have:textL s=[]:=by unfold textL;rw [if_neg h]
  rw [if_neg h,if_pos this]
end Go.Proofs.YtekegbacnagbcaaGreat.Ps
/- Strings joined: what the printed functions come to. -/
namespace Go.Proofs.YtekegbacnagbcaaGreat.L
open Go.RowKit Go.Proofs.YtekegbacnagbcaaGreatW.PrintWords Go.Proofs.YtekegbacnagbcaaGreatW.PrintMore Go.Proofs.YtekegbacnagbcaaGreat.P Go.Proofs.YtekegbacnagbcaaGreat.B
def joinL (xs:List ByteArray) (sep:ByteArray):List UInt8:=Lib.join (xs.map (·.data.toList)) sep.data.toList
def joinB (xs:List ByteArray) (sep:ByteArray):ByteArray:=⟨(joinL xs sep).toArray⟩
def numsL (l:List UInt8):List Int:=l.map fun b=>(b.toNat:Int)
theorem strOfNums_nums (l:List UInt8):strOfNums (numsL l)=⟨l.toArray⟩:=by
 unfold strOfNums numsL;congr 1;rw [List.map_map]
 congr 1
 induction l with
 | nil=>rfl
 | cons b l ih=>rw [List.map_cons,ih];congr 1;simp
theorem bytesOf_nums (s:ByteArray):bytesOf s=numsL s.data.toList:=rfl
theorem numsL_append (a b:List UInt8):numsL (a++b)=numsL a++numsL b:=List.map_append
theorem numsL_len (a:List UInt8):(numsL a).length=a.length:=List.length_map _
theorem data_len (s:ByteArray):s.data.toList.length=s.size:=by cases s;rfl
theorem drop_rdOf {xs:List ByteArray} {i:Nat} (h:i<xs.length):xs.drop i=rdOf ByteArray.empty xs (i:Int) :: xs.drop (i+1):=by
 rw [List.drop_eq_getElem_cons h];simp [rdOf,h]
theorem tail_cons (sep:List UInt8) (x:List UInt8) (r:List (List UInt8)):Lib.joinTail sep (x :: r)=sep++x++Lib.joinTail sep r:=by
 unfold Lib.joinTail;rw [List.map_cons,List.flatten_cons]
theorem Join_spec_l0 (xs:List ByteArray) (sep:ByteArray) (hx:xs.length<4611686018427387904):∀ d k i:Nat,∀ acc:List UInt8,0<i→i+d=xs.length→d<k→acc.length+(Lib.joinTail sep.data.toList ((xs.drop i).map (·.data.toList))).length<140737488355328 →
  spec_Join.l0 k xs sep (numsL acc) (i:Int)=some ⟨(acc++Lib.joinTail sep.data.toList ((xs.drop i).map (·.data.toList))).toArray⟩:=by
 intro d
 induction d with
 | zero =>
  intro k i acc hi h hk hb;obtain ⟨k,rfl⟩:=pos (show 0<k by omega)
  simp only [spec_Join.l0];rw [if_neg (by omega),List.drop_eq_nil_of_le (by omega),strOfNums_nums]
  simp [Lib.joinTail]
 | succ d ih =>
  intro k i acc hi h hk hb;obtain ⟨k,rfl⟩:=pos (show 0<k by omega)
  have hil:i<xs.length:=by omega
  rw [drop_rdOf hil,List.map_cons,tail_cons] at hb ⊢
  simp only [List.length_append] at hb
  have e1:=data_len sep;have e2:=data_len (rdOf ByteArray.empty xs (i:Int))
  simp only [spec_Join.l0]
  rw [if_pos (by omega),if_pos (by omega),if_pos (by rw [numsL_len];omega)];simp only [Option.bind_some]
  rw [if_pos (by omega),bytesOf_nums,bytesOf_nums,← numsL_append,if_pos (by rw [numsL_len,List.length_append];omega),← numsL_append,w1 (by omega),ih k (i+1) _ (by omega) (by omega) (by omega) (by simp only [List.length_append];omega)]
  simp only [List.append_assoc]
theorem Join_spec (xs:List ByteArray) (sep:ByteArray) (k:Nat) (hx:xs.length<4611686018427387904) (hk:xs.length<k) (hb:(joinL xs sep).length<140737488355328):spec_Join.f k xs sep=some (joinB xs sep):=by
 unfold spec_Join.f joinB
 cases xs with
 | nil =>
  obtain ⟨k,rfl⟩:=pos (show 0<k by omega)
  simp only [spec_Join.l0];rw [if_neg (by simp)];rfl
 | cons x xs =>
  obtain ⟨k,rfl⟩:=pos (show 0<k by omega)
  have e0:joinL (x :: xs) sep=x.data.toList++Lib.joinTail sep.data.toList (xs.map (·.data.toList)):=by unfold joinL;rw [List.map_cons,Lib.join_cons]
  rw [e0,List.length_append] at hb
  have e2:=data_len x
  have hk':xs.length+1<k+1:=hk
  have hx':xs.length+1<4611686018427387904:=hx
  simp only [spec_Join.l0]
  rw [if_pos (by rw [List.length_cons];omega),if_neg (by omega),if_pos (by omega)]
  have er:rdOf ByteArray.empty (x :: xs) 0=x:=rfl
  rw [er,if_pos (by simp;omega),List.nil_append,bytesOf_nums,show wrap64 (0+1)=((1:Nat):Int) by unfold wrap64;omega]
  rw [Join_spec_l0 (x :: xs) sep hx xs.length k 1 _ (by omega) (by rw [List.length_cons];omega) (by omega) (by rw [List.drop_succ_cons,List.drop_zero];omega),e0];rfl
def sizes (xs:List ByteArray):Nat:=(xs.map (·.size)).sum
theorem tail_len (sep:List UInt8) (xs:List ByteArray):(Lib.joinTail sep (xs.map (·.data.toList))).length=sizes xs+xs.length*sep.length:=by
 induction xs with
 | nil=>simp [Lib.joinTail,sizes]
 | cons x xs ih =>
  rw [List.map_cons,tail_cons,List.length_append,List.length_append,ih,data_len]
  unfold sizes;rw [List.map_cons,List.sum_cons,List.length_cons,Nat.succ_mul];omega
theorem join_len (xs:List ByteArray) (sep:ByteArray):(joinL xs sep).length≤sizes xs+xs.length*sep.size:=by
 unfold joinL
 cases xs with
 | nil=>simp [Lib.join_nil]
 | cons x xs =>
  rw [List.map_cons,Lib.join_cons,List.length_append,tail_len,data_len,data_len]
  unfold sizes;rw [List.map_cons,List.sum_cons,List.length_cons,Nat.succ_mul];omega
end Go.Proofs.YtekegbacnagbcaaGreat.L
/- The smallest and the greatest sets of a list: what the printed functions come to. -/
namespace Go.Proofs.YtekegbacnagbcaaGreat.L
open Go.RowKit Go.Proofs.YtekegbacnagbcaaGreatW.PrintWords Go.Proofs.YtekegbacnagbcaaGreatW.PrintMore Go.Proofs.YtekegbacnagbcaaGreat.P Go.Proofs.YtekegbacnagbcaaGreat.B
def Big3:Nat:=52776608464908
def areB (xs:List Int):Bool:=xs.all any
theorem any_iff (s:Int):any s=true↔0≤s∧s<256:=by unfold any;exact decide_eq_true_iff
theorem areB_iff (xs:List Int):areB xs=true↔∀ x ∈ xs,0≤x∧x<256:=by
 unfold areB;rw [List.all_eq_true]
 exact ⟨fun h x hx=>(any_iff x).mp (h x hx),fun h x hx=>(any_iff x).mpr (h x hx)⟩
theorem areSets_l0 (xs:List Int) (hn:xs.length<4611686018427387904):∀ d k i:Nat,i+d=xs.length→d<k→impl_areSets.l0 k xs (xs.length:Int) (i:Int)=some (areB (xs.drop i)):=by
 intro d
 induction d with
 | zero =>
  intro k i h hk;obtain ⟨k,rfl⟩:=pos (show 0<k by omega)
  simp only [impl_areSets.l0];rw [if_neg (by omega),List.drop_eq_nil_of_le (by omega)];rfl
 | succ d ih =>
  intro k i h hk;obtain ⟨k,rfl⟩:=pos (show 0<k by omega)
  have hi:i<xs.length:=by omega
  simp only [impl_areSets.l0];rw [if_pos (by omega),if_pos (by omega),if_pos (by omega),isAny_eq,drop_rd hi,w1 (by omega)];simp only [Option.bind_some]
  unfold areB;rw [List.all_cons]
  cases h1:any (rd xs (i:Int))
  ·rw [if_neg (by simp)];rfl
  ·rw [if_pos rfl,ih k (i+1) (by omega) (by omega)];rfl
theorem areSets_eq (xs:List Int) (k:Nat) (hn:xs.length<4194304) (hk:xs.length<k):impl_areSets.f k xs=some (areB xs):=by
 unfold impl_areSets.f;exact areSets_l0 xs (by omega) xs.length k 0 (Nat.zero_add _) hk
theorem l3Sets_l0 (xs:List Int) (hn:xs.length<4611686018427387904):∀ d k i:Nat,i+d=xs.length→d<k→spec_l3Sets.l0 k 8 xs (i:Int)=some (areB (xs.drop i)):=by
 intro d
 induction d with
 | zero =>
  intro k i h hk;obtain ⟨k,rfl⟩:=pos (show 0<k by omega)
  simp only [spec_l3Sets.l0];rw [if_neg (by omega),List.drop_eq_nil_of_le (by omega)];rfl
 | succ d ih =>
  intro k i h hk;obtain ⟨k,rfl⟩:=pos (show 0<k by omega)
  have hi:i<xs.length:=by omega
  simp only [spec_l3Sets.l0];rw [if_pos (by omega),if_pos (by omega),IsSet_spec,isSet_8,drop_rd hi,w1 (by omega)];simp only [Option.bind_some]
  unfold areB;rw [List.all_cons]
  cases h1:any (rd xs (i:Int))
  ·rw [if_neg (by simp)];rfl
  ·rw [if_pos rfl,ih k (i+1) (by omega) (by omega)];rfl
theorem l3Sets_eq (xs:List Int) (k:Nat) (hn:xs.length<4194304) (hk:xs.length<k):spec_l3Sets.f k 8 xs=some (areB xs):=by
 unfold spec_l3Sets.f;exact l3Sets_l0 xs (by omega) xs.length k 0 (Nat.zero_add _) hk
theorem and_ne {t s:Int} (ht:0≤t∧t<256) (hs:0≤s∧s<256):(Go.bits .and .i64 t s != t)=!(subB t s)∧(Go.bits .and .i64 t s != s)=!(subB s t):=by
 obtain ⟨x,rfl⟩:=nat_of ht.1;obtain ⟨y,rfl⟩:=nat_of hs.1
 rw [and_nat x y (by omega) (by omega)]
 unfold subB
 rw [decide_eq_true (by omega),decide_eq_true (by omega),Int.toNat_natCast,Int.toNat_natCast,Bool.true_and,Bool.true_and,Nat.and_comm y x]
 constructor
 ·show (!(((x &&& y:Nat):Int)==(x:Int)))=_
  congr 1;rw [Bool.eq_iff_iff,beq_iff_eq,beq_iff_eq];omega
 ·show (!(((x &&& y:Nat):Int)==(y:Int)))=_
  congr 1;rw [Bool.eq_iff_iff,beq_iff_eq,beq_iff_eq];omega
theorem srt_filter (xs:List Int) (p:Int→Bool):(srt xs).filter p=srt (xs.filter p) :=
 srt_eq ((srt_inc xs).filter p) fun x=>by rw [List.mem_filter,List.mem_filter,srt_mem]
def minQ (s t:Int):Bool:=if t=s then false else subB t s
def minB (xs:List Int) (s:Int):Bool:=!(xs.any (minQ s))
def minS (xs:List Int):List Int:=if areB xs=true then (srt xs).filter (minB xs) else []
theorem minS_mem {xs:List Int} (h:areB xs=true) (x:Int):x ∈ minS xs↔x ∈ xs∧∀ t ∈ xs,t≠x→subB t x=false:=by
 unfold minS;rw [if_pos h,List.mem_filter,srt_mem]
 refine and_congr_right fun _=>?_
 unfold minB;rw [Bool.not_eq_true',List.any_eq_false]
 constructor
 ·intro q t ht hne
  have:=q t ht;unfold minQ at this;rw [if_neg hne] at this;exact bnot_false this
 ·intro q t ht hc
  unfold minQ at hc
  by_cases e:t=x
  ·rw [if_pos e] at hc;cases hc
  ·rw [if_neg e,q t ht e] at hc;cases hc
theorem minS_inc (xs:List Int):(minS xs).Pairwise (·<·):=by
 unfold minS;split
 ·exact (srt_inc xs).filter _
 ·exact List.Pairwise.nil
theorem minS_len (xs:List Int):(minS xs).length≤xs.length:=by
 unfold minS;split
 ·exact Nat.le_trans (List.length_filter_le _ _) (srt_len xs)
 ·exact Nat.zero_le _
theorem on_MinimalSets_1 (xs:List Int) (s:Int) (k:Nat) (hn:xs.length<4194000) (hk:xs.length<k):on_impl_MinimalSets_1.f k xs s=some (xs.any (minQ s)):=by
 unfold on_impl_MinimalSets_1.f
 exact anyL_eq (impl_MinimalSets_1.f s) (minQ s) xs hn (fun y _=>by
  unfold impl_MinimalSets_1.f minQ
  by_cases e:y=s
  ·rw [if_pos e,if_pos e]
  ·rw [if_neg e,if_neg e];exact IsSubset_impl _ _) xs.length k 0 (Nat.zero_add _) hk
theorem MinimalSets_impl_l0 (xs ys:List Int) (hn:xs.length<4194000) (hy:ys.length<4194304):∀ d k i:Nat,∀ out:List Int,i+d=ys.length→out.length≤i→d+xs.length+1<k →
  impl_MinimalSets.l0 k xs out ys (ys.length:Int) (i:Int)=some (out++(ys.drop i).filter (minB xs)):=by
 intro d
 induction d with
 | zero =>
  intro k i out h ho hk;obtain ⟨k,rfl⟩:=pos (show 0<k by omega)
  simp only [impl_MinimalSets.l0];rw [if_neg (by omega),List.drop_eq_nil_of_le (by omega)];simp
 | succ d ih =>
  intro k i out h ho hk;obtain ⟨k,rfl⟩:=pos (show 0<k by omega)
  have hi:i<ys.length:=by omega
  simp only [impl_MinimalSets.l0]
  rw [if_pos (by omega),if_pos (by omega),if_pos (by omega),on_MinimalSets_1 xs _ k hn (by omega),drop_rd hi,w1 (by omega)];simp only [Option.bind_some]
  cases h1:xs.any (minQ (rd ys (i:Int)))
  ·rw [if_neg (by simp),if_pos (by omega),ih k (i+1) _ (by omega) (by simp;omega) (by omega),List.filter_cons,if_pos (by unfold minB;rw [h1];rfl),List.append_assoc];rfl
  ·rw [if_pos rfl,ih k (i+1) _ (by omega) (by omega) (by omega),List.filter_cons,if_neg (by unfold minB;rw [h1];simp)]
theorem MinimalSets_impl (xs:List Int) (k:Nat) (hn:xs.length<4194000) (hk:2*xs.length+4≤k):impl_MinimalSets.f k xs=some (minS xs):=by
 unfold impl_MinimalSets.f minS
 rw [areSets_eq xs k (by omega) (by omega)];simp only [Option.bind_some]
 by_cases h:areB xs=true
 ·have hl:=srt_len xs
  rw [if_pos h,if_pos h,SortSets_impl xs (by omega)];simp only [Option.bind_some]
  exact MinimalSets_impl_l0 xs (srt xs) hn (by omega) (srt xs).length k 0 [] (Nat.zero_add _) (Nat.le_refl _) (by omega)
 ·rw [if_neg h,if_neg h]
theorem MinimalSets_spec_l1 (xs out:List Int) (hs:∀ x ∈ xs,0≤x∧x<256) (i:Nat) (hi:i<xs.length) (hn:xs.length≤4194000) (ho:out.length≤4194000) (C:Nat) (r:List Int) :
  ∀ d k j:Nat,∀ fine:Bool,j+d=xs.length→C+d+1≤k→(∀ k,C≤k→spec_MinimalSets.l0 k xs (if (fine && !((xs.drop j).any (minQ (rd xs (i:Int)))))=true then out++[rd xs (i:Int)] else out) ((i+1:Nat):Int)=some r) →
  spec_MinimalSets.l1 k xs out (i:Int) fine (j:Int)=some r:=by
 intro d
 induction d with
 | zero =>
  intro k j fine h hk hn';obtain ⟨k,rfl⟩:=pos (show 0<k by omega)
  have q:=hn' k (by omega)
  rw [List.drop_eq_nil_of_le (by omega)] at q
  simp only [spec_MinimalSets.l1]
  rw [if_neg (by omega),w1 (by omega)]
  cases fine
  ·rw [if_neg (by simp)];rw [if_neg (by simp)] at q;exact q
  ·rw [if_pos rfl,if_pos (by omega),if_pos (by omega),if_pos (by omega)];rw [if_pos (by simp)] at q;exact q
 | succ d ih =>
  intro k j fine h hk hn';obtain ⟨k,rfl⟩:=pos (show 0<k by omega)
  have hj:j<xs.length:=by omega
  rw [drop_rd hj] at hn'
  simp only [spec_MinimalSets.l1]
  rw [if_pos (by omega),w1 (by omega)]
  cases fine
  ·rw [if_neg (by simp)]
   refine ih k (j+1) false (by omega) (by omega) fun k' hk'=>?_
   have q:=hn' k' hk'
   rw [Bool.false_and] at q ⊢;exact q
  ·rw [if_pos rfl,if_pos (by omega),if_pos (by omega),if_pos (by omega)]
   by_cases e:rd xs (j:Int)=rd xs (i:Int)
   ·rw [if_pos e]
    refine ih k (j+1) true (by omega) (by omega) fun k' hk'=>?_
    have q:=hn' k' hk'
    rw [List.any_cons,show minQ (rd xs (i:Int)) (rd xs (j:Int))=false by unfold minQ;rw [if_pos e],Bool.false_or] at q
    exact q
   ·rw [if_neg e]
    refine ih k (j+1) _ (by omega) (by omega) fun k' hk'=>?_
    have q:=hn' k' hk'
    rw [List.any_cons,show minQ (rd xs (i:Int)) (rd xs (j:Int))=subB (rd xs (j:Int)) (rd xs (i:Int)) by unfold minQ;rw [if_neg e]] at q
    rw [(and_ne (hs _ (rd_mem hj)) (hs _ (rd_mem hi))).1]
    rw [Bool.true_and,Bool.not_or] at q
    exact q
theorem MinimalSets_spec_l0 (xs:List Int) (hs:∀ x ∈ xs,0≤x∧x<256) (hn:xs.length≤4194000):∀ d k i:Nat,∀ out:List Int,i+d=xs.length→out.length≤i→d*(xs.length+4)+Big2+1≤k →
  spec_MinimalSets.l0 k xs out (i:Int)=some (srt (out++(xs.drop i).filter (minB xs))):=by
 intro d
 induction d with
 | zero =>
  intro k i out h ho hk;obtain ⟨k,rfl⟩:=pos (show 0<k by omega)
  have hb:=big2 (show out.length≤4194304 by omega)
  simp only [spec_MinimalSets.l0];rw [if_neg (by omega),SortSets_spec out k (by omega) (by omega),List.drop_eq_nil_of_le (by omega)];simp
 | succ d ih =>
  intro k i out h ho hk
  rw [Nat.succ_mul] at hk
  obtain ⟨k,rfl⟩:=pos (show 0<k by omega)
  have hi:i<xs.length:=by omega
  simp only [spec_MinimalSets.l0];rw [if_pos (by omega)]
  refine MinimalSets_spec_l1 xs out hs i hi hn (by omega) (d*(xs.length+4)+Big2+1) _ xs.length k 0 true (Nat.zero_add _) (by omega) fun k' hk'=>?_
  rw [Bool.true_and,List.drop_zero,drop_rd hi,List.filter_cons]
  cases h1:minB xs (rd xs (i:Int))
  ·rw [if_neg (by unfold minB at h1;rw [h1];simp),if_neg (by simp)]
   exact ih k' (i+1) out (by omega) (by omega) hk'
  ·rw [if_pos (by unfold minB at h1;exact h1),if_pos rfl,ih k' (i+1) _ (by omega) (by simp;omega) hk',List.append_assoc];rfl
theorem MinimalSets_spec (xs:List Int) (k:Nat) (hn:xs.length≤4194000) (hk:xs.length*(xs.length+4)+Big2+1≤k):spec_MinimalSets.f k xs=some (minS xs):=by
 unfold spec_MinimalSets.f minS
 simp only [Option.bind_some]
 have hb:xs.length<k:=Nat.lt_of_le_of_lt (Nat.le_trans (Nat.le_mul_of_pos_right _ (by omega)) (Nat.le_add_right (xs.length*(xs.length+4)) Big2)) (by omega)
 rw [l3Sets_eq xs k (by omega) hb];simp only [Option.bind_some]
 by_cases h:areB xs=true
 ·rw [if_pos h,if_pos h,srt_filter]
  exact MinimalSets_spec_l0 xs ((areB_iff xs).mp h) hn xs.length k 0 [] (Nat.zero_add _) (Nat.le_refl _) hk
 ·rw [if_neg h,if_neg h]
def maxQ (s t:Int):Bool:=if t=s then false else subB s t
def maxB (xs:List Int) (s:Int):Bool:=!(xs.any (maxQ s))
def maxS (xs:List Int):List Int:=if areB xs=true then (srt xs).filter (maxB xs) else []
theorem maxS_mem {xs:List Int} (h:areB xs=true) (x:Int):x ∈ maxS xs↔x ∈ xs∧∀ t ∈ xs,t≠x→subB x t=false:=by
 unfold maxS;rw [if_pos h,List.mem_filter,srt_mem]
 refine and_congr_right fun _=>?_
 unfold maxB;rw [Bool.not_eq_true',List.any_eq_false]
 constructor
 ·intro q t ht hne
  have:=q t ht;unfold maxQ at this;rw [if_neg hne] at this;exact bnot_false this
 ·intro q t ht hc
  unfold maxQ at hc
  by_cases e:t=x
  ·rw [if_pos e] at hc;cases hc
  ·rw [if_neg e,q t ht e] at hc;cases hc
theorem maxS_inc (xs:List Int):(maxS xs).Pairwise (·<·):=by
 unfold maxS;split
 ·exact (srt_inc xs).filter _
 ·exact List.Pairwise.nil
theorem on_MaximalSets_1 (xs:List Int) (s:Int) (k:Nat) (hn:xs.length<4194000) (hk:xs.length<k):on_impl_MaximalSets_1.f k xs s=some (xs.any (maxQ s)):=by
 unfold on_impl_MaximalSets_1.f
 exact anyL_eq (impl_MaximalSets_1.f s) (maxQ s) xs hn (fun y _=>by
  unfold impl_MaximalSets_1.f maxQ
  by_cases e:y=s
  ·rw [if_pos e,if_pos e]
  ·rw [if_neg e,if_neg e];exact IsSubset_impl _ _) xs.length k 0 (Nat.zero_add _) hk
theorem MaximalSets_impl_l0 (xs ys:List Int) (hn:xs.length<4194000) (hy:ys.length<4194304):∀ d k i:Nat,∀ out:List Int,i+d=ys.length→out.length≤i→d+xs.length+1<k →
  impl_MaximalSets.l0 k xs out ys (ys.length:Int) (i:Int)=some (out++(ys.drop i).filter (maxB xs)):=by
 intro d
 induction d with
 | zero =>
  intro k i out h ho hk;obtain ⟨k,rfl⟩:=pos (show 0<k by omega)
  simp only [impl_MaximalSets.l0];rw [if_neg (by omega),List.drop_eq_nil_of_le (by omega)];simp
 | succ d ih =>
  intro k i out h ho hk;obtain ⟨k,rfl⟩:=pos (show 0<k by omega)
  have hi:i<ys.length:=by omega
  simp only [impl_MaximalSets.l0]
  rw [if_pos (by omega),if_pos (by omega),if_pos (by omega),on_MaximalSets_1 xs _ k hn (by omega),drop_rd hi,w1 (by omega)];simp only [Option.bind_some]
  cases h1:xs.any (maxQ (rd ys (i:Int)))
  ·rw [if_neg (by simp),if_pos (by omega),ih k (i+1) _ (by omega) (by simp;omega) (by omega),List.filter_cons,if_pos (by unfold maxB;rw [h1];rfl),List.append_assoc];rfl
  ·rw [if_pos rfl,ih k (i+1) _ (by omega) (by omega) (by omega),List.filter_cons,if_neg (by unfold maxB;rw [h1];simp)]
theorem MaximalSets_impl (xs:List Int) (k:Nat) (hn:xs.length<4194000) (hk:2*xs.length+4≤k):impl_MaximalSets.f k xs=some (maxS xs):=by
 unfold impl_MaximalSets.f maxS
 rw [areSets_eq xs k (by omega) (by omega)];simp only [Option.bind_some]
 by_cases h:areB xs=true
 ·have hl:=srt_len xs
  rw [if_pos h,if_pos h,SortSets_impl xs (by omega)];simp only [Option.bind_some]
  exact MaximalSets_impl_l0 xs (srt xs) hn (by omega) (srt xs).length k 0 [] (Nat.zero_add _) (Nat.le_refl _) (by omega)
 ·rw [if_neg h,if_neg h]
theorem MaximalSets_spec_l1 (xs out:List Int) (hs:∀ x ∈ xs,0≤x∧x<256) (i:Nat) (hi:i<xs.length) (hn:xs.length≤4194000) (ho:out.length≤4194000) (C:Nat) (r:List Int) :
  ∀ d k j:Nat,∀ fine:Bool,j+d=xs.length→C+d+1≤k→(∀ k,C≤k→spec_MaximalSets.l0 k xs (if (fine && !((xs.drop j).any (maxQ (rd xs (i:Int)))))=true then out++[rd xs (i:Int)] else out) ((i+1:Nat):Int)=some r) →
  spec_MaximalSets.l1 k xs out (i:Int) fine (j:Int)=some r:=by
 intro d
 induction d with
 | zero =>
  intro k j fine h hk hn';obtain ⟨k,rfl⟩:=pos (show 0<k by omega)
  have q:=hn' k (by omega)
  rw [List.drop_eq_nil_of_le (by omega)] at q
  simp only [spec_MaximalSets.l1]
  rw [if_neg (by omega),w1 (by omega)]
  cases fine
  ·rw [if_neg (by simp)];rw [if_neg (by simp)] at q;exact q
  ·rw [if_pos rfl,if_pos (by omega),if_pos (by omega),if_pos (by omega)];rw [if_pos (by simp)] at q;exact q
 | succ d ih =>
  intro k j fine h hk hn';obtain ⟨k,rfl⟩:=pos (show 0<k by omega)
  have hj:j<xs.length:=by omega
  rw [drop_rd hj] at hn'
  simp only [spec_MaximalSets.l1]
  rw [if_pos (by omega),w1 (by omega)]
  cases fine
  ·rw [if_neg (by simp)]
   refine ih k (j+1) false (by omega) (by omega) fun k' hk'=>?_
   have q:=hn' k' hk'
   rw [Bool.false_and] at q ⊢;exact q
  ·rw [if_pos rfl,if_pos (by omega),if_pos (by omega),if_pos (by omega)]
   by_cases e:rd xs (j:Int)=rd xs (i:Int)
   ·rw [if_pos e]
    refine ih k (j+1) true (by omega) (by omega) fun k' hk'=>?_
    have q:=hn' k' hk'
    rw [List.any_cons,show maxQ (rd xs (i:Int)) (rd xs (j:Int))=false by unfold maxQ;rw [if_pos e],Bool.false_or] at q
    exact q
   ·rw [if_neg e]
    refine ih k (j+1) _ (by omega) (by omega) fun k' hk'=>?_
    have q:=hn' k' hk'
    rw [List.any_cons,show maxQ (rd xs (i:Int)) (rd xs (j:Int))=subB (rd xs (i:Int)) (rd xs (j:Int)) by unfold maxQ;rw [if_neg e]] at q
    rw [(and_ne (hs _ (rd_mem hj)) (hs _ (rd_mem hi))).2]
    rw [Bool.true_and,Bool.not_or] at q
    exact q
theorem MaximalSets_spec_l0 (xs:List Int) (hs:∀ x ∈ xs,0≤x∧x<256) (hn:xs.length≤4194000):∀ d k i:Nat,∀ out:List Int,i+d=xs.length→out.length≤i→d*(xs.length+4)+Big2+1≤k →
  spec_MaximalSets.l0 k xs out (i:Int)=some (srt (out++(xs.drop i).filter (maxB xs))):=by
 intro d
 induction d with
 | zero =>
  intro k i out h ho hk;obtain ⟨k,rfl⟩:=pos (show 0<k by omega)
  have hb:=big2 (show out.length≤4194304 by omega)
  simp only [spec_MaximalSets.l0];rw [if_neg (by omega),SortSets_spec out k (by omega) (by omega),List.drop_eq_nil_of_le (by omega)];simp
 | succ d ih =>
  intro k i out h ho hk
  rw [Nat.succ_mul] at hk
  obtain ⟨k,rfl⟩:=pos (show 0<k by omega)
  have hi:i<xs.length:=by omega
  simp only [spec_MaximalSets.l0];rw [if_pos (by omega)]
  refine MaximalSets_spec_l1 xs out hs i hi hn (by omega) (d*(xs.length+4)+Big2+1) _ xs.length k 0 true (Nat.zero_add _) (by omega) fun k' hk'=>?_
  rw [Bool.true_and,List.drop_zero,drop_rd hi,List.filter_cons]
  cases h1:maxB xs (rd xs (i:Int))
  ·rw [if_neg (by unfold maxB at h1;rw [h1];simp),if_neg (by simp)]
   exact ih k' (i+1) out (by omega) (by omega) hk'
  ·rw [if_pos (by unfold maxB at h1;exact h1),if_pos rfl,ih k' (i+1) _ (by omega) (by simp;omega) hk',List.append_assoc];rfl
theorem MaximalSets_spec (xs:List Int) (k:Nat) (hn:xs.length≤4194000) (hk:xs.length*(xs.length+4)+Big2+1≤k):spec_MaximalSets.f k xs=some (maxS xs):=by
 unfold spec_MaximalSets.f maxS
 simp only [Option.bind_some]
 have hb:xs.length<k:=Nat.lt_of_le_of_lt (Nat.le_trans (Nat.le_mul_of_pos_right _ (by omega)) (Nat.le_add_right (xs.length*(xs.length+4)) Big2)) (by omega)
 rw [l3Sets_eq xs k (by omega) hb];simp only [Option.bind_some]
 by_cases h:areB xs=true
 ·rw [if_pos h,if_pos h,srt_filter]
  exact MaximalSets_spec_l0 xs ((areB_iff xs).mp h) hn xs.length k 0 [] (Nat.zero_add _) (Nat.le_refl _) hk
 ·rw [if_neg h,if_neg h]
end Go.Proofs.YtekegbacnagbcaaGreat.L
/- The text of a family: what the printed functions come to. -/
namespace Go.Proofs.YtekegbacnagbcaaGreat.L
open Go.RowKit Go.Proofs.YtekegbacnagbcaaGreatW.PrintWords Go.Proofs.YtekegbacnagbcaaGreatW.PrintMore Go.Proofs.YtekegbacnagbcaaGreat.P Go.Proofs.YtekegbacnagbcaaGreat.B
def comma:ByteArray:=⟨#[44]⟩
def famT (xs:List Int):ByteArray:=if xs=[] then ⟨#[110,111,110,101]⟩ else if areB xs=true then joinB (xs.map textB) comma else ⟨#[]⟩
theorem textB_small (s:Int):(textB s).size≤8:=by
 rw [size_list,textB_list];unfold textL
 split
 ·split
  ·simp
  ·rw [List.length_map];exact elems_length s
 ·simp
theorem texts_sizes (xs:List Int):sizes (xs.map textB)≤8*xs.length:=by
 induction xs with
 | nil=>simp [sizes]
 | cons x xs ih =>
  have:=textB_small x
  have e:sizes ((x :: xs).map textB)=(textB x).size+sizes (xs.map textB):=by unfold sizes;rw [List.map_cons,List.map_cons,List.sum_cons]
  rw [e,List.length_cons];omega
theorem texts_len (xs:List Int):(joinL (xs.map textB) comma).length≤9*xs.length:=by
 have h1:=join_len (xs.map textB) comma;have h2:=texts_sizes xs
 rw [List.length_map,show comma.size=1 from rfl] at h1;omega
theorem FamilyText_spec_l0 (xs:List Int) (hn:xs.length<4194304):∀ d k i:Nat,∀ acc:List ByteArray,i+d=xs.length→acc.length≤i→acc=(xs.take i).map textB→d+xs.length+10<k→spec_FamilyText.l0 k xs acc (i:Int)=some (joinB (xs.map textB) comma):=by
 intro d
 induction d with
 | zero =>
  intro k i acc h ho ha hk;obtain ⟨k,rfl⟩:=pos (show 0<k by omega)
  have hl:=texts_len xs
  rw [List.take_of_length_le (by omega)] at ha;subst ha
  simp only [spec_FamilyText.l0];rw [if_neg (by omega),Join_spec (xs.map textB) ⟨#[44]⟩ k (by rw [List.length_map];omega) (by rw [List.length_map];omega) (by have:(joinL (xs.map textB) ⟨#[44]⟩).length=(joinL (xs.map textB) comma).length:=rfl;omega)];rfl
 | succ d ih =>
  intro k i acc h ho ha hk;obtain ⟨k,rfl⟩:=pos (show 0<k by omega)
  have hi:i<xs.length:=by omega
  simp only [spec_FamilyText.l0];rw [if_pos (by omega),if_pos (by omega),SetText_spec _ k (by omega),w1 (by omega)];simp only [Option.bind_some]
  rw [if_pos (by omega),ih k (i+1) _ (by omega) (by rw [List.length_append,List.length_singleton];omega) ?_ (by omega)]
  rw [ha,List.take_succ_eq_append_getElem hi,List.map_append,rd_get hi];rfl
theorem FamilyText_spec (xs:List Int) (k:Nat) (hn:xs.length<4194304) (hk:2*xs.length+20<k):spec_FamilyText.f k xs=some (famT xs):=by
 unfold spec_FamilyText.f famT;rw [l3Sets_eq xs k hn (by omega)];simp only [Option.bind_some]
 by_cases h0:xs=[]
 ·subst h0;rw [if_pos (by rfl),if_pos (by rfl),if_pos rfl]
 ·have hp:0<xs.length:=List.length_pos_iff.mpr h0
  rw [if_neg h0]
  by_cases h:areB xs=true
  ·rw [if_pos h,if_neg (by omega),if_pos h]
   exact FamilyText_spec_l0 xs hn xs.length k 0 [] (Nat.zero_add _) (Nat.le_refl _) (by simp) (by omega)
  ·rw [if_neg h,if_neg h]
end Go.Proofs.YtekegbacnagbcaaGreat.L
/- Decimal numerals and the numbers that they spell. Plain Lean over the library's own words (itoa, atoiAll); no program. -/
namespace Go.Proofs.YtekegbacnagbcaaGreat.Dg
open Go Go.Lib
theorem dig_nat {d:Nat} (h:d<10):(UInt8.ofNat (48+d)).toNat=48+d:=by
 rw [UInt8.toNat_ofNat'];omega
theorem dec_small {u:Nat} (h:u<10):decDigits u=[UInt8.ofNat (48+u)]:=by rw [decDigits,dif_pos h]
theorem dec_big {u:Nat} (h:¬ u<10):decDigits u=decDigits (u / 10)++[UInt8.ofNat (48+u % 10)]:=by rw [decDigits,dif_neg h]
theorem parse_append:∀ (a b:List UInt8) (acc:Nat),parseUint10 acc (a++b)=match parseUint10 acc a with
  | .ok v=>parseUint10 v b
  | e=>e
 | [],b,acc=>rfl
 | c :: r,b,acc=>by
  simp only [List.cons_append,parseUint10]
  split
  ·split
   ·rfl
   ·split
    ·rfl
    ·exact parse_append r b _
  ·rfl
theorem parse_dec:∀ n u:Nat,u<n→u<18446744073709551616→parseUint10 0 (decDigits u)=.ok u:=by
 intro n
 induction n with
 | zero=>intro u h;omega
 | succ n ih =>
  intro u h hu
  by_cases h10:u<10
  ·rw [dec_small h10];simp only [parseUint10]
   rw [dig_nat h10,if_pos ⟨by omega,by omega⟩,if_neg (by omega),if_neg (by omega)]
   congr 1;omega
  ·rw [dec_big h10,parse_append,ih (u / 10) (by omega) (by omega)]
   simp only [parseUint10]
   rw [dig_nat (show u % 10<10 by omega),if_pos ⟨by omega,by omega⟩,if_neg (by omega),if_neg (by omega)]
   congr 1;omega
theorem dec_ne:∀ u,decDigits u≠[]:=by
 intro u
 by_cases h:u<10
 ·rw [dec_small h];simp
 ·rw [dec_big h];simp
theorem dec_digit:∀ n u:Nat,u<n→∀ c ∈ decDigits u,48≤c.toNat∧c.toNat≤57:=by
 intro n
 induction n with
 | zero=>intro u h;omega
 | succ n ih =>
  intro u h c hc
  by_cases h10:u<10
  ·rw [dec_small h10,List.mem_singleton] at hc;subst hc;rw [dig_nat h10];omega
  ·rw [dec_big h10,List.mem_append,List.mem_singleton] at hc
   rcases hc with hc|rfl
   ·exact ih (u / 10) (by omega) c hc
   ·rw [dig_nat (by omega)];omega
theorem mag_dec {u:Nat} (h:u<18446744073709551616):parseMag (decDigits u)=.ok u:=by
 unfold parseMag;rw [if_neg (dec_ne u)];exact parse_dec (u+1) u (by omega) h
theorem dec_cons (u:Nat):∃ c r,decDigits u=c :: r∧48≤c.toNat∧c.toNat≤57:=by
 cases h:decDigits u with
 | nil=>exact absurd h (dec_ne u)
 | cons c r=>exact ⟨c,r,rfl,dec_digit (u+1) u (by omega) c (by rw [h];exact List.mem_cons_self)⟩
theorem atoi_itoa (n:Int) (h0:-9223372036854775808≤n) (h1:n≤9223372036854775807):atoiAll (itoa n)=.ok n:=by
 unfold itoa
 by_cases hn:n<0
 ·rw [if_pos hn];unfold atoiAll
  simp only
  rw [if_pos (.inr (by decide)),mag_dec (by omega)]
  simp only
  rw [if_neg (fun q=>q.1 (by decide)),if_neg (by omega),if_pos (by decide)]
  congr 1;omega
 ·rw [if_neg hn]
  obtain ⟨c,r,e,h48,h57⟩:=dec_cons n.toNat
  have hm:=mag_dec (u:=n.toNat) (by omega)
  rw [e] at hm ⊢
  unfold atoiAll
  simp only
  rw [if_neg (by omega),hm]
  simp only
  rw [if_neg (by omega),if_neg (by omega),if_neg (by omega)]
  congr 1;omega
theorem itoa_inj {m n:Int} (h0:-9223372036854775808≤m) (h1:m≤9223372036854775807) (g0:-9223372036854775808≤n) (g1:n≤9223372036854775807) (h:itoa m=itoa n):m=n:=by
 have a:=atoi_itoa m h0 h1;have b:=atoi_itoa n g0 g1;rw [h,b] at a;cases a;rfl
theorem dec_len:∀ m u:Nat,(decDigits u).length≤m+1↔u<10 ^ (m+1):=by
 intro m
 induction m with
 | zero =>
  intro u
  by_cases h:u<10
  ·rw [dec_small h];simp;omega
  ·rw [dec_big h,List.length_append,List.length_singleton]
   have:0<(decDigits (u / 10)).length:=List.length_pos_iff.mpr (dec_ne _)
   constructor
   ·intro q;omega
   ·intro q;omega
 | succ m ih =>
  intro u
  by_cases h:u<10
  ·rw [dec_small h]
   have:10≤10 ^ (m+1+1):=by rw [Nat.pow_succ];have:=Nat.pow_pos (n:=m+1) (show 0<10 by omega);omega
   simp;omega
  ·rw [dec_big h,List.length_append,List.length_singleton]
   have e:10 ^ (m+1+1)=10 ^ (m+1)*10:=Nat.pow_succ ..
   have:=ih (u / 10)
   constructor
   ·intro q;have:=this.mp (by omega);omega
   ·intro q;have:=this.mpr (by omega);omega
end Go.Proofs.YtekegbacnagbcaaGreat.Dg
/- FormatInt: what the printed functions come to. -/
namespace Go.Proofs.YtekegbacnagbcaaGreat.F
open Go.RowKit Go.Proofs.YtekegbacnagbcaaGreatW.PrintWords Go.Proofs.YtekegbacnagbcaaGreatW.PrintMore Go.Proofs.YtekegbacnagbcaaGreat.P Go.Proofs.YtekegbacnagbcaaGreat.B Go.Proofs.YtekegbacnagbcaaGreat.Dg
theorem ap (a b:List UInt8):(⟨a.toArray⟩:ByteArray)++⟨b.toArray⟩=⟨(a++b).toArray⟩:=by
 apply ByteArray.ext;rw [ByteArray.data_append];simp
theorem sz (a:List UInt8):(⟨a.toArray⟩:ByteArray).size=a.length:=by simp [ByteArray.size]
theorem ls (x:ByteArray):(⟨x.data.toList.toArray⟩:ByteArray)=x:=by cases x;simp
theorem tl (x:ByteArray):x.toList=x.data.toList:=ByteArray.toList_eq x
def dg (u:Nat):List UInt8:=if u=0 then [] else Lib.decDigits u
theorem dg_step {u:Nat} (h:u≠0):dg u=dg (u / 10)++[UInt8.ofNat (48+u % 10)]:=by
 unfold dg;rw [if_neg h]
 by_cases q:u<10
 ·rw [if_pos (by omega),dec_small q,Nat.mod_eq_of_lt q];rfl
 ·rw [if_neg (by omega),dec_big q]
theorem rem_div {x:Int} {u:Nat} (h:x.natAbs=u):(0≤x∧Int.tmod x 10=((u % 10:Nat):Int)∧Int.tdiv x 10=((u / 10:Nat):Int))∨(x<0∧Int.tmod x 10=-((u % 10:Nat):Int)∧Int.tdiv x 10=-((u / 10:Nat):Int)):=by
 rcases Int.lt_or_le x 0 with q|q
 ·obtain rfl:x=-(u:Int):=by omega
  exact .inr ⟨q,by rw [Int.neg_tmod,Int.ofNat_tmod];rfl,by rw [Int.neg_tdiv,Int.ofNat_tdiv];rfl⟩
 ·obtain rfl:x=(u:Int):=by omega
  exact .inl ⟨q,by rw [Int.ofNat_tmod];rfl,by rw [Int.ofNat_tdiv];rfl⟩
theorem FormatInt_l0 (b:Bool):∀ d k u:Nat,∀ x:Int,∀ acc:List UInt8,x.natAbs=u→u<10 ^ d→u<9223372036854775809→d<k→acc.length+d≤100 →
  spec_FormatInt.l0 k x b ⟨acc.toArray⟩=some ⟨((if b=true then [45] else [])++(dg u++acc)).toArray⟩:=by
 intro d
 induction d with
 | zero =>
  intro k u x acc hx hu hb hk hl;obtain ⟨k,rfl⟩:∃ q,k=q+1:=⟨k - 1,by omega⟩
  simp only [spec_FormatInt.l0]
  obtain rfl:u=0:=by simpa using hu
  rw [if_pos (by omega),sz]
  cases b with
  | true=>rw [if_pos rfl,if_pos (by omega),ap [45] acc];rfl
  | false=>rw [if_neg (by simp)];rfl
 | succ d ih =>
  intro k u x acc hx hu hb hk hl;obtain ⟨k,rfl⟩:∃ q,k=q+1:=⟨k - 1,by omega⟩
  by_cases h0:u=0
  ·simp only [spec_FormatInt.l0]
   subst h0
   rw [if_pos (by omega),sz]
   cases b with
   | true=>rw [if_pos rfl,if_pos (by omega),ap [45] acc];rfl
   | false=>rw [if_neg (by simp)];rfl
  ·have hd:u / 10<10 ^ d:=by rw [Nat.pow_succ] at hu;omega
   have key:∀ q:Int,q.natAbs=u / 10→((some ([((48:Int)+((u % 10:Nat):Int)) % 256]:List Int)).bind fun y101=>(if (strOfNums y101).size+(⟨acc.toArray⟩:ByteArray).size≤9223372036854775807 then (spec_FormatInt.l0 k q b ((strOfNums y101)++⟨acc.toArray⟩)) else (none)))=some ⟨((if b=true then [45] else [])++(dg u++acc)).toArray⟩:=by
    intro q hq
    have e:strOfNums [((48:Int)+((u % 10:Nat):Int)) % 256]=⟨[UInt8.ofNat (48+u % 10)].toArray⟩:=by
     rw [show ((48:Int)+((u % 10:Nat):Int)) % 256=((48+u % 10:Nat):Int) by omega];rfl
    simp only [Option.bind_some];rw [e,sz,sz,if_pos (by simp;omega),ap,ih k (u / 10) q _ hq hd (by omega) (by omega) (by simp;omega),dg_step h0];simp
   simp only [spec_FormatInt.l0];rw [if_neg (by omega)]
   rcases rem_div hx with ⟨g,e1,e2⟩|⟨g,e1,e2⟩
   ·rw [e1,e2,if_neg (by omega),w64 _ (by omega) (by omega),w64 _ (by omega) (by omega)]
    exact key _ (by omega)
   ·rw [e1,e2]
    by_cases z:u % 10=0
    ·rw [z,if_neg (by omega),w64 _ (by omega) (by omega),w64 _ (by omega) (by omega)]
     have:=key (-((u / 10:Nat):Int)) (by omega)
     rw [z] at this;exact this
    ·rw [if_pos (by omega),w64 (-(-((u % 10:Nat):Int))) (by omega) (by omega),w64 _ (by omega) (by omega),w64 _ (by omega) (by omega),Int.neg_neg]
     exact key _ (by omega)
theorem FormatInt_spec (x:Int) (h0:-9223372036854775808≤x) (h1:x≤9223372036854775807) (k:Nat) (hk:20<k):spec_FormatInt.f k x=some ⟨(Lib.itoa x).toArray⟩:=by
 unfold spec_FormatInt.f
 by_cases h:x=0
 ·rw [if_pos h,h];decide +kernel
 ·rw [if_neg h]
  have:=FormatInt_l0 (decide (x<0)) 20 k x.natAbs x [] rfl (by omega) (by omega) hk (by simp)
  rw [show (⟨#[]⟩:ByteArray)=⟨([]:List UInt8).toArray⟩ from rfl,this]
  unfold Lib.itoa dg
  rw [if_neg (show ¬ x.natAbs=0 by omega)]
  by_cases g:x<0
  ·rw [if_pos g,if_pos (decide_eq_true g)];simp
  ·rw [if_neg g,if_neg (by simp [g]),show x.toNat=x.natAbs by omega];simp
end Go.Proofs.YtekegbacnagbcaaGreat.F
/- Cutting a list of bytes at a byte. Plain Lean over the library's own words; no program. -/
namespace Go.Proofs.YtekegbacnagbcaaGreat.Sp
open Go Go.Lib
def consH (b:UInt8):List (List UInt8)→List (List UInt8)
 | []=>[[b]]
 | h :: t=>(b :: h) :: t
def splitL (c:UInt8):List UInt8→List (List UInt8)
 | []=>[[]]
 | b :: l=>if b=c then [] :: splitL c l else consH b (splitL c l)
theorem splitL_ne (c:UInt8):∀ s,splitL c s≠[]:=by
 intro s
 cases s with
 | nil=>simp [splitL]
 | cons b l =>
  simp only [splitL];split
  ·simp
  ·cases splitL c l<;>simp [consH]
theorem splitL_one (c:UInt8):∀ s,c ∉ s→splitL c s=[s]:=by
 intro s
 induction s with
 | nil=>intro _;rfl
 | cons b l ih =>
  intro h
  simp only [splitL]
  rw [if_neg (fun (e:b=c)=>h (e ▸ List.mem_cons_self)),ih (fun q=>h (List.mem_cons_of_mem _ q))];rfl
theorem join_splitL (c:UInt8):∀ s,join (splitL c s) [c]=s:=by
 intro s
 induction s with
 | nil=>rfl
 | cons b l ih =>
  simp only [splitL]
  cases hq:splitL c l with
  | nil=>exact absurd hq (splitL_ne c l)
  | cons x t =>
   rw [hq,join_cons] at ih
   by_cases h:b=c
   ·rw [if_pos h,join_cons];subst h;simp only [joinTail,List.map_cons,List.flatten_cons,List.nil_append] at ih ⊢;rw [List.append_assoc,ih];rfl
   ·rw [if_neg h];simp only [consH];rw [join_cons];simp only [List.cons_append];rw [ih]
end Go.Proofs.YtekegbacnagbcaaGreat.Sp
/- Strings cut at a byte, and the marks written into lists of strings: what the printed functions come to. -/
namespace Go.Proofs.YtekegbacnagbcaaGreat.F
open Go.RowKit Go.Proofs.YtekegbacnagbcaaGreatW.PrintWords Go.Proofs.YtekegbacnagbcaaGreatW.PrintMore Go.Proofs.YtekegbacnagbcaaGreat.P Go.Proofs.YtekegbacnagbcaaGreat.B Go.Proofs.YtekegbacnagbcaaGreat.Dg Go.Proofs.YtekegbacnagbcaaGreat.L Go.Proofs.YtekegbacnagbcaaGreat.Sp
def mkB (l:List UInt8):ByteArray:=⟨l.toArray⟩
theorem mkB_data (l:List UInt8):(mkB l).data.toList=l:=by simp [mkB]
theorem mkB_of (x:ByteArray):mkB x.data.toList=x:=ls x
theorem cut_get (x:ByteArray) (i:Nat) (h:i<x.data.toList.length):bt x (i:Int)=((x.data.toList[i]).toNat:Int):=by
 have hz:i<x.size:=by rw [Lib.size_eq];exact h
 unfold bt;rw [Int.toNat_natCast,dif_pos hz];simp;rfl
def addH (cur:List UInt8):List (List UInt8)→List (List UInt8)
 | []=>[cur]
 | h :: t=>(cur++h) :: t
theorem addH_nil (c:UInt8) (s:List UInt8):addH [] (splitL c s)=splitL c s:=by
 cases h:splitL c s with
 | nil=>exact absurd h (splitL_ne c s)
 | cons x t=>rfl
theorem addH_consH (cur:List UInt8) (b:UInt8) (l:List (List UInt8)):addH cur (consH b l)=addH (cur++[b]) l:=by
 cases l with
 | nil=>rfl
 | cons x t=>simp [addH,consH]
def cutB (a:ByteArray) (c:UInt8):List ByteArray:=(splitL c a.data.toList).map mkB
theorem splitL_len (c:UInt8):∀ s,(splitL c s).length≤s.length+1
 | []=>by simp [splitL]
 | b :: l=>by
  have:=splitL_len c l
  simp only [splitL];split
  ·simp;omega
  ·cases h:splitL c l with
   | nil=>simp [consH]
   | cons x t=>rw [h] at this;simp [consH] at this ⊢;omega
theorem cutB_len (a:ByteArray) (c:UInt8):(cutB a c).length≤a.size+1:=by
 unfold cutB;rw [List.length_map,Lib.size_eq];exact splitL_len c _
theorem cut_join (a:ByteArray) (c:UInt8):Lib.join ((cutB a c).map (·.data.toList)) [c]=a.data.toList:=by
 unfold cutB;rw [List.map_map]
 have:((fun x:ByteArray=>x.data.toList) ∘ mkB)=id:=funext fun l=>mkB_data l
 rw [this,List.map_id];exact join_splitL c _
theorem cut_size {a p:ByteArray} {c:UInt8} (h:p ∈ cutB a c):p.size≤a.size:=by
 have:∀ s:List UInt8,∀ l ∈ splitL c s,l.length≤s.length:=by
  intro s
  induction s with
  | nil=>intro l hl;simp only [splitL,List.mem_singleton] at hl;subst hl;simp
  | cons b s ih =>
   intro l hl
   simp only [splitL] at hl
   split at hl
   ·rcases List.mem_cons.mp hl with rfl|hl
    ·simp
    ·have:=ih l hl;simp;omega
   ·cases hq:splitL c s with
    | nil=>rw [hq] at hl;simp only [consH,List.mem_singleton] at hl;subst hl;simp
    | cons x t =>
     rw [hq] at hl ih
     simp only [consH,List.mem_cons] at hl
     rcases hl with rfl|hl
     ·have:=ih x List.mem_cons_self;simp;omega
     ·have:=ih l (List.mem_cons_of_mem _ hl);simp;omega
 unfold cutB at h
 obtain ⟨l,hl,rfl⟩:=List.mem_map.mp h
 rw [Lib.size_eq,mkB_data,Lib.size_eq a];exact this _ l hl
theorem split_addH (c:UInt8):∀ x r:List UInt8,c ∉ x→splitL c (x++r)=addH x (splitL c r)
 | [],r,_=>(addH_nil c r).symm
 | b :: x,r,h=>by
  have hb:¬ b=c:=fun e=>h (e ▸ List.mem_cons_self)
  rw [List.cons_append];simp only [splitL]
  rw [if_neg hb,split_addH c x r (fun q=>h (List.mem_cons_of_mem _ q))]
  cases splitL c r with
  | nil=>rfl
  | cons y t=>rfl
theorem split_tail (c:UInt8):∀ (r:List (List UInt8)) (x:List UInt8),c ∉ x→(∀ p ∈ r,c ∉ p)→splitL c (x++Lib.joinTail [c] r)=x :: r
 | [],x,hx,_=>by
  have:Lib.joinTail [c] ([]:List (List UInt8))=[]:=rfl
  rw [this,List.append_nil];exact splitL_one c x hx
 | y :: r,x,hx,hr=>by
  rw [tail_cons,split_addH c x _ hx,List.append_assoc,List.singleton_append]
  simp only [splitL,if_true]
  rw [split_tail c r y (hr y List.mem_cons_self) (fun p hp=>hr p (List.mem_cons_of_mem _ hp))]
  simp [addH]
theorem split_join (c:UInt8) (x:List UInt8) (r:List (List UInt8)) (h:∀ p ∈ x :: r,c ∉ p):splitL c (Lib.join (x :: r) [c])=x :: r:=by
 rw [Lib.join_cons];exact split_tail c r x (h x List.mem_cons_self) (fun p hp=>h p (List.mem_cons_of_mem _ hp))
theorem SplitByte_l0 (a:ByteArray) (ha:a.size≤4194304) (by_:Int) (h0:0≤by_) (h1:by_≤255):∀ d k i from_:Nat,∀ out:List ByteArray,i+d=a.size→from_≤i→out.length≤i→d+1<k →
  spec_SplitByte.l0 k a by_ out (from_:Int) (i:Int)=some (out++(addH ((a.data.toList.drop from_).take (i - from_)) (splitL (UInt8.ofNat by_.toNat) (a.data.toList.drop i))).map mkB):=by
 have hz:=Lib.size_eq a
 have ex:∀ x y:Nat,a.extract x y=mkB ((a.data.toList.drop x).take (y - x)):=fun x y=>by rw [← mkB_of (a.extract x y),Lib.extract_data]
 intro d
 induction d with
 | zero =>
  intro k i from_ out hi hf ho hk;obtain ⟨k,rfl⟩:∃ q,k=q+2:=⟨k - 2,by omega⟩
  simp only [spec_SplitByte.l0]
  rw [if_pos (by omega),if_pos (by omega),if_pos (by omega),if_pos (by omega),if_pos (by omega),w64 ((i:Int)+1) (by omega) (by omega),if_neg (by omega),Int.toNat_natCast,Int.toNat_natCast,ex,List.drop_eq_nil_of_le (show a.data.toList.length≤i by omega)]
  simp [splitL,addH]
 | succ d ih =>
  intro k i from_ out hi hf ho hk;obtain ⟨k,rfl⟩:∃ q,k=q+1:=⟨k - 1,by omega⟩
  have hj:i<a.data.toList.length:=by omega
  have hc:(a.data.toList[i]).toNat<256:=UInt8.toNat_lt _
  have w:wrap64 ((i:Int)+1)=((i+1:Nat):Int):=by rw [w64 _ (by omega) (by omega)];omega
  simp only [spec_SplitByte.l0]
  rw [if_pos (by omega),if_neg (by omega),if_pos (by omega),if_pos (by omega),cut_get a i hj,w]
  rw [List.drop_eq_getElem_cons hj]
  simp only [splitL]
  by_cases q:(((a.data.toList[i]).toNat:Nat):Int)=by_
  ·have e:a.data.toList[i]=UInt8.ofNat by_.toNat:=by
    apply UInt8.toNat_inj.1;rw [UInt8.toNat_ofNat'];omega
   rw [if_pos q,if_pos (by omega),if_pos (by omega),if_pos (by omega),if_pos e,Int.toNat_natCast,Int.toNat_natCast,ex,ih k (i+1) (i+1) _ (by omega) (Nat.le_refl _) (by rw [List.length_append,List.length_singleton];omega) (by omega)]
   rw [Nat.sub_self,List.take_zero,addH_nil]
   simp [addH]
  ·have e:¬ a.data.toList[i]=UInt8.ofNat by_.toNat:=fun e=>q (by rw [e,UInt8.toNat_ofNat'];omega)
   rw [if_neg q,if_neg e,ih k (i+1) from_ out (by omega) (by omega) (by omega) (by omega),addH_consH]
   congr 5
   rw [show i+1 - from_=(i - from_)+1 by omega,List.take_add_one,List.getElem?_drop,show from_+(i - from_)=i by omega,List.getElem?_eq_getElem hj];rfl
theorem SplitByte_spec (a:ByteArray) (ha:a.size≤4194304) (by_:Int) (h0:0≤by_) (h1:by_≤255) (k:Nat) (hk:a.size+1<k):spec_SplitByte.f k a by_=some (cutB a (UInt8.ofNat by_.toNat)):=by
 unfold spec_SplitByte.f
 have:=SplitByte_l0 a ha by_ h0 h1 a.size k 0 0 [] (by omega) (by omega) (by simp) hk
 rw [show ((0:Nat):Int)=0 from rfl] at this
 rw [this,Nat.sub_self,List.take_zero,List.drop_zero,addH_nil];rfl
end Go.Proofs.YtekegbacnagbcaaGreat.F
/- Families parsed: what the printed functions come to. -/
namespace Go.Proofs.YtekegbacnagbcaaGreat.Pf
open Go.RowKit Go.Proofs.YtekegbacnagbcaaGreatW.PrintWords Go.Proofs.YtekegbacnagbcaaGreatW.PrintMore Go.Proofs.YtekegbacnagbcaaGreat.P Go.Proofs.YtekegbacnagbcaaGreat.B Go.Proofs.YtekegbacnagbcaaGreat.Sp Go.Proofs.YtekegbacnagbcaaGreat.F Go.Proofs.YtekegbacnagbcaaGreat.L Go.Proofs.YtekegbacnagbcaaGreat.Ps
theorem bsome {α β:Type} (a:α) (f:α→Option β):(some a).bind f=f a:=(Option.bind_some a f).trans rfl
def vals (ps:List ByteArray):List Int:=ps.map fun t=>(parseS t).1
def okAll (ps:List ByteArray):Bool:=ps.all fun t=>(parseS t).2
def fin (n:Int) (a:ByteArray) (xs:List Int):List Int × Bool:=if fam n xs=true then (if famT xs=a then (xs,true) else ([],false)) else ([],false)
theorem comma_free (s:Int):(44:UInt8) ∉ textL s:=by
 unfold textL
 split
 ·split
  ·decide
  ·intro h
   obtain ⟨e,he,q⟩:=List.mem_map.mp h
   have:=elems_range he
   have h1:=tbyte_nat this.1 this.2
   have h2:=congrArg UInt8.toNat q
   rw [h1,show (44:UInt8).toNat=44 from rfl] at h2;omega
 ·simp
theorem fam_any {n:Int} {xs:List Int} (h:fam n xs=true):∀ x ∈ xs,any x=true:=by
 obtain ⟨h1,h2,h3,_⟩:=(fam_iff n xs).mp h
 intro x hx
 have:=h3 x hx
 have hp:(2:Int) ^ n.toNat≤256:=by
  obtain ⟨m,rfl⟩:∃ m:Nat,n=m:=⟨n.toNat,by omega⟩
  have:m=0∨m=1∨m=2∨m=3∨m=4∨m=5∨m=6∨m=7∨m=8:=by omega
  rcases this with rfl|rfl|rfl|rfl|rfl|rfl|rfl|rfl|rfl<;>decide
 exact decide_eq_true (by omega)
theorem cut_famT {n:Int} {a:ByteArray} {xs:List Int} (hx:xs≠[]) (hf:fam n xs=true) (ht:famT xs=a):cutB a 44=xs.map textB:=by
 have ha:=fam_any hf
 have hb:areB xs=true:=List.all_eq_true.mpr ha
 unfold famT at ht;rw [if_neg hx,if_pos hb] at ht
 have hd:a.data.toList=Lib.join ((xs.map textB).map (·.data.toList)) [44]:=by rw [← ht];unfold joinB joinL;rw [show comma.data.toList=[44] from rfl]
 have hm:(xs.map textB).map (·.data.toList)=xs.map textL:=by
  rw [List.map_map];exact List.map_congr_left fun x _=>by show (textB x).data.toList=_;unfold textB;simp
 cases xs with
 | nil=>exact absurd rfl hx
 | cons x r =>
  unfold cutB;rw [hd,hm,List.map_cons,split_join 44 (textL x) (r.map textL) (fun p hp=>by
   rcases List.mem_cons.mp hp with rfl|hp
   ·exact comma_free x
   ·obtain ⟨y,_,rfl⟩:=List.mem_map.mp hp;exact comma_free y)]
  rw [List.map_cons,List.map_map,List.map_cons];rfl
theorem vals_len (ps:List ByteArray):(vals ps).length=ps.length:=List.length_map _
theorem cut_pos (a:ByteArray) (c:UInt8):cutB a c≠[]:=by
 unfold cutB;intro h;exact splitL_ne c _ (List.map_eq_nil_iff.mp h)
theorem fin_bad {n:Int} {a:ByteArray} (h:okAll (cutB a 44)=false):fin n a (vals (cutB a 44))=([],false):=by
 unfold fin
 by_cases hf:fam n (vals (cutB a 44))=true
 ·rw [if_pos hf]
  by_cases ht:famT (vals (cutB a 44))=a
  ·exfalso
   have hv:vals (cutB a 44)≠[]:=fun e=>cut_pos a 44 (List.map_eq_nil_iff.mp e)
   have hc:=cut_famT hv hf ht
   have ha:=fam_any hf
   have:okAll (cutB a 44)=true:=by
    rw [hc];unfold okAll;rw [List.all_eq_true]
    intro t ht'
    obtain ⟨x,hx,rfl⟩:=List.mem_map.mp ht'
    rw [parse_text,if_pos (ha x hx)]
   rw [h] at this;cases this
  ·rw [if_neg ht]
 ·rw [if_neg hf]
def none4:ByteArray:=⟨#[110,111,110,101]⟩
def parF (n:Int) (a:ByteArray):List Int × Bool:=fin n a (if a=none4 then [] else vals (cutB a 44))
theorem none_list (a:ByteArray):a.toList=([110,111,110,101]:List UInt8)↔a=none4:=by
 rw [tl];constructor
 ·intro h;rw [← ls a,h];rfl
 ·rintro rfl;rfl
theorem fin_len (n:Int) (a:ByteArray) (xs:List Int):(fin n a xs).1.length≤xs.length:=by
 unfold fin
 by_cases h:fam n xs=true
 ·rw [if_pos h]
  by_cases q:famT xs=a
  ·rw [if_pos q];exact Nat.le_refl _
  ·rw [if_neg q];exact Nat.zero_le _
 ·rw [if_neg h];exact Nat.zero_le _
theorem parF_len (n:Int) (a:ByteArray):(parF n a).1.length≤a.size+1:=by
 have h1:=cutB_len a 44
 unfold parF
 by_cases h:a=none4
 ·rw [if_pos h];exact Nat.le_trans (fin_len n a []) (Nat.zero_le _)
 ·rw [if_neg h];have:=fin_len n a (vals (cutB a 44));rw [vals_len] at this;omega
theorem spec_end (n:Int) (a:ByteArray) (xs:List Int) (ps:List ByteArray) (i:Int) (k:Nat) (hx:xs.length≤1048577) (hk:4194304≤k):spec_ParseFamily.j1 (k+1) n a xs ps i false=some (fin n a xs):=by
 simp only [spec_ParseFamily.j1]
 rw [if_neg (by simp),IsFamily_spec n xs k (by omega) (by omega),bsome];unfold fin
 by_cases hf:fam n xs=true
 ·rw [if_pos hf,if_pos hf,FamilyText_spec xs k (by omega) (by omega),bsome]
  by_cases ht:famT xs=a
  ·rw [if_pos (by rw [ht]),if_pos ht]
  ·rw [if_neg (fun e=>ht (by rw [tl,tl] at e;rw [← ls (famT xs),e,ls])),if_neg ht]
 ·rw [if_neg hf,if_neg hf]
theorem spec_l0 (n:Int) (a:ByteArray) (hn:(a.toList != ([110,111,110,101]:List UInt8))=true) (ps:List ByteArray) (hp:ps.length≤1048577) (hs:∀ t ∈ ps,t.size≤1048576):∀ d k i:Nat,i+d=ps.length→2*d+4194304+4<k →
  spec_ParseFamily.l0 k n a (vals (ps.take i)) ps (i:Int)=some (if okAll (ps.drop i)=true then fin n a (vals ps) else ([],false)):=by
 intro d
 induction d with
 | zero =>
  intro k i hi hk;obtain ⟨k,rfl⟩:∃ q,k=q+2:=⟨k - 2,by omega⟩
  simp only [spec_ParseFamily.l0]
  rw [if_neg (by omega),List.take_of_length_le (by omega),List.drop_eq_nil_of_le (by omega),if_pos (show okAll []=true from rfl)]
  exact spec_end n a _ ps _ k (by rw [vals_len];exact hp) (by omega)
 | succ d ih =>
  intro k i hi hk;obtain ⟨k,rfl⟩:∃ q,k=q+2:=⟨k - 2,by omega⟩
  have hj:i<ps.length:=by omega
  have hm:rdOf ByteArray.empty ps (i:Int)=ps[i]:=by simp [rdOf,hj]
  have w:wrap64 ((i:Int)+1)=((i+1:Nat):Int):=by unfold wrap64;omega
  have hB:=big_eq
  simp only [spec_ParseFamily.l0]
  rw [if_pos (by omega),hn]
  simp only [spec_ParseFamily.j1]
  rw [if_pos trivial,if_pos (by omega),if_pos (by omega),hm,ParseSet_spec _ (hs _ (List.getElem_mem hj)) k (by omega),bsome,List.drop_eq_getElem_cons hj]
  have e:okAll (ps[i] :: ps.drop (i+1))=((parseS ps[i]).2 && okAll (ps.drop (i+1))):=rfl
  rw [e]
  cases hq:(parseS ps[i]).2 with
  | true =>
   rw [if_pos rfl,if_pos (by rw [vals_len,List.length_take];omega),w,Bool.true_and,← ih k (i+1) (by omega) (by omega),List.take_succ_eq_append_getElem hj];unfold vals;rw [List.map_append];rfl
  | false=>rw [if_neg (by simp),Bool.false_and,if_neg (by simp)]
theorem ParseFamily_spec (n:Int) (a:ByteArray) (ha:a.size≤1048576) (k:Nat) (hk:9000000<k):spec_ParseFamily.f k n a=some (parF n a):=by
 unfold spec_ParseFamily.f parF
 rw [SplitByte_spec a (by omega) 44 (by omega) (by omega) k (by omega),bsome]
 have hl:=cutB_len a 44
 by_cases h:a=none4
 ·rw [if_pos h]
  obtain ⟨k,rfl⟩:∃ q,k=q+2:=⟨k - 2,by omega⟩
  have hn:(a.toList != ([110,111,110,101]:List UInt8))=false:=by rw [(none_list a).mpr h];rfl
  simp only [spec_ParseFamily.l0];rw [hn,ite_self]
  exact spec_end n a [] _ _ k (by simp) (by omega)
 ·rw [if_neg h]
  have hn:(a.toList != ([110,111,110,101]:List UInt8))=true:=by
   rw [bne_iff_ne];exact fun e=>h ((none_list a).mp e)
  have:=spec_l0 n a hn (cutB a 44) (by omega) (fun t ht=>by have:=cut_size ht;omega) (cutB a 44).length k 0 (Nat.zero_add _) (by omega)
  refine Eq.trans this ?_
  rw [List.drop_zero]
  cases hq:okAll (cutB a 44) with
  | true=>rw [if_pos rfl]
  | false=>rw [if_neg (by simp),fin_bad hq]
end Go.Proofs.YtekegbacnagbcaaGreat.Pf
/- Numbers parsed: what the printed functions come to. -/
namespace Go.Proofs.YtekegbacnagbcaaGreat.F
open Go.RowKit Go.Proofs.YtekegbacnagbcaaGreatW.PrintWords Go.Proofs.YtekegbacnagbcaaGreatW.PrintMore Go.Proofs.YtekegbacnagbcaaGreat.P Go.Proofs.YtekegbacnagbcaaGreat.B Go.Proofs.YtekegbacnagbcaaGreat.Dg
theorem bt_get (x:ByteArray) (i:Nat) (h:i<x.data.toList.length):bt x (i:Int)=((x.data.toList[i]).toNat:Int):=by
 have hz:i<x.size:=by rw [Lib.size_eq];exact h
 unfold bt;rw [Int.toNat_natCast,dif_pos hz];simp;rfl
theorem drop_cons {α:Type} {l:List α} {i:Nat} (h:i<l.length):l.drop i=l[i] :: l.drop (i+1):=List.drop_eq_getElem_cons h
def scan:List UInt8→Nat→Option Nat
 | [],v=>some v
 | c :: r,v=>if c.toNat<48∨c.toNat>57 then none else scan r (10*v+(c.toNat - 48))
theorem scan_append:∀ (a b:List UInt8) (v:Nat),scan (a++b) v=(scan a v).bind (scan b)
 | [],_,_=>rfl
 | c :: r,b,v=>by
  simp only [List.cons_append,scan]
  split
  ·rfl
  ·exact scan_append r b _
theorem scan_dec:∀ n u:Nat,u<n→scan (Lib.decDigits u) 0=some u:=by
 intro n
 induction n with
 | zero=>intro u h;omega
 | succ n ih =>
  intro u h
  by_cases q:u<10
  ·rw [dec_small q];simp only [scan];rw [dig_nat q,if_neg (by omega)];congr 1;omega
  ·rw [dec_big q,scan_append,ih (u / 10) (by omega)]
   simp only [Option.bind_some,scan];rw [dig_nat (by omega),if_neg (by omega)];congr 1;omega
theorem scan_lt:∀ (l:List UInt8) (v w d:Nat),v<10 ^ d→scan l v=some w→w<10 ^ (d+l.length)
 | [],v,w,d,h,e=>by simp only [scan,Option.some.injEq] at e;subst e;simpa using h
 | c :: r,v,w,d,h,e=>by
  simp only [scan] at e
  split at e
  ·cases e
  ·have:=scan_lt r (10*v+(c.toNat - 48)) w (d+1) (by rw [Nat.pow_succ];omega) e
   rw [List.length_cons,show d+(r.length+1)=d+1+r.length by omega];exact this
def readR (l:List UInt8) (b:Bool):Option Nat→Int × Bool
 | none=>(0,false)
 | some v=>if Lib.itoa (if b=true then -(v:Int) else (v:Int))=l then ((if b=true then -(v:Int) else (v:Int)),true) else (0,false)
def dash (l:List UInt8):Bool:=match l with|[]=>false|c :: _=>c.toNat==45
def mag (l:List UInt8):List UInt8:=if dash l=true then l.tail else l
def readL (m:Nat) (l:List UInt8):Int × Bool:=if (mag l).length<1∨m<(mag l).length then (0,false) else readR l (dash l) (scan (mag l) 0)
theorem abs_pow {n:Int} {m:Nat} (h:n.natAbs<10 ^ (m+1)):(Lib.decDigits n.natAbs).length≤m+1:=(dec_len m _).mpr h
theorem readL_ok {m:Nat} {l:List UInt8} {n:Int} (h:Lib.itoa n=l) (hn:n.natAbs<10 ^ (m+1)):readL (m+1) l=(n,true):=by
 have hl:=abs_pow hn
 unfold Lib.itoa at h
 by_cases g:n<0
 ·rw [if_pos g] at h
  have hd:dash l=true:=by rw [← h];rfl
  have hm:mag l=Lib.decDigits n.natAbs:=by unfold mag;rw [if_pos hd,← h];rfl
  have h1:1≤(Lib.decDigits n.natAbs).length:=List.length_pos_iff.mpr (dec_ne _)
  unfold readL;rw [hm,hd,if_neg (by omega),scan_dec (n.natAbs+1) _ (by omega)]
  simp only [readR,if_true]
  have e:-((n.natAbs:Nat):Int)=n:=by omega
  rw [e,if_pos];unfold Lib.itoa;rw [if_pos g];exact h
 ·rw [if_neg g] at h
  obtain ⟨c,r,hc,c0,c1⟩:=dec_cons n.toNat
  have hd:dash l=false:=by rw [← h,hc];simp [dash];omega
  have ht:n.toNat=n.natAbs:=by omega
  have hm:mag l=Lib.decDigits n.natAbs:=by unfold mag;rw [if_neg (by rw [hd];simp),← h,ht]
  have h1:1≤(Lib.decDigits n.natAbs).length:=List.length_pos_iff.mpr (dec_ne _)
  unfold readL;rw [hm,hd,if_neg (by omega),scan_dec (n.natAbs+1) _ (by omega)]
  simp only [readR]
  have e:((n.natAbs:Nat):Int)=n:=by omega
  rw [if_neg (show ¬ (false=true) by simp),e,if_pos];unfold Lib.itoa;rw [if_neg g];exact h
theorem readL_no {m:Nat} {l:List UInt8} (h:∀ n:Int,n.natAbs<10 ^ m→Lib.itoa n≠l):readL m l=(0,false):=by
 unfold readL
 by_cases q:(mag l).length<1∨m<(mag l).length
 ·rw [if_pos q]
 ·rw [if_neg q]
  cases hs:scan (mag l) 0 with
  | none=>rfl
  | some v =>
   have hv:v<10 ^ (mag l).length:=by have:=scan_lt (mag l) 0 v 0 (by decide) hs;rwa [Nat.zero_add] at this
   have hv':v<10 ^ m:=Nat.lt_of_lt_of_le hv (Nat.pow_le_pow_right (by omega) (by omega))
   simp only [readR];rw [if_neg]
   exact h _ (by split<;>omega)
theorem l1Read_l0 (a t:ByteArray) (b:Bool) (ht:t.size≤12):∀ d k i v:Nat,i+d=t.size→v<10 ^ i→d+30<k →
  spec_l1Read.l0 k a b t (v:Int) (i:Int)=some (readR a.data.toList b (scan (t.data.toList.drop i) v)):=by
 intro d
 induction d with
 | zero =>
  intro k i v hi hv hk;obtain ⟨k,rfl⟩:∃ q,k=q+1:=⟨k - 1,by omega⟩
  have hz:=Lib.size_eq t
  have hv':v<10 ^ 12:=Nat.lt_of_lt_of_le hv (Nat.pow_le_pow_right (by omega) (by omega))
  simp only [spec_l1Read.l0];rw [if_neg (by omega),List.drop_eq_nil_of_le (by omega)]
  simp only [scan,readR]
  cases b with
  | true =>
   rw [if_pos rfl,if_pos rfl,w64 _ (by omega) (by omega),FormatInt_spec _ (by omega) (by omega) k (by omega)];simp only [Option.bind_some]
   rw [tl,tl];simp only []
   split<;>rfl
  | false =>
   rw [if_neg (show ¬ (false=true) by simp),FormatInt_spec _ (by omega) (by omega) k (by omega)];simp only [Option.bind_some]
   rw [if_neg (show ¬ (false=true) by simp)]
   rw [tl,tl];simp only []
   split<;>rfl
 | succ d ih =>
  intro k i v hi hv hk;obtain ⟨k,rfl⟩:∃ q,k=q+1:=⟨k - 1,by omega⟩
  have hz:=Lib.size_eq t
  have hj:i<t.data.toList.length:=by omega
  have hv':v<10 ^ 11:=Nat.lt_of_lt_of_le hv (Nat.pow_le_pow_right (by omega) (by omega))
  have hc:(t.data.toList[i]).toNat<256:=UInt8.toNat_lt _
  simp only [spec_l1Read.l0];rw [if_pos (by omega),if_pos (by omega),bt_get t i hj,drop_cons hj]
  simp only [scan]
  generalize (t.data.toList[i]).toNat=c at *
  by_cases c0:c<48
  ·rw [if_pos (by omega),if_pos (.inl c0)];rfl
  ·rw [if_neg (by omega)]
   by_cases c1:c>57
   ·rw [if_pos (by omega),if_pos (.inr c1)];rfl
   ·rw [if_neg (by omega),if_neg (by omega),w64 (10*(v:Int)) (by omega) (by omega),w64 _ (by omega) (by omega),w64 ((i:Int)+1) (by omega) (by omega)]
    have:=ih k (i+1) (10*v+(c - 48)) (by omega) (by rw [Nat.pow_succ];omega) (by omega)
    rw [← this];congr 1;omega
theorem l1Read_eq (a:ByteArray) (m:Nat) (hm:m≤12) (ha:a.size≤1048576) (k:Nat) (hk:60<k):spec_l1Read.f k a (m:Int)=some (readL m a.data.toList):=by
 have hz:=Lib.size_eq a
 obtain ⟨k,rfl⟩:∃ q,k=q+3:=⟨k - 3,by omega⟩
 have tail:∀ (t:ByteArray) (b:Bool),b=dash a.data.toList→t.data.toList=mag a.data.toList→spec_l1Read.j1 (k+2) a (m:Int) b t=some (readL m a.data.toList):=by
  intro t b hb ht
  have hs:=Lib.size_eq t
  simp only [spec_l1Read.j1,spec_l1Read.j2]
  unfold readL;rw [← ht,← hb,← hs]
  by_cases h1:t.size<1
  ·rw [if_pos (by omega),if_pos trivial,if_pos (.inl h1)]
  ·rw [if_neg (by omega)]
   by_cases h2:m<t.size
   ·rw [if_pos (decide_eq_true (show (t.size:Int)>(m:Int) by omega)),if_pos (.inr h2)]
   ·rw [if_neg (by rw [decide_eq_true_eq];omega),if_neg (by omega)]
    have:=l1Read_l0 a t b (by omega) t.size k 0 0 (by omega) (by decide) (by omega)
    simpa using this
 have j0:∀ b:Bool,b=dash a.data.toList→(b=true→1≤a.size)→spec_l1Read.j0 (k+3) a (m:Int) b=some (readL m a.data.toList):=by
  intro b hb h1
  simp only [spec_l1Read.j0]
  cases b with
  | true =>
   rw [if_pos rfl,if_pos (by have:=h1 rfl;omega)]
   refine tail _ _ hb ?_
   unfold mag;rw [← hb,if_pos rfl,Lib.extract_data,List.drop_one,List.take_of_length_le (by rw [List.length_tail,← hz];omega)]
  | false =>
   rw [if_neg (by simp)]
   refine tail _ _ hb ?_
   unfold mag;rw [← hb];rfl
 unfold spec_l1Read.f
 cases hl:a.data.toList with
 | nil =>
  have h0:a.size=0:=by rw [hz,hl];rfl
  rw [if_neg (by omega),← hl];exact j0 false (by rw [hl];rfl) (by simp)
 | cons c r =>
  have h0:0<a.size:=by rw [hz,hl];simp
  rw [if_pos (by omega),if_pos (by omega),← hl]
  have hb:=bt_get a 0 (by rw [hl];simp)
  refine j0 _ ?_ (fun _=>h0)
  have e:(a.data.toList[0]'(by rw [hl];simp))=c:=by simp [hl]
  rw [show (0:Int)=((0:Nat):Int) from rfl,hb,e,hl];simp only [dash]
  by_cases q:c.toNat=45
  ·rw [q];rfl
  ·rw [beq_eq_false_iff_ne.mpr q,beq_eq_false_iff_ne.mpr (by omega)]
def numL (l:List UInt8):Int × Bool:=if (readL 6 l).2=true∧0≤(readL 6 l).1 then ((readL 6 l).1,true) else (0,false)
theorem readL_cases (m:Nat) (l:List UInt8):(∃ n:Int,n.natAbs<10 ^ (m+1)∧Lib.itoa n=l∧readL (m+1) l=(n,true))∨((∀ n:Int,n.natAbs<10 ^ (m+1)→Lib.itoa n≠l)∧readL (m+1) l=(0,false)):=by
 by_cases h:∃ n:Int,n.natAbs<10 ^ (m+1)∧Lib.itoa n=l
 ·obtain ⟨n,h1,h2⟩:=h
  exact .inl ⟨n,h1,h2,readL_ok h2 h1⟩
 ·have h':∀ n:Int,n.natAbs<10 ^ (m+1)→Lib.itoa n≠l:=fun n h1 h2=>h ⟨n,h1,h2⟩
  exact .inr ⟨h',readL_no h'⟩
theorem numL_cases (l:List UInt8):(∃ n:Int,0≤n∧n≤999999∧Lib.itoa n=l∧numL l=(n,true))∨((∀ n:Int,0≤n→n≤999999→Lib.itoa n≠l)∧numL l=(0,false)):=by
 unfold numL
 rcases readL_cases 5 l with ⟨n,h1,h2,h3⟩|⟨h1,h2⟩
 ·rw [h3]
  by_cases g:0≤n
  ·exact .inl ⟨n,g,by omega,h2,by rw [if_pos ⟨rfl,g⟩]⟩
  ·refine .inr ⟨fun q q0 q1 e=>g ?_,by rw [if_neg (fun z=>g z.2)]⟩
   rw [← itoa_inj (show -9223372036854775808≤q by omega) (by omega) (show -9223372036854775808≤n by omega) (by omega) (by rw [e,h2])];exact q0
 ·rw [h2];exact .inr ⟨fun q q0 q1=>h1 q (by omega),by rw [if_neg (by simp)]⟩
theorem ParseInt_spec (a:ByteArray) (ha:a.size≤1048576) (k:Nat) (hk:60<k):spec_ParseInt.f k a=some (readL 12 a.data.toList):=by
 unfold spec_ParseInt.f
 have:=l1Read_eq a 12 (by omega) ha k hk
 rw [show ((12:Nat):Int)=12 from rfl] at this
 rw [this];rfl
end Go.Proofs.YtekegbacnagbcaaGreat.F
/- The text of a matroid: what the printed functions come to. -/
namespace Go.Proofs.YtekegbacnagbcaaGreat.Mx
open Go.RowKit Go.Proofs.YtekegbacnagbcaaGreatW.PrintWords Go.Proofs.YtekegbacnagbcaaGreatW.PrintMore Go.Proofs.YtekegbacnagbcaaGreat.P Go.Proofs.YtekegbacnagbcaaGreat.B Go.Proofs.YtekegbacnagbcaaGreat.F Go.Proofs.YtekegbacnagbcaaGreat.L
theorem bsome {α β:Type} (a:α) (f:α→Option β):(some a).bind f=f a:=(Option.bind_some a f).trans rfl
def matT (n:Int) (xs:List Int):ByteArray:=if mat n xs=true then ((⟨(Lib.itoa n).toArray⟩:ByteArray)++(⟨#[32]⟩:ByteArray))++famT xs else ⟨#[]⟩
theorem mat_fam {n:Int} {xs:List Int} (h:mat n xs=true):fam n xs=true:=by
 unfold mat at h
 cases hf:fam n xs with
 | true=>rfl
 | false=>rw [hf] at h;simp at h
theorem mat_size {n:Int} {xs:List Int} (h:mat n xs=true):0≤n∧n≤8:=by
 have:=(fam_iff n xs).mp (mat_fam h)
 exact ⟨this.n0,this.n8⟩
theorem itoa_small {n:Int} (h:0≤n∧n≤8):(Lib.itoa n).length=1:=by
 obtain ⟨m,rfl⟩:∃ m:Nat,n=m:=⟨n.toNat,by omega⟩
 have:m=0∨m=1∨m=2∨m=3∨m=4∨m=5∨m=6∨m=7∨m=8:=by omega
 rcases this with rfl|rfl|rfl|rfl|rfl|rfl|rfl|rfl|rfl<;>decide +kernel
theorem famT_size (xs:List Int):(famT xs).size≤9*xs.length+4:=by
 unfold famT
 split
 ·show 4≤_;omega
 ·split
  ·have:=texts_len xs
   unfold joinB;rw [sz];omega
  ·exact Nat.zero_le _
theorem MatroidText_spec (n:Int) (xs:List Int) (k:Nat) (hn:xs.length<2000000) (hk:5000000≤k):spec_MatroidText.f k n xs=some (matT n xs):=by
 have hs:=famT_size xs
 unfold spec_MatroidText.f matT;rw [IsMatroid_spec n xs k hn (by omega),bsome]
 by_cases h:mat n xs=true
 ·have hn8:=mat_size h
  have h1:=itoa_small hn8
  rw [if_pos h,if_pos h,FormatInt_spec n (by omega) (by omega) k (by omega),bsome,sz,h1,if_pos (by omega),FamilyText_spec xs k (by omega) (by omega),bsome,if_pos (by rw [ByteArray.size_append,sz,h1,show (⟨#[32]⟩:ByteArray).size=1 from rfl];omega)]
 ·rw [if_neg h,if_neg h]
end Go.Proofs.YtekegbacnagbcaaGreat.Mx
/- Matroids parsed: what the printed functions come to. -/
namespace Go.Proofs.YtekegbacnagbcaaGreat.Pm
open Go.RowKit Go.Proofs.YtekegbacnagbcaaGreatW.PrintWords Go.Proofs.YtekegbacnagbcaaGreatW.PrintMore Go.Proofs.YtekegbacnagbcaaGreat.P Go.Proofs.YtekegbacnagbcaaGreat.B Go.Proofs.YtekegbacnagbcaaGreat.Sp Go.Proofs.YtekegbacnagbcaaGreat.Dg
open Go.Proofs.YtekegbacnagbcaaGreat.F (tl ls sz ap cutB cutB_len cut_join cut_size mkB mkB_data SplitByte_spec readL readL_cases numL numL_cases ParseInt_spec)
open Go.Proofs.YtekegbacnagbcaaGreat.L (mat fam fam_iff famT big_eq)
open Go.Proofs.YtekegbacnagbcaaGreat.Pf (parF parF_len fin ParseFamily_spec vals)
open Go.Proofs.YtekegbacnagbcaaGreat.Mx (matT mat_size MatroidText_spec)
theorem bsome {α β:Type} (a:α) (f:α→Option β):(some a).bind f=f a:=(Option.bind_some a f).trans rfl
def p0 (a:ByteArray):ByteArray:=rdOf ByteArray.empty (cutB a 32) 0
def p1 (a:ByteArray):ByteArray:=rdOf ByteArray.empty (cutB a 32) 1
def num (a:ByteArray):Int × Bool:=numL (p0 a).data.toList
def lst (a:ByteArray):List Int × Bool:=parF (num a).1 (p1 a)
def parM (a:ByteArray):Int × List Int × Bool :=
 if (cutB a 32).length=2∧(num a).2=true∧(lst a).2=true∧mat (num a).1 (lst a).1=true then ((num a).1,(lst a).1,true) else (0,[],false)
theorem parF_true {n:Int} {a:ByteArray} (h:(parF n a).2=true):fam n (parF n a).1=true∧famT (parF n a).1=a:=by
 have key:∀ xs,(fin n a xs).2=true→fam n (fin n a xs).1=true∧famT (fin n a xs).1=a:=by
  intro xs h
  unfold fin at h ⊢
  by_cases q:fam n xs=true
  ·rw [if_pos q] at h ⊢
   by_cases r:famT xs=a
   ·rw [if_pos r] at h ⊢;exact ⟨q,r⟩
   ·rw [if_neg r] at h;cases h
  ·rw [if_neg q] at h;cases h
 exact key _ h
theorem two {l:List ByteArray} (h:l.length=2):l=[rdOf ByteArray.empty l 0,rdOf ByteArray.empty l 1]:=by
 match l,h with
 | [x,y],_=>rfl
theorem p_mem {a:ByteArray} (h:(cutB a 32).length=2):p0 a ∈ cutB a 32∧p1 a ∈ cutB a 32:=by
 have e:=two h
 have h0:p0 a ∈ [rdOf ByteArray.empty (cutB a 32) 0,rdOf ByteArray.empty (cutB a 32) 1]:=List.mem_cons_self
 have h1:p1 a ∈ [rdOf ByteArray.empty (cutB a 32) 0,rdOf ByteArray.empty (cutB a 32) 1]:=List.mem_cons_of_mem _ List.mem_cons_self
 rw [← e] at h0 h1
 exact ⟨h0,h1⟩
theorem a_join {a:ByteArray} (h:(cutB a 32).length=2):a.data.toList=(p0 a).data.toList++[32]++(p1 a).data.toList:=by
 have e:=cut_join a 32
 rw [two h] at e
 rw [← e];unfold p0 p1
 simp only [List.map_cons,List.map_nil]
 rw [Lib.join_cons];simp [Lib.joinTail]
theorem matT_iff {a:ByteArray} {n:Int} {xs:List Int} (h:(cutB a 32).length=2) (h0:Lib.itoa n=(p0 a).data.toList) (h1:famT xs=p1 a):(matT n xs=a↔mat n xs=true):=by
 have e:=a_join h
 unfold matT
 by_cases q:mat n xs=true
 ·rw [if_pos q]
  refine ⟨fun _=>q,fun _=>?_⟩
  rw [← ls a,e,← h0,← h1,← ls (famT xs),show (⟨#[32]⟩:ByteArray)=⟨[32].toArray⟩ from rfl,ap,ap]
 ·rw [if_neg q]
  refine ⟨fun z=>?_,fun z=>absurd z q⟩
  exfalso
  rw [← z] at e
  have:=congrArg List.length e
  simp at this
theorem ParseMatroid_spec (a:ByteArray) (ha:a.size≤1048576) (k:Nat) (hk:10000000≤k):spec_ParseMatroid.f k a=some (parM a):=by
 unfold spec_ParseMatroid.f
 rw [SplitByte_spec a (by omega) 32 (by omega) (by omega) k (by omega),bsome]
 have e32:(UInt8.ofNat (32:Int).toNat)=32:=rfl
 rw [e32]
 by_cases h:(cutB a 32).length=2
 ·have m:=p_mem h
  have s0:=cut_size m.1;have s1:=cut_size m.2
  rw [if_pos (by omega),if_pos (by omega),ParseInt_spec _ (show (rdOf ByteArray.empty (cutB a 32) 0).size≤1048576 from Nat.le_trans s0 ha) k (by omega),bsome,if_pos (by omega)]
  rw [show (rdOf ByteArray.empty (cutB a 32) 0)=p0 a from rfl,show (rdOf ByteArray.empty (cutB a 32) 1)=p1 a from rfl,ParseFamily_spec _ _ (Nat.le_trans s1 ha) k (by omega),bsome]
  rcases readL_cases 11 (p0 a).data.toList with ⟨n,n1,n2,n3⟩|⟨n1,n2⟩
  ·rw [n3];simp only []
   rw [if_pos trivial]
   have hl:(parF n (p1 a)).1.length≤1048577:=by have:=parF_len n (p1 a);have:(p1 a).size≤a.size:=s1;omega
   by_cases g:0≤n∧n≤999999
   ·have hn:num a=(n,true):=by
     unfold num
     rcases numL_cases (p0 a).data.toList with ⟨m',a1,a2,a3,a4⟩|⟨b1,_⟩
     ·rw [a4,itoa_inj (show -9223372036854775808≤m' by omega) (by omega) (show -9223372036854775808≤n by omega) (by omega) (by rw [a3,n2])]
     ·exact absurd n2 (b1 n g.1 g.2)
    have hlst:lst a=parF n (p1 a):=by unfold lst;rw [hn]
    cases h2:(parF n (p1 a)).2 with
    | false=>rw [if_neg (by simp)];unfold parM;rw [if_neg (fun z=>by have:=z.2.2.1;rw [hlst,h2] at this;cases this)]
    | true =>
     have hf:=parF_true h2
     have hm:=matT_iff (n:=n) (xs:=(parF n (p1 a)).1) h n2 hf.2
     rw [if_pos rfl,MatroidText_spec n _ k (by omega) (by omega),bsome]
     unfold parM;rw [hn,hlst,h2]
     by_cases h3:mat n (parF n (p1 a)).1=true
     ·rw [if_pos (by rw [hm.mpr h3]),if_pos ⟨h,rfl,rfl,h3⟩]
     ·rw [if_neg (fun z=>h3 (hm.mp (by rw [tl,tl] at z;rw [← ls (matT _ _),z,ls]))),if_neg (fun z=>h3 z.2.2.2)]
   ·have hn:(num a).2=false:=by
     unfold num
     rcases numL_cases (p0 a).data.toList with ⟨m',a1,a2,a3,a4⟩|⟨_,b2⟩
     ·exfalso;apply g
      rw [← itoa_inj (show -9223372036854775808≤m' by omega) (by omega) (show -9223372036854775808≤n by omega) (by omega) (by rw [a3,n2])];exact ⟨a1,a2⟩
     ·rw [b2]
    have h2:(parF n (p1 a)).2=false:=by
     cases h2:(parF n (p1 a)).2 with
     | false=>rfl
     | true=>have:=(fam_iff _ _).mp (parF_true h2).1;exact absurd ⟨this.n0,Int.le_trans this.n8 (by omega)⟩ g
    rw [h2,if_neg (by simp)];unfold parM;rw [if_neg (fun z=>by have:=z.2.1;rw [hn] at this;cases this)]
  ·rw [n2];simp only []
   rw [if_neg (by simp)]
   have hn:(num a).2=false:=by
    unfold num
    rcases numL_cases (p0 a).data.toList with ⟨m',a1,a2,a3,a4⟩|⟨_,b2⟩
    ·exact absurd a3 (n1 m' (by omega))
    ·rw [b2]
   unfold parM;rw [if_neg (fun z=>by have:=z.2.1;rw [hn] at this;cases this)]
 ·rw [if_neg (by omega)];unfold parM;rw [if_neg (fun z=>h z.1)]
end Go.Proofs.YtekegbacnagbcaaGreat.Pm
/- A matroid's text, read, is the matroid; and what a failure of the exchange tells. -/
namespace Go.Proofs.YtekegbacnagbcaaGreat.Pm
open Go.RowKit Go.Proofs.YtekegbacnagbcaaGreatW.PrintWords Go.Proofs.YtekegbacnagbcaaGreatW.PrintMore Go.Proofs.YtekegbacnagbcaaGreat.P Go.Proofs.YtekegbacnagbcaaGreat.B Go.Proofs.YtekegbacnagbcaaGreat.Sp Go.Proofs.YtekegbacnagbcaaGreat.Dg
open Go.Proofs.YtekegbacnagbcaaGreat.F (tl ls sz ap cutB mkB mkB_of split_join numL numL_cases)
open Go.Proofs.YtekegbacnagbcaaGreat.L
open Go.Proofs.YtekegbacnagbcaaGreat.Pf (parF fin vals none4 cut_famT fam_any)
open Go.Proofs.YtekegbacnagbcaaGreat.Mx (matT)
open Go.Proofs.YtekegbacnagbcaaGreat.Ps (parse_text)
theorem text_free {c:UInt8} (hc:c=32∨c=110) (s:Int):c ∉ textL s:=by
 unfold textL
 split
 ·split
  ·rcases hc with rfl|rfl<;>decide
  ·intro h
   obtain ⟨e,he,q⟩:=List.mem_map.mp h
   have:=elems_range he
   have h1:=tbyte_nat this.1 this.2
   have h2:=congrArg UInt8.toNat q
   rw [h1] at h2
   rcases hc with rfl|rfl
   ·rw [show (32:UInt8).toNat=32 from rfl] at h2;omega
   ·rw [show (110:UInt8).toNat=110 from rfl] at h2;omega
 ·simp
theorem tail_free {c:UInt8} (hc:c≠44):∀ l:List (List UInt8),(∀ p ∈ l,c ∉ p)→c ∉ Lib.joinTail [44] l
 | [],_=>by simp [Lib.joinTail]
 | x :: r,h=>by
  rw [tail_cons,List.mem_append,List.mem_append,List.mem_singleton]
  rintro ((q|q)|q)
  ·exact hc q
  ·exact h x List.mem_cons_self q
  ·exact tail_free hc r (fun p hp=>h p (List.mem_cons_of_mem _ hp)) q
theorem famT_data {xs:List Int} (hx:xs≠[]) (ha:areB xs=true):(famT xs).data.toList=Lib.join (xs.map textL) [44]:=by
 unfold famT;rw [if_neg hx,if_pos ha]
 unfold joinB joinL
 rw [show comma.data.toList=[44] from rfl,List.map_map]
 have:xs.map ((fun s:ByteArray=>s.data.toList) ∘ textB)=xs.map textL:=List.map_congr_left fun x _=>by show (textB x).data.toList=_;unfold textB;simp
 show Lib.join (xs.map ((fun s:ByteArray=>s.data.toList) ∘ textB)) [44]=_
 rw [this]
theorem famT_free {c:UInt8} (hc:c=32∨c=110) {xs:List Int} (hx:xs≠[]) (ha:areB xs=true):c ∉ (famT xs).data.toList:=by
 rw [famT_data hx ha]
 cases xs with
 | nil=>exact absurd rfl hx
 | cons x r =>
  rw [List.map_cons,Lib.join_cons,List.mem_append]
  rintro (q|q)
  ·exact text_free hc x q
  ·refine tail_free (by rcases hc with rfl|rfl<;>decide) (r.map textL) (fun p hp=>?_) q
   obtain ⟨y,_,rfl⟩:=List.mem_map.mp hp;exact text_free hc y
theorem itoa_free {n:Int} (h0:0≤n) (h8:n≤8):(32:UInt8) ∉ Lib.itoa n:=by
 unfold Lib.itoa;rw [if_neg (by omega),dec_small (show n.toNat<10 by omega),List.mem_singleton]
 intro q
 have:=congrArg UInt8.toNat q
 rw [dig_nat (show n.toNat<10 by omega),show (32:UInt8).toNat=32 from rfl] at this;omega
theorem parM_matT {n:Int} {xs:List Int} (h:mat n xs=true):parM (matT n xs)=(n,xs,true):=by
 have F:=(L.mat_fam h).1
 have hx:xs≠[]:=fun q=>by have:=(L.mat_fam h).2.1;rw [q] at this;exact absurd this (by decide)
 have hf:fam n xs=true:=(fam_iff n xs).mpr F
 have hany:=fam_any hf
 have ha:areB xs=true:=List.all_eq_true.mpr hany
 have e0:(matT n xs).data.toList=Lib.join [Lib.itoa n,(famT xs).data.toList] [32]:=by
  unfold matT;rw [if_pos h,← ls (famT xs),show (⟨#[32]⟩:ByteArray)=⟨[32].toArray⟩ from rfl,ap,ap,Lib.join_cons,tail_cons]
  simp [Lib.joinTail]
 have e1:cutB (matT n xs) 32=[mkB (Lib.itoa n),famT xs]:=by
  unfold cutB;rw [e0,split_join 32 _ _ (fun p hp=>by
   simp only [List.mem_cons,List.not_mem_nil,or_false] at hp
   rcases hp with rfl|rfl
   ·exact itoa_free F.n0 F.n8
   ·exact famT_free (.inl rfl) hx ha)]
  rw [List.map_cons,List.map_cons,List.map_nil,mkB_of]
 have e2:num (matT n xs)=(n,true):=by
  unfold num p0;rw [e1]
  show numL (mkB (Lib.itoa n)).data.toList=_
  rw [show (mkB (Lib.itoa n)).data.toList=Lib.itoa n by simp [mkB]]
  have n0:=F.n0;have n8:=F.n8
  rcases numL_cases (Lib.itoa n) with ⟨m,a1,a2,a3,a4⟩|⟨b1,_⟩
  ·rw [a4,itoa_inj (show -9223372036854775808≤m by omega) (by omega) (show -9223372036854775808≤n by omega) (by omega) a3]
  ·exact absurd rfl (b1 n n0 (by omega))
 have e3:lst (matT n xs)=(xs,true):=by
  unfold lst p1;rw [e2,e1]
  show parF n (famT xs)=_
  have hn:famT xs≠none4:=fun q=>famT_free (.inr rfl) hx ha (by rw [q];decide)
  unfold parF;rw [if_neg hn,cut_famT hx hf rfl]
  have hv:vals (xs.map textB)=xs:=by
   unfold vals;rw [List.map_map]
   refine Eq.trans (List.map_congr_left fun x hxm=>?_) (List.map_id xs)
   show (parseS (textB x)).1=x
   rw [parse_text,if_pos (hany x hxm)]
  rw [hv];unfold fin;rw [if_pos hf,if_pos rfl]
 unfold parM;rw [e1,e2,e3,if_pos ⟨rfl,rfl,rfl,h⟩]
end Go.Proofs.YtekegbacnagbcaaGreat.Pm
/- Drawn matroids: the draws answer, and a drawn matroid that is not bent has a base. -/
namespace Go.Proofs.YtekegbacnagbcaaGreat.D4
open Go.RowKit Go.Proofs.YtekegbacnagbcaaGreatW.PrintWords Go.Proofs.YtekegbacnagbcaaGreatW.PrintMore Go.Proofs.YtekegbacnagbcaaGreat.P Go.Proofs.YtekegbacnagbcaaGreat.B Go.Proofs.YtekegbacnagbcaaGreat.L
open Go.Proofs.YtekegbacnagbcaaGreat.D3 (bsome l3Draw_ok)
open Go.Proofs.YtekegbacnagbcaaGreat.Pm (parM parM_matT ParseMatroid_spec famT_data)
open Go.Proofs.YtekegbacnagbcaaGreat.Dg (dec_small)
theorem ix {R n t c L:Nat} (hL:R*n=L) (hR:R≤3) (hn:n≤8) (ht:t<R) (hc:c<n):∃ m:Nat,wrap64 (wrap64 ((t:Int)*(n:Int))+(c:Int))=(m:Int)∧m<L:=by
 have h1:t*n≤3*8:=Nat.mul_le_mul (by omega) hn
 have h2:(t+1)*n≤R*n:=Nat.mul_le_mul_right n ht
 rw [Nat.succ_mul,hL] at h2
 have e:((t:Int)*(n:Int))=((t*n:Nat):Int):=by norm_cast
 rw [e]
 generalize t*n=z at h1 h2 ⊢
 exact ⟨z+c,by rw [w64 ((z:Nat):Int) (by omega) (by omega),w64 _ (by omega) (by omega)];omega,by omega⟩
theorem swap_ex {p:Int} {R n L:Nat} (hL:R*n=L) (hR:R≤3) (hn:n≤8) {t q:Nat} (ht:t<R) (hq:q<R):∀ d c:Nat,∀ a:List Int,c+d=n→a.length=L →
  ∃ a':List Int,a'.length=L∧∀ (s j:Int) (k:Nat),spec_l4Rank.l2 (k+d+1) p R n s a q j t c=spec_l4Rank.l3 k p R n s a' q j ((q+1:Nat):Int):=by
 intro d
 induction d with
 | zero =>
  intro c a hc ha
  refine ⟨a,ha,fun s j k=>?_⟩
  simp only [spec_l4Rank.l2];rw [if_neg (by omega),w1 (by omega)]
 | succ d ih =>
  intro c a hc ha
  obtain ⟨x,e1,b1⟩:=ix hL hR hn ht (show c<n by omega)
  obtain ⟨y,e2,b2⟩:=ix hL hR hn hq (show c<n by omega)
  obtain ⟨a',ha',h⟩:=ih (c+1) ((a.set x (rd a (y:Int))).set y (rd a (x:Int))) (by omega) (by rw [List.length_set,List.length_set];exact ha)
  refine ⟨a',ha',fun s j k=>?_⟩
  rw [← h s j k,show k+(d+1)+1=(k+d+1)+1 by omega]
  conv=>lhs;rw [spec_l4Rank.l2]
  rw [e1,e2];clear e1 e2 h ih hL
  rw [if_pos (by omega),if_pos (by omega),if_pos (by omega),if_pos (by omega),if_pos (by omega),Int.toNat_natCast,Int.toNat_natCast,w1 (by omega)]
theorem row_ex {p:Int} (hp:p≠0) {R n L:Nat} (hL:R*n=L) (hR:R≤3) (hn:n≤8) {i q:Nat} (hi:i<R) (hq:q<R) (u v:Int):∀ d c:Nat,∀ a:List Int,c+d=n→a.length=L →
  ∃ a':List Int,a'.length=L∧∀ (s j:Int) (k:Nat),spec_l4Rank.l4 (k+d+1) p R n s a q j i u v c=spec_l4Rank.l3 k p R n s a' q j ((i+1:Nat):Int):=by
 intro d
 induction d with
 | zero =>
  intro c a hc ha
  refine ⟨a,ha,fun s j k=>?_⟩
  simp only [spec_l4Rank.l4];rw [if_neg (by omega),w1 (by omega)]
 | succ d ih =>
  intro c a hc ha
  obtain ⟨x,e1,b1⟩:=ix hL hR hn hi (show c<n by omega)
  obtain ⟨y,e2,b2⟩:=ix hL hR hn hq (show c<n by omega)
  obtain ⟨a',ha',h⟩:=ih (c+1) (a.set x (Int.tmod (wrap64 ((Int.tmod (wrap64 ((wrap64 ((rd a (x:Int))*v)) - (wrap64 ((rd a (y:Int))*u)))) p)+p)) p)) (by omega) (by rw [List.length_set];exact ha)
  refine ⟨a',ha',fun s j k=>?_⟩
  rw [← h s j k,show k+(d+1)+1=(k+d+1)+1 by omega]
  conv=>lhs;rw [spec_l4Rank.l4]
  rw [e1,e2];clear e1 e2 h ih hL
  rw [if_pos (by omega),if_pos (by omega),if_pos (by omega),if_pos (by omega),if_pos (by omega),if_neg hp,Int.toNat_natCast,w1 (by omega)]
theorem rows_ex {p:Int} (hp:p≠0) {R n L:Nat} (hL:R*n=L) (hR:R≤3) (hn:n≤8) {q j:Nat} (hq:q<R) (hj:j<n):∀ e i:Nat,∀ a:List Int,i+e=R→a.length=L →
  ∃ (a':List Int) (m:Nat),a'.length=L∧m≤e*10+1∧∀ (s:Int) (k:Nat),spec_l4Rank.l3 (k+m) p R n s a q j i=spec_l4Rank.l0 k p R n s a' ((q+1:Nat):Int) ((j+1:Nat):Int):=by
 intro e
 induction e with
 | zero =>
  intro i a hi ha
  refine ⟨a,1,ha,by omega,fun s k=>?_⟩
  simp only [spec_l4Rank.l3];rw [if_neg (by omega),w1 (by omega),w1 (by omega)]
 | succ e ih =>
  intro i a hi ha
  obtain ⟨x,e1,b1⟩:=ix hL hR hn (show i<R by omega) hj
  obtain ⟨y,e2,b2⟩:=ix hL hR hn hq hj
  obtain ⟨a1,ha1,h1⟩:=row_ex hp hL hR hn (show i<R by omega) hq (rd a (x:Int)) (rd a (y:Int)) n 0 a (Nat.zero_add _) ha
  obtain ⟨a',m,ha',hm,h⟩:=ih (i+1) a1 (by omega) ha1
  refine ⟨a',m+n+1+1,ha',by omega,fun s k=>?_⟩
  rw [← h s k,← h1 s j,show k+(m+n+1+1)=(k+m+n+1)+1 by omega]
  conv=>lhs;rw [spec_l4Rank.l3]
  rw [e1,e2];clear e1 e2 h h1 ih hL
  rw [if_pos (by omega),if_pos (by omega),if_pos (by omega),if_pos (by omega),if_pos (by omega)];rfl
theorem at_ex {p:Int} {R n L:Nat} (hL:R*n=L) (hR:R≤3) (hn:n≤8) {q j:Nat} (hj:j<n) (a:List Int) (ha:a.length=L):∀ e t:Nat,t+e=R →
  (∀ (s:Int) (k:Nat),spec_l4Rank.l1 (k+e+2) p R n s a q j t=spec_l4Rank.l0 k p R n s a q ((j+1:Nat):Int)) ∨
  ∃ t' w:Nat,t≤t'∧t'<R∧∀ (s:Int) (k:Nat),spec_l4Rank.l1 (k+e+2) p R n s a q j t=spec_l4Rank.l2 (k+w) p R n s a q j t' 0:=by
 intro e
 induction e with
 | zero =>
  intro t ht
  refine .inl fun s k=>?_
  rw [show k+0+2=(k+1)+1 by omega]
  simp only [spec_l4Rank.l1];rw [if_neg (by omega)]
  simp only [spec_l4Rank.j2];rw [if_pos (by omega),w1 (by omega)]
 | succ e ih =>
  intro t ht
  obtain ⟨x,e1,b1⟩:=ix hL hR hn (show t<R by omega) hj
  by_cases hz:rd a (x:Int)=0
  ·have step:∀ (s:Int) (k:Nat),spec_l4Rank.l1 (k+(e+1)+2) p R n s a q j t=spec_l4Rank.l1 (k+e+2) p R n s a q j ((t+1:Nat):Int):=by
    intro s k
    rw [show k+(e+1)+2=(k+e+2)+1 by omega]
    conv=>lhs;rw [spec_l4Rank.l1]
    rw [e1];clear e1 ih hL
    rw [if_pos (by omega),if_pos (by omega),if_pos (by omega),if_pos hz,w1 (by omega)]
   rcases ih (t+1) (by omega) with h|⟨t',w,h1,h2,h3⟩
   ·exact .inl fun s k=>(step s k).trans (h s k)
   ·exact .inr ⟨t',w,by omega,h2,fun s k=>(step s k).trans (h3 s k)⟩
  ·refine .inr ⟨t,e+1,Nat.le_refl _,by omega,fun s k=>?_⟩
   rw [show k+(e+1)+2=(k+(e+1)+1)+1 by omega]
   conv=>lhs;rw [spec_l4Rank.l1]
   rw [e1];clear e1 ih hL
   rw [if_pos (by omega),if_pos (by omega),if_pos (by omega),if_neg hz]
   conv=>lhs;rw [spec_l4Rank.j2]
   rw [if_neg (by omega)]
theorem col_ex {p:Int} (hp:p≠0) {R n L:Nat} (hL:R*n=L) (hR:R≤3) (hn:n≤8) {q j:Nat} (hq:q≤R) (hj:j<n) (a:List Int) (ha:a.length=L) :
  (∃ f:Nat,∀ (s:Int) (k:Nat),spec_l4Rank.l1 (k+58) p R n s a q j q=spec_l4Rank.l0 (k+f) p R n s a q ((j+1:Nat):Int)) ∨
  (q<R∧∃ (a':List Int) (f:Nat),a'.length=L∧∀ (s:Int) (k:Nat),spec_l4Rank.l1 (k+58) p R n s a q j q=spec_l4Rank.l0 (k+f) p R n s a' ((q+1:Nat):Int) ((j+1:Nat):Int)):=by
 rcases at_ex (p:=p) (q:=q) hL hR hn hj a ha (R - q) q (by omega) with h|⟨t,w,h1,h2,h3⟩
 ·refine .inl ⟨56 - (R - q),fun s k=>?_⟩
  rw [← h s,show k+58=k+(56 - (R - q))+(R - q)+2 by omega]
 ·obtain ⟨a1,ha1,h4⟩:=swap_ex (p:=p) hL hR hn h2 (show q<R by omega) n 0 a (Nat.zero_add _) ha
  obtain ⟨a2,m,ha2,hm,h5⟩:=rows_ex hp hL hR hn (show q<R by omega) hj (R - (q+1)) (q+1) a1 (by omega) ha1
  refine .inr ⟨by omega,a2,(56 - (R - q))+w - m - (n+1),ha2,fun s k=>?_⟩
  rw [← h5 s,← h4 s,show k+58=k+(56 - (R - q))+(R - q)+2 by omega,h3 s]
  congr 1;omega
theorem rank_run {p:Int} (hp:p≠0) {R n L:Nat} (hL:R*n=L) (hR:R≤3) (hn:n≤8) (s:Nat):∀ d j q:Nat,∀ a:List Int,j+d=n→q≤R→a.length=L →
  ∃ P r:Nat,(∀ i,Mt.In i P→j≤i∧i<n)∧r=q+Mt.card P∧∀ s' k:Nat,s'<256→((∀ i,j≤i→i<n→s'.testBit i=P.testBit i)∨(∀ i,j≤i→i<n→s'.testBit i=s.testBit i)) →
   spec_l4Rank.l0 (k+60*d+1) p R n (s':Int) a q j=some (r:Int):=by
 intro d
 induction d with
 | zero =>
  intro j q a hj hq ha
  refine ⟨0,q,fun i hi=>absurd hi (Mt.not_in_zero i),by rw [Mt.card_zero];omega,fun s' k _ _=>?_⟩
  simp only [spec_l4Rank.l0];rw [if_neg (by omega)]
 | succ d ih =>
  intro j q a hj hq ha
  have hjn:j<n:=by omega
  have off:∀ s' k:Nat,s'<256→s'.testBit j=false→spec_l4Rank.l0 (k+60*(d+1)+1) p R n (s':Int) a q j=spec_l4Rank.l0 ((k+59)+60*d+1) p R n (s':Int) a q ((j+1:Nat):Int):=by
   intro s' k h8 hb
   rw [show k+60*(d+1)+1=((k+59)+60*d+1)+1 by omega]
   conv=>lhs;rw [spec_l4Rank.l0]
   rw [if_pos (by omega),l2Has_eq s' j (by omega) (by omega),bsome,hb,if_neg (by simp),w1 (by omega)]
  have on:∀ s' k:Nat,s'<256→s'.testBit j=true→spec_l4Rank.l0 (k+60*(d+1)+1) p R n (s':Int) a q j=spec_l4Rank.l1 ((k+60*d+2)+58) p R n (s':Int) a q j q:=by
   intro s' k h8 hb
   rw [show k+60*(d+1)+1=((k+60*d+2)+58)+1 by omega]
   conv=>lhs;rw [spec_l4Rank.l0]
   rw [if_pos (by omega),l2Has_eq s' j (by omega) (by omega),bsome,hb,if_pos rfl]
  by_cases hs:s.testBit j=true
  ·rcases col_ex hp hL hR hn hq hjn a ha with ⟨f,h⟩|⟨hq2,a',f,ha',h⟩
   ·obtain ⟨P,r,h1,h2,h3⟩:=ih (j+1) q a (by omega) hq ha
    have hPj:P.testBit j=false:=bnot_false fun z=>by have:=(h1 j z).1;omega
    refine ⟨P,r,fun i hi=>by have:=h1 i hi;omega,h2,fun s' k h8 hb=>?_⟩
    rcases hb with hb|hb
    ·rw [off s' k h8 (by rw [hb j (Nat.le_refl _) hjn,hPj])]
     exact h3 s' (k+59) h8 (.inl fun i hi=>hb i (by omega))
    ·rw [on s' k h8 (by rw [hb j (Nat.le_refl _) hjn,hs]),h,show k+60*d+2+f=(k+1+f)+60*d+1 by omega]
     exact h3 s' (k+1+f) h8 (.inr fun i hi=>hb i (by omega))
   ·obtain ⟨P,r,h1,h2,h3⟩:=ih (j+1) (q+1) a' (by omega) (by omega) ha'
    have hPj:¬ Mt.In j P:=fun z=>by have:=(h1 j z).1;omega
    refine ⟨Mt.ins P j,r,fun i hi=>?_,by rw [Mt.card_ins (by omega) hPj];omega,fun s' k h8 hb=>?_⟩
    ·rcases (Mt.in_ins P j i).mp hi with z|z
     ·have:=h1 i z;omega
     ·omega
    ·have hbj:s'.testBit j=true:=by
      rcases hb with hb|hb
      ·rw [hb j (Nat.le_refl _) hjn];exact Mt.in_ins_self P j
      ·rw [hb j (Nat.le_refl _) hjn,hs]
     rw [on s' k h8 hbj,h,show k+60*d+2+f=(k+1+f)+60*d+1 by omega]
     refine h3 s' (k+1+f) h8 ?_
     rcases hb with hb|hb
     ·refine .inl fun i hi hi2=>?_
      rw [hb i (by omega) hi2,Bool.eq_iff_iff]
      exact (Mt.in_ins P j i).trans ⟨fun z=>z.elim id fun z=>by omega,.inl⟩
     ·exact .inr fun i hi=>hb i (by omega)
  ·obtain ⟨P,r,h1,h2,h3⟩:=ih (j+1) q a (by omega) hq ha
   have hPj:P.testBit j=false:=bnot_false fun z=>by have:=(h1 j z).1;omega
   refine ⟨P,r,fun i hi=>by have:=h1 i hi;omega,h2,fun s' k h8 hb=>?_⟩
   have hbj:s'.testBit j=false:=by
    rcases hb with hb|hb
    ·rw [hb j (Nat.le_refl _) hjn,hPj]
    ·rw [hb j (Nat.le_refl _) hjn,bnot_false hs]
   rw [off s' k h8 hbj]
   refine h3 s' (k+59) h8 ?_
   rcases hb with hb|hb
   ·exact .inl fun i hi=>hb i (by omega)
   ·exact .inr fun i hi=>hb i (by omega)
theorem l4Rank_ok {p:Int} (hp:p≠0) {R n:Nat} (hR:R≤3) (hn:n≤8) (a:List Int) (ha:a.length=R*n) (s:Nat) (hs:s<256) :
  ∃ P r:Nat,P<2 ^ n∧Mt.card P=r∧∀ k:Nat,600≤k→spec_l4Rank.f k p R n a (s:Int)=some (r:Int)∧spec_l4Rank.f k p R n a (P:Int)=some (r:Int):=by
 obtain ⟨P,r,h1,h2,h3⟩:=rank_run hp rfl hR hn s n 0 0 a (Nat.zero_add _) (Nat.zero_le _) ha
 have hm:R*n≤3*8:=Nat.mul_le_mul hR hn
 have hP:P<2 ^ n:=lt_bits.mpr fun i hi=>(h1 i hi).2
 have hP8:=(pow_le8 hn).2
 refine ⟨P,r,hP,by omega,fun k hk=>?_⟩
 have e:k=(k - 60*n - 1)+60*n+1:=by omega
 have run:∀ z:Nat,spec_l4Rank.f k p R n a (z:Int)=spec_l4Rank.l0 ((k - 60*n - 1)+60*n+1) p R n (z:Int) a ((0:Nat):Int) ((0:Nat):Int):=by
  intro z;unfold spec_l4Rank.f;rw [bsome,if_pos (by rw [List.length_nil];omega),List.nil_append,← e];rfl
 rw [run,run]
 exact ⟨h3 s _ hs (.inr fun _ _ _=>rfl),h3 P _ (by omega) (.inl fun _ _ _=>rfl)⟩
theorem l4Matrix_l0 {p:Int} (hp:p≠0) {R n:Nat} (hR:R≤3) (hn:n≤8) (a:List Int) (ha:a.length=R*n) (r:Nat):∀ d k i:Nat,∀ out:List Int,i+d=2 ^ n→d+700<k→out.length≤i →
  (0<out.length∨∃ P,i≤P∧P<2 ^ n∧Mt.card P=r∧∀ k:Nat,600≤k→spec_l4Rank.f k p R n a (P:Int)=some (r:Int)) →
  ∃ xs,spec_l4Matrix.l0 k p R n a (r:Int) (i:Int) (n:Int) out=some ((n:Int),xs)∧xs.length≤2 ^ n∧0<xs.length:=by
 have hw:=pow_le8 hn
 have hf:spec_FullSet.f (n:Int)=some ((2 ^ n - 1:Nat):Int):=by rw [FullSet_spec,fullSet_nat (by omega) (by omega),Int.toNat_natCast]
 intro d
 induction d with
 | zero =>
  intro k i out h hk ho hb;obtain ⟨k,rfl⟩:=pos (show 0<k by omega)
  simp only [spec_l4Matrix.l0];rw [hf,bsome,if_neg (by omega)]
  refine ⟨out,rfl,by omega,?_⟩
  rcases hb with hb|⟨P,h1,h2,_⟩
  ·exact hb
  ·omega
 | succ d ih =>
  intro k i out h hk ho hb;obtain ⟨k,rfl⟩:=pos (show 0<k by omega)
  have hi:i<2 ^ n:=by omega
  simp only [spec_l4Matrix.l0];rw [hf,bsome,if_pos (by omega),CountOf_spec _ k (by omega),bsome,cnt_nat (by omega),w1 (by omega)]
  have next:∀ q:Int,spec_l4Rank.f k p R n a (i:Int)=some q→¬ q=r→(0<out.length∨∃ P,i+1≤P∧P<2 ^ n∧Mt.card P=r∧∀ k:Nat,600≤k→spec_l4Rank.f k p R n a (P:Int)=some (r:Int)):=by
   intro q e1 e2
   rcases hb with hb|⟨P,h1,h2,h3,h4⟩
   ·exact .inl hb
   ·by_cases z:i=P
    ·subst z;have:=h4 k (by omega);rw [e1] at this;exact absurd (Option.some.inj this) e2
    ·exact .inr ⟨P,by omega,h2,h3,h4⟩
  obtain ⟨_,q,_,_,hr⟩:=l4Rank_ok hp hR hn a ha i (by omega)
  have hr1:=(hr k (by omega)).1
  by_cases hc:((Mt.card i:Nat):Int)=(r:Int)
  ·rw [if_pos hc,hr1,bsome]
   by_cases hq:(q:Int)=(r:Int)
   ·rw [if_pos hq,if_pos (by omega)]
    exact ih k (i+1) _ (by omega) (by omega) (by rw [List.length_append,List.length_singleton];omega) (.inl (by rw [List.length_append,List.length_singleton];omega))
   ·rw [if_neg hq];exact ih k (i+1) _ (by omega) (by omega) (by omega) (next _ hr1 hq)
  ·rw [if_neg hc]
   refine ih k (i+1) _ (by omega) (by omega) (by omega) ?_
   rcases hb with hb|⟨P,h1,h2,h3,h4⟩
   ·exact .inl hb
   ·refine .inr ⟨P,?_,h2,h3,h4⟩
    rcases Nat.lt_or_ge i P with z|z
    ·exact z
    ·have:i=P:=by omega
     subst this;exact absurd (by rw [h3]) hc
theorem l4Matrix_ok {p:Int} (hp:p≠0) {R n:Nat} (hR:R≤3) (hn:n≤8) (a:List Int) (ha:a.length=R*n) (k:Nat) (hk:1000≤k) :
  ∃ xs,spec_l4Matrix.f k p R n a=some ((n:Int),xs)∧xs.length≤256∧0<xs.length:=by
 have hw:=pow_le8 hn
 obtain ⟨P,r,h1,h2,h3⟩:=l4Rank_ok hp hR hn a ha (2 ^ n - 1) (by omega)
 unfold spec_l4Matrix.f;rw [FullSet_spec,fullSet_nat (by omega) (by omega),Int.toNat_natCast,bsome,(h3 k (by omega)).1,bsome]
 obtain ⟨xs,e,l1,l2⟩:=l4Matrix_l0 hp hR hn a ha r (2 ^ n) k 0 [] (Nat.zero_add _) (by omega) (Nat.le_refl _) (.inr ⟨P,Nat.zero_le _,h1,h2,fun k hk=>(h3 k hk).2⟩)
 exact ⟨xs,e,by omega,l2⟩
theorem l4Columns_l0 (b:List Int) (hb:b.length<4611686018427387904) {p:Int} (hp:p≠0) {R n:Nat} (hR:R≤3) (hn:n≤8):∀ d k c:Nat,∀ a:List Int,∀ j g:Int,c+d=R*n→d+1100<k→a.length=c→0≤j →
  ∃ xs j' g',spec_l4Columns.l0 k n p R a (c:Int) b j g=some ((n:Int),xs,j',g')∧0≤j'∧xs.length≤256∧0<xs.length:=by
 have hm:R*n≤3*8:=Nat.mul_le_mul hR hn
 have em:wrap64 ((R:Int)*(n:Int))=((R*n:Nat):Int):=by
  rw [show ((R:Int)*(n:Int))=((R*n:Nat):Int) by norm_cast];exact w64 _ (by omega) (by omega)
 intro d
 induction d with
 | zero =>
  intro k c a j g h hk ha hj;obtain ⟨k,rfl⟩:=pos (show 0<k by omega)
  obtain ⟨xs,e,l1,l2⟩:=l4Matrix_ok hp hR hn a (by omega) k (by omega)
  simp only [spec_l4Columns.l0];rw [em,if_neg (by omega),e,bsome]
  exact ⟨xs,j,g,rfl,hj,l1,l2⟩
 | succ d ih =>
  intro k c a j g h hk ha hj;obtain ⟨k,rfl⟩:=pos (show 0<k by omega)
  obtain ⟨x,j',g',e,j0,_⟩:=below_ok b j g p hb hj
  simp only [spec_l4Columns.l0];rw [em,if_pos (by omega),e,bsome,if_pos (by omega),w1 (by omega)]
  exact ih k (c+1) _ j' g' (by omega) (by omega) (by rw [List.length_append,List.length_singleton];omega) j0
theorem l4Columns_ok (b:List Int) (i h n:Int) (hb:b.length<4611686018427387904) (h0:0≤i) (n0:0≤n) (n8:n≤8) (k:Nat) (hk:1200≤k) :
  ∃ xs j g,spec_l4Columns.f k b i h n=some (n,xs,j,g)∧0≤j∧xs.length≤256∧0<xs.length:=by
 unfold spec_l4Columns.f
 obtain ⟨p,j1,g1,e1,j10,hp⟩:=pickInt_ok b i h [2,3,5,2] hb h0 (by simp)
 rw [e1,bsome];simp only []
 obtain ⟨c,j2,g2,e2,j20,c0,_,c1⟩:=below_ok b j1 g1 3 hb j10
 have:=c1 (by omega)
 rw [e2,bsome];simp only []
 obtain ⟨c,rfl⟩:=nat_of c0
 obtain ⟨n,rfl⟩:=nat_of n0
 have hp0:p≠0:=by
  simp only [List.mem_cons,List.not_mem_nil,or_false] at hp;omega
 have hm:(1+c)*n≤3*8:=Nat.mul_le_mul (by omega) (by omega)
 obtain ⟨xs,j,g,e,q⟩:=l4Columns_l0 b hb hp0 (show 1+c≤3 by omega) (show n≤8 by omega) ((1+c)*n) k 0 [] j2 g2 (Nat.zero_add _) (by omega) rfl j20
 rw [w64 (1+(c:Int)) (by omega) (by omega)]
 exact ⟨xs,j,g,e,q⟩
theorem named {n:Nat} (hn:n<10) {xs:List Int} {t:ByteArray} (hm:mat (n:Int) xs=true) (ht:t.data.toList=UInt8.ofNat (48+n) :: 32 :: Lib.join (xs.map textL) [44]):parM t=((n:Int),xs,true):=by
 have hx:xs≠[]:=fun q=>by have:=(mat_fam hm).2.1;rw [q] at this;exact absurd this (by decide)
 have ha:areB xs=true:=List.all_eq_true.mpr (Go.Proofs.YtekegbacnagbcaaGreat.Pf.fam_any ((fam_iff _ _).mpr (mat_fam hm).1))
 have e:Go.Proofs.YtekegbacnagbcaaGreat.Mx.matT (n:Int) xs=t:=by
  unfold Go.Proofs.YtekegbacnagbcaaGreat.Mx.matT;rw [if_pos hm,← Go.Proofs.YtekegbacnagbcaaGreat.F.ls t,ht,← Go.Proofs.YtekegbacnagbcaaGreat.F.ls (famT xs),famT_data hx ha,show (⟨#[32]⟩:ByteArray)=⟨[32].toArray⟩ from rfl,Go.Proofs.YtekegbacnagbcaaGreat.F.ap,Go.Proofs.YtekegbacnagbcaaGreat.F.ap]
  unfold Lib.itoa;rw [if_neg (by omega),Int.toNat_natCast,dec_small hn];rfl
 rw [← e];exact parM_matT hm
def good (t:ByteArray):Prop:=0≤(parM t).1∧(parM t).1≤8∧(parM t).2.1.length≤256∧0<(parM t).2.1.length∧t.size≤100
theorem good_of {n:Nat} (hn:n<9) {xs:List Int} {t:ByteArray} (hm:mat (n:Int) xs=true) (ht:t.data.toList=UInt8.ofNat (48+n) :: 32 :: Lib.join (xs.map textL) [44]) (hl:xs.length≤256) (hz:t.size≤100):good t:=by
 unfold good;rw [named (by omega) hm ht]
 exact ⟨by first|omega|(simp only [];omega),by first|omega|(simp only [];omega),hl,(mat_fam hm).2.1,hz⟩
theorem l4Named_ok (b:List Int) (i h:Int) (hb:b.length<4611686018427387904) (h0:0≤i) (k:Nat) (hk:10000000≤k) :
  ∃ n xs j g,spec_l4Named.f k b i h=some (n,xs,j,g)∧0≤j∧0≤n∧n≤8∧xs.length≤256∧0<xs.length:=by
 unfold spec_l4Named.f
 obtain ⟨t,j,g,e,j0,ht⟩:=pick_ok b i h [(⟨#[48,32,45]⟩:ByteArray),(⟨#[49,32,45]⟩:ByteArray),(⟨#[49,32,97]⟩:ByteArray),(⟨#[52,32,97,98,44,97,99,44,98,99,44,97,100,44,98,100,44,99,100]⟩:ByteArray),(⟨#[52,32,97,98,44,97,99,44,97,100,44,98,100,44,99,100]⟩:ByteArray),(⟨#[51,32,97,44,98]⟩:ByteArray),(⟨#[53,32,97,98,44,97,99,44,98,99,44,97,100,44,98,100]⟩:ByteArray),(⟨#[50,32,45]⟩:ByteArray),(⟨#[51,32,97,98,99]⟩:ByteArray)] hb h0 (by simp)
 rw [e,bsome];simp only []
 have hg:good t:=by
  simp only [List.mem_cons,List.not_mem_nil,or_false] at ht
  rcases ht with rfl|rfl|rfl|rfl|rfl|rfl|rfl|rfl|rfl
  ·exact good_of (n:=0) (xs:=[0]) (by decide) (by decide +kernel) (by decide +kernel) (by decide) (by decide)
  ·exact good_of (n:=1) (xs:=[0]) (by decide) (by decide +kernel) (by decide +kernel) (by decide) (by decide)
  ·exact good_of (n:=1) (xs:=[1]) (by decide) (by decide +kernel) (by decide +kernel) (by decide) (by decide)
  ·exact good_of (n:=4) (xs:=[3,5,6,9,10,12]) (by decide) (by decide +kernel) (by decide +kernel) (by decide) (by decide)
  ·exact good_of (n:=4) (xs:=[3,5,9,10,12]) (by decide) (by decide +kernel) (by decide +kernel) (by decide) (by decide)
  ·exact good_of (n:=3) (xs:=[1,2]) (by decide) (by decide +kernel) (by decide +kernel) (by decide) (by decide)
  ·exact good_of (n:=5) (xs:=[3,5,6,9,10]) (by decide) (by decide +kernel) (by decide +kernel) (by decide) (by decide)
  ·exact good_of (n:=2) (xs:=[0]) (by decide) (by decide +kernel) (by decide +kernel) (by decide) (by decide)
  ·exact good_of (n:=3) (xs:=[7]) (by decide) (by decide +kernel) (by decide +kernel) (by decide) (by decide)
 obtain ⟨g1,g2,g3,g4,g5⟩:=hg
 rw [ParseMatroid_spec t (by omega) k hk,bsome]
 exact ⟨_,_,j,g,rfl,j0,g1,g2,g3,g4⟩
theorem uni_pos {r n:Int} (n0:0≤n) (n8:n≤8) (r0:0≤r) (r1:r≤n):(uni r n).1=n∧0<(uni r n).2.length:=by
 unfold uni;rw [if_pos ⟨⟨n0,n8⟩,r0,r1⟩]
 refine ⟨rfl,?_⟩
 obtain ⟨r,rfl⟩:=nat_of r0
 have hc:∀ m:Nat,m≤8→Mt.card (2 ^ m - 1)=m:=by decide +kernel
 have hlt:2 ^ r≤2 ^ n.toNat:=Nat.pow_le_pow_right (by omega) (by omega)
 have hp:0<2 ^ r:=Nat.pow_pos (by omega)
 exact List.length_pos_of_mem ((sets_mem (n:=n) (fun s=>decide (((Mt.card s:Nat):Int)=(r:Int))) (2 ^ r - 1)).mpr ⟨by omega,decide_eq_true (by rw [hc r (by omega)])⟩)
theorem l4Draw_ok (b:List Int) (i h m:Int) (hb:b.length<4611686018427387904) (h0:0≤i) (m0:0≤m) (m8:m≤8) (k:Nat) (hk:10000000≤k) :
  ∃ n xs j g,spec_l4Draw.f k b i h m=some (n,xs,j,g)∧0≤j∧0≤n∧n≤m∧xs.length≤256∧0<xs.length:=by
 unfold spec_l4Draw.f
 obtain ⟨c,j1,g1,e1,j10,_⟩:=below_ok b i h 6 hb h0
 rw [e1,bsome];simp only []
 rw [w64 (m+1) (by omega) (by omega)]
 have cols:∀ j2 g2:Int,0≤j2→∃ n xs j g,((spec_l1Below.f b j2 g2 (m+1)).bind fun bt421=>((spec_l4Columns.f k b bt421.2.1 bt421.2.2 bt421.1).bind fun bt424=>(some (bt424.1,bt424.2.1,bt424.2.2.1,bt424.2.2.2))))=some (n,xs,j,g)∧0≤j∧0≤n∧n≤m∧xs.length≤256∧0<xs.length:=by
  intro j2 g2 j20
  obtain ⟨n,j3,g3,e3,j30,n0,_,n1⟩:=below_ok b j2 g2 (m+1) hb j20
  have:=n1 (by omega)
  rw [e3,bsome];simp only []
  obtain ⟨xs,j,g,e,q1,q2,q3⟩:=l4Columns_ok b j3 g3 n hb j30 n0 (by omega) k (by omega)
  rw [e,bsome];exact ⟨n,xs,j,g,rfl,q1,n0,by omega,q2,q3⟩
 by_cases c0:c=0
 ·rw [if_pos c0]
  obtain ⟨n,j2,g2,e2,j20,n0,_,n1⟩:=below_ok b j1 g1 (m+1) hb j10
  have:=n1 (by omega)
  rw [e2,bsome];simp only []
  rw [w64 (n+1) (by omega) (by omega)]
  obtain ⟨r,j3,g3,e3,j30,r0,_,r1⟩:=below_ok b j2 g2 (n+1) hb j20
  have:=r1 (by omega)
  rw [e3,bsome];simp only []
  rw [Uniform_spec r n k (by omega),bsome]
  have hu:=uni_pos n0 (show n≤8 by omega) r0 (by omega)
  exact ⟨_,_,j3,g3,rfl,j30,by rw [hu.1];exact n0,by rw [hu.1];omega,uni_len r n,hu.2⟩
 ·rw [if_neg c0]
  by_cases c1:c=1
  ·rw [if_pos c1]
   obtain ⟨n,xs,j2,g2,e2,j20,q1,q2,q3,q4⟩:=l4Named_ok b j1 g1 hb j10 k hk
   rw [e2,bsome];simp only []
   by_cases hm:n≤m
   ·rw [if_pos hm];exact ⟨n,xs,j2,g2,rfl,j20,q1,hm,q3,q4⟩
   ·rw [if_neg hm];exact cols j2 g2 j20
  ·rw [if_neg c1];exact cols j1 g1 j10
theorem l4Bent_ok (b:List Int) (i h m:Int) (hb:b.length<4611686018427387904) (h0:0≤i) (m0:0≤m) (m8:m≤8) (k:Nat) (hk:10000000≤k) :
  ∃ n xs j g,spec_l4Bent.f k b i h m=some (n,xs,j,g)∧0≤j∧-1≤n∧n≤9∧xs.length≤257:=by
 obtain ⟨n,xs,j1,g1,e1,j10,n0,n1,l0,l1⟩:=l4Draw_ok b i h m hb h0 m0 m8 k hk
 unfold spec_l4Bent.f;rw [e1,bsome];simp only []
 obtain ⟨c,j2,g2,e2,j20,_⟩:=below_ok b j1 g1 10 hb j10
 rw [e2,bsome];simp only []
 by_cases c0:c=0
 ·rw [if_pos c0]
  obtain ⟨x,j3,g3,e3,j30,hx⟩:=pickInt_ok b j2 g2 [(-1),0,2,9] hb j20 (by simp)
  rw [e3,bsome]
  simp only [List.mem_cons,List.not_mem_nil,or_false] at hx
  exact ⟨_,_,_,_,rfl,j30,by first|omega|(simp only [];omega),by first|omega|(simp only [];omega),by first|omega|(simp only [];omega)⟩
 ·rw [if_neg c0]
  by_cases c1:c=1
  ·rw [if_pos c1]
   obtain ⟨x,j3,g3,e3,j30,_⟩:=bent2_ok b j2 g2 hb j20
   rw [e3,bsome,if_pos (by omega)]
   exact ⟨_,_,_,_,rfl,j30,by first|omega|(simp only [];omega),by first|omega|(simp only [];omega),by rw [List.length_append,List.length_singleton];omega⟩
  ·rw [if_neg c1]
   by_cases c2:c=2
   ·rw [if_pos c2]
    by_cases hl:(xs.length:Int)>1
    ·rw [if_pos hl]
     obtain ⟨x,j3,g3,e3,j30,x0,_,x1⟩:=below_ok b j2 g2 (xs.length:Int) hb j20
     have:=x1 (by omega)
     rw [e3,bsome];simp only [bsome]
     obtain ⟨x,rfl⟩:=nat_of x0
     have hx:x<xs.length:=by omega
     rw [if_pos x0,if_pos (by omega),w1 (by omega),Int.toNat_natCast,Int.toNat_natCast,if_pos (by rw [List.length_nil,List.length_take];omega),if_pos (by omega),if_pos (by omega),if_pos (by rw [List.length_append,List.length_nil,List.length_take,List.length_drop];omega)]
     exact ⟨_,_,_,_,rfl,j30,by omega,by omega,by rw [List.length_append,List.length_append,List.length_nil,List.length_take,List.length_drop];omega⟩
    ·rw [if_neg hl];exact ⟨_,_,_,_,rfl,j20,by omega,by omega,by omega⟩
   ·rw [if_neg c2]
    by_cases c3:c=3
    ·rw [if_pos c3]
     have q1:spec_l1Min.f n 8=some n:=by
      unfold spec_l1Min.f
      by_cases z:n<8
      ·rw [if_pos z]
      ·rw [if_neg z];congr 1;omega
     have q2:spec_l1Max.f 0 n=some n:=by
      unfold spec_l1Max.f
      by_cases z:(0:Int)>n
      ·omega
      ·rw [if_neg z]
     rw [q1,bsome,q2,bsome]
     obtain ⟨l,j3,g3,e3,j30,hl⟩:=l3Draw_ok b j2 g2 n hb j20 (by omega) k (by omega)
     have hm:l.length*(l.length+4)≤5*9:=Nat.mul_le_mul hl (by omega)
     have hs:=srt_len l
     rw [e3,bsome];simp only []
     rw [SortSets_spec l k (by omega) (by omega),bsome]
     exact ⟨_,_,_,_,rfl,j30,by omega,by omega,by omega⟩
    ·rw [if_neg c3];exact ⟨_,_,_,_,rfl,j20,by omega,by omega,by omega⟩
theorem DrawCircuits_ok (b:List Int) (k:Nat) (hb:¬ (b.length:Int)>1048576) (hk:10000000≤k):∃ n xs,spec_DrawCircuits.f k b=some (n,xs)∧xs.length≤257:=by
 obtain ⟨g,e⟩:=new_ok b k (by omega) (by omega)
 unfold spec_DrawCircuits.f;rw [e,bsome];simp only []
 obtain ⟨n,xs,j1,g1,e1,_,_,_,hl⟩:=l4Bent_ok b 0 g 6 (by omega) (Int.le_refl _) (by omega) (by omega) k hk
 rw [e1,bsome];exact ⟨_,_,rfl,hl⟩
end Go.Proofs.YtekegbacnagbcaaGreat.D4
/- Circuits of a matroid and its girth: what the printed functions come to. -/
namespace Go.Proofs.YtekegbacnagbcaaGreat.L
open Go.RowKit Go.Proofs.YtekegbacnagbcaaGreatW.PrintWords Go.Proofs.YtekegbacnagbcaaGreatW.PrintMore Go.Proofs.YtekegbacnagbcaaGreat.P Go.Proofs.YtekegbacnagbcaaGreat.B
def circS (n:Int) (xs:List Int):List Int:=if mat n xs=true then minS (sets n fun s=>!(indN xs s)) else []
theorem circS_len (n:Int) (xs:List Int):(circS n xs).length≤256:=by
 unfold circS;split
 ·rename_i h;have F:=(mat_fam h).1;exact Nat.le_trans (minS_len _) (sets_len F.n0 F.n8 _)
 ·exact Nat.zero_le _
theorem l6Circuits_l0 {n:Int} {xs:List Int} (F:Fam n xs) (h0:0<xs.length):∀ d k i:Nat,∀ out:List Int,i+d=2 ^ n.toNat→d+Big3≤k→out.length≤i→spec_l6Circuits.l0 k out (i:Int) n xs=some (minS (out++setsFrom (fun s=>!(indN xs s)) i d)):=by
 have hw:=pow_le8 F.le8
 intro d
 induction d with
 | zero =>
  intro k i out h hk ho;obtain ⟨k,rfl⟩:=pos (show 0<k by unfold Big3 at hk;omega)
  have hb:=big2 (show out.length≤4194304 by omega)
  simp only [spec_l6Circuits.l0];rw [FullSet_spec,fullSet_nat F.n0 F.n8];simp only [Option.bind_some];rw [if_neg (by omega),MinimalSets_spec out k (by omega) (by unfold Big3 at hk;unfold Big2 at *;omega)];simp [setsFrom]
 | succ d ih =>
  intro k i out h hk ho;obtain ⟨k,rfl⟩:=pos (show 0<k by omega)
  have hk3:2000000≤k:=by unfold Big3 at hk;omega
  simp only [spec_l6Circuits.l0];rw [FullSet_spec,fullSet_nat F.n0 F.n8,l5Rank_eq F i k (by omega) (by omega),CountOf_spec _ k (by omega),cnt_nat (by omega)];simp only [Option.bind_some,setsFrom];rw [if_pos (by omega),w1 (by omega)]
  have hc:=rk_card F h0 (show i<256 by omega)
  have hl:=rk_le h0 i
  by_cases hq:indN xs i=true
  ·rw [if_neg (by have:=hc.mpr hq;omega),if_neg (by rw [hq];simp),ih k (i+1) _ (by omega) (by omega) (by omega)]
  ·have hne:rk xs i≠Mt.card i:=fun q=>hq (hc.mp q)
   rw [if_pos (by omega),if_pos (by omega),if_pos (by rw [bnot_false hq];rfl),ih k (i+1) _ (by omega) (by omega) (by rw [List.length_append,List.length_singleton];omega)];simp
theorem Circuits_spec (n:Int) (xs:List Int) (k:Nat) (hn:xs.length<2000000) (hk:Big3+300≤k):spec_Circuits.f k n xs=some (circS n xs):=by
 have hk3:2000000≤k:=by unfold Big3 at hk;omega
 unfold spec_Circuits.f circS;rw [IsMatroid_spec n xs k hn hk3];simp only [Option.bind_some]
 by_cases h:mat n xs=true
 ·have F:=(mat_fam h).1;have hw:=pow_le8 F.le8
  have e:spec_l6Circuits.f k n xs=some (minS (sets n fun s=>!(indN xs s))):=l6Circuits_l0 F (mat_fam h).2.1 (2 ^ n.toNat) k 0 [] (Nat.zero_add _) (by omega) (Nat.le_refl _)
  rw [if_pos h,if_pos h,e];rfl
 ·rw [if_neg h,if_neg h]
theorem Circuits_impl (n:Int) (xs:List Int) (k:Nat) (hn:xs.length<2000000) (hk:2000000≤k):impl_Circuits.f k n xs=some (circS n xs):=by
 unfold impl_Circuits.f circS;rw [IsMatroid_impl n xs k hn hk];simp only [Option.bind_some]
 by_cases h:mat n xs=true
 ·have F:=(mat_fam h).1
  have e:on_impl_Circuits_1.f k n n xs=some (sets n fun s=>!(indN xs s)):=setsL_sets F.n0 F.n8 _ _ (fun j _=>by
   unfold impl_Circuits_1.f;rw [independent_eq n xs (j:Int) k hn (by omega)];rfl) k (by omega)
  have hl:=sets_len F.n0 F.n8 fun s=>!(indN xs s)
  rw [if_pos h,if_pos h,e];simp only [Option.bind_some]
  rw [MinimalSets_impl _ k (by omega) (by omega)];rfl
 ·rw [if_neg h,if_neg h]
def girF (best:Int):List Int→Int
 | []=>best
 | c :: cs=>girF (if best=0 then cnt c else if cnt c<best then cnt c else best) cs
def girth (n:Int) (xs:List Int):Int:=girF 0 (circS n xs)
theorem GirthOf_spec_l0 (cs:List Int) (hc:cs.length<4194304):∀ d k i:Nat,∀ best:Int,i+d=cs.length→d+10<k→spec_GirthOf.l0 k cs best (i:Int)=some (girF best (cs.drop i)):=by
 intro d
 induction d with
 | zero =>
  intro k i best h hk;obtain ⟨k,rfl⟩:=pos (show 0<k by omega)
  simp only [spec_GirthOf.l0];rw [if_neg (by omega),List.drop_eq_nil_of_le (by omega)];rfl
 | succ d ih =>
  intro k i best h hk;obtain ⟨k,rfl⟩:=pos (show 0<k by omega)
  simp only [spec_GirthOf.l0];rw [if_pos (by omega),if_pos (by omega),CountOf_spec _ k (by omega),w1 (by omega),drop_rd (show i<cs.length by omega)];simp only [Option.bind_some,girF]
  by_cases h0:best=0
  ·rw [if_pos h0,if_pos h0];exact ih k (i+1) _ (by omega) (by omega)
  ·rw [if_neg h0,if_neg h0]
   by_cases h1:cnt (rd cs (i:Int))<best
   ·rw [if_pos h1,if_pos h1];exact ih k (i+1) _ (by omega) (by omega)
   ·rw [if_neg h1,if_neg h1];exact ih k (i+1) _ (by omega) (by omega)
theorem GirthOf_spec (n:Int) (xs:List Int) (k:Nat) (hn:xs.length<2000000) (hk:Big3+300≤k):spec_GirthOf.f k n xs=some (girth n xs):=by
 have hl:=circS_len n xs;have hk3:2000000≤k:=by unfold Big3 at hk;omega
 unfold spec_GirthOf.f girth;rw [Circuits_spec n xs k hn hk];simp only [Option.bind_some]
 exact GirthOf_spec_l0 (circS n xs) (by omega) (circS n xs).length k 0 0 (Nat.zero_add _) (by omega)
theorem GirthOf_impl_l0 (cs:List Int) (hc:cs.length<4194304):∀ d k i:Nat,∀ best:Int,i+d=cs.length→d+10<k→impl_GirthOf.l0 k best cs (cs.length:Int) (i:Int)=some (girF best (cs.drop i)):=by
 intro d
 induction d with
 | zero =>
  intro k i best h hk;obtain ⟨k,rfl⟩:=pos (show 0<k by omega)
  simp only [impl_GirthOf.l0];rw [if_neg (by omega),List.drop_eq_nil_of_le (by omega)];rfl
 | succ d ih =>
  intro k i best h hk;obtain ⟨k,rfl⟩:=pos (show 0<k by omega)
  simp only [impl_GirthOf.l0];rw [if_pos (by omega),if_pos (by omega),if_pos (by omega),CountOf_impl,w1 (by omega),drop_rd (show i<cs.length by omega)];simp only [Option.bind_some,girF]
  by_cases h0:best=0
  ·rw [if_pos h0,if_pos h0];exact ih k (i+1) _ (by omega) (by omega)
  ·rw [if_neg h0,if_neg h0]
   by_cases h1:cnt (rd cs (i:Int))<best
   ·rw [if_pos h1,if_pos h1];exact ih k (i+1) _ (by omega) (by omega)
   ·rw [if_neg h1,if_neg h1];exact ih k (i+1) _ (by omega) (by omega)
theorem GirthOf_impl (n:Int) (xs:List Int) (k:Nat) (hn:xs.length<2000000) (hk:2000000≤k):impl_GirthOf.f k n xs=some (girth n xs):=by
 have hl:=circS_len n xs
 unfold impl_GirthOf.f girth;rw [Circuits_impl n xs k hn hk];simp only [Option.bind_some]
 exact GirthOf_impl_l0 (circS n xs) (by omega) (circS n xs).length k 0 0 (Nat.zero_add _) (by omega)
end Go.Proofs.YtekegbacnagbcaaGreat.L
/- The first failure of a family of circuits: what the printed functions come to. -/
namespace Go.Proofs.YtekegbacnagbcaaGreat.L
open Go.RowKit Go.Proofs.YtekegbacnagbcaaGreatW.PrintWords Go.Proofs.YtekegbacnagbcaaGreatW.PrintMore Go.Proofs.YtekegbacnagbcaaGreat.P Go.Proofs.YtekegbacnagbcaaGreat.B
def withB (xs:List Int) (s:Nat):Bool:=anyFrom (fun i=>X xs i &&& s==X xs i) 0 xs.length
def pairE (xs:List Int) (a b e:Nat):Option (Int × Int × Int × Bool):=if a.testBit e=true∧b.testBit e=true∧withB xs (Mt.del (a ||| b) e)=false then some ((a:Int),(b:Int),(e:Int),true) else none
def pairR (n:Int) (xs:List Int) (a b:Nat):Option (Int × Int × Int × Bool):=if a=b then none else if a &&& b=a then some ((a:Int),(b:Int),0,true) else scan (pairE xs a b) 0 n.toNat
def cfA (n:Int) (xs:List Int) (i:Nat):Option (Int × Int × Int × Bool):=if X xs i=0 then some (0,0,0,true) else scan (fun j=>pairR n xs (X xs i) (X xs j)) 0 xs.length
def cfail (n:Int) (xs:List Int):Int × Int × Int × Bool:=if fam n xs=true then (scan (cfA n xs) 0 xs.length).getD noFail else noFail
theorem pairE_none {xs:List Int} {a b e:Nat} (h:¬ (a.testBit e=true∧b.testBit e=true∧withB xs (Mt.del (a ||| b) e)=false)):pairE xs a b e=none:=by unfold pairE;rw [if_neg h]
theorem pairR_true {n:Int} {xs:List Int} {a b:Nat} {r:Int × Int × Int × Bool} (h:pairR n xs a b=some r):r.2.2.2=true:=by
 unfold pairR at h
 by_cases h1:a=b
 ·rw [if_pos h1] at h;cases h
 ·rw [if_neg h1] at h
  by_cases h2:a &&& b=a
  ·rw [if_pos h2] at h;cases h;rfl
  ·rw [if_neg h2] at h;obtain ⟨j,_,_,hj⟩:=scan_some _ _ h
   unfold pairE at hj;split at hj
   ·cases hj;rfl
   ·cases hj
theorem withB_iff (xs:List Int) (s:Nat):withB xs s=true↔∃ i,i<xs.length∧Mt.Sub (X xs i) s:=by
 unfold withB;rw [anyFrom_iff]
 constructor
 ·rintro ⟨i,_,h,e⟩
  refine ⟨i,by omega,fun j hj=>?_⟩
  have e':X xs i &&& s=X xs i:=by simpa using e
  rw [← e'] at hj;exact ((Mt.in_and _ _ j).mp hj).2
 ·rintro ⟨i,h,e⟩
  refine ⟨i,Nat.zero_le _,by omega,?_⟩
  have:X xs i &&& s=X xs i:=Mt.ext fun j=>by
   rw [Mt.in_and];exact ⟨fun q=>q.1,fun q=>⟨q,e j q⟩⟩
  simpa using this
theorem l6Within_l0 {n:Int} {xs:List Int} (F:Fam n xs) (s:Nat) (hs:s<256):∀ d k i:Nat,i+d=xs.length→d<k→spec_l6Within.l0 k xs (s:Int) (i:Int)=some (anyFrom (fun i=>X xs i &&& s==X xs i) i d):=by
 have hl:=F.len
 intro d
 induction d with
 | zero =>
  intro k i h hk;obtain ⟨k,rfl⟩:=pos (show 0<k by omega)
  simp only [spec_l6Within.l0];rw [if_neg (by omega)];rfl
 | succ d ih =>
  intro k i h hk;obtain ⟨k,rfl⟩:=pos (show 0<k by omega)
  have h1:=F.X i
  simp only [spec_l6Within.l0,anyFrom];rw [if_pos (by omega),if_pos (by omega),h1.1,and_nat _ _ (by omega) (by omega),w1 (by omega),ih k (i+1) (by omega) (by omega)]
  by_cases q:X xs i &&& s=X xs i
  ·rw [if_pos (by omega),beq_iff_eq.mpr q,Bool.true_or]
  ·rw [if_neg (by omega),beq_eq_false_iff_ne.mpr q,Bool.false_or]
theorem l6Within_eq {n:Int} {xs:List Int} (F:Fam n xs) (s k:Nat) (hs:s<256) (hk:xs.length<k):spec_l6Within.f k xs (s:Int)=some (withB xs s):=by
 unfold spec_l6Within.f withB;exact l6Within_l0 F s hs xs.length k 0 (Nat.zero_add _) hk
theorem l6Pair_l0 {n:Int} {xs:List Int} (F:Fam n xs) (a b:Nat) (ha:a<256) (hb:b<256):∀ d k e:Nat,e+d=n.toNat→d+xs.length+1<k→spec_l6Pair.l0 k n xs (a:Int) (b:Int) (e:Int)=some ((scan (pairE xs a b) e d).getD noFail):=by
 have hl:=F.len;have hn:=F.nn;have hn8:=F.le8
 intro d
 induction d with
 | zero =>
  intro k e h hk;obtain ⟨k,rfl⟩:=pos (show 0<k by omega)
  simp only [spec_l6Pair.l0];rw [if_neg (by omega)];rfl
 | succ d ih =>
  intro k e h hk;obtain ⟨k,rfl⟩:=pos (show 0<k by omega)
  have hab:=Mt.small_or ha hb
  simp only [spec_l6Pair.l0]
  rw [scan_getD,if_pos (by omega),l2Has_eq a e (by omega) (by omega),l2Has_eq b e (by omega) (by omega),w1 (by omega)];simp only [Option.bind_some]
  rw [ih k (e+1) (by omega) (by omega)]
  cases hb1:a.testBit e
  ·rw [if_neg (by simp),pairE_none (by simp [hb1])];rfl
  ·cases hb2:b.testBit e
   ·rw [if_pos rfl,if_neg (by simp),pairE_none (by simp [hb2])];rfl
   ·have e1:=del_256 (a ||| b) hab e (by omega) (by rw [Nat.testBit_or,hb1];rfl)
    have e3:=del_small hab (e:=e)
    have e2:wrap64 (((a ||| b:Nat):Int) - ((2 ^ e:Nat):Int))=((Mt.del (a ||| b) e:Nat):Int):=by
     generalize 2 ^ e=p at *;rw [w64 _ (by omega) (by omega)];omega
    rw [if_pos rfl,if_pos rfl,u64e (show e<64 by omega),if_pos (by omega),or_nat a b (by omega) (by omega),shl_one e (by omega),e2,l6Within_eq F _ k e3 (by omega)];simp only [Option.bind_some]
    cases hx:withB xs (Mt.del (a ||| b) e)
    ·rw [if_neg (by simp)];unfold pairE;rw [if_pos ⟨hb1,hb2,hx⟩];rfl
    ·rw [if_pos rfl,pairE_none (by simp [hx])];rfl
theorem l6Pair_eq {n:Int} {xs:List Int} (F:Fam n xs) (a b:Nat) (ha:a<256) (hb:b<256) (k:Nat) (hk:xs.length+10<k):spec_l6Pair.f k n xs (a:Int) (b:Int)=some ((pairR n xs a b).getD noFail):=by
 have hn8:=F.le8
 unfold spec_l6Pair.f pairR;rw [and_nat a b (by omega) (by omega)]
 by_cases h1:a=b
 ·rw [if_pos (by omega),if_pos h1];rfl
 ·rw [if_neg (by omega),if_neg h1]
  by_cases h2:a &&& b=a
  ·rw [if_pos (by omega),if_pos h2];rfl
  ·rw [if_neg (by omega),if_neg h2]
   exact l6Pair_l0 F a b ha hb n.toNat k 0 (Nat.zero_add _) (by omega)
theorem CircuitFailure_spec_l1 {n:Int} {xs:List Int} (F:Fam n xs) (i:Nat) (hi:i<xs.length) (C:Nat) (hC:xs.length+10<C) (r:Int × Int × Int × Bool)
  (next:∀ k,C≤k→spec_CircuitFailure.l0 k n xs ((i+1:Nat):Int)=some r) :
  ∀ d k j:Nat,j+d=xs.length→C+d*10+1≤k→spec_CircuitFailure.l1 k n xs (i:Int) (j:Int)=some ((scan (fun j=>pairR n xs (X xs i) (X xs j)) j d).getD r):=by
 have hl:=F.len;have hn8:=F.le8;have h1:=F.X i
 intro d
 induction d with
 | zero =>
  intro k j h hk;obtain ⟨k,rfl⟩:=pos (show 0<k by omega)
  simp only [spec_CircuitFailure.l1];rw [if_neg (by omega),w1 (by omega),next k (by omega)];rfl
 | succ d ih =>
  intro k j h hk;obtain ⟨k,rfl⟩:=pos (show 0<k by omega)
  have h2:=F.X j
  simp only [spec_CircuitFailure.l1]
  rw [scan_getD,if_pos (by omega),if_pos (by omega),if_pos (by omega),if_pos (by omega),h1.1,h2.1,l6Pair_eq F _ _ h1.2.2 h2.2.2 k (by omega),w1 (by omega)];simp only [Option.bind_some]
  rw [ih k (j+1) (by omega) (by omega)]
  cases hp:pairR n xs (X xs i) (X xs j) with
  | none=>rfl
  | some q =>
   have ht:=pairR_true hp
   obtain ⟨q1,q2,q3,q4⟩:=q
   simp only at ht;subst ht;rfl
theorem CircuitFailure_spec_l0 {n:Int} {xs:List Int} (F:Fam n xs) :
  ∀ d k i:Nat,i+d=xs.length→d*2562+300≤k→spec_CircuitFailure.l0 k n xs (i:Int)=some ((scan (cfA n xs) i d).getD noFail):=by
 have hl:=F.len
 intro d
 induction d with
 | zero =>
  intro k i h hk;obtain ⟨k,rfl⟩:=pos (show 0<k by omega)
  simp only [spec_CircuitFailure.l0];rw [if_neg (by omega)];rfl
 | succ d ih =>
  intro k i h hk;obtain ⟨k,rfl⟩:=pos (show 0<k by omega)
  have h1:=F.X i
  simp only [spec_CircuitFailure.l0]
  rw [scan_getD,if_pos (by omega),if_pos (by omega),h1.1]
  unfold cfA
  by_cases z:X xs i=0
  ·rw [if_pos (by omega),if_pos z];rfl
  ·rw [if_neg (by omega),if_neg z]
   exact CircuitFailure_spec_l1 F i (by omega) (d*2562+300) (by omega) _ (fun k' hk'=>ih k' (i+1) (by omega) hk') xs.length k 0 (Nat.zero_add _) (by omega)
theorem CircuitFailure_spec (n:Int) (xs:List Int) (k:Nat) (hn:xs.length<2000000) (hk:2000000≤k):spec_CircuitFailure.f k n xs=some (cfail n xs):=by
 unfold spec_CircuitFailure.f cfail;rw [IsFamily_spec n xs k (by omega) (by omega)];simp only [Option.bind_some]
 by_cases h:fam n xs=true
 ·have F:=(fam_iff n xs).mp h;have hl:=F.len
  rw [if_pos h,if_pos h];exact CircuitFailure_spec_l0 F xs.length k 0 (Nat.zero_add _) (by omega)
 ·rw [if_neg h,if_neg h];rfl
theorem sub_nat {x s:Nat} (hx:x<256) (hs:s<256):subB (x:Int) (s:Int)=(x &&& s==x):=by
 unfold subB;rw [decide_eq_true (by omega),Bool.true_and,Int.toNat_natCast,Int.toNat_natCast]
theorem on_CircuitFailure_1 {n:Int} {xs:List Int} (F:Fam n xs) (s k:Nat) (hs:s<256) (hk:xs.length<k):on_impl_CircuitFailure_1.f k xs (s:Int)=some (withB xs s):=by
 have hl:=F.len
 unfold on_impl_CircuitFailure_1.f
 have:=anyL_eq (impl_CircuitFailure_1.f (s:Int)) (fun y=>subB y (s:Int)) xs (by omega) (fun y _=>by unfold impl_CircuitFailure_1.f;exact IsSubset_impl y (s:Int)) xs.length k 0 (Nat.zero_add _) hk
 rw [show (0:Int)=((0:Nat):Int) from rfl,this]
 refine congrArg some ?_;rw [Bool.eq_iff_iff,withB_iff,List.drop_zero,List.any_eq_true]
 constructor
 ·rintro ⟨y,hy,h⟩
  obtain ⟨i,hi,rfl⟩:=mem_rd hy
  have h1:=F.X i
  rw [h1.1,sub_nat h1.2.2 hs] at h
  refine ⟨i,hi,fun j hj=>?_⟩
  have h':X xs i &&& s=X xs i:=by simpa using h
  rw [← h'] at hj;exact ((Mt.in_and _ _ j).mp hj).2
 ·rintro ⟨i,hi,h⟩
  have h1:=F.X i
  refine ⟨rd xs (i:Int),rd_mem hi,?_⟩
  rw [h1.1,sub_nat h1.2.2 hs]
  have:X xs i &&& s=X xs i:=Mt.ext fun j=>by
   rw [Mt.in_and];exact ⟨fun q=>q.1,fun q=>⟨q,h j q⟩⟩
  simpa using this
theorem CircuitFailure_impl_l2 {n:Int} {xs:List Int} (F:Fam n xs) (i j:Nat) (C:Nat) (hC:xs.length+10<C) (r:Int × Int × Int × Bool) (es:List Int) (hes:∀ e ∈ es,0≤e∧e<8) (hel:es.length≤8)
  (hj:j<xs.length)
  (next:∀ k,C≤k→impl_CircuitFailure.l1 k xs ((X xs i:Nat):Int) xs (xs.length:Int) (i:Int) xs (xs.length:Int) ((j+1:Nat):Int)=some r) :
  ∀ d k t:Nat,t+d=es.length→C+d+1≤k→impl_CircuitFailure.l2 k xs ((X xs i:Nat):Int) ((X xs j:Nat):Int) xs (xs.length:Int) (i:Int) xs (xs.length:Int) (j:Int) es (es.length:Int) (t:Int) =
   some ((scanL (fun e=>if withB xs (Mt.del (X xs i ||| X xs j) e.toNat)=true then none else some (((X xs i:Nat):Int),((X xs j:Nat):Int),e,true)) (es.drop t)).getD r):=by
 have hl:=F.len;have h1:=F.X i;have h2:=F.X j
 intro d
 induction d with
 | zero =>
  intro k t h hk;obtain ⟨k,rfl⟩:=pos (show 0<k by omega)
  simp only [impl_CircuitFailure.l2];rw [if_neg (by omega),w1 (by omega),next k (by omega),List.drop_eq_nil_of_le (by omega)];rfl
 | succ d ih =>
  intro k t h hk;obtain ⟨k,rfl⟩:=pos (show 0<k by omega)
  have ht:t<es.length:=by omega
  have hr:=hes _ (rd_mem ht)
  obtain ⟨e,he⟩:=nat_of hr.1
  have hab:=Mt.small_or h1.2.2 h2.2.2
  have e3:=del_small hab (e:=e)
  simp only [impl_CircuitFailure.l2]
  rw [if_pos (by omega),if_pos (by omega),if_pos (by omega),if_pos (by omega),drop_rd ht,he,or_nat _ _ (by omega) (by omega),shl_one e (by omega),andNot_nat _ (2 ^ e) (by omega) (pow_small (by omega)),show Mt.diff (X xs i ||| X xs j) (2 ^ e)=Mt.del (X xs i ||| X xs j) e from rfl,on_CircuitFailure_1 F _ k e3 (by omega),w1 (by omega)];simp only [Option.bind_some,scanL]
  rw [ih k (t+1) (by omega) (by omega),Int.toNat_natCast]
  cases hx:withB xs (Mt.del (X xs i ||| X xs j) e)
  ·rw [if_neg (by simp),if_neg (by simp)];rfl
  ·rw [if_pos rfl,if_pos rfl]
theorem pair_scanL {n:Int} {xs:List Int} (F:Fam n xs) (i j:Nat):scanL (fun e=>if withB xs (Mt.del (X xs i ||| X xs j) e.toNat)=true then none else some (((X xs i:Nat):Int),((X xs j:Nat):Int),e,true)) (elems ((X xs i &&& X xs j:Nat):Int))=scan (pairE xs (X xs i) (X xs j)) 0 n.toNat:=by
 have h1:=F.X i;have h2:=F.X j;have hn8:=F.le8
 have hd:X xs i &&& X xs j<256:=land_small h1.2.2
 unfold elems;rw [scanL_elems]
 have hm:=scan_more (p:=pairE xs (X xs i) (X xs j)) (8 - n.toNat) n.toNat 0 (fun e he=>pairE_none (fun q=>by have:=bit_lt h1.2.1 q.1;omega))
 rw [show n.toNat+(8 - n.toNat)=8 by omega] at hm
 rw [← hm]
 refine scan_congr 8 0 fun e _ he=>?_
 rw [hasE_nat _ _ hd (by omega),Int.toNat_natCast]
 unfold pairE
 by_cases hin:Mt.In e (X xs i &&& X xs j)
 ·have q:=(Mt.in_and _ _ e).mp hin
  rw [if_pos (show (X xs i &&& X xs j).testBit e=true from hin)]
  cases hx:withB xs (Mt.del (X xs i ||| X xs j) e)
  ·rw [if_neg (by simp),if_pos ⟨q.1,q.2,rfl⟩]
  ·rw [if_pos rfl,if_neg (by simp)]
 ·rw [if_neg (show ¬ (X xs i &&& X xs j).testBit e=true from hin),if_neg]
  rintro ⟨q1,q2,_⟩
  exact hin ((Mt.in_and _ _ e).mpr ⟨q1,q2⟩)
theorem CircuitFailure_impl_l1 {n:Int} {xs:List Int} (F:Fam n xs) (i:Nat) (hi:i<xs.length) (C:Nat) (hC:xs.length+10<C) (r:Int × Int × Int × Bool)
  (next:∀ k,C≤k→impl_CircuitFailure.l0 k xs xs (xs.length:Int) ((i+1:Nat):Int)=some r) :
  ∀ d k j:Nat,j+d=xs.length→C+d*10+1≤k→impl_CircuitFailure.l1 k xs ((X xs i:Nat):Int) xs (xs.length:Int) (i:Int) xs (xs.length:Int) (j:Int)=some ((scan (fun j=>pairR n xs (X xs i) (X xs j)) j d).getD r):=by
 have hl:=F.len;have hn8:=F.le8;have h1:=F.X i
 intro d
 induction d with
 | zero =>
  intro k j h hk;obtain ⟨k,rfl⟩:=pos (show 0<k by omega)
  simp only [impl_CircuitFailure.l1];rw [if_neg (by omega),w1 (by omega),next k (by omega)];rfl
 | succ d ih =>
  intro k j h hk;obtain ⟨k,rfl⟩:=pos (show 0<k by omega)
  have h2:=F.X j
  simp only [impl_CircuitFailure.l1]
  rw [scan_getD,if_pos (by omega),if_pos (by omega),if_pos (by omega),h2.1,IsSubset_impl,sub_nat h1.2.2 h2.2.2,and_nat _ _ (by omega) (by omega),ElementsOf_impl _ k (by omega),w1 (by omega)];simp only [Option.bind_some]
  by_cases q1:X xs i=X xs j
  ·have:pairR n xs (X xs i) (X xs j)=none:=by unfold pairR;rw [if_pos q1]
   rw [if_pos (by omega),ih k (j+1) (by omega) (by omega),this];rfl
  ·rw [if_neg (by omega)]
   by_cases q2:X xs i &&& X xs j=X xs i
   ·have:pairR n xs (X xs i) (X xs j)=some (((X xs i:Nat):Int),((X xs j:Nat):Int),0,true):=by unfold pairR;rw [if_neg q1,if_pos q2]
    rw [if_pos (by simpa using q2),this];rfl
   ·have:pairR n xs (X xs i) (X xs j)=scan (pairE xs (X xs i) (X xs j)) 0 n.toNat:=by unfold pairR;rw [if_neg q1,if_neg q2]
    rw [if_neg (by simpa using q2),this,← pair_scanL F i j]
    have hel:=elems_length ((X xs i &&& X xs j:Nat):Int)
    have key:=CircuitFailure_impl_l2 F i j (C+d*10+1) (by omega) _ (elems ((X xs i &&& X xs j:Nat):Int)) (fun e he=>elems_range he) hel (by omega) (fun k' hk'=>ih k' (j+1) (by omega) hk') _ k 0 (Nat.zero_add _) (by omega)
    rw [List.drop_zero] at key
    exact key
theorem CircuitFailure_impl_l0 {n:Int} {xs:List Int} (F:Fam n xs) :
  ∀ d k i:Nat,i+d=xs.length→d*2562+300≤k→impl_CircuitFailure.l0 k xs xs (xs.length:Int) (i:Int)=some ((scan (cfA n xs) i d).getD noFail):=by
 have hl:=F.len
 intro d
 induction d with
 | zero =>
  intro k i h hk;obtain ⟨k,rfl⟩:=pos (show 0<k by omega)
  simp only [impl_CircuitFailure.l0];rw [if_neg (by omega)];rfl
 | succ d ih =>
  intro k i h hk;obtain ⟨k,rfl⟩:=pos (show 0<k by omega)
  have h1:=F.X i
  simp only [impl_CircuitFailure.l0]
  rw [scan_getD,if_pos (by omega),if_pos (by omega),if_pos (by omega),h1.1]
  unfold cfA
  by_cases z:X xs i=0
  ·rw [if_pos (by omega),if_pos z];rfl
  ·rw [if_neg (by omega),if_neg z]
   exact CircuitFailure_impl_l1 F i (by omega) (d*2562+300) (by omega) _ (fun k' hk'=>ih k' (i+1) (by omega) hk') xs.length k 0 (Nat.zero_add _) (by omega)
theorem CircuitFailure_impl (n:Int) (xs:List Int) (k:Nat) (hn:xs.length<2000000) (hk:2000000≤k):impl_CircuitFailure.f k n xs=some (cfail n xs):=by
 unfold impl_CircuitFailure.f cfail;rw [IsFamily_impl n xs k (by omega) (by omega)];simp only [Option.bind_some]
 by_cases h:fam n xs=true
 ·have F:=(fam_iff n xs).mp h;have hl:=F.len
  rw [if_pos h,if_pos h];exact CircuitFailure_impl_l0 F xs.length k 0 (Nat.zero_add _) (by omega)
 ·rw [if_neg h,if_neg h];rfl
end Go.Proofs.YtekegbacnagbcaaGreat.L
/- The matroid of a family of circuits: what the printed functions come to, and that the two ways agree. -/
namespace Go.Proofs.YtekegbacnagbcaaGreat.L
open Go.RowKit Go.Proofs.YtekegbacnagbcaaGreatW.PrintWords Go.Proofs.YtekegbacnagbcaaGreatW.PrintMore Go.Proofs.YtekegbacnagbcaaGreat.P Go.Proofs.YtekegbacnagbcaaGreat.B
theorem areB_sets {n:Int} (h0:0≤n) (h8:n≤8) (q:Nat→Bool):areB (sets n q)=true:=by
 have hw:=pow_le8 (show n.toNat≤8 by omega)
 rw [areB_iff];intro x hx
 obtain ⟨s,rfl,h,_⟩:=sets_nat hx;omega
theorem circS_all {n:Int} {xs:List Int} (h:mat n xs=true) (s:Nat):(s:Int) ∈ circS n xs↔(∀ i,Mt.In i s→i<n.toNat)∧¬ Mt.Indep (NB xs) s∧∀ t,Mt.Sub t s→t≠s→Mt.Indep (NB xs) t:=by
 have F:=(mat_fam h).1;have hw:=pow_le8 F.le8
 unfold circS;rw [if_pos h,minS_mem (areB_sets F.n0 F.n8 _),sets_mem,lt_bits,and_assoc]
 refine and_congr_right fun hs=>?_
 have hs':=lt_bits.mpr hs
 have hi:=indN_Indep F s
 constructor
 ·rintro ⟨h1,h2⟩
  refine ⟨fun q=>(by rw [hi.mpr q] at h1;cases h1),fun t ht hne=>?_⟩
  apply Classical.byContradiction;intro hd
  have ht':t<2 ^ n.toNat:=lt_bits.mpr fun i q=>hs i (ht i q)
  have h3:=h2 (t:Int) ((sets_mem _ t).mpr ⟨ht',by rw [bnot_false (fun q=>hd ((indN_Indep F t).mp q))];rfl⟩) (by omega)
  rw [(subN (by omega) (by omega)).mpr ht] at h3;cases h3
 ·rintro ⟨h1,h2⟩
  refine ⟨by rw [bnot_false (fun q=>h1 (hi.mp q))];rfl,fun x hx hne=>?_⟩
  obtain ⟨t,rfl,ht,hq⟩:=sets_nat hx
  refine bnot_false fun q=>?_
  have h3:=h2 t ((subN (by omega) (by omega)).mp q) (by omega)
  rw [(indN_Indep F t).mpr h3] at hq;cases hq
theorem circS_inc (n:Int) (xs:List Int):(circS n xs).Pairwise (·<·):=by
 unfold circS;split
 ·exact minS_inc _
 ·exact List.Pairwise.nil
theorem circS_nat {n:Int} {xs:List Int} {x:Int} (h:x ∈ circS n xs):∃ s:Nat,x=s∧s<2 ^ n.toNat:=by
 unfold circS at h;split at h
 ·rename_i hm;have F:=(mat_fam hm).1
  obtain ⟨s,e,hs,_⟩:=sets_nat ((minS_mem (areB_sets F.n0 F.n8 _) x).mp h).1;exact ⟨s,e,hs⟩
 ·cases h
theorem circS_fam {n:Int} {xs:List Int} (h:mat n xs=true):Fam n (circS n xs):=by
 have F:=(mat_fam h).1
 refine ⟨F.n0,F.n8,fun x hx=>?_,circS_inc n xs⟩
 obtain ⟨s,rfl,hs⟩:=circS_nat hx
 have:=pow_cast n.toNat;omega
theorem circS_AllCirc {n:Int} {xs:List Int} (h:mat n xs=true):Mt.AllCirc (NB xs) (NB (circS n xs)) n.toNat:=fun s=>(mem_NB (circS_fam h) s).trans (circS_all h s)
theorem cf_iff {n:Int} {xs:List Int} (F:Fam n xs):(cfail n xs).2.2.2=false↔Mt.CA (NB xs):=by
 unfold cfail;rw [if_pos ((fam_iff n xs).mpr F)]
 have e1:((scan (cfA n xs) 0 xs.length).getD noFail).2.2.2=false↔scan (cfA n xs) 0 xs.length=none:=by
  constructor
  ·intro h
   cases hs:scan (cfA n xs) 0 xs.length with
   | none=>rfl
   | some r =>
    rw [hs] at h
    obtain ⟨i,_,_,h1⟩:=scan_some _ _ hs
    unfold cfA at h1;split at h1
    ·cases h1;cases h
    ·obtain ⟨j,_,_,h2⟩:=scan_some _ _ h1
     have h3:r.2.2.2=false:=h
     rw [pairR_true h2] at h3;cases h3
  ·intro h;rw [h];rfl
 rw [e1,scan_none_iff]
 constructor
 ·intro h
  have hz:∀ i,i<xs.length→X xs i≠0:=fun i hi q=>by
   have:=h i (Nat.zero_le _) (by omega);unfold cfA at this;rw [if_pos q] at this;cases this
  have hp:∀ i,i<xs.length→∀ j,j<xs.length→pairR n xs (X xs i) (X xs j)=none:=fun i hi j hj=>by
   have h1:=h i (Nat.zero_le _) (by omega);unfold cfA at h1;rw [if_neg (hz i hi),scan_none_iff] at h1
   exact h1 j (Nat.zero_le _) (by omega)
  refine ⟨fun q=>?_,fun c hc=>?_,fun a ha b hb hs=>?_,fun a ha b hb hne e ea eb=>?_⟩
  ·obtain ⟨i,hi,e⟩:=(NB_X F).mp q;exact hz i hi e
  ·obtain ⟨i,_,rfl⟩:=(NB_X F).mp hc;exact (F.X i).2.2
  ·obtain ⟨i,hi,rfl⟩:=(NB_X F).mp ha
   obtain ⟨j,hj,rfl⟩:=(NB_X F).mp hb
   apply Classical.byContradiction;intro hne
   have h1:=hp i hi j hj
   unfold pairR at h1
   rw [if_neg hne,if_pos (Mt.ext fun k=>by rw [Mt.in_and];exact ⟨fun q=>q.1,fun q=>⟨q,hs k q⟩⟩)] at h1;cases h1
  ·obtain ⟨i,hi,rfl⟩:=(NB_X F).mp ha
   obtain ⟨j,hj,rfl⟩:=(NB_X F).mp hb
   have h1:=hp i hi j hj
   unfold pairR at h1
   rw [if_neg hne] at h1
   split at h1
   ·cases h1
   ·rw [scan_none_iff] at h1
    have h2:=h1 e (Nat.zero_le _) (by have:=bit_lt (F.X i).2.1 ea;omega)
    have h3:withB xs (Mt.del (X xs i ||| X xs j) e)=true:=by
     by_cases q:withB xs (Mt.del (X xs i ||| X xs j) e)=true
     ·exact q
     ·unfold pairE at h2;rw [if_pos ⟨ea,eb,bnot_false q⟩] at h2;cases h2
    obtain ⟨k,hk,hs⟩:=(withB_iff _ _).mp h3
    exact ⟨_,(NB_X F).mpr ⟨k,hk,rfl⟩,hs⟩
 ·intro c i _ hi
  have ha:=(NB_X F).mpr ⟨i,show i<xs.length by omega,rfl⟩
  unfold cfA;rw [if_neg (fun (q:X xs i=0)=>c.z (q ▸ ha)),scan_none_iff]
  intro j _ hj
  have hb:=(NB_X F).mpr ⟨j,show j<xs.length by omega,rfl⟩
  unfold pairR
  by_cases e:X xs i=X xs j
  ·rw [if_pos e]
  ·rw [if_neg e,if_neg (fun q=>e (c.anti _ ha _ hb fun k hk=>by rw [← q] at hk;exact ((Mt.in_and _ _ k).mp hk).2)),scan_none_iff]
   intro f _ hf
   refine pairE_none fun ⟨h1,h2,h3⟩=>?_
   obtain ⟨d,hd,hs⟩:=c.el _ ha _ hb e f h1 h2
   obtain ⟨k,hk,rfl⟩:=(NB_X F).mp hd
   rw [(withB_iff _ _).mpr ⟨k,hk,hs⟩] at h3;cases h3
theorem withB_Free {n:Int} {xs:List Int} (F:Fam n xs) (s:Nat):(!withB xs s)=true↔Mt.Free (NB xs) s:=by
 rw [Bool.not_eq_true']
 constructor
 ·intro h c hc hs
  obtain ⟨i,hi,rfl⟩:=(NB_X F).mp hc
  rw [(withB_iff _ _).mpr ⟨i,hi,hs⟩] at h;cases h
 ·intro h;refine bnot_false fun q=>?_
  obtain ⟨i,hi,hs⟩:=(withB_iff _ _).mp q
  exact h _ ((NB_X F).mpr ⟨i,hi,rfl⟩) hs
def fromB (n:Int) (xs:List Int):List Int:=maxS (sets n fun s=>!withB xs s)
theorem fromB_mem {n:Int} {xs:List Int} (F:Fam n xs) (s:Nat):(s:Int) ∈ fromB n xs↔Mt.Bs (NB xs) n.toNat s:=by
 have hw:=pow_le8 F.le8
 unfold fromB;rw [maxS_mem (areB_sets F.n0 F.n8 _),sets_mem,withB_Free F]
 constructor
 ·rintro ⟨⟨h1,h2⟩,h3⟩
  refine ⟨lt_bits.mp h1,h2,fun e he hne hf=>?_⟩
  have h4:Mt.ins s e<2 ^ n.toNat:=lt_bits.mpr fun i hi=>((Mt.in_ins s e i).mp hi).elim (lt_bits.mp h1 i) (fun q=>q ▸ he)
  have h5:Mt.ins s e≠s:=fun q=>hne (by have:=Mt.in_ins_self s e;rw [q] at this;exact this)
  have h6:=h3 ((Mt.ins s e:Nat):Int) ((sets_mem _ _).mpr ⟨h4,(withB_Free F _).mpr hf⟩) (by omega)
  rw [(subN (by omega) (by omega)).mpr (Mt.sub_ins s e)] at h6;cases h6
 ·rintro ⟨h1,h2,h3⟩
  have h1':=lt_bits.mpr h1
  refine ⟨⟨h1',h2⟩,fun x hx hne=>?_⟩
  obtain ⟨t,rfl,ht,hq⟩:=sets_nat hx
  refine bnot_false fun q=>?_
  have hs:=(subN (by omega) (by omega)).mp q
  by_cases hts:Mt.Sub t s
  ·exact hne (by have:=hts.antisymm hs;omega)
  ·obtain ⟨e,e1,e2⟩:=Mt.not_sub hts
   exact h3 e (lt_bits.mp ht e e1) e2 (((withB_Free F t).mp hq).sub (Mt.ins_sub hs e1))
theorem fromB_fam {n:Int} {xs:List Int} (F:Fam n xs):Fam n (fromB n xs):=by
 refine ⟨F.n0,F.n8,fun x hx=>?_,maxS_inc _⟩
 obtain ⟨s,rfl,hs,_⟩:=sets_nat ((maxS_mem (areB_sets F.n0 F.n8 _) x).mp hx).1
 have:=pow_cast n.toNat;omega
theorem fromB_len {n:Int} {xs:List Int} (F:Fam n xs):(fromB n xs).length≤256:=(fromB_fam F).len
theorem from_iff {n:Int} {xs:List Int} (F:Fam n xs):(cfail n xs).2.2.2=false↔mat n (fromB n xs)=true∧circS n (fromB n xs)=xs:=by
 have FB:=fromB_fam F
 have hB:∀ s,s ∈ NB (fromB n xs)↔Mt.Bs (NB xs) n.toNat s:=fun s=>(mem_NB FB s).trans (fromB_mem F s)
 rw [cf_iff F]
 constructor
 ·intro c
  have m:mat n (fromB n xs)=true:=(mat_iff _ _).mpr ⟨FB,c.matroid F.le8 hB⟩
  refine ⟨m,inc_ext _ _ (circS_inc _ _) F.inc fun x=>?_⟩
  have hL:∀ d,d ∈ NB xs→∀ i,Mt.In i d→i<n.toNat:=fun d hd=>by
   obtain ⟨i,_,rfl⟩:=(NB_X F).mp hd;exact lt_bits.mp (F.X i).2.1
  constructor
  ·intro hx
   obtain ⟨s,rfl,hs⟩:=circS_nat hx
   have h1:=(circS_all m s).mp hx
   exact (mem_NB F s).mp ((c.circuits F.le8 hL hB h1.1).mp h1.2)
  ·intro hx
   obtain ⟨s,rfl⟩:=nat_of (F.set x hx).1
   have h1:=(mem_NB F s).mpr hx
   exact (circS_all m s).mpr ⟨hL s h1,(c.circuits F.le8 hL hB (hL s h1)).mpr h1⟩
 ·rintro ⟨m,e⟩
  have h1:=circS_AllCirc m
  rw [e] at h1
  exact ((mat_iff _ _).mp m).2.ca F.le8 h1
def frm (n:Int) (xs:List Int):Int × List Int × Bool:=if fam n xs=true∧(cfail n xs).2.2.2=false then (n,fromB n xs,true) else (0,[],false)
theorem frm_len (n:Int) (xs:List Int):(frm n xs).2.1.length≤256:=by
 unfold frm;split
 ·rename_i h;exact fromB_len ((fam_iff n xs).mp h.1)
 ·exact Nat.zero_le _
theorem FromCircuits_spec_l0 {n:Int} {xs:List Int} (F:Fam n xs):∀ d k i:Nat,∀ out:List Int,i+d=2 ^ n.toNat→d+Big3≤k→out.length≤i→spec_FromCircuits.l0 k n xs out (i:Int)=some (n,maxS (out++setsFrom (fun s=>!withB xs s) i d),true):=by
 have hw:=pow_le8 F.le8;have hl:=F.len
 intro d
 induction d with
 | zero =>
  intro k i out h hk ho;obtain ⟨k,rfl⟩:=pos (show 0<k by unfold Big3 at hk;omega)
  have hb:=big2 (show out.length≤4194304 by omega)
  simp only [spec_FromCircuits.l0];rw [FullSet_spec,fullSet_nat F.n0 F.n8];simp only [Option.bind_some];rw [if_neg (by omega),MaximalSets_spec out k (by omega) (by unfold Big3 at hk;unfold Big2 at *;omega)];simp [setsFrom]
 | succ d ih =>
  intro k i out h hk ho;obtain ⟨k,rfl⟩:=pos (show 0<k by omega)
  have hk3:2000000≤k:=by unfold Big3 at hk;omega
  simp only [spec_FromCircuits.l0];rw [FullSet_spec,fullSet_nat F.n0 F.n8,l6Within_eq F i k (by omega) (by omega)];simp only [Option.bind_some,setsFrom];rw [if_pos (by omega),w1 (by omega)]
  by_cases hq:withB xs i=true
  ·rw [if_pos hq,if_neg (by rw [hq];simp),ih k (i+1) _ (by omega) (by omega) (by omega)]
  ·rw [if_neg hq,if_pos (by omega),if_pos (by rw [bnot_false hq];rfl),ih k (i+1) _ (by omega) (by omega) (by rw [List.length_append,List.length_singleton];omega)];simp
theorem FromCircuits_spec (n:Int) (xs:List Int) (k:Nat) (hn:xs.length<2000000) (hk:Big3+300≤k):spec_FromCircuits.f k n xs=some (frm n xs):=by
 have hk3:2000001≤k:=by unfold Big3 at hk;omega
 unfold spec_FromCircuits.f frm;rw [CircuitFailure_spec n xs k hn (by omega),IsFamily_spec n xs k (by omega) (by omega)];simp only [Option.bind_some]
 obtain ⟨k,rfl⟩:=pos (show 0<k by omega)
 by_cases h:fam n xs=true
 ·have F:=(fam_iff n xs).mp h;have hw:=pow_le8 F.le8
  rw [if_pos h];simp only [spec_FromCircuits.j0]
  by_cases hc:(cfail n xs).2.2.2=true
  ·rw [if_pos hc,if_neg (fun q=>by rw [q.2] at hc;cases hc)]
  ·rw [if_neg hc,if_pos ⟨h,bnot_false hc⟩]
   exact FromCircuits_spec_l0 F (2 ^ n.toNat) k 0 [] (Nat.zero_add _) (by omega) (Nat.le_refl _)
 ·rw [if_neg h,if_neg (fun q=>h q.1)];simp only [spec_FromCircuits.j0];rw [if_pos trivial]
theorem on_FromCircuits_1_1 {n:Int} {xs:List Int} (F:Fam n xs) (s k:Nat) (hs:s<256) (hk:xs.length<k):on_impl_FromCircuits_1_1.f k xs (s:Int)=some (withB xs s):=by
 have hl:=F.len
 unfold on_impl_FromCircuits_1_1.f
 have:=anyL_eq (impl_FromCircuits_1_1.f (s:Int)) (fun y=>subB y (s:Int)) xs (by omega) (fun y _=>by unfold impl_FromCircuits_1_1.f;exact IsSubset_impl _ _) xs.length k 0 (Nat.zero_add _) hk
 rw [show (0:Int)=((0:Nat):Int) from rfl,this]
 refine congrArg some ?_;rw [Bool.eq_iff_iff,withB_iff,List.drop_zero,List.any_eq_true]
 constructor
 ·rintro ⟨y,hy,h⟩
  obtain ⟨j,hj,rfl⟩:=mem_rd hy
  rw [(F.X j).1] at h
  exact ⟨j,hj,(subN (F.X j).2.2 hs).mp h⟩
 ·rintro ⟨j,hj,h⟩
  refine ⟨_,rd_mem hj,?_⟩
  rw [(F.X j).1];exact (subN (F.X j).2.2 hs).mpr h
theorem Equal_l0 (xs ys:List Int) (hl:xs.length=ys.length) (hn:xs.length<4194304):∀ d k i:Nat,i+d=xs.length→d<k→slices_Equal_int_int.l0 k xs ys (xs.length:Int) (i:Int)=some (decide (xs.drop i=ys.drop i)):=by
 intro d
 induction d with
 | zero =>
  intro k i h hk;obtain ⟨k,rfl⟩:=pos (show 0<k by omega)
  simp only [slices_Equal_int_int.l0];rw [if_neg (by omega),List.drop_eq_nil_of_le (by omega),List.drop_eq_nil_of_le (by omega)];simp
 | succ d ih =>
  intro k i h hk;obtain ⟨k,rfl⟩:=pos (show 0<k by omega)
  have hi:i<xs.length:=by omega
  simp only [slices_Equal_int_int.l0];rw [if_pos (by omega),if_pos (by omega),if_pos (by omega),if_pos (by omega),drop_rd hi,drop_rd (show i<ys.length by omega)]
  by_cases e:rd xs (i:Int)=rd ys (i:Int)
  ·rw [if_pos e,w1 (by omega),ih k (i+1) (by omega) (by omega),e];congr 1;rw [decide_eq_decide];simp
  ·rw [if_neg e];congr 1;exact (decide_eq_false (fun h=>e (List.cons.inj h).1)).symm
theorem Equal_eq (xs ys:List Int) (k:Nat) (hn:xs.length<4194304) (hk:xs.length<k):slices_Equal_int_int.f k xs ys=some (decide (xs=ys)):=by
 unfold slices_Equal_int_int.f
 by_cases hl:xs.length=ys.length
 ·rw [if_pos (by omega)];exact Equal_l0 xs ys hl hn xs.length k 0 (Nat.zero_add _) hk
 ·rw [if_neg (by omega)];congr 1;exact (decide_eq_false (fun h=>hl (congrArg _ h))).symm
theorem FromCircuits_impl (n:Int) (xs:List Int) (k:Nat) (hn:xs.length<2000000) (hk:2000001≤k):impl_FromCircuits.f k n xs=some (frm n xs):=by
 unfold impl_FromCircuits.f frm;rw [IsFamily_impl n xs k (by omega) (by omega)];simp only [Option.bind_some]
 by_cases h:fam n xs=true
 ·have F:=(fam_iff n xs).mp h;have hw:=pow_le8 F.le8;have hl:=F.len;have hfl:=fromB_len F
  have hsl:=sets_len F.n0 F.n8 fun s=>!withB xs s
  have e:on_impl_FromCircuits_1.f k n xs=some (sets n fun s=>!withB xs s):=setsL_sets F.n0 F.n8 _ _ (fun j hj=>by
   unfold impl_FromCircuits_1.f;rw [on_FromCircuits_1_1 F j k (by omega) (by omega)];rfl) k (by omega)
  rw [if_pos h,e];simp only [Option.bind_some]
  unfold impl_fromIndependent.f
  rw [MaximalSets_impl _ k (by omega) (by omega)];simp only [Option.bind_some]
  rw [show maxS (sets n fun s=>!withB xs s)=fromB n xs from rfl,IsMatroid_impl n _ k (by omega) (by omega)];simp only [Option.bind_some]
  have hfi:=from_iff F
  by_cases hm:mat n (fromB n xs)=true
  ·have hcl:=circS_len n (fromB n xs)
   rw [if_pos hm];simp only [Option.bind_some]
   rw [if_pos trivial,Circuits_impl n _ k (by omega) (by omega)];simp only [Option.bind_some]
   rw [Equal_eq _ _ k (by omega) (by omega)];simp only [Option.bind_some,decide_eq_true_eq]
   by_cases hc:circS n (fromB n xs)=xs
   ·rw [if_pos hc,if_pos ⟨h,hfi.mpr ⟨hm,hc⟩⟩]
   ·rw [if_neg hc,if_neg (fun q=>hc (hfi.mp q.2).2)]
  ·rw [if_neg hm];simp only [Option.bind_some]
   rw [if_neg (by simp),if_neg (fun q=>hm (hfi.mp q.2).1)]
 ·rw [if_neg h,if_neg (fun q=>h q.1)]
end Go.Proofs.YtekegbacnagbcaaGreat.L
/- A matroid is found again from its circuits, and a base with an element more has one circuit: over what the printed functions come to. -/
namespace Go.Proofs.YtekegbacnagbcaaGreat.L
open Go.RowKit Go.Proofs.YtekegbacnagbcaaGreatW.PrintWords Go.Proofs.YtekegbacnagbcaaGreatW.PrintMore Go.Proofs.YtekegbacnagbcaaGreat.P Go.Proofs.YtekegbacnagbcaaGreat.B
theorem NB_bits {n:Int} {xs:List Int} (F:Fam n xs):∀ b,b ∈ NB xs→∀ i,Mt.In i b→i<n.toNat:=fun b hb=>by
 obtain ⟨i,_,rfl⟩:=(NB_X F).mp hb;exact lt_bits.mp (F.X i).2.1
theorem frm_circ {n:Int} {xs:List Int} (h:mat n xs=true):frm n (circS n xs)=(n,xs,true):=by
 have F:=(mat_fam h).1
 have G:=circS_fam h
 have hA:=circS_AllCirc h
 have m:=((mat_iff _ _).mp h).2
 have c:(cfail n (circS n xs)).2.2.2=false:=(cf_iff G).mpr (m.ca F.le8 hA)
 have e:fromB n (circS n xs)=xs:=by
  refine inc_ext _ _ (maxS_inc _) F.inc fun x=>?_
  constructor
  ·intro hx
   obtain ⟨s,rfl⟩:=nat_of ((fromB_fam G).set x hx).1
   exact (mem_NB F s).mp ((m.bases F.le8 (NB_bits F) hA s).mpr ((fromB_mem G s).mp hx))
  ·intro hx
   obtain ⟨s,rfl⟩:=nat_of (F.set x hx).1
   exact (fromB_mem G s).mpr ((m.bases F.le8 (NB_bits F) hA s).mp ((mem_NB F s).mpr hx))
 unfold frm;rw [if_pos ⟨(fam_iff _ _).mpr G,c⟩,e]
theorem frm_ok {n:Int} {xs:List Int} (h:(frm n xs).2.2=true):mat (frm n xs).1 (frm n xs).2.1=true∧circS (frm n xs).1 (frm n xs).2.1=xs:=by
 by_cases q:fam n xs=true∧(cfail n xs).2.2.2=false
 ·unfold frm;rw [if_pos q];exact (from_iff ((fam_iff _ _).mp q.1)).mp q.2
 ·unfold frm at h;rw [if_neg q] at h;cases h
theorem circ_in (xs:List Int) (a e j:Nat) (ha:a<256):Mt.In j (circ xs a e)↔j=e∨Mt.In j a∧((Mt.ins (Mt.del a j) e:Nat):Int) ∈ xs:=by
 unfold circ;rw [ciFrom_in,Mt.in_two]
 constructor
 ·rintro (q|⟨_,_,q1,q2⟩)
  ·exact .inl q.symm
  ·exact .inr ⟨q1,q2⟩
 ·rintro (q|⟨q1,q2⟩)
  ·exact .inl q.symm
  ·exact .inr ⟨Nat.zero_le _,by have:=Mt.in_lt ha q1;omega,q1,q2⟩
theorem circ_fact {n:Int} {xs:List Int} {a e:Nat} (h:mat n xs=true) (ha:(a:Int) ∈ xs) (he:(e:Int)<n) (hae:a.testBit e=false) :
  ((circ xs a e:Nat):Int) ∈ circS n xs∧circ xs a e<256∧Mt.Sub (Mt.del (circ xs a e) e) a:=by
 have F:=(mat_fam h).1;have h8:=F.le8;have hw:=pow_le8 F.le8
 have e8:e<n.toNat:=by have:=F.n0;omega
 have hb:=(mem_NB F a).mpr ha
 have a8:a<256:=by have:=(F.small ha).2;omega
 have hc:=fun f=>circ_in xs a e f a8
 have hbit:∀ i,Mt.In i (circ xs a e)→i<n.toNat:=fun i hi=>by
  rcases (hc i).mp hi with q|q
  ·omega
  ·exact NB_bits F a hb i q.1
 have hsm:circ xs a e<2 ^ n.toNat:=lt_bits.mpr hbit
 have hf:=((mat_iff _ _).mp h).2.fundamental (c:=circ xs a e) hb (show e<8 by omega) (fun q=>by unfold Mt.In at q;rw [hae] at q;cases q) (fun f=>(hc f).trans (or_congr_right (and_congr_right fun _=>(mem_NB F _).symm)))
 refine ⟨(circS_all h _).mpr ⟨hbit,hf.1,hf.2⟩,by omega,fun i hi=>?_⟩
 obtain ⟨q1,q2⟩:=(Mt.in_del _ _ i).mp hi
 rcases (hc i).mp q1 with q|q
 ·exact absurd q.symm q2
 ·exact q.1
theorem circOf_cases (n:Int) (xs:List Int) (a e:Int):circOf n xs a e=0∨(circOf n xs a e ∈ circS n xs∧mat n xs=true∧Go.bits .and .i64 (woE (circOf n xs a e) e) a=woE (circOf n xs a e) e):=by
 unfold circOf
 by_cases q:mat n xs=true∧a ∈ xs∧(0≤e∧e<n)∧a.toNat.testBit e.toNat=false
 ·rw [if_pos q]
  obtain ⟨h,ha,he,hb⟩:=q
  have F:=(mat_fam h).1;have h8:=F.le8
  obtain ⟨a',rfl⟩:=nat_of (F.small ha).1
  obtain ⟨e',rfl⟩:=nat_of he.1
  rw [Int.toNat_natCast,Int.toNat_natCast] at hb
  rw [Int.toNat_natCast,Int.toNat_natCast]
  have a8:=(F.small ha).2
  obtain ⟨f1,f2,f3⟩:=circ_fact h ha he.2 hb
  have d8:=del_small (e:=e') f2
  refine .inr ⟨f1,h,?_⟩
  unfold woE;rw [if_pos ⟨by omega,by omega,by omega,by have:=F.n8;omega⟩,Int.toNat_natCast,Int.toNat_natCast,and_nat _ _ (by omega) (by omega)]
  exact congrArg _ (Mt.ext fun i=>by rw [Mt.in_and];exact ⟨fun z=>z.1,fun z=>⟨z,f3 i z⟩⟩)
 ·rw [if_neg q];exact .inl rfl
end Go.Proofs.YtekegbacnagbcaaGreat.L
/- Drawn families of circuits, and a drawn base of a matroid: the draws answer. -/
namespace Go.Proofs.YtekegbacnagbcaaGreat.D4
open Go.RowKit Go.Proofs.YtekegbacnagbcaaGreatW.PrintWords Go.Proofs.YtekegbacnagbcaaGreatW.PrintMore Go.Proofs.YtekegbacnagbcaaGreat.P Go.Proofs.YtekegbacnagbcaaGreat.B Go.Proofs.YtekegbacnagbcaaGreat.L
open Go.Proofs.YtekegbacnagbcaaGreat.D3 (bsome l3Bent_ok)
theorem l6Case_ok (b:List Int) (k:Nat) (hb:¬ (b.length:Int)>1048576) (hk:60000000000000≤k):∃ n l,spec_l6Case.f k b=some (n,l)∧l.length≤256:=by
 obtain ⟨g,e⟩:=new_ok b k (by omega) (by omega)
 unfold spec_l6Case.f;rw [e,bsome];simp only []
 obtain ⟨n,xs,j1,g1,e1,j10,n0,n1,l0,l1⟩:=l4Draw_ok b 0 g 5 (by omega) (Int.le_refl _) (by omega) (by omega) k (by omega)
 have hc:=circS_len n xs
 rw [e1,bsome];simp only []
 rw [Circuits_spec n xs k (by omega) (by unfold Big3;omega),bsome]
 obtain ⟨c,j2,g2,e2,j20,_⟩:=below_ok b j1 g1 6 (by omega) j10
 rw [e2,bsome];simp only []
 by_cases c0:c=0
 ·rw [if_pos c0]
  obtain ⟨l,j3,g3,e3,_,hl⟩:=l3Bent_ok b j2 g2 n (by omega) j20 (by omega) k (by omega)
  rw [e3,bsome];exact ⟨_,_,rfl,by first|omega|(simp only [];omega)⟩
 ·rw [if_neg c0]
  by_cases c1:c=1
  ·rw [if_pos c1]
   by_cases hl:((circS n xs).length:Int)>1
   ·rw [if_pos hl,if_pos (by omega)];exact ⟨_,_,rfl,by rw [List.length_drop];omega⟩
   ·rw [if_neg hl];exact ⟨_,_,rfl,hc⟩
  ·rw [if_neg c1]
   by_cases c2:c=2
   ·rw [if_pos c2]
    obtain ⟨m,j3,g3,e3,_⟩:=below_ok b j2 g2 7 (by omega) j20
    rw [e3,bsome];exact ⟨_,_,rfl,hc⟩
   ·rw [if_neg c2];exact ⟨_,_,rfl,hc⟩
theorem DrawCircuitFailure_ok (b:List Int) (k:Nat) (hb:¬ (b.length:Int)>1048576) (hk:60000000000000≤k):∃ n l,spec_DrawCircuitFailure.f k b=some (n,l)∧l.length≤256:=by
 obtain ⟨n,l,e,hl⟩:=l6Case_ok b k hb hk
 unfold spec_DrawCircuitFailure.f;rw [e,bsome];exact ⟨_,_,rfl,hl⟩
theorem DrawCircuitOf_j0 (b:List Int) (hb:b.length<4611686018427387904) (x n:Int) (xs:List Int) (hl:xs.length≤256) (i h:Int) (h0:0≤i) (k:Nat) (hk:10000000≤k) :
  ∃ m ys e,spec_DrawCircuitOf.j0 (k+1) x b i h n xs=some (m,ys,x,e)∧ys.length≤257:=by
 simp only [spec_DrawCircuitOf.j0]
 obtain ⟨t,j1,g1,e1,j10⟩:=once_ok b i h 12 hb h0
 rw [e1,bsome];simp only []
 cases t with
 | true =>
  obtain ⟨m,ys,j2,g2,e2,j20,_,_,q⟩:=l4Bent_ok b j1 g1 5 hb j10 (by omega) (by omega) k hk
  obtain ⟨y,j3,g3,e3,_⟩:=below_ok b j2 g2 8 hb j20
  rw [if_pos rfl,e2,bsome];simp only []
  rw [e3,bsome];exact ⟨_,_,_,rfl,q⟩
 | false =>
  obtain ⟨y,j3,g3,e3,_⟩:=below_ok b j1 g1 8 hb j10
  rw [if_neg (by simp),e3,bsome];exact ⟨_,_,_,rfl,by first|omega|(simp only [];omega)⟩
theorem DrawCircuitOf_ok (b:List Int) (k:Nat) (hb:¬ (b.length:Int)>1048576) (hk:10000001≤k):∃ n xs x e,spec_DrawCircuitOf.f k b=some (n,xs,x,e)∧xs.length≤257:=by
 obtain ⟨k,rfl⟩:=pos (show 0<k by omega)
 obtain ⟨g,e⟩:=new_ok b (k+1) (by omega) (by omega)
 unfold spec_DrawCircuitOf.f;rw [e,bsome];simp only []
 obtain ⟨n,xs,j1,g1,e1,j10,n0,n1,l0,l1⟩:=l4Draw_ok b 0 g 6 (by omega) (Int.le_refl _) (by omega) (by omega) (k+1) (by omega)
 rw [e1,bsome];simp only []
 obtain ⟨i,j2,g2,e2,j20,i0,_,i1⟩:=below_ok b j1 g1 (xs.length:Int) (by omega) j10
 have:=i1 (by omega)
 rw [e2,bsome];simp only []
 rw [if_pos i0,if_pos this]
 obtain ⟨t,j3,g3,e3,j30⟩:=once_ok b j2 g2 10 (by omega) j20
 rw [e3,bsome];simp only []
 cases t with
 | true =>
  obtain ⟨z,j4,g4,e4,j40,_⟩:=bent2_ok b j3 g3 (by omega) j30
  rw [if_pos rfl,e4,bsome];simp only []
  obtain ⟨m,ys,y,e5,q⟩:=DrawCircuitOf_j0 b (by omega) z n xs l0 j4 g4 j40 k (by omega)
  exact ⟨_,_,_,_,e5,q⟩
 | false =>
  rw [if_neg (by simp)]
  obtain ⟨m,ys,y,e5,q⟩:=DrawCircuitOf_j0 b (by omega) (rd xs i) n xs l0 j3 g3 j30 k (by omega)
  exact ⟨_,_,_,_,e5,q⟩
end Go.Proofs.YtekegbacnagbcaaGreat.D4
