/- Whole numbers as bit masks: what Go's operators on sets of at most eight elements come to. -/
import Derived.Test.YtekegbacnagbcaaGreatTWMore
import Derived.Test.YtekegbacnagbcaaGreatMt
import Derived.Laws.Entries
import Derived.IntWalk
namespace Go.Proofs.YtekegbacnagbcaaGreat.B
open Go.RowKit Go.Proofs.YtekegbacnagbcaaGreatW.PrintWords Go.Proofs.YtekegbacnagbcaaGreatW.PrintMore
theorem ofInt_nat (x:Nat) (hx:x<18446744073709551616):(BitVec.ofInt 64 (x:Int)).toNat=x:=by
 rw [BitVec.ofInt_natCast,BitVec.toNat_ofNat];exact Nat.mod_eq_of_lt (by omega)
theorem wrap_nat (x:Nat) (hx:x<9223372036854775808):IntKind.i64.wrap (x:Int)=x:=IntWalk.i64_in _ (by omega)
theorem w64 (x:Int) (h0:-9223372036854775808≤x) (h1:x<9223372036854775808):wrap64 x=x:=by unfold wrap64;omega
theorem and_nat (x y:Nat) (hx:x<9223372036854775808) (hy:y<9223372036854775808):Go.bits .and .i64 (x:Int) (y:Int)=((x &&& y:Nat):Int):=by
 show IntKind.i64.wrap ((BitVec.ofInt 64 (x:Int) &&& BitVec.ofInt 64 (y:Int)).toNat:Int)=_
 rw [BitVec.toNat_and,ofInt_nat x (by omega),ofInt_nat y (by omega)]
 exact wrap_nat _ (Nat.lt_of_le_of_lt Nat.and_le_left hx)
theorem or_nat (x y:Nat) (hx:x<9223372036854775808) (hy:y<9223372036854775808):Go.bits .or .i64 (x:Int) (y:Int)=((x ||| y:Nat):Int):=by
 show IntKind.i64.wrap ((BitVec.ofInt 64 (x:Int) ||| BitVec.ofInt 64 (y:Int)).toNat:Int)=_
 rw [BitVec.toNat_or,ofInt_nat x (by omega),ofInt_nat y (by omega)]
 exact wrap_nat _ (Nat.or_lt_two_pow (n:=63) (by omega) (by omega))
theorem andNot_nat (x y:Nat) (hx:x<9223372036854775808) (hy:y<9223372036854775808):Go.bits .andNot .i64 (x:Int) (y:Int)=((Mt.diff x y:Nat):Int):=by
 show IntKind.i64.wrap ((BitVec.ofInt 64 (x:Int) &&& ~~~ BitVec.ofInt 64 (y:Int)).toNat:Int)=_
 rw [BitVec.toNat_and,BitVec.toNat_not,ofInt_nat x (by omega),ofInt_nat y (by omega)]
 have h:x &&& (2 ^ 64 - 1 - y)=Mt.diff x y:=Mt.ext fun i=>by
  rw [Mt.in_and,Mt.in_diff]
  unfold Mt.In
  have e:2 ^ 64 - 1 - y=2 ^ 64 - (y+1):=by omega
  rw [e,Nat.testBit_two_pow_sub_succ (by omega)]
  constructor
  ·rintro ⟨h1,h2⟩;refine ⟨h1,?_⟩;simp at h2;simp [h2.2]
  ·rintro ⟨h1,h2⟩;refine ⟨h1,?_⟩
   have:i<64:=by
    apply Classical.byContradiction;intro hn
    have h3:x<2 ^ i:=Nat.lt_of_lt_of_le (show x<2 ^ 64 by omega) (Nat.pow_le_pow_right (by decide) (by omega))
    rw [Nat.testBit_lt_two_pow h3] at h1;cases h1
   simp [this] at h2 ⊢;exact h2
 rw [h]
 refine wrap_nat _ ?_
 unfold Mt.diff
 exact Nat.xor_lt_two_pow (n:=63) (by omega) (Nat.lt_of_le_of_lt Nat.and_le_left hx)
theorem and_range (z:Int) (m:Nat) (hm:m<9223372036854775808):0≤Go.bits .and .i64 z (m:Int)∧Go.bits .and .i64 z (m:Int)≤m:=by
 have h:Go.bits .and .i64 z (m:Int)=(((BitVec.ofInt 64 z).toNat &&& m:Nat):Int):=by
  show IntKind.i64.wrap ((BitVec.ofInt 64 z &&& BitVec.ofInt 64 (m:Int)).toNat:Int)=_
  rw [BitVec.toNat_and,ofInt_nat m (by omega)]
  exact wrap_nat _ (Nat.lt_of_le_of_lt Nat.and_le_right hm)
 have:(BitVec.ofInt 64 z).toNat &&& m≤m:=Nat.and_le_right
 omega
theorem u64_nat (e:Int) (h0:0≤e) (h1:e<9223372036854775808):IntKind.u64.wrap e=e:=IntWalk.u64_in e (by omega)
theorem shl_one (e:Nat) (he:e<62):shl .i64 1 (e:Int)=((2 ^ e:Nat):Int):=by
 unfold shl
 have h1:min (e:Int).toNat IntKind.i64.bits=e:=by show min (e:Int).toNat 64=e;omega
 rw [h1,Int.one_mul]
 have h2:(2:Nat) ^ e<2 ^ 62:=Nat.pow_lt_pow_right (by decide) he
 have h3:((2:Int) ^ e)=((2 ^ e:Nat):Int):=by norm_cast
 rw [h3]
 exact wrap_nat _ (by omega)
theorem shr_nat (x e:Nat) (he:e<64):shr .i64 (x:Int) (e:Int)=((x >>> e:Nat):Int):=by
 unfold shr
 have h1:min (e:Int).toNat IntKind.i64.bits=e:=by show min (e:Int).toNat 64=e;omega
 rw [h1,Nat.shiftRight_eq_div_pow]
 norm_cast
theorem tb (x e:Nat) (hx:x<9223372036854775808) (he:e<64):(Go.bits .and .i64 (shr .i64 (x:Int) (e:Int)) 1==1)=x.testBit e:=by
 rw [shr_nat x e he]
 have h:=and_nat (x >>> e) 1 (Nat.lt_of_le_of_lt (Nat.shiftRight_le x e) hx) (by decide)
 rw [show ((1:Nat):Int)=1 from rfl] at h
 rw [h,Nat.testBit,Nat.and_comm]
 have:(1 &&& x >>> e)<2:=Nat.lt_of_le_of_lt Nat.and_le_left (by decide)
 generalize 1 &&& x >>> e=q at *
 match q,this with
 | 0,_=>rfl
 | 1,_=>rfl
end Go.Proofs.YtekegbacnagbcaaGreat.B
