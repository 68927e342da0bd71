/- A matroid is found again from its circuits, a base with an element more has one circuit, and the program's functions on circuits answer as the reference's at the drawn arguments. -/
import Derived.Test.YtekegbacnagbcaaGreatVFnCircuitsAll
namespace Go.Proofs.YtekegbacnagbcaaGreat.Pure
open Go.RowKit Go.Proofs.YtekegbacnagbcaaGreat.P Go.Proofs.YtekegbacnagbcaaGreatW.PrintWords Go.Proofs.YtekegbacnagbcaaGreatW.PrintLast
open Go.Proofs.YtekegbacnagbcaaGreat.L Go.Proofs.YtekegbacnagbcaaGreat.B Go.Proofs.YtekegbacnagbcaaGreat.D4
open Go.Proofs.YtekegbacnagbcaaGreat.D3 (bsome)
theorem FnCircuits_j1 (n:Int) (xs:List Int) (hl:xs.length≤257) (k:Nat) (hk:5000000≤k):laws_FnCircuits.j1 (k+1) (circS n xs) false n xs=some true:=by
 have hB:=big_eq
 have hc:=circS_len n xs
 simp only [laws_FnCircuits.j1]
 rw [if_neg (by simp),FromCircuits_impl n _ k (by omega) (by omega),bsome,IsMatroid_spec n xs k (by omega) (by omega),bsome]
 by_cases h:mat n xs=true
 ·rw [if_pos h,frm_circ h,if_pos rfl,EqualMatroid_spec n n xs xs k (by omega) (by omega),bsome,decide_eq_true ⟨rfl,rfl⟩]
 ·rw [if_neg h]
theorem FnCircuits_tail (n:Int) (xs:List Int) (a:Int) (ys:List Int) (base e:Int) (hl:xs.length≤257) (hy:ys.length≤257) (k:Nat) (hk:60000000000000≤k) :
  (if circOf a ys base e=0 then (laws_FnCircuits.j1 (k+1) (circS n xs) false n xs) else ((spec_Circuits.f (k+1) a ys).bind fun t915=>((spec_HasSet.f (k+1) t915 (circOf a ys base e)).bind fun t918=>(if t918=true then ((spec_WithoutElement.f (circOf a ys base e) e).bind fun t919=>((spec_WithoutElement.f (circOf a ys base e) e).bind fun t920=>(laws_FnCircuits.j1 (k+1) (circS n xs) ((Go.bits .and .i64 t919 base) != t920) n xs))) else (none)))))=some true:=by
 have hB:=big_eq
 have hj:=FnCircuits_j1 n xs hl k (by omega)
 have hc:=circS_len a ys
 by_cases h:circOf a ys base e=0
 ·rw [if_pos h];exact hj
 ·rw [if_neg h,Circuits_spec a ys (k+1) (by omega) (by unfold Big3;omega),bsome]
  rcases circOf_cases a ys base e with q|⟨q1,q2,q3⟩
  ·exact absurd q h
  ·rw [HasSet_spec _ _ (k+1) (by omega) (by omega),bsome,decide_eq_true q1,if_pos rfl,WithoutElement_spec,bsome,bsome,q3]
   simpa using hj
theorem FnCircuits_j0 (n:Int) (xs:List Int) (m:Int) (l:List Int) (a:Int) (ys:List Int) (base e:Int) (hl:xs.length≤257) (hy:ys.length≤257) (hm:l.length≤256) (k:Nat) (hk:60000000000000≤k) :
  laws_FnCircuits.j0 (k+2) (circS n xs) l (frm m l).2.2 base e (circOf a ys base e) false n xs (frm m l).1 (frm m l).2.1 a ys=some true:=by
 have hB:=big_eq
 have hf:=frm_len m l
 have ht:=FnCircuits_tail n xs a ys base e hl hy k hk
 simp only [laws_FnCircuits.j0]
 rw [if_neg (by simp)]
 by_cases hq:(frm m l).2.2=true
 ·obtain ⟨q1,q2⟩:=frm_ok hq
  rw [if_pos hq,IsMatroid_spec _ _ (k+1) (by omega) (by omega),bsome,if_pos q1,Circuits_impl _ _ (k+1) (by omega) (by omega),bsome,q2,sameInts_eq l l (k+1) (by omega) (by omega),bsome,if_pos (by simp)]
  exact ht
 ·rw [if_neg hq];exact ht
theorem FnCircuits:laws_FnCircuits.Pure:=by
 intro b hlb _ _
 obtain ⟨k,hk⟩:∃ k:Nat,60000000000000≤k:=⟨_,Nat.le_refl _⟩
 have hB:=big_eq
 refine ⟨k+2,?_⟩
 unfold laws_FnCircuits.f laws_big.f;rw [bsome]
 by_cases h:(b.length:Int)>1048576
 ·rw [if_pos (decide_eq_true h)]
 ·rw [if_neg (by rw [decide_eq_true_eq];exact h)]
  obtain ⟨n,xs,e1,l1⟩:=DrawCircuits_ok b (k+2) h (by omega)
  obtain ⟨m,l,e2,l2⟩:=DrawCircuitFailure_ok b (k+2) h (by omega)
  obtain ⟨a,ys,base,e,e3,l3⟩:=DrawCircuitOf_ok b (k+2) h (by omega)
  have hc:=circS_len n xs;have hf:=frm_len m l
  have hj:=FnCircuits_j0 n xs m l a ys base e l1 l3 l2 k (by omega)
  rw [e1,bsome];try simp only []
  rw [Circuits_impl n xs (k+2) (by omega) (by omega),bsome,e2,bsome];try simp only []
  rw [CircuitFailure_impl m l (k+2) (by omega) (by omega),bsome,CircuitFailure_spec m l (k+2) (by omega) (by omega),bsome]
  rw [FromCircuits_impl m l (k+2) (by omega) (by omega),bsome,FromCircuits_spec m l (k+2) (by omega) (by unfold Big3;omega),bsome,e3,bsome];try simp only []
  rw [CircuitOf_impl a ys base e (k+2) (by omega) (by omega),bsome,Circuits_spec n xs (k+2) (by omega) (by unfold Big3;omega),bsome,sameInts_eq _ _ (k+2) (by omega) (by omega),bsome,if_pos (by simp)]
  rw [if_neg (by simp),if_neg (by simp),if_neg (by simp),EqualMatroid_spec _ _ _ _ (k+2) (by omega) (by omega),bsome,if_pos (by simp)]
  rw [CircuitOf_spec a ys base e (k+2) (by omega) (by omega),bsome,if_pos rfl,GirthOf_impl n xs (k+2) (by omega) (by omega),bsome,GirthOf_spec n xs (k+2) (by omega) (by unfold Big3;omega),bsome]
  simpa using hj
end Go.Proofs.YtekegbacnagbcaaGreat.Pure
