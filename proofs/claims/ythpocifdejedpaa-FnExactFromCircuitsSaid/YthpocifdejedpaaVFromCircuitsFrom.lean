/- The matroid of a family of circuits: what the printed functions come to, and that the two ways agree. -/
import Derived.Test.YthpocifdejedpaaVFromCircuitsNb
import Derived.Test.YthpocifdejedpaaVFromCircuitsCir
import Derived.Test.YthpocifdejedpaaVFromCircuitsCirc
namespace Go.Proofs.Ythpocifdejedpaa.L
open Go.RowKit Go.Proofs.YthpocifdejedpaaW.PrintWords Go.Proofs.YthpocifdejedpaaW.PrintMore Go.Proofs.Ythpocifdejedpaa.P Go.Proofs.Ythpocifdejedpaa.B
theorem areB_sets {n : Int} (h0 : 0 ≤ n) (h8 : n ≤ 8) (q : Nat → Bool) : areB (sets n q) = true := by
  have hw := pow_le8 (show n.toNat ≤ 8 by omega)
  rw [areB_iff]; intro x hx
  obtain ⟨s, rfl, h, _⟩ := sets_nat hx; omega
/-- The circuits, as the plain theory has them. -/
theorem circS_all {n : Int} {xs : List Int} (h : mat n xs = true) (s : Nat) : (s : Int) ∈ circS n xs ↔ (∀ i, Mt.In i s → i < n.toNat) ∧ ¬ Mt.Indep (NB xs) s ∧ ∀ t, Mt.Sub t s → t ≠ s → Mt.Indep (NB xs) t := by
  have F := (mat_fam h).1; have hw := pow_le8 F.le8
  unfold circS; rw [if_pos h, minS_mem (areB_sets F.n0 F.n8 _), sets_mem, lt_bits, and_assoc]
  refine and_congr_right fun hs => ?_
  have hs' := lt_bits.mpr hs
  have hi := indN_Indep F s
  constructor
  · rintro ⟨h1, h2⟩
    refine ⟨fun q => (by rw [hi.mpr q] at h1; cases h1), fun t ht hne => ?_⟩
    apply Classical.byContradiction; intro hd
    have ht' : t < 2 ^ n.toNat := lt_bits.mpr fun i q => hs i (ht i q)
    have h3 := h2 (t : Int) ((sets_mem _ t).mpr ⟨ht', by rw [bnot_false (fun q => hd ((indN_Indep F t).mp q))]; rfl⟩) (by omega)
    rw [(subN (by omega) (by omega)).mpr ht] at h3; cases h3
  · rintro ⟨h1, h2⟩
    refine ⟨by rw [bnot_false (fun q => h1 (hi.mp q))]; rfl, fun x hx hne => ?_⟩
    obtain ⟨t, rfl, ht, hq⟩ := sets_nat hx
    refine bnot_false fun q => ?_
    have h3 := h2 t ((subN (by omega) (by omega)).mp q) (by omega)
    rw [(indN_Indep F t).mpr h3] at hq; cases hq
theorem circS_inc (n : Int) (xs : List Int) : (circS n xs).Pairwise (· < ·) := by
  unfold circS; split
  · exact minS_inc _
  · exact List.Pairwise.nil
theorem circS_nat {n : Int} {xs : List Int} {x : Int} (h : x ∈ circS n xs) : ∃ s : Nat, x = s ∧ s < 2 ^ n.toNat := by
  unfold circS at h; split at h
  · rename_i hm; have F := (mat_fam hm).1
    obtain ⟨s, e, hs, _⟩ := sets_nat ((minS_mem (areB_sets F.n0 F.n8 _) x).mp h).1; exact ⟨s, e, hs⟩
  · cases h
theorem circS_fam {n : Int} {xs : List Int} (h : mat n xs = true) : Fam n (circS n xs) := by
  have F := (mat_fam h).1
  refine ⟨F.n0, F.n8, fun x hx => ?_, circS_inc n xs⟩
  obtain ⟨s, rfl, hs⟩ := circS_nat hx
  have := pow_cast n.toNat; omega
theorem circS_AllCirc {n : Int} {xs : List Int} (h : mat n xs = true) : Mt.AllCirc (NB xs) (NB (circS n xs)) n.toNat := fun s => (mem_NB (circS_fam h) s).trans (circS_all h s)
/-- No failure: the plain theory's circuit axioms. -/
theorem cf_iff {n : Int} {xs : List Int} (F : Fam n xs) : (cfail n xs).2.2.2 = false ↔ Mt.CA (NB xs) := by
  unfold cfail; rw [if_pos ((fam_iff n xs).mpr F)]
  have e1 : ((scan (cfA n xs) 0 xs.length).getD noFail).2.2.2 = false ↔ scan (cfA n xs) 0 xs.length = none := by
    constructor
    · intro h
      cases hs : scan (cfA n xs) 0 xs.length with
      | none => rfl
      | some r =>
        rw [hs] at h
        obtain ⟨i, _, _, h1⟩ := scan_some _ _ hs
        unfold cfA at h1; split at h1
        · cases h1; cases h
        · obtain ⟨j, _, _, h2⟩ := scan_some _ _ h1
          have h3 : r.2.2.2 = false := h
          rw [pairR_true h2] at h3; cases h3
    · intro h; rw [h]; rfl
  rw [e1, scan_none_iff]
  constructor
  · intro h
    have hz : ∀ i, i < xs.length → X xs i ≠ 0 := fun i hi q => by
      have := h i (Nat.zero_le _) (by omega); unfold cfA at this; rw [if_pos q] at this; cases this
    have hp : ∀ i, i < xs.length → ∀ j, j < xs.length → pairR n xs (X xs i) (X xs j) = none := fun i hi j hj => by
      have h1 := h i (Nat.zero_le _) (by omega); unfold cfA at h1; rw [if_neg (hz i hi), scan_none_iff] at h1
      exact h1 j (Nat.zero_le _) (by omega)
    refine ⟨fun q => ?_, fun c hc => ?_, fun a ha b hb hs => ?_, fun a ha b hb hne e ea eb => ?_⟩
    · obtain ⟨i, hi, e⟩ := (NB_X F).mp q; exact hz i hi e
    · obtain ⟨i, _, rfl⟩ := (NB_X F).mp hc; exact (F.X i).2.2
    · obtain ⟨i, hi, rfl⟩ := (NB_X F).mp ha
      obtain ⟨j, hj, rfl⟩ := (NB_X F).mp hb
      apply Classical.byContradiction; intro hne
      have h1 := hp i hi j hj
      unfold pairR at h1
      rw [if_neg hne, if_pos (Mt.ext fun k => by rw [Mt.in_and]; exact ⟨fun q => q.1, fun q => ⟨q, hs k q⟩⟩)] at h1; cases h1
    · obtain ⟨i, hi, rfl⟩ := (NB_X F).mp ha
      obtain ⟨j, hj, rfl⟩ := (NB_X F).mp hb
      have h1 := hp i hi j hj
      unfold pairR at h1
      rw [if_neg hne] at h1
      split at h1
      · cases h1
      · rw [scan_none_iff] at h1
        have h2 := h1 e (Nat.zero_le _) (by have := bit_lt (F.X i).2.1 ea; omega)
        have h3 : withB xs (Mt.del (X xs i ||| X xs j) e) = true := by
          by_cases q : withB xs (Mt.del (X xs i ||| X xs j) e) = true
          · exact q
          · unfold pairE at h2; rw [if_pos ⟨ea, eb, bnot_false q⟩] at h2; cases h2
        obtain ⟨k, hk, hs⟩ := (withB_iff _ _).mp h3
        exact ⟨_, (NB_X F).mpr ⟨k, hk, rfl⟩, hs⟩
  · intro c i _ hi
    have ha := (NB_X F).mpr ⟨i, show i < xs.length by omega, rfl⟩
    unfold cfA; rw [if_neg (fun (q : X xs i = 0) => c.z (q ▸ ha)), scan_none_iff]
    intro j _ hj
    have hb := (NB_X F).mpr ⟨j, show j < xs.length by omega, rfl⟩
    unfold pairR
    by_cases e : X xs i = X xs j
    · rw [if_pos e]
    · rw [if_neg e, if_neg (fun q => e (c.anti _ ha _ hb fun k hk => by rw [← q] at hk; exact ((Mt.in_and _ _ k).mp hk).2)), scan_none_iff]
      intro f _ hf
      refine pairE_none fun ⟨h1, h2, h3⟩ => ?_
      obtain ⟨d, hd, hs⟩ := c.el _ ha _ hb e f h1 h2
      obtain ⟨k, hk, rfl⟩ := (NB_X F).mp hd
      rw [(withB_iff _ _).mpr ⟨k, hk, hs⟩] at h3; cases h3
theorem withB_Free {n : Int} {xs : List Int} (F : Fam n xs) (s : Nat) : (!withB xs s) = true ↔ Mt.Free (NB xs) s := by
  rw [Bool.not_eq_true']
  constructor
  · intro h c hc hs
    obtain ⟨i, hi, rfl⟩ := (NB_X F).mp hc
    rw [(withB_iff _ _).mpr ⟨i, hi, hs⟩] at h; cases h
  · intro h; refine bnot_false fun q => ?_
    obtain ⟨i, hi, hs⟩ := (withB_iff _ _).mp q
    exact h _ ((NB_X F).mpr ⟨i, hi, rfl⟩) hs
def fromB (n : Int) (xs : List Int) : List Int := maxS (sets n fun s => !withB xs s)
theorem fromB_mem {n : Int} {xs : List Int} (F : Fam n xs) (s : Nat) : (s : Int) ∈ fromB n xs ↔ Mt.Bs (NB xs) n.toNat s := by
  have hw := pow_le8 F.le8
  unfold fromB; rw [maxS_mem (areB_sets F.n0 F.n8 _), sets_mem, withB_Free F]
  constructor
  · rintro ⟨⟨h1, h2⟩, h3⟩
    refine ⟨lt_bits.mp h1, h2, fun e he hne hf => ?_⟩
    have h4 : Mt.ins s e < 2 ^ n.toNat := lt_bits.mpr fun i hi => ((Mt.in_ins s e i).mp hi).elim (lt_bits.mp h1 i) (fun q => q ▸ he)
    have h5 : Mt.ins s e ≠ s := fun q => hne (by have := Mt.in_ins_self s e; rw [q] at this; exact this)
    have h6 := h3 ((Mt.ins s e : Nat) : Int) ((sets_mem _ _).mpr ⟨h4, (withB_Free F _).mpr hf⟩) (by omega)
    rw [(subN (by omega) (by omega)).mpr (Mt.sub_ins s e)] at h6; cases h6
  · rintro ⟨h1, h2, h3⟩
    have h1' := lt_bits.mpr h1
    refine ⟨⟨h1', h2⟩, fun x hx hne => ?_⟩
    obtain ⟨t, rfl, ht, hq⟩ := sets_nat hx
    refine bnot_false fun q => ?_
    have hs := (subN (by omega) (by omega)).mp q
    by_cases hts : Mt.Sub t s
    · exact hne (by have := hts.antisymm hs; omega)
    · obtain ⟨e, e1, e2⟩ := Mt.not_sub hts
      exact h3 e (lt_bits.mp ht e e1) e2 (((withB_Free F t).mp hq).sub (Mt.ins_sub hs e1))
theorem fromB_fam {n : Int} {xs : List Int} (F : Fam n xs) : Fam n (fromB n xs) := by
  refine ⟨F.n0, F.n8, fun x hx => ?_, maxS_inc _⟩
  obtain ⟨s, rfl, hs, _⟩ := sets_nat ((maxS_mem (areB_sets F.n0 F.n8 _) x).mp hx).1
  have := pow_cast n.toNat; omega
theorem fromB_len {n : Int} {xs : List Int} (F : Fam n xs) : (fromB n xs).length ≤ 256 := (fromB_fam F).len
/-- The two ways agree. -/
theorem from_iff {n : Int} {xs : List Int} (F : Fam n xs) : (cfail n xs).2.2.2 = false ↔ mat n (fromB n xs) = true ∧ circS n (fromB n xs) = xs := by
  have FB := fromB_fam F
  have hB : ∀ s, s ∈ NB (fromB n xs) ↔ Mt.Bs (NB xs) n.toNat s := fun s => (mem_NB FB s).trans (fromB_mem F s)
  rw [cf_iff F]
  constructor
  · intro c
    have m : mat n (fromB n xs) = true := (mat_iff _ _).mpr ⟨FB, c.matroid F.le8 hB⟩
    refine ⟨m, inc_ext _ _ (circS_inc _ _) F.inc fun x => ?_⟩
    have hL : ∀ d, d ∈ NB xs → ∀ i, Mt.In i d → i < n.toNat := fun d hd => by
      obtain ⟨i, _, rfl⟩ := (NB_X F).mp hd; exact lt_bits.mp (F.X i).2.1
    constructor
    · intro hx
      obtain ⟨s, rfl, hs⟩ := circS_nat hx
      have h1 := (circS_all m s).mp hx
      exact (mem_NB F s).mp ((c.circuits F.le8 hL hB h1.1).mp h1.2)
    · intro hx
      obtain ⟨s, rfl⟩ := nat_of (F.set x hx).1
      have h1 := (mem_NB F s).mpr hx
      exact (circS_all m s).mpr ⟨hL s h1, (c.circuits F.le8 hL hB (hL s h1)).mpr h1⟩
  · rintro ⟨m, e⟩
    have h1 := circS_AllCirc m
    rw [e] at h1
    exact ((mat_iff _ _).mp m).2.ca F.le8 h1
def frm (n : Int) (xs : List Int) : Int × List Int × Bool := if fam n xs = true ∧ (cfail n xs).2.2.2 = false then (n, fromB n xs, true) else (0, [], false)
theorem frm_len (n : Int) (xs : List Int) : (frm n xs).2.1.length ≤ 256 := by
  unfold frm; split
  · rename_i h; exact fromB_len ((fam_iff n xs).mp h.1)
  · exact Nat.zero_le _
theorem FromCircuits_spec_l0 {n : Int} {xs : List Int} (F : Fam n xs) : ∀ d k i : Nat, ∀ out : List Int, i + d = 2 ^ n.toNat → d + Big3 ≤ k → out.length ≤ i → spec_FromCircuits.l0 k n xs out (i : Int) = some (n, maxS (out ++ setsFrom (fun s => !withB xs s) i d), true) := by
  have hw := pow_le8 F.le8; have hl := F.len
  intro d
  induction d with
  | zero =>
    intro k i out h hk ho; obtain ⟨k, rfl⟩ := pos (show 0 < k by unfold Big3 at hk; omega)
    have hb := big2 (show out.length ≤ 4194304 by omega)
    simp only [spec_FromCircuits.l0]; rw [FullSet_spec, fullSet_nat F.n0 F.n8]; simp only [Option.bind_some]; rw [if_neg (by omega), MaximalSets_spec out k (by omega) (by unfold Big3 at hk; unfold Big2 at *; omega)]; simp [setsFrom]
  | succ d ih =>
    intro k i out h hk ho; obtain ⟨k, rfl⟩ := pos (show 0 < k by omega)
    have hk3 : 2000000 ≤ k := by unfold Big3 at hk; omega
    simp only [spec_FromCircuits.l0]; rw [FullSet_spec, fullSet_nat F.n0 F.n8, l6Within_eq F i k (by omega) (by omega)]; simp only [Option.bind_some, setsFrom]; rw [if_pos (by omega), w1 (by omega)]
    by_cases hq : withB xs i = true
    · rw [if_pos hq, if_neg (by rw [hq]; simp), ih k (i + 1) _ (by omega) (by omega) (by omega)]
    · rw [if_neg hq, if_pos (by omega), if_pos (by rw [bnot_false hq]; rfl), ih k (i + 1) _ (by omega) (by omega) (by rw [List.length_append, List.length_singleton]; omega)]; simp
theorem FromCircuits_spec (n : Int) (xs : List Int) (k : Nat) (hn : xs.length < 2000000) (hk : Big3 + 300 ≤ k) : spec_FromCircuits.f k n xs = some (frm n xs) := by
  have hk3 : 2000001 ≤ k := by unfold Big3 at hk; omega
  unfold spec_FromCircuits.f frm; rw [CircuitFailure_spec n xs k hn (by omega), IsFamily_spec n xs k (by omega) (by omega)]; simp only [Option.bind_some]
  obtain ⟨k, rfl⟩ := pos (show 0 < k by omega)
  by_cases h : fam n xs = true
  · have F := (fam_iff n xs).mp h; have hw := pow_le8 F.le8
    rw [if_pos h]; simp only [spec_FromCircuits.j0]
    by_cases hc : (cfail n xs).2.2.2 = true
    · rw [if_pos hc, if_neg (fun q => by rw [q.2] at hc; cases hc)]
    · rw [if_neg hc, if_pos ⟨h, bnot_false hc⟩]
      exact FromCircuits_spec_l0 F (2 ^ n.toNat) k 0 [] (Nat.zero_add _) (by omega) (Nat.le_refl _)
  · rw [if_neg h, if_neg (fun q => h q.1)]; simp only [spec_FromCircuits.j0]; rw [if_pos trivial]
theorem on_FromCircuits_1_1 {n : Int} {xs : List Int} (F : Fam n xs) (s k : Nat) (hs : s < 256) (hk : xs.length < k) : on_impl_FromCircuits_1_1.f k xs (s : Int) = some (withB xs s) := by
  have hl := F.len
  unfold on_impl_FromCircuits_1_1.f
  have := anyL_eq (impl_FromCircuits_1_1.f (s : Int)) (fun y => subB y (s : Int)) xs (by omega) (fun y _ => by unfold impl_FromCircuits_1_1.f; exact IsSubset_impl _ _) xs.length k 0 (Nat.zero_add _) hk
  rw [show (0 : Int) = ((0 : Nat) : Int) from rfl, this]
  refine congrArg some ?_; rw [Bool.eq_iff_iff, withB_iff, List.drop_zero, List.any_eq_true]
  constructor
  · rintro ⟨y, hy, h⟩
    obtain ⟨j, hj, rfl⟩ := mem_rd hy
    rw [(F.X j).1] at h
    exact ⟨j, hj, (subN (F.X j).2.2 hs).mp h⟩
  · rintro ⟨j, hj, h⟩
    refine ⟨_, rd_mem hj, ?_⟩
    rw [(F.X j).1]; exact (subN (F.X j).2.2 hs).mpr h
theorem Equal_l0 (xs ys : List Int) (hl : xs.length = ys.length) (hn : xs.length < 4194304) : ∀ d k i : Nat, i + d = xs.length → d < k → slices_Equal_int_int.l0 k xs ys (xs.length : Int) (i : Int) = some (decide (xs.drop i = ys.drop i)) := by
  intro d
  induction d with
  | zero =>
    intro k i h hk; obtain ⟨k, rfl⟩ := pos (show 0 < k by omega)
    simp only [slices_Equal_int_int.l0]; rw [if_neg (by omega), List.drop_eq_nil_of_le (by omega), List.drop_eq_nil_of_le (by omega)]; simp
  | succ d ih =>
    intro k i h hk; obtain ⟨k, rfl⟩ := pos (show 0 < k by omega)
    have hi : i < xs.length := by omega
    simp only [slices_Equal_int_int.l0]; rw [if_pos (by omega), if_pos (by omega), if_pos (by omega), if_pos (by omega), drop_rd hi, drop_rd (show i < ys.length by omega)]
    by_cases e : rd xs (i : Int) = rd ys (i : Int)
    · rw [if_pos e, w1 (by omega), ih k (i + 1) (by omega) (by omega), e]; congr 1; rw [decide_eq_decide]; simp
    · rw [if_neg e]; congr 1; exact (decide_eq_false (fun h => e (List.cons.inj h).1)).symm
theorem Equal_eq (xs ys : List Int) (k : Nat) (hn : xs.length < 4194304) (hk : xs.length < k) : slices_Equal_int_int.f k xs ys = some (decide (xs = ys)) := by
  unfold slices_Equal_int_int.f
  by_cases hl : xs.length = ys.length
  · rw [if_pos (by omega)]; exact Equal_l0 xs ys hl hn xs.length k 0 (Nat.zero_add _) hk
  · rw [if_neg (by omega)]; congr 1; exact (decide_eq_false (fun h => hl (congrArg _ h))).symm
theorem FromCircuits_impl (n : Int) (xs : List Int) (k : Nat) (hn : xs.length < 2000000) (hk : 2000001 ≤ k) : impl_FromCircuits.f k n xs = some (frm n xs) := by
  unfold impl_FromCircuits.f frm; rw [IsFamily_impl n xs k (by omega) (by omega)]; simp only [Option.bind_some]
  by_cases h : fam n xs = true
  · have F := (fam_iff n xs).mp h; have hw := pow_le8 F.le8; have hl := F.len; have hfl := fromB_len F
    have hsl := sets_len F.n0 F.n8 fun s => !withB xs s
    have e : on_impl_FromCircuits_1.f k n xs = some (sets n fun s => !withB xs s) := setsL_sets F.n0 F.n8 _ _ (fun j hj => by
      unfold impl_FromCircuits_1.f; rw [on_FromCircuits_1_1 F j k (by omega) (by omega)]; rfl) k (by omega)
    rw [if_pos h, e]; simp only [Option.bind_some]
    unfold impl_fromIndependent.f
    rw [MaximalSets_impl _ k (by omega) (by omega)]; simp only [Option.bind_some]
    rw [show maxS (sets n fun s => !withB xs s) = fromB n xs from rfl, IsMatroid_impl n _ k (by omega) (by omega)]; simp only [Option.bind_some]
    have hfi := from_iff F
    by_cases hm : mat n (fromB n xs) = true
    · have hcl := circS_len n (fromB n xs)
      rw [if_pos hm]; simp only [Option.bind_some]
      rw [if_pos trivial, Circuits_impl n _ k (by omega) (by omega)]; simp only [Option.bind_some]
      rw [Equal_eq _ _ k (by omega) (by omega)]; simp only [Option.bind_some, decide_eq_true_eq]
      by_cases hc : circS n (fromB n xs) = xs
      · rw [if_pos hc, if_pos ⟨h, hfi.mpr ⟨hm, hc⟩⟩]
      · rw [if_neg hc, if_neg (fun q => hc (hfi.mp q.2).2)]
    · rw [if_neg hm]; simp only [Option.bind_some]
      rw [if_neg (by simp), if_neg (fun q => hm (hfi.mp q.2).1)]
  · rw [if_neg h, if_neg (fun q => h q.1)]
end Go.Proofs.Ythpocifdejedpaa.L
