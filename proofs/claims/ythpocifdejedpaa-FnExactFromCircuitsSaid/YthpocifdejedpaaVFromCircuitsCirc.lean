/- The first failure of a family of circuits: what the printed functions come to. -/
import Derived.Test.YthpocifdejedpaaVFromCircuitsMat
namespace Go.Proofs.Ythpocifdejedpaa.L
open Go.RowKit Go.Proofs.YthpocifdejedpaaW.PrintWords Go.Proofs.YthpocifdejedpaaW.PrintMore Go.Proofs.Ythpocifdejedpaa.P Go.Proofs.Ythpocifdejedpaa.B
/-- Whether some set of xs lies within s. -/
def withB (xs : List Int) (s : Nat) : Bool := anyFrom (fun i => X xs i &&& s == X xs i) 0 xs.length
def pairE (xs : List Int) (a b e : Nat) : Option (Int × Int × Int × Bool) := if a.testBit e = true ∧ b.testBit e = true ∧ withB xs (Mt.del (a ||| b) e) = false then some ((a : Int), (b : Int), (e : Int), true) else none
def pairR (n : Int) (xs : List Int) (a b : Nat) : Option (Int × Int × Int × Bool) := if a = b then none else if a &&& b = a then some ((a : Int), (b : Int), 0, true) else scan (pairE xs a b) 0 n.toNat
def cfA (n : Int) (xs : List Int) (i : Nat) : Option (Int × Int × Int × Bool) := if X xs i = 0 then some (0, 0, 0, true) else scan (fun j => pairR n xs (X xs i) (X xs j)) 0 xs.length
def cfail (n : Int) (xs : List Int) : Int × Int × Int × Bool := if fam n xs = true then (scan (cfA n xs) 0 xs.length).getD noFail else noFail
theorem pairE_none {xs : List Int} {a b e : Nat} (h : ¬ (a.testBit e = true ∧ b.testBit e = true ∧ withB xs (Mt.del (a ||| b) e) = false)) : pairE xs a b e = none := by unfold pairE; rw [if_neg h]
theorem pairR_true {n : Int} {xs : List Int} {a b : Nat} {r : Int × Int × Int × Bool} (h : pairR n xs a b = some r) : r.2.2.2 = true := by
  unfold pairR at h
  by_cases h1 : a = b
  · rw [if_pos h1] at h; cases h
  · rw [if_neg h1] at h
    by_cases h2 : a &&& b = a
    · rw [if_pos h2] at h; cases h; rfl
    · rw [if_neg h2] at h; obtain ⟨j, _, _, hj⟩ := scan_some _ _ h
      unfold pairE at hj; split at hj
      · cases hj; rfl
      · cases hj
theorem withB_iff (xs : List Int) (s : Nat) : withB xs s = true ↔ ∃ i, i < xs.length ∧ Mt.Sub (X xs i) s := by
  unfold withB; rw [anyFrom_iff]
  constructor
  · rintro ⟨i, _, h, e⟩
    refine ⟨i, by omega, fun j hj => ?_⟩
    have e' : X xs i &&& s = X xs i := by simpa using e
    rw [← e'] at hj; exact ((Mt.in_and _ _ j).mp hj).2
  · rintro ⟨i, h, e⟩
    refine ⟨i, Nat.zero_le _, by omega, ?_⟩
    have : X xs i &&& s = X xs i := Mt.ext fun j => by
      rw [Mt.in_and]; exact ⟨fun q => q.1, fun q => ⟨q, e j q⟩⟩
    simpa using this
theorem l6Within_l0 {n : Int} {xs : List Int} (F : Fam n xs) (s : Nat) (hs : s < 256) : ∀ d k i : Nat, i + d = xs.length → d < k → spec_l6Within.l0 k xs (s : Int) (i : Int) = some (anyFrom (fun i => X xs i &&& s == X xs i) i d) := by
  have hl := F.len
  intro d
  induction d with
  | zero =>
    intro k i h hk; obtain ⟨k, rfl⟩ := pos (show 0 < k by omega)
    simp only [spec_l6Within.l0]; rw [if_neg (by omega)]; rfl
  | succ d ih =>
    intro k i h hk; obtain ⟨k, rfl⟩ := pos (show 0 < k by omega)
    have h1 := F.X i
    simp only [spec_l6Within.l0, anyFrom]; rw [if_pos (by omega), if_pos (by omega), h1.1, and_nat _ _ (by omega) (by omega), w1 (by omega), ih k (i + 1) (by omega) (by omega)]
    by_cases q : X xs i &&& s = X xs i
    · rw [if_pos (by omega), beq_iff_eq.mpr q, Bool.true_or]
    · rw [if_neg (by omega), beq_eq_false_iff_ne.mpr q, Bool.false_or]
theorem l6Within_eq {n : Int} {xs : List Int} (F : Fam n xs) (s k : Nat) (hs : s < 256) (hk : xs.length < k) : spec_l6Within.f k xs (s : Int) = some (withB xs s) := by
  unfold spec_l6Within.f withB; exact l6Within_l0 F s hs xs.length k 0 (Nat.zero_add _) hk
theorem l6Pair_l0 {n : Int} {xs : List Int} (F : Fam n xs) (a b : Nat) (ha : a < 256) (hb : b < 256) : ∀ d k e : Nat, e + d = n.toNat → d + xs.length + 1 < k → spec_l6Pair.l0 k n xs (a : Int) (b : Int) (e : Int) = some ((scan (pairE xs a b) e d).getD noFail) := by
  have hl := F.len; have hn := F.nn; have hn8 := F.le8
  intro d
  induction d with
  | zero =>
    intro k e h hk; obtain ⟨k, rfl⟩ := pos (show 0 < k by omega)
    simp only [spec_l6Pair.l0]; rw [if_neg (by omega)]; rfl
  | succ d ih =>
    intro k e h hk; obtain ⟨k, rfl⟩ := pos (show 0 < k by omega)
    have hab := Mt.small_or ha hb
    simp only [spec_l6Pair.l0]
    rw [scan_getD, if_pos (by omega), l2Has_eq a e (by omega) (by omega), l2Has_eq b e (by omega) (by omega), w1 (by omega)]; simp only [Option.bind_some]
    rw [ih k (e + 1) (by omega) (by omega)]
    cases hb1 : a.testBit e
    · rw [if_neg (by simp), pairE_none (by simp [hb1])]; rfl
    · cases hb2 : b.testBit e
      · rw [if_pos rfl, if_neg (by simp), pairE_none (by simp [hb2])]; rfl
      · have e1 := del_256 (a ||| b) hab e (by omega) (by rw [Nat.testBit_or, hb1]; rfl)
        have e3 := del_small hab (e := e)
        have e2 : wrap64 (((a ||| b : Nat) : Int) - ((2 ^ e : Nat) : Int)) = ((Mt.del (a ||| b) e : Nat) : Int) := by
          generalize 2 ^ e = p at *; rw [w64 _ (by omega) (by omega)]; omega
        rw [if_pos rfl, if_pos rfl, u64e (show e < 64 by omega), if_pos (by omega), or_nat a b (by omega) (by omega), shl_one e (by omega), e2, l6Within_eq F _ k e3 (by omega)]; simp only [Option.bind_some]
        cases hx : withB xs (Mt.del (a ||| b) e)
        · rw [if_neg (by simp)]; unfold pairE; rw [if_pos ⟨hb1, hb2, hx⟩]; rfl
        · rw [if_pos rfl, pairE_none (by simp [hx])]; rfl
theorem l6Pair_eq {n : Int} {xs : List Int} (F : Fam n xs) (a b : Nat) (ha : a < 256) (hb : b < 256) (k : Nat) (hk : xs.length + 10 < k) : spec_l6Pair.f k n xs (a : Int) (b : Int) = some ((pairR n xs a b).getD noFail) := by
  have hn8 := F.le8
  unfold spec_l6Pair.f pairR; rw [and_nat a b (by omega) (by omega)]
  by_cases h1 : a = b
  · rw [if_pos (by omega), if_pos h1]; rfl
  · rw [if_neg (by omega), if_neg h1]
    by_cases h2 : a &&& b = a
    · rw [if_pos (by omega), if_pos h2]; rfl
    · rw [if_neg (by omega), if_neg h2]
      exact l6Pair_l0 F a b ha hb n.toNat k 0 (Nat.zero_add _) (by omega)
theorem CircuitFailure_spec_l1 {n : Int} {xs : List Int} (F : Fam n xs) (i : Nat) (hi : i < xs.length) (C : Nat) (hC : xs.length + 10 < C) (r : Int × Int × Int × Bool)
    (next : ∀ k, C ≤ k → spec_CircuitFailure.l0 k n xs ((i + 1 : Nat) : Int) = some r) :
    ∀ d k j : Nat, j + d = xs.length → C + d * 10 + 1 ≤ k → spec_CircuitFailure.l1 k n xs (i : Int) (j : Int) = some ((scan (fun j => pairR n xs (X xs i) (X xs j)) j d).getD r) := by
  have hl := F.len; have hn8 := F.le8; have h1 := F.X i
  intro d
  induction d with
  | zero =>
    intro k j h hk; obtain ⟨k, rfl⟩ := pos (show 0 < k by omega)
    simp only [spec_CircuitFailure.l1]; rw [if_neg (by omega), w1 (by omega), next k (by omega)]; rfl
  | succ d ih =>
    intro k j h hk; obtain ⟨k, rfl⟩ := pos (show 0 < k by omega)
    have h2 := F.X j
    simp only [spec_CircuitFailure.l1]
    rw [scan_getD, if_pos (by omega), if_pos (by omega), if_pos (by omega), if_pos (by omega), h1.1, h2.1, l6Pair_eq F _ _ h1.2.2 h2.2.2 k (by omega), w1 (by omega)]; simp only [Option.bind_some]
    rw [ih k (j + 1) (by omega) (by omega)]
    cases hp : pairR n xs (X xs i) (X xs j) with
    | none => rfl
    | some q =>
      have ht := pairR_true hp
      obtain ⟨q1, q2, q3, q4⟩ := q
      simp only at ht; subst ht; rfl
theorem CircuitFailure_spec_l0 {n : Int} {xs : List Int} (F : Fam n xs) :
    ∀ d k i : Nat, i + d = xs.length → d * 2562 + 300 ≤ k → spec_CircuitFailure.l0 k n xs (i : Int) = some ((scan (cfA n xs) i d).getD noFail) := by
  have hl := F.len
  intro d
  induction d with
  | zero =>
    intro k i h hk; obtain ⟨k, rfl⟩ := pos (show 0 < k by omega)
    simp only [spec_CircuitFailure.l0]; rw [if_neg (by omega)]; rfl
  | succ d ih =>
    intro k i h hk; obtain ⟨k, rfl⟩ := pos (show 0 < k by omega)
    have h1 := F.X i
    simp only [spec_CircuitFailure.l0]
    rw [scan_getD, if_pos (by omega), if_pos (by omega), h1.1]
    unfold cfA
    by_cases z : X xs i = 0
    · rw [if_pos (by omega), if_pos z]; rfl
    · rw [if_neg (by omega), if_neg z]
      exact CircuitFailure_spec_l1 F i (by omega) (d * 2562 + 300) (by omega) _ (fun k' hk' => ih k' (i + 1) (by omega) hk') xs.length k 0 (Nat.zero_add _) (by omega)
theorem CircuitFailure_spec (n : Int) (xs : List Int) (k : Nat) (hn : xs.length < 2000000) (hk : 2000000 ≤ k) : spec_CircuitFailure.f k n xs = some (cfail n xs) := by
  unfold spec_CircuitFailure.f cfail; rw [IsFamily_spec n xs k (by omega) (by omega)]; simp only [Option.bind_some]
  by_cases h : fam n xs = true
  · have F := (fam_iff n xs).mp h; have hl := F.len
    rw [if_pos h, if_pos h]; exact CircuitFailure_spec_l0 F xs.length k 0 (Nat.zero_add _) (by omega)
  · rw [if_neg h, if_neg h]; rfl
end Go.Proofs.Ythpocifdejedpaa.L
