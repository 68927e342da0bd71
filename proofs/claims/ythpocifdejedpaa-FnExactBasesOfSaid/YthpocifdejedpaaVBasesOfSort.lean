/- Sets of whole numbers as rising lists: what the printed sorting comes to. -/
import Derived.Test.YthpocifdejedpaaVBasesOfFam
namespace Go.Proofs.Ythpocifdejedpaa.L
open Go.RowKit Go.Proofs.YthpocifdejedpaaW.PrintWords Go.Proofs.YthpocifdejedpaaW.PrintMore Go.Proofs.Ythpocifdejedpaa.P Go.Proofs.Ythpocifdejedpaa.B
theorem inc_ext : ∀ r s : List Int, r.Pairwise (· < ·) → s.Pairwise (· < ·) → (∀ x, x ∈ r ↔ x ∈ s) → r = s := by
  intro r
  induction r with
  | nil =>
    intro s _ _ h
    cases s with
    | nil => rfl
    | cons b t => exact absurd ((h b).mpr List.mem_cons_self) (by simp)
  | cons a r ih =>
    intro s hr hs h
    cases s with
    | nil => exact absurd ((h a).mp List.mem_cons_self) (by simp)
    | cons b t =>
      rw [List.pairwise_cons] at hr hs
      have hab : a = b := by
        have h1 := List.mem_cons.mp ((h a).mp List.mem_cons_self)
        have h2 := List.mem_cons.mp ((h b).mpr List.mem_cons_self)
        rcases h1 with h1 | h1
        · exact h1
        · rcases h2 with h2 | h2
          · exact h2.symm
          · have := hs.1 a h1; have := hr.1 b h2; omega
      subst hab
      congr 1
      refine ih t hr.2 hs.2 fun x => ⟨fun hx => ?_, fun hx => ?_⟩
      · rcases List.mem_cons.mp ((h x).mp (List.mem_cons_of_mem _ hx)) with e | e
        · have := hr.1 x hx; omega
        · exact e
      · rcases List.mem_cons.mp ((h x).mpr (List.mem_cons_of_mem _ hx)) with e | e
        · have := hs.1 x hx; omega
        · exact e
/-- x put into a rising list. -/
def insS (x : Int) : List Int → List Int
  | [] => [x]
  | y :: ys => if y < x then y :: insS x ys else if y = x then y :: ys else x :: y :: ys
theorem insS_mem (x z : Int) : ∀ l, z ∈ insS x l ↔ z = x ∨ z ∈ l := by
  intro l
  induction l with
  | nil => simp [insS]
  | cons y ys ih =>
    simp only [insS]
    split
    · rw [List.mem_cons, ih, List.mem_cons]
      exact ⟨fun h => h.elim (fun h => .inr (.inl h)) (fun h => h.elim .inl (fun h => .inr (.inr h))), fun h => h.elim (fun h => .inr (.inl h)) (fun h => h.elim .inl (fun h => .inr (.inr h)))⟩
    · split
      · rename_i e; subst e; exact ⟨.inr, fun h => h.elim (fun h => h ▸ List.mem_cons_self) id⟩
      · rw [List.mem_cons]
theorem insS_inc (x : Int) : ∀ l : List Int, l.Pairwise (· < ·) → (insS x l).Pairwise (· < ·) := by
  intro l
  induction l with
  | nil => intro _; exact List.pairwise_singleton _ _
  | cons y ys ih =>
    intro h; simp only [insS]
    have h' := List.pairwise_cons.mp h
    split
    · rename_i e
      refine List.pairwise_cons.mpr ⟨fun z hz => ?_, ih h'.2⟩
      rcases (insS_mem x z ys).mp hz with q | q
      · omega
      · exact h'.1 z q
    · split
      · exact h
      · refine List.pairwise_cons.mpr ⟨fun z hz => ?_, h⟩
        rcases List.mem_cons.mp hz with q | q
        · omega
        · have := h'.1 z q; omega
theorem insS_len (x : Int) : ∀ l : List Int, (insS x l).length ≤ l.length + 1 := by
  intro l
  induction l with
  | nil => simp [insS]
  | cons y ys ih =>
    simp only [insS]
    split
    · simp only [List.length_cons]; omega
    · split
      · simp only [List.length_cons]; omega
      · simp only [List.length_cons]; omega
/-- The list from place i on, put into a rising list one by one. -/
def srtFrom (xs : List Int) : Nat → Nat → List Int → List Int
  | 0, _, out => out
  | d + 1, i, out => srtFrom xs d (i + 1) (insS (rd xs (i : Int)) out)
def srt (xs : List Int) : List Int := srtFrom xs xs.length 0 []
theorem srtFrom_inc (xs : List Int) : ∀ d i out, out.Pairwise (· < ·) → (srtFrom xs d i out).Pairwise (· < ·) := by
  intro d
  induction d with
  | zero => intro i out h; exact h
  | succ d ih => intro i out h; exact ih (i + 1) _ (insS_inc _ _ h)
theorem srtFrom_mem (xs : List Int) (z : Int) : ∀ d i out, z ∈ srtFrom xs d i out ↔ z ∈ out ∨ ∃ j : Nat, i ≤ j ∧ j < i + d ∧ rd xs (j : Int) = z := by
  intro d
  induction d with
  | zero => intro i out; simp only [srtFrom]; exact ⟨.inl, fun h => h.elim id (fun ⟨j, a, b, _⟩ => by omega)⟩
  | succ d ih =>
    intro i out; simp only [srtFrom]; rw [ih, insS_mem]
    constructor
    · rintro ((h | h) | ⟨j, a, b, c⟩)
      · exact .inr ⟨i, Nat.le_refl _, by omega, h.symm⟩
      · exact .inl h
      · exact .inr ⟨j, by omega, by omega, c⟩
    · rintro (h | ⟨j, a, b, c⟩)
      · exact .inl (.inr h)
      · by_cases e : j = i
        · subst e; exact .inl (.inl c.symm)
        · exact .inr ⟨j, by omega, by omega, c⟩
theorem srt_inc (xs : List Int) : (srt xs).Pairwise (· < ·) := srtFrom_inc xs _ _ _ List.Pairwise.nil
theorem srt_mem (xs : List Int) (z : Int) : z ∈ srt xs ↔ z ∈ xs := by
  unfold srt; rw [srtFrom_mem]
  constructor
  · rintro (h | ⟨j, _, b, rfl⟩)
    · exact absurd h (by simp)
    · exact rd_mem (by omega)
  · intro h; obtain ⟨j, hj, e⟩ := mem_rd h; exact .inr ⟨j, Nat.zero_le _, by omega, e⟩
theorem srt_eq {xs r : List Int} (h : r.Pairwise (· < ·)) (hm : ∀ x, x ∈ r ↔ x ∈ xs) : r = srt xs :=
  inc_ext r (srt xs) h (srt_inc xs) fun x => (hm x).trans (srt_mem xs x).symm
theorem srt_len (xs : List Int) : (srt xs).length ≤ xs.length := by
  have : ∀ d i out, (srtFrom xs d i out).length ≤ out.length + d := by
    intro d
    induction d with
    | zero => intro i out; exact Nat.le_refl _
    | succ d ih => intro i out; simp only [srtFrom]; have := ih (i + 1) (insS (rd xs (i : Int)) out); have := insS_len (rd xs (i : Int)) out; omega
  have := this xs.length 0 []; unfold srt; simpa using this
/-- How many rounds are enough where lists are sorted. -/
def Big2 : Nat := 17592202821636
theorem big2 {n : Nat} (h : n ≤ 4194304) : n * (n + 4) + 4 ≤ Big2 := by
  have := Nat.mul_le_mul h (show n + 4 ≤ 4194308 by omega)
  unfold Big2; omega
theorem SortSets_spec_l1 (xs out : List Int) (i : Nat) (hi : i < xs.length) (hx : xs.length ≤ 4194304) (hout : out.length ≤ 4194304) (C : Nat) (r : List Int)
    (next : ∀ k, C ≤ k → spec_SortSets.l0 k xs (insS (rd xs (i : Int)) out) ((i + 1 : Nat) : Int) = some r) :
    ∀ d k a : Nat, a + d = out.length → C + d + 1 ≤ k → insS (rd xs (i : Int)) out = out.take a ++ insS (rd xs (i : Int)) (out.drop a) → spec_SortSets.l1 k xs out (i : Int) (a : Int) = some r := by
  intro d
  induction d with
  | zero =>
    intro k a h hk hp; obtain ⟨k, rfl⟩ := pos (show 0 < k by omega)
    rw [List.drop_eq_nil_of_le (by omega)] at hp
    simp only [insS] at hp
    have hn := next k (by omega)
    rw [hp] at hn
    simp only [spec_SortSets.l1]
    rw [if_neg (by omega)]
    simp only [Option.bind_some, List.nil_append, Int.toNat_natCast]
    rw [List.drop_eq_nil_of_le (show out.length ≤ a by omega), if_pos (by omega), if_pos (by omega), if_pos (by simp), if_pos (by omega), if_pos (by omega), if_pos (by simp; omega), if_pos (by simp; omega), List.append_nil, w1 (by omega)]
    exact hn
  | succ d ih =>
    intro k a h hk hp; obtain ⟨k, rfl⟩ := pos (show 0 < k by omega)
    have ha : a < out.length := by omega
    simp only [spec_SortSets.l1]
    rw [if_pos (by omega), if_pos (by omega), if_pos (by omega), if_pos (by omega)]
    rw [drop_rd ha] at hp
    simp only [insS] at hp
    by_cases hlt : rd out (a : Int) < rd xs (i : Int)
    · rw [if_pos hlt, w1 (by omega)]
      rw [if_pos hlt] at hp
      refine ih k (a + 1) (by omega) (by omega) ?_
      rw [hp, List.take_succ_eq_append_getElem ha, List.append_assoc, rd_get ha]; rfl
    · rw [if_neg hlt] at hp ⊢
      by_cases he : rd out (a : Int) = rd xs (i : Int)
      · rw [if_pos he] at hp ⊢
        rw [w1 (by omega)]
        rw [← drop_rd ha, List.take_append_drop] at hp
        have hn := next k (by omega)
        rw [hp] at hn; exact hn
      · rw [if_neg he] at hp ⊢
        rw [← drop_rd ha] at hp
        have hn := next k (by omega)
        rw [hp] at hn
        simp only [Option.bind_some, List.nil_append, Int.toNat_natCast]
        rw [if_pos (by omega), if_pos (by simp; omega), if_pos (by simp; omega), if_pos (by simp; omega), w1 (by omega), List.append_assoc]
        exact hn
theorem SortSets_spec_l0 (xs : List Int) (hx : xs.length ≤ 4194304) : ∀ d k i : Nat, ∀ out : List Int, i + d = xs.length → d * (xs.length + 4) + 4 ≤ k → out.length ≤ i → spec_SortSets.l0 k xs out (i : Int) = some (srtFrom xs d i out) := by
  intro d
  induction d with
  | zero =>
    intro k i out h hk ho; obtain ⟨k, rfl⟩ := pos (show 0 < k by omega)
    simp only [spec_SortSets.l0, srtFrom]; rw [if_neg (by omega)]
  | succ d ih =>
    intro k i out h hk ho
    rw [Nat.succ_mul] at hk
    obtain ⟨k, rfl⟩ := pos (show 0 < k by omega)
    simp only [spec_SortSets.l0, srtFrom]; rw [if_pos (by omega)]
    have hl := insS_len (rd xs (i : Int)) out
    exact SortSets_spec_l1 xs out i (by omega) hx (by omega) (d * (xs.length + 4) + 4) _ (fun k' hk' => ih k' (i + 1) _ (by omega) hk' (by omega)) out.length k 0 (Nat.zero_add _) (by omega) rfl
theorem SortSets_spec (xs : List Int) (k : Nat) (hx : xs.length ≤ 4194304) (hk : xs.length * (xs.length + 4) + 4 ≤ k) : spec_SortSets.f k xs = some (srt xs) :=
  SortSets_spec_l0 xs hx xs.length k 0 [] (Nat.zero_add _) hk (Nat.le_refl _)
end Go.Proofs.Ythpocifdejedpaa.L
