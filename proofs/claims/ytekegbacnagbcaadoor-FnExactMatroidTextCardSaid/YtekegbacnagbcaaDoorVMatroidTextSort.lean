/- Sets of whole numbers as rising lists: what the printed sorting comes to. -/
import Derived.Test.YtekegbacnagbcaaDoorVMatroidTextFam
namespace Go.Proofs.YtekegbacnagbcaaDoor.L
open Go.RowKit Go.Proofs.YtekegbacnagbcaaDoorW.PrintWords Go.Proofs.YtekegbacnagbcaaDoorW.PrintMore Go.Proofs.YtekegbacnagbcaaDoor.P Go.Proofs.YtekegbacnagbcaaDoor.B
theorem inc_ext : ∀ r s : List Int, r.Pairwise (· < ·) → s.Pairwise (· < ·) → (∀ x, x ∈ r ↔ x ∈ s) → r = s := by
  intro r
  induction r with
  | nil =>
    intro s _ _ h
    cases s with
    | nil => rfl
    | cons b t => exact absurd ((h b).mpr List.mem_cons_self) (by simp)
  | cons a r ih =>
    intro s hr hs h
    cases s with
    | nil => exact absurd ((h a).mp List.mem_cons_self) (by simp)
    | cons b t =>
      rw [List.pairwise_cons] at hr hs
      have hab : a = b := by
        have h1 := List.mem_cons.mp ((h a).mp List.mem_cons_self)
        have h2 := List.mem_cons.mp ((h b).mpr List.mem_cons_self)
        rcases h1 with h1 | h1
        · exact h1
        · rcases h2 with h2 | h2
          · exact h2.symm
          · have := hs.1 a h1; have := hr.1 b h2; omega
      subst hab
      congr 1
      refine ih t hr.2 hs.2 fun x => ⟨fun hx => ?_, fun hx => ?_⟩
      · rcases List.mem_cons.mp ((h x).mp (List.mem_cons_of_mem _ hx)) with e | e
        · have := hr.1 x hx; omega
        · exact e
      · rcases List.mem_cons.mp ((h x).mpr (List.mem_cons_of_mem _ hx)) with e | e
        · have := hs.1 x hx; omega
        · exact e
/-- x put into a rising list. -/
def insS (x : Int) : List Int → List Int
  | [] => [x]
  | y :: ys => if y < x then y :: insS x ys else if y = x then y :: ys else x :: y :: ys
theorem insS_mem (x z : Int) : ∀ l, z ∈ insS x l ↔ z = x ∨ z ∈ l := by
  intro l
  induction l with
  | nil => simp [insS]
  | cons y ys ih =>
    simp only [insS]
    split
    · rw [List.mem_cons, ih, List.mem_cons]
      exact ⟨fun h => h.elim (fun h => .inr (.inl h)) (fun h => h.elim .inl (fun h => .inr (.inr h))), fun h => h.elim (fun h => .inr (.inl h)) (fun h => h.elim .inl (fun h => .inr (.inr h)))⟩
    · split
      · rename_i e; subst e; exact ⟨.inr, fun h => h.elim (fun h => h ▸ List.mem_cons_self) id⟩
      · rw [List.mem_cons]
theorem insS_inc (x : Int) : ∀ l : List Int, l.Pairwise (· < ·) → (insS x l).Pairwise (· < ·) := by
  intro l
  induction l with
  | nil => intro _; exact List.pairwise_singleton _ _
  | cons y ys ih =>
    intro h; simp only [insS]
    have h' := List.pairwise_cons.mp h
    split
    · rename_i e
      refine List.pairwise_cons.mpr ⟨fun z hz => ?_, ih h'.2⟩
      rcases (insS_mem x z ys).mp hz with q | q
      · omega
      · exact h'.1 z q
    · split
      · exact h
      · refine List.pairwise_cons.mpr ⟨fun z hz => ?_, h⟩
        rcases List.mem_cons.mp hz with q | q
        · omega
        · have := h'.1 z q; omega
theorem insS_len (x : Int) : ∀ l : List Int, (insS x l).length ≤ l.length + 1 := by
  intro l
  induction l with
  | nil => simp [insS]
  | cons y ys ih =>
    simp only [insS]
    split
    · simp only [List.length_cons]; omega
    · split
      · simp only [List.length_cons]; omega
      · simp only [List.length_cons]; omega
/-- The list from place i on, put into a rising list one by one. -/
def srtFrom (xs : List Int) : Nat → Nat → List Int → List Int
  | 0, _, out => out
  | d + 1, i, out => srtFrom xs d (i + 1) (insS (rd xs (i : Int)) out)
def srt (xs : List Int) : List Int := srtFrom xs xs.length 0 []
theorem srtFrom_inc (xs : List Int) : ∀ d i out, out.Pairwise (· < ·) → (srtFrom xs d i out).Pairwise (· < ·) := by
  intro d
  induction d with
  | zero => intro i out h; exact h
  | succ d ih => intro i out h; exact ih (i + 1) _ (insS_inc _ _ h)
theorem srtFrom_mem (xs : List Int) (z : Int) : ∀ d i out, z ∈ srtFrom xs d i out ↔ z ∈ out ∨ ∃ j : Nat, i ≤ j ∧ j < i + d ∧ rd xs (j : Int) = z := by
  intro d
  induction d with
  | zero => intro i out; simp only [srtFrom]; exact ⟨.inl, fun h => h.elim id (fun ⟨j, a, b, _⟩ => by omega)⟩
  | succ d ih =>
    intro i out; simp only [srtFrom]; rw [ih, insS_mem]
    constructor
    · rintro ((h | h) | ⟨j, a, b, c⟩)
      · exact .inr ⟨i, Nat.le_refl _, by omega, h.symm⟩
      · exact .inl h
      · exact .inr ⟨j, by omega, by omega, c⟩
    · rintro (h | ⟨j, a, b, c⟩)
      · exact .inl (.inr h)
      · by_cases e : j = i
        · subst e; exact .inl (.inl c.symm)
        · exact .inr ⟨j, by omega, by omega, c⟩
theorem srt_inc (xs : List Int) : (srt xs).Pairwise (· < ·) := srtFrom_inc xs _ _ _ List.Pairwise.nil
theorem srt_mem (xs : List Int) (z : Int) : z ∈ srt xs ↔ z ∈ xs := by
  unfold srt; rw [srtFrom_mem]
  constructor
  · rintro (h | ⟨j, _, b, rfl⟩)
    · exact absurd h (by simp)
    · exact rd_mem (by omega)
  · intro h; obtain ⟨j, hj, e⟩ := mem_rd h; exact .inr ⟨j, Nat.zero_le _, by omega, e⟩
theorem srt_eq {xs r : List Int} (h : r.Pairwise (· < ·)) (hm : ∀ x, x ∈ r ↔ x ∈ xs) : r = srt xs :=
  inc_ext r (srt xs) h (srt_inc xs) fun x => (hm x).trans (srt_mem xs x).symm
theorem srt_len (xs : List Int) : (srt xs).length ≤ xs.length := by
  have : ∀ d i out, (srtFrom xs d i out).length ≤ out.length + d := by
    intro d
    induction d with
    | zero => intro i out; exact Nat.le_refl _
    | succ d ih => intro i out; simp only [srtFrom]; have := ih (i + 1) (insS (rd xs (i : Int)) out); have := insS_len (rd xs (i : Int)) out; omega
  have := this xs.length 0 []; unfold srt; simpa using this
/-- How many rounds are enough where lists are sorted. -/
def Big2 : Nat := 17592202821636
theorem big2 {n : Nat} (h : n ≤ 4194304) : n * (n + 4) + 4 ≤ Big2 := by
  have := Nat.mul_le_mul h (show n + 4 ≤ 4194308 by omega)
  unfold Big2; omega
end Go.Proofs.YtekegbacnagbcaaDoor.L
