/- A set has as many elements as are counted, and is parsed from its text; the program's small functions on sets answer as the reference's at the drawn arguments. -/
import Derived.Test.YthncmojfpdojoaaVFnSetsDraw
import Derived.Test.YthncmojfpdojoaaVFnSetsText
namespace Go.Proofs.Ythncmojfpdojoaa.Pure
open Go.RowKit Go.Proofs.Ythncmojfpdojoaa.P Go.Proofs.Ythncmojfpdojoaa.L Go.Proofs.YthncmojfpdojoaaW.PrintWords Go.Proofs.YthncmojfpdojoaaW.PrintLast
theorem count_elems_256 : ∀ n : Nat, n < 256 → (elems (n : Int)).length = Mt.card n := by decide +kernel
theorem count_elems (s : Int) : cnt s = ((elems s).length : Int) := by
  unfold cnt
  by_cases h : any s = true
  · have h' : 0 ≤ s ∧ s < 256 := of_decide_eq_true h
    obtain ⟨n, rfl⟩ := nat_of h'.1
    rw [if_pos h, count_elems_256 n (by omega), Int.toNat_natCast]
  · rw [if_neg h]
    have : elems s = [] := by
      refine List.eq_nil_iff_forall_not_mem.mpr fun x hx => ?_
      rw [mem_elems] at hx
      have := hasE_some hx
      exact h (decide_eq_true ⟨this.1, this.2.1⟩)
    rw [this]; rfl
def foldE : List Int → Nat → Nat
  | [], s => s
  | e :: l, s => foldE l (Mt.ins s e.toNat)
theorem foldE_in (j : Nat) : ∀ (l : List Int) (s : Nat), (∀ e ∈ l, 0 ≤ e) → (Mt.In j (foldE l s) ↔ Mt.In j s ∨ (j : Int) ∈ l)
  | [], s, _ => by simp [foldE]
  | e :: l, s, h => by
    have h0 := h e (List.mem_cons_self ..)
    rw [foldE, foldE_in j l _ (fun x hx => h x (List.mem_cons_of_mem _ hx)), List.mem_cons]
    unfold Mt.ins; rw [Mt.in_or, Mt.in_two]
    constructor
    · rintro ((h | h) | h)
      · exact .inl h
      · exact .inr (.inl (by omega))
      · exact .inr (.inr h)
    · rintro (h | h | h)
      · exact .inl (.inl h)
      · exact .inl (.inr (by omega))
      · exact .inr h
theorem fold_list (l : List Int) (hl : ∀ e ∈ l, 0 ≤ e ∧ e < 8) (x : ByteArray) (hx : x.toList = l.map tbyte) : ∀ d i s, i + d = l.length → foldS x d i s = foldE (l.drop i) s := by
  intro d
  induction d with
  | zero => intro i s h; rw [foldS, List.drop_eq_nil_of_le (by omega), foldE]
  | succ d ih =>
    intro i s h
    have hi : i < l.length := by omega
    have hz : x.size = l.length := by rw [size_list, hx, List.length_map]
    have hb : bt x (i : Int) = 97 + l[i] := by
      have := hl _ (List.getElem_mem hi)
      unfold bt; rw [Int.toNat_natCast, dif_pos (by omega)]
      have e : x[i]'(by omega) = tbyte l[i] := by
        have : x.toList[i]'(by rw [hx, List.length_map]; exact hi) = tbyte l[i] := by simp [hx]
        rw [← this]; simp only [ByteArray.toList_eq]; rfl
      rw [e, tbyte_nat this.1 this.2]; omega
    have := hl _ (List.getElem_mem hi)
    rw [foldS, hb, if_pos (by omega), ih (i + 1) _ (by omega), List.drop_eq_getElem_cons hi, foldE, show (97 + l[i] - 97 : Int) = l[i] by omega]
theorem fold_text_256 (n : Nat) (hn : n < 256) : foldS (textB (n : Int)) (textB (n : Int)).size 0 0 = n := by
  by_cases h0 : n = 0
  · subst h0; decide +kernel
  · have ht : (textB (n : Int)).toList = (elems (n : Int)).map tbyte := by
      rw [textB_list]; unfold textL; rw [if_pos (show any (n : Int) = true from decide_eq_true (by omega)), if_neg (by omega)]
    have hz : (textB (n : Int)).size = (elems (n : Int)).length := by rw [size_list, ht, List.length_map]
    rw [fold_list (elems (n : Int)) (fun e he => elems_range he) _ ht _ _ _ (by omega), List.drop_zero]
    refine Mt.ext fun j => ?_
    rw [foldE_in j _ _ (fun e he => (elems_range he).1), mem_elems]
    unfold hasE; rw [Int.toNat_natCast, Int.toNat_natCast, Bool.and_eq_true, decide_eq_true_eq]
    constructor
    · rintro (h | h)
      · unfold Mt.In at h; simp at h
      · exact h.2
    · intro h
      refine .inr ⟨⟨by omega, by omega, by omega, ?_⟩, h⟩
      rcases Nat.lt_or_ge j 8 with q | q
      · omega
      · unfold Mt.In at h
        rw [Nat.testBit_lt_two_pow (Nat.lt_of_lt_of_le hn (by simpa using Nat.pow_le_pow_right (n := 2) (by omega) q))] at h; cases h
theorem textL_ne {s : Int} (h : any s = true) : textL s ≠ [] := by
  have h' : 0 ≤ s ∧ s < 256 := of_decide_eq_true h
  obtain ⟨n, rfl⟩ := nat_of h'.1
  have : ∀ n : Nat, n < 256 → (textL (n : Int)).isEmpty = false := by decide +kernel
  intro q
  have := this n (by omega); rw [q] at this; cases this
theorem parse_text (s : Int) : parseS (textB s) = if any s = true then (s, true) else (0, false) := by
  unfold parseS parseR; rw [textB_list]
  by_cases h : any s = true
  · have h' : 0 ≤ s ∧ s < 256 := of_decide_eq_true h
    rw [if_pos h, if_neg (textL_ne h)]
    obtain ⟨n, rfl⟩ := nat_of h'.1
    rw [fold_text_256 n (by omega)]; unfold goodR; rw [textB_list, if_pos rfl]
  · have : textL s = [] := by unfold textL; rw [if_neg h]
    rw [if_neg h, if_pos this]
theorem textB_size (s : Int) : (textB s).size ≤ 8 := by
  rw [size_list, textB_list]; unfold textL
  split
  · split
    · simp
    · rw [List.length_map]; exact elems_length s
  · simp
theorem bsome {α β : Type} (a : α) (f : α → Option β) : (some a).bind f = f a := (Option.bind_some a f).trans rfl
theorem DrawParseSet_ok (b : List Int) (k : Nat) (hb : ¬ (b.length : Int) > 1048576) (hk : Big ≤ k) : ∃ q, spec_DrawParseSet.f k b = some q ∧ q.size ≤ 108 := by
  have hB := big_eq
  obtain ⟨g, u1⟩ := new_ok b k (by omega) (by omega)
  unfold spec_DrawParseSet.f; rw [u1]; simp only [bsome]
  obtain ⟨z, j, g', u2, j0, _⟩ := draw2_ok b 0 g (by omega) (Int.le_refl _)
  rw [u2]; simp only [bsome]
  have hz := textB_size z
  rw [SetText_spec z k (by omega)]; simp only [bsome]
  obtain ⟨w, j', g'', u3, _, hw⟩ := turned_ok b j g' (textB z) [(⟨#[97]⟩ : ByteArray), (⟨#[45]⟩ : ByteArray), (⟨#[104]⟩ : ByteArray), (⟨#[105]⟩ : ByteArray), (⟨#[98, 97]⟩ : ByteArray)] (by omega) j0 (by simp) (by omega) (fun x hx => by
    simp only [List.mem_cons, List.not_mem_nil, or_false] at hx
    rcases hx with rfl | rfl | rfl | rfl | rfl <;> decide)
  rw [u3]; exact ⟨w, rfl, by omega⟩
theorem FnSets_j0 (b : List Int) (s : Int) (k : Nat) (hb : ¬ (b.length : Int) > 1048576) (hk : Big ≤ k) : laws_FnSets.j0 (k + 1) b s false = some true := by
  have hB := big_eq
  have hts := textB_size s
  simp only [laws_FnSets.j0]
  rw [if_neg (by simp), SetText_impl s k (by omega)]; simp only [Option.bind_some]
  rw [ParseSet_impl (textB s) (by omega) k hk, parse_text]; simp only [Option.bind_some]
  obtain ⟨q, e6, hq⟩ := DrawParseSet_ok b k hb hk
  rw [e6]; simp only [Option.bind_some]
  rw [ParseSet_impl q (by omega) k hk, ParseSet_spec q (by omega) k hk, SetText_spec s k (by omega)]; simp only [Option.bind_some]
  rw [if_pos trivial, textB_list]
  by_cases ha : any s = true
  · rw [if_pos ha]
    have hne := textL_ne ha
    simp [hne]
  · have h0 : textL s = [] := by unfold textL; rw [if_neg ha]
    rw [if_neg ha, h0, if_pos (by rfl), if_neg (by simp), if_pos (by simp)]; simp
theorem FnSets : laws_FnSets.Pure := by
  intro b hl _ _
  obtain ⟨k, hk⟩ : ∃ k, Big ≤ k := ⟨_, Nat.le_refl _⟩
  have hB := big_eq
  refine ⟨k + 1, ?_⟩
  unfold laws_FnSets.f laws_big.f; simp only [Option.bind_some, decide_eq_true_eq]
  by_cases h : (b.length : Int) > 1048576
  · rw [if_pos h]
  · rw [if_neg h]
    obtain ⟨s, e1, _, _⟩ := DrawElementsOf_ok b (k + 1) (by omega) (by omega)
    obtain ⟨a, e, e2⟩ := DrawHasElement_ok b (k + 1) (by omega) (by omega)
    obtain ⟨n, t, e3⟩ := DrawIsSet_ok b (k + 1) (by omega) (by omega)
    obtain ⟨f, e4⟩ := DrawFullSet_ok b (k + 1) (by omega) (by omega)
    obtain ⟨x, y, e5⟩ := DrawIsSubset_ok b (k + 1) (by omega) (by omega)
    have hel := elems_length s
    rw [e1]; simp only [Option.bind_some]
    rw [e2]; simp only [Option.bind_some]
    rw [e3]; simp only [Option.bind_some]
    rw [e4]; simp only [Option.bind_some]
    rw [e5]; simp only [Option.bind_some]
    rw [ElementsOf_impl s (k + 1) (by omega), ElementsOf_spec s (k + 1) (by omega)]; simp only [Option.bind_some]
    rw [sameInts_eq _ _ (k + 1) (by omega) (by omega)]; simp only [Option.bind_some]
    rw [if_pos (by simp), CountOf_impl]; simp only [Option.bind_some]
    rw [if_pos (count_elems s), HasElement_impl, HasElement_spec]; simp only [Option.bind_some]
    rw [if_neg (by simp), WithElement_impl, WithElement_spec]; simp only [Option.bind_some]
    rw [if_pos trivial, WithoutElement_impl, WithoutElement_spec]; simp only [Option.bind_some]
    rw [if_pos trivial, IsSet_impl, IsSet_spec]; simp only [Option.bind_some]
    rw [if_neg (by simp), FullSet_impl, FullSet_spec]; simp only [Option.bind_some]
    rw [if_pos trivial, IsSubset_impl, IsSubset_spec]; simp only [Option.bind_some]
    rw [show (subB x y != subB x y) = false by simp]
    exact FnSets_j0 b s k h hk

end Go.Proofs.Ythncmojfpdojoaa.Pure
