/- A set's text, read, is the set. -/
import Derived.Test.YthncmojfpdojoaaDoorVParseFamilyText
namespace Go.Proofs.YthncmojfpdojoaaDoor.Ps
open Go.RowKit Go.Proofs.YthncmojfpdojoaaDoor.P Go.Proofs.YthncmojfpdojoaaDoor.L Go.Proofs.YthncmojfpdojoaaDoorW.PrintWords Go.Proofs.YthncmojfpdojoaaDoorW.PrintLast
def foldE : List Int → Nat → Nat
  | [], s => s
  | e :: l, s => foldE l (Mt.ins s e.toNat)
theorem foldE_in (j : Nat) : ∀ (l : List Int) (s : Nat), (∀ e ∈ l, 0 ≤ e) → (Mt.In j (foldE l s) ↔ Mt.In j s ∨ (j : Int) ∈ l)
  | [], s, _ => by simp [foldE]
  | e :: l, s, h => by
    have h0 := h e (List.mem_cons_self ..)
    rw [foldE, foldE_in j l _ (fun x hx => h x (List.mem_cons_of_mem _ hx)), List.mem_cons]
    unfold Mt.ins; rw [Mt.in_or, Mt.in_two]
    constructor
    · rintro ((h | h) | h)
      · exact .inl h
      · exact .inr (.inl (by omega))
      · exact .inr (.inr h)
    · rintro (h | h | h)
      · exact .inl (.inl h)
      · exact .inl (.inr (by omega))
      · exact .inr h
theorem fold_list (l : List Int) (hl : ∀ e ∈ l, 0 ≤ e ∧ e < 8) (x : ByteArray) (hx : x.toList = l.map tbyte) : ∀ d i s, i + d = l.length → foldS x d i s = foldE (l.drop i) s := by
  intro d
  induction d with
  | zero => intro i s h; rw [foldS, List.drop_eq_nil_of_le (by omega), foldE]
  | succ d ih =>
    intro i s h
    have hi : i < l.length := by omega
    have hz : x.size = l.length := by rw [size_list, hx, List.length_map]
    have hb : bt x (i : Int) = 97 + l[i] := by
      have := hl _ (List.getElem_mem hi)
      unfold bt; rw [Int.toNat_natCast, dif_pos (by omega)]
      have e : x[i]'(by omega) = tbyte l[i] := by
        have : x.toList[i]'(by rw [hx, List.length_map]; exact hi) = tbyte l[i] := by simp [hx]
        rw [← this]; simp only [ByteArray.toList_eq]; rfl
      rw [e, tbyte_nat this.1 this.2]; omega
    have := hl _ (List.getElem_mem hi)
    rw [foldS, hb, if_pos (by omega), ih (i + 1) _ (by omega), List.drop_eq_getElem_cons hi, foldE, show (97 + l[i] - 97 : Int) = l[i] by omega]
theorem fold_text_256 (n : Nat) (hn : n < 256) : foldS (textB (n : Int)) (textB (n : Int)).size 0 0 = n := by
  by_cases h0 : n = 0
  · subst h0; decide +kernel
  · have ht : (textB (n : Int)).toList = (elems (n : Int)).map tbyte := by
      rw [textB_list]; unfold textL; rw [if_pos (show any (n : Int) = true from decide_eq_true (by omega)), if_neg (by omega)]
    have hz : (textB (n : Int)).size = (elems (n : Int)).length := by rw [size_list, ht, List.length_map]
    rw [fold_list (elems (n : Int)) (fun e he => elems_range he) _ ht _ _ _ (by omega), List.drop_zero]
    refine Mt.ext fun j => ?_
    rw [foldE_in j _ _ (fun e he => (elems_range he).1), mem_elems]
    unfold hasE; rw [Int.toNat_natCast, Int.toNat_natCast, Bool.and_eq_true, decide_eq_true_eq]
    constructor
    · rintro (h | h)
      · unfold Mt.In at h; simp at h
      · exact h.2
    · intro h
      refine .inr ⟨⟨by omega, by omega, by omega, ?_⟩, h⟩
      rcases Nat.lt_or_ge j 8 with q | q
      · omega
      · unfold Mt.In at h
        rw [Nat.testBit_lt_two_pow (Nat.lt_of_lt_of_le hn (by simpa using Nat.pow_le_pow_right (n := 2) (by omega) q))] at h; cases h
theorem textL_ne {s : Int} (h : any s = true) : textL s ≠ [] := by
  have h' : 0 ≤ s ∧ s < 256 := of_decide_eq_true h
  obtain ⟨n, rfl⟩ := nat_of h'.1
  have : ∀ n : Nat, n < 256 → (textL (n : Int)).isEmpty = false := by decide +kernel
  intro q
  have := this n (by omega); rw [q] at this; cases this
theorem parse_text (s : Int) : parseS (textB s) = if any s = true then (s, true) else (0, false) := by
  unfold parseS parseR; rw [textB_list]
  by_cases h : any s = true
  · have h' : 0 ≤ s ∧ s < 256 := of_decide_eq_true h
    rw [if_pos h, if_neg (textL_ne h)]
    obtain ⟨n, rfl⟩ := nat_of h'.1
    rw [fold_text_256 n (by omega)]; unfold goodR; rw [textB_list, if_pos rfl]
  · have : textL s = [] := by unfold textL; rw [if_neg h]
    rw [if_neg h, if_pos this]
end Go.Proofs.YthncmojfpdojoaaDoor.Ps
