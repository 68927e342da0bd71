/- Integers and numbers are parsed from their decimal representation, and parsed strings are that representation. -/
import Derived.Test.YthncmojfpdojoaaDoorVFnNumbersDraw
import Derived.Test.YthncmojfpdojoaaDoorVFnNumbersParse
namespace Go.Proofs.YthncmojfpdojoaaDoor.Pure
open Go.RowKit Go.Proofs.YthncmojfpdojoaaDoor.P Go.Proofs.YthncmojfpdojoaaDoor.L Go.Proofs.YthncmojfpdojoaaDoor.F Go.Proofs.YthncmojfpdojoaaDoor.Dg Go.Proofs.YthncmojfpdojoaaDoorW.PrintWords Go.Proofs.YthncmojfpdojoaaDoorW.PrintLast
theorem bsome {α β : Type} (a : α) (f : α → Option β) : (some a).bind f = f a := (Option.bind_some a f).trans rfl
theorem DrawParseNumber_ok (b : List Int) (k : Nat) (hb : ¬ (b.length : Int) > 1048576) (hk : 1048576 + 100 < k) : ∃ t, spec_DrawParseNumber.f k b = some t ∧ t.size ≤ 1000 := by
  obtain ⟨g, e⟩ := new_ok b k (by omega) (by omega)
  unfold spec_DrawParseNumber.f; rw [e, bsome]
  obtain ⟨t, j, g', e', j0⟩ := once_ok b 0 g 2 (by omega) (Int.le_refl _)
  simp only []; rw [e', bsome]
  cases t with
  | true =>
    rw [if_pos rfl]
    obtain ⟨x, j', g'', e2, _, x0, x1⟩ := whole_ok b j g' (by omega) j0
    simp only []; rw [e2, bsome, FormatInt_spec x x0 x1 k (by omega), bsome]
    refine ⟨_, rfl, ?_⟩
    rw [sz]; unfold Lib.itoa
    have h1 : x.natAbs < 10 ^ 20 := by omega
    have h2 : x.toNat < 10 ^ 20 := by omega
    have := (dec_len 19 x.natAbs).mpr h1
    have := (dec_len 19 x.toNat).mpr h2
    split
    · rw [List.length_cons]; omega
    · omega
  | false =>
    rw [if_neg (by simp)]
    obtain ⟨x, j', g'', e2, _, hx⟩ := pick_ok b j g' [(⟨#[]⟩ : ByteArray), (⟨#[48, 48]⟩ : ByteArray), (⟨#[48, 49]⟩ : ByteArray), (⟨#[45, 49]⟩ : ByteArray), (⟨#[43, 49]⟩ : ByteArray), (⟨#[120]⟩ : ByteArray), (⟨#[57, 57, 57, 57, 57, 57]⟩ : ByteArray), (⟨#[49, 48, 48, 48, 48, 48, 48]⟩ : ByteArray), (⟨#[45, 48]⟩ : ByteArray), (⟨#[45]⟩ : ByteArray), (⟨#[32, 49]⟩ : ByteArray), (⟨#[49, 32]⟩ : ByteArray)] (by omega) j0 (by simp)
    simp only []; rw [e2, bsome]
    refine ⟨x, rfl, ?_⟩
    simp only [List.mem_cons, List.not_mem_nil, or_false] at hx
    rcases hx with rfl | rfl | rfl | rfl | rfl | rfl | rfl | rfl | rfl | rfl | rfl | rfl <;> decide
theorem FnNumbers_j0 (b : List Int) (k : Nat) (hb : ¬ (b.length : Int) > 1048576) (hk : 1048576 + 100 < k) : laws_FnNumbers.j0 (k + 1) b false = some true := by
  obtain ⟨t, e, ht⟩ := DrawParseNumber_ok b k hb hk
  simp only [laws_FnNumbers.j0]
  rw [if_neg (by simp), e, bsome, ParseNumber_impl t (by omega), bsome, ParseNumber_spec t (by omega) k (by omega), bsome, if_pos (by simp)]
  rcases numL_cases t.data.toList with ⟨n, h1, h2, h3, h4⟩ | ⟨h1, h2⟩
  · rw [h4, if_pos rfl]; simp only []
    rw [FormatInt_impl n (by omega) (by omega), bsome, if_pos (by rw [tl, tl, ← h3]), decide_eq_true h1]
  · rw [h2, if_neg (by simp)]
theorem FnNumbers : laws_FnNumbers.Pure := by
  intro b hl _ _
  obtain ⟨k, hk⟩ : ∃ k, 1048576 + 200 ≤ k := ⟨_, Nat.le_refl _⟩
  refine ⟨k + 1, ?_⟩
  unfold laws_FnNumbers.f laws_big.f; rw [bsome]
  by_cases h : (b.length : Int) > 1048576
  · rw [if_pos (decide_eq_true h)]
  · rw [if_neg (by rw [decide_eq_true_eq]; exact h)]
    obtain ⟨n, e, n0, n1⟩ := DrawFormatInt_ok b (k + 1) (by omega) (by omega)
    have hj := FnNumbers_j0 b k h (by omega)
    have hlen : (Lib.itoa n).length ≤ 40 := by
      have h1 : n.natAbs < 10 ^ 20 := by omega
      have h2 : n.toNat < 10 ^ 20 := by omega
      have := (dec_len 19 n.natAbs).mpr h1
      have := (dec_len 19 n.toNat).mpr h2
      unfold Lib.itoa; split
      · rw [List.length_cons]; omega
      · omega
    rw [e, bsome, FormatInt_impl n n0 n1, bsome, ParseInt_impl _ (by rw [sz]; omega), bsome, FormatInt_spec n n0 n1 (k + 1) (by omega), bsome, if_pos rfl, sz]
    simp only []
    rw [readL_itoa n0 n1 11 (by omega)]
    have h12 := dec_len 11 n.natAbs
    have e1 : (Lib.itoa n).length = if n < 0 then (Lib.decDigits n.natAbs).length + 1 else (Lib.decDigits n.natAbs).length := by
      unfold Lib.itoa; split
      · rw [List.length_cons]
      · rw [show n.toNat = n.natAbs by omega]
    generalize (Lib.decDigits n.natAbs).length = d at *
    by_cases hn : n < 0
    · rw [if_pos hn] at e1
      by_cases q : n.natAbs < 10 ^ (11 + 1)
      · have := h12.mpr q
        rw [if_pos q]
        by_cases c : ((Lib.itoa n).length : Int) ≤ 12
        · rw [if_pos c]; simpa using hj
        · rw [if_neg c, if_pos hn]; simp only []; rw [decide_eq_true (show ((Lib.itoa n).length : Int) ≤ 13 by omega)]; simpa using hj
      · have : ¬ d ≤ 11 + 1 := fun z => q (h12.mp z)
        rw [if_neg q, if_neg (by omega), if_pos hn]; simp only []; rw [decide_eq_false (show ¬ ((Lib.itoa n).length : Int) ≤ 13 by omega)]; simpa using hj
    · rw [if_neg hn] at e1
      by_cases q : n.natAbs < 10 ^ (11 + 1)
      · have := h12.mpr q
        rw [if_pos q, if_pos (by omega)]; simpa using hj
      · have : ¬ d ≤ 11 + 1 := fun z => q (h12.mp z)
        rw [if_neg q, if_neg (by omega), if_neg hn]; simpa using hj

end Go.Proofs.YthncmojfpdojoaaDoor.Pure
