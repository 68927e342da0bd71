/- Numbers parsed: what the printed functions come to. -/
import Derived.Test.YthncmojfpdojoaaDoorVFnNumbersFmt
import Derived.Lib.AtoiAllCases
namespace Go.Proofs.YthncmojfpdojoaaDoor.F
open Go.RowKit Go.Proofs.YthncmojfpdojoaaDoorW.PrintWords Go.Proofs.YthncmojfpdojoaaDoorW.PrintMore Go.Proofs.YthncmojfpdojoaaDoor.P Go.Proofs.YthncmojfpdojoaaDoor.B Go.Proofs.YthncmojfpdojoaaDoor.Dg
theorem bt_get (x : ByteArray) (i : Nat) (h : i < x.data.toList.length) : bt x (i : Int) = ((x.data.toList[i]).toNat : Int) := by
  have hz : i < x.size := by rw [Lib.size_eq]; exact h
  unfold bt; rw [Int.toNat_natCast, dif_pos hz]; simp; rfl
theorem drop_cons {α : Type} {l : List α} {i : Nat} (h : i < l.length) : l.drop i = l[i] :: l.drop (i + 1) := List.drop_eq_getElem_cons h
/-- The number that the digits spell, read on from v. -/
def scan : List UInt8 → Nat → Option Nat
  | [], v => some v
  | c :: r, v => if c.toNat < 48 ∨ c.toNat > 57 then none else scan r (10 * v + (c.toNat - 48))
theorem scan_append : ∀ (a b : List UInt8) (v : Nat), scan (a ++ b) v = (scan a v).bind (scan b)
  | [], _, _ => rfl
  | c :: r, b, v => by
    simp only [List.cons_append, scan]
    split
    · rfl
    · exact scan_append r b _
theorem scan_dec : ∀ n u : Nat, u < n → scan (Lib.decDigits u) 0 = some u := by
  intro n
  induction n with
  | zero => intro u h; omega
  | succ n ih =>
    intro u h
    by_cases q : u < 10
    · rw [dec_small q]; simp only [scan]; rw [dig_nat q, if_neg (by omega)]; congr 1; omega
    · rw [dec_big q, scan_append, ih (u / 10) (by omega)]
      simp only [Option.bind_some, scan]; rw [dig_nat (by omega), if_neg (by omega)]; congr 1; omega
theorem scan_lt : ∀ (l : List UInt8) (v w d : Nat), v < 10 ^ d → scan l v = some w → w < 10 ^ (d + l.length)
  | [], v, w, d, h, e => by simp only [scan, Option.some.injEq] at e; subst e; simpa using h
  | c :: r, v, w, d, h, e => by
    simp only [scan] at e
    split at e
    · cases e
    · have := scan_lt r (10 * v + (c.toNat - 48)) w (d + 1) (by rw [Nat.pow_succ]; omega) e
      rw [List.length_cons, show d + (r.length + 1) = d + 1 + r.length by omega]; exact this
def readR (l : List UInt8) (b : Bool) : Option Nat → Int × Bool
  | none => (0, false)
  | some v => if Lib.itoa (if b = true then -(v : Int) else (v : Int)) = l then ((if b = true then -(v : Int) else (v : Int)), true) else (0, false)
def dash (l : List UInt8) : Bool := match l with | [] => false | c :: _ => c.toNat == 45
def mag (l : List UInt8) : List UInt8 := if dash l = true then l.tail else l
def readL (m : Nat) (l : List UInt8) : Int × Bool := if (mag l).length < 1 ∨ m < (mag l).length then (0, false) else readR l (dash l) (scan (mag l) 0)
theorem abs_pow {n : Int} {m : Nat} (h : n.natAbs < 10 ^ (m + 1)) : (Lib.decDigits n.natAbs).length ≤ m + 1 := (dec_len m _).mpr h
theorem readL_ok {m : Nat} {l : List UInt8} {n : Int} (h : Lib.itoa n = l) (hn : n.natAbs < 10 ^ (m + 1)) : readL (m + 1) l = (n, true) := by
  have hl := abs_pow hn
  unfold Lib.itoa at h
  by_cases g : n < 0
  · rw [if_pos g] at h
    have hd : dash l = true := by rw [← h]; rfl
    have hm : mag l = Lib.decDigits n.natAbs := by unfold mag; rw [if_pos hd, ← h]; rfl
    have h1 : 1 ≤ (Lib.decDigits n.natAbs).length := List.length_pos_iff.mpr (dec_ne _)
    unfold readL; rw [hm, hd, if_neg (by omega), scan_dec (n.natAbs + 1) _ (by omega)]
    simp only [readR, if_true]
    have e : -((n.natAbs : Nat) : Int) = n := by omega
    rw [e, if_pos]; unfold Lib.itoa; rw [if_pos g]; exact h
  · rw [if_neg g] at h
    obtain ⟨c, r, hc, c0, c1⟩ := dec_cons n.toNat
    have hd : dash l = false := by rw [← h, hc]; simp [dash]; omega
    have ht : n.toNat = n.natAbs := by omega
    have hm : mag l = Lib.decDigits n.natAbs := by unfold mag; rw [if_neg (by rw [hd]; simp), ← h, ht]
    have h1 : 1 ≤ (Lib.decDigits n.natAbs).length := List.length_pos_iff.mpr (dec_ne _)
    unfold readL; rw [hm, hd, if_neg (by omega), scan_dec (n.natAbs + 1) _ (by omega)]
    simp only [readR]
    have e : ((n.natAbs : Nat) : Int) = n := by omega
    rw [if_neg (show ¬ (false = true) by simp), e, if_pos]; unfold Lib.itoa; rw [if_neg g]; exact h
theorem readL_no {m : Nat} {l : List UInt8} (h : ∀ n : Int, n.natAbs < 10 ^ m → Lib.itoa n ≠ l) : readL m l = (0, false) := by
  unfold readL
  by_cases q : (mag l).length < 1 ∨ m < (mag l).length
  · rw [if_pos q]
  · rw [if_neg q]
    cases hs : scan (mag l) 0 with
    | none => rfl
    | some v =>
      have hv : v < 10 ^ (mag l).length := by have := scan_lt (mag l) 0 v 0 (by decide) hs; rwa [Nat.zero_add] at this
      have hv' : v < 10 ^ m := Nat.lt_of_lt_of_le hv (Nat.pow_le_pow_right (by omega) (by omega))
      simp only [readR]; rw [if_neg]
      exact h _ (by split <;> omega)
theorem l1Read_l0 (a t : ByteArray) (b : Bool) (ht : t.size ≤ 12) : ∀ d k i v : Nat, i + d = t.size → v < 10 ^ i → d + 30 < k →
    spec_l1Read.l0 k a b t (v : Int) (i : Int) = some (readR a.data.toList b (scan (t.data.toList.drop i) v)) := by
  intro d
  induction d with
  | zero =>
    intro k i v hi hv hk; obtain ⟨k, rfl⟩ : ∃ q, k = q + 1 := ⟨k - 1, by omega⟩
    have hz := Lib.size_eq t
    have hv' : v < 10 ^ 12 := Nat.lt_of_lt_of_le hv (Nat.pow_le_pow_right (by omega) (by omega))
    simp only [spec_l1Read.l0]; rw [if_neg (by omega), List.drop_eq_nil_of_le (by omega)]
    simp only [scan, readR]
    cases b with
    | true =>
      rw [if_pos rfl, if_pos rfl, w64 _ (by omega) (by omega), FormatInt_spec _ (by omega) (by omega) k (by omega)]; simp only [Option.bind_some]
      rw [tl, tl]; simp only []
      split <;> rfl
    | false =>
      rw [if_neg (show ¬ (false = true) by simp), FormatInt_spec _ (by omega) (by omega) k (by omega)]; simp only [Option.bind_some]
      rw [if_neg (show ¬ (false = true) by simp)]
      rw [tl, tl]; simp only []
      split <;> rfl
  | succ d ih =>
    intro k i v hi hv hk; obtain ⟨k, rfl⟩ : ∃ q, k = q + 1 := ⟨k - 1, by omega⟩
    have hz := Lib.size_eq t
    have hj : i < t.data.toList.length := by omega
    have hv' : v < 10 ^ 11 := Nat.lt_of_lt_of_le hv (Nat.pow_le_pow_right (by omega) (by omega))
    have hc : (t.data.toList[i]).toNat < 256 := UInt8.toNat_lt _
    simp only [spec_l1Read.l0]; rw [if_pos (by omega), if_pos (by omega), bt_get t i hj, drop_cons hj]
    simp only [scan]
    generalize (t.data.toList[i]).toNat = c at *
    by_cases c0 : c < 48
    · rw [if_pos (by omega), if_pos (.inl c0)]; rfl
    · rw [if_neg (by omega)]
      by_cases c1 : c > 57
      · rw [if_pos (by omega), if_pos (.inr c1)]; rfl
      · rw [if_neg (by omega), if_neg (by omega), w64 (10 * (v : Int)) (by omega) (by omega), w64 _ (by omega) (by omega), w64 ((i : Int) + 1) (by omega) (by omega)]
        have := ih k (i + 1) (10 * v + (c - 48)) (by omega) (by rw [Nat.pow_succ]; omega) (by omega)
        rw [← this]; congr 1; omega
theorem l1Read_eq (a : ByteArray) (m : Nat) (hm : m ≤ 12) (ha : a.size ≤ 1048576) (k : Nat) (hk : 60 < k) : spec_l1Read.f k a (m : Int) = some (readL m a.data.toList) := by
  have hz := Lib.size_eq a
  obtain ⟨k, rfl⟩ : ∃ q, k = q + 3 := ⟨k - 3, by omega⟩
  have tail : ∀ (t : ByteArray) (b : Bool), b = dash a.data.toList → t.data.toList = mag a.data.toList → spec_l1Read.j1 (k + 2) a (m : Int) b t = some (readL m a.data.toList) := by
    intro t b hb ht
    have hs := Lib.size_eq t
    simp only [spec_l1Read.j1, spec_l1Read.j2]
    unfold readL; rw [← ht, ← hb, ← hs]
    by_cases h1 : t.size < 1
    · rw [if_pos (by omega), if_pos trivial, if_pos (.inl h1)]
    · rw [if_neg (by omega)]
      by_cases h2 : m < t.size
      · rw [if_pos (decide_eq_true (show (t.size : Int) > (m : Int) by omega)), if_pos (.inr h2)]
      · rw [if_neg (by rw [decide_eq_true_eq]; omega), if_neg (by omega)]
        have := l1Read_l0 a t b (by omega) t.size k 0 0 (by omega) (by decide) (by omega)
        simpa using this
  have j0 : ∀ b : Bool, b = dash a.data.toList → (b = true → 1 ≤ a.size) → spec_l1Read.j0 (k + 3) a (m : Int) b = some (readL m a.data.toList) := by
    intro b hb h1
    simp only [spec_l1Read.j0]
    cases b with
    | true =>
      rw [if_pos rfl, if_pos (by have := h1 rfl; omega)]
      refine tail _ _ hb ?_
      unfold mag; rw [← hb, if_pos rfl, Lib.extract_data, List.drop_one, List.take_of_length_le (by rw [List.length_tail, ← hz]; omega)]
    | false =>
      rw [if_neg (by simp)]
      refine tail _ _ hb ?_
      unfold mag; rw [← hb]; rfl
  unfold spec_l1Read.f
  cases hl : a.data.toList with
  | nil =>
    have h0 : a.size = 0 := by rw [hz, hl]; rfl
    rw [if_neg (by omega), ← hl]; exact j0 false (by rw [hl]; rfl) (by simp)
  | cons c r =>
    have h0 : 0 < a.size := by rw [hz, hl]; simp
    rw [if_pos (by omega), if_pos (by omega), ← hl]
    have hb := bt_get a 0 (by rw [hl]; simp)
    refine j0 _ ?_ (fun _ => h0)
    have e : (a.data.toList[0]'(by rw [hl]; simp)) = c := by simp [hl]
    rw [show (0 : Int) = ((0 : Nat) : Int) from rfl, hb, e, hl]; simp only [dash]
    by_cases q : c.toNat = 45
    · rw [q]; rfl
    · rw [beq_eq_false_iff_ne.mpr q, beq_eq_false_iff_ne.mpr (by omega)]
theorem parseWithin_ok {a : ByteArray} {lo hi n : Int} (ha : a.size ≤ 1048576) (h0 : -9223372036854775808 ≤ n) (h1 : n ≤ 9223372036854775807) (hlo : lo ≤ n) (hhi : n ≤ hi) (h : Lib.itoa n = a.data.toList) : impl_parseWithin.f a lo hi = some (n, true) := by
  unfold impl_parseWithin.f
  rw [if_pos (by omega), ← h, atoi_itoa n h0 h1]; simp only []
  rw [if_neg (by omega), if_neg (by omega), FormatInt_impl n h0 h1]; simp only [Option.bind_some]
  rw [if_pos]; rw [tl, tl, ← h]
theorem parseWithin_no {a : ByteArray} {lo hi : Int} (ha : a.size ≤ 1048576) (h : ∀ n : Int, lo ≤ n → n ≤ hi → Lib.itoa n ≠ a.data.toList) : impl_parseWithin.f a lo hi = some (0, false) := by
  unfold impl_parseWithin.f
  rw [if_pos (by omega)]
  rcases he : Lib.atoiAll a.data.toList with v | _ | _
  · have hb := Lib.atoiAll_bounds he
    simp only []
    by_cases c1 : v < lo
    · rw [if_pos c1]
    · rw [if_neg c1]
      by_cases c2 : v > hi
      · rw [if_pos c2]
      · rw [if_neg c2, FormatInt_impl v hb.1 hb.2]; simp only [Option.bind_some]
        rw [if_neg]; rw [tl, tl]; exact h v (by omega) (by omega)
  · rfl
  · rfl
theorem readL_itoa {n : Int} (h0 : -9223372036854775808 ≤ n) (h1 : n ≤ 9223372036854775807) (m : Nat) (hm : m + 1 ≤ 18) : readL (m + 1) (Lib.itoa n) = if n.natAbs < 10 ^ (m + 1) then (n, true) else (0, false) := by
  by_cases h : n.natAbs < 10 ^ (m + 1)
  · rw [if_pos h]; exact readL_ok rfl h
  · rw [if_neg h]
    refine readL_no fun q hq e => h ?_
    have : 10 ^ (m + 1) ≤ 10 ^ 18 := Nat.pow_le_pow_right (by omega) hm
    rw [← itoa_inj (by omega) (by omega) h0 h1 e]; exact hq
/-- What ParseNumber reads: a number of at most six digits that is not below zero. -/
def numL (l : List UInt8) : Int × Bool := if (readL 6 l).2 = true ∧ 0 ≤ (readL 6 l).1 then ((readL 6 l).1, true) else (0, false)
theorem readL_cases (m : Nat) (l : List UInt8) : (∃ n : Int, n.natAbs < 10 ^ (m + 1) ∧ Lib.itoa n = l ∧ readL (m + 1) l = (n, true)) ∨ ((∀ n : Int, n.natAbs < 10 ^ (m + 1) → Lib.itoa n ≠ l) ∧ readL (m + 1) l = (0, false)) := by
  by_cases h : ∃ n : Int, n.natAbs < 10 ^ (m + 1) ∧ Lib.itoa n = l
  · obtain ⟨n, h1, h2⟩ := h
    exact .inl ⟨n, h1, h2, readL_ok h2 h1⟩
  · have h' : ∀ n : Int, n.natAbs < 10 ^ (m + 1) → Lib.itoa n ≠ l := fun n h1 h2 => h ⟨n, h1, h2⟩
    exact .inr ⟨h', readL_no h'⟩
theorem numL_cases (l : List UInt8) : (∃ n : Int, 0 ≤ n ∧ n ≤ 999999 ∧ Lib.itoa n = l ∧ numL l = (n, true)) ∨ ((∀ n : Int, 0 ≤ n → n ≤ 999999 → Lib.itoa n ≠ l) ∧ numL l = (0, false)) := by
  unfold numL
  rcases readL_cases 5 l with ⟨n, h1, h2, h3⟩ | ⟨h1, h2⟩
  · rw [h3]
    by_cases g : 0 ≤ n
    · exact .inl ⟨n, g, by omega, h2, by rw [if_pos ⟨rfl, g⟩]⟩
    · refine .inr ⟨fun q q0 q1 e => g ?_, by rw [if_neg (fun z => g z.2)]⟩
      rw [← itoa_inj (show -9223372036854775808 ≤ q by omega) (by omega) (show -9223372036854775808 ≤ n by omega) (by omega) (by rw [e, h2])]; exact q0
  · rw [h2]; exact .inr ⟨fun q q0 q1 => h1 q (by omega), by rw [if_neg (by simp)]⟩
theorem ParseInt_impl (a : ByteArray) (ha : a.size ≤ 1048576) : impl_ParseInt.f a = some (readL 12 a.data.toList) := by
  unfold impl_ParseInt.f
  rcases readL_cases 11 a.data.toList with ⟨n, h1, h2, h3⟩ | ⟨h1, h2⟩
  · rw [parseWithin_ok (n := n) ha (by omega) (by omega) (by omega) (by omega) h2, h3]; rfl
  · rw [parseWithin_no ha (fun n q0 q1 => h1 n (by omega)), h2]; rfl
theorem ParseNumber_spec (a : ByteArray) (ha : a.size ≤ 1048576) (k : Nat) (hk : 60 < k) : spec_ParseNumber.f k a = some (numL a.data.toList) := by
  have := l1Read_eq a 6 (by omega) ha k hk
  rw [show ((6 : Nat) : Int) = 6 from rfl] at this
  unfold spec_ParseNumber.f numL
  rw [this]; simp only [Option.bind_some]
  generalize readL 6 a.data.toList = p
  obtain ⟨x, b⟩ := p
  cases b with
  | false => simp
  | true =>
    by_cases g : 0 ≤ x
    · simp [g, show ¬ x < 0 by omega]
    · simp [g, show x < 0 by omega]
theorem ParseNumber_impl (a : ByteArray) (ha : a.size ≤ 1048576) : impl_ParseNumber.f a = some (numL a.data.toList) := by
  unfold impl_ParseNumber.f
  rcases numL_cases a.data.toList with ⟨n, h1, h2, h3, h4⟩ | ⟨h1, h2⟩
  · rw [parseWithin_ok (n := n) ha (by omega) (by omega) (by omega) (by omega) h3, h4]; rfl
  · rw [parseWithin_no ha h1, h2]; rfl
end Go.Proofs.YthncmojfpdojoaaDoor.F
