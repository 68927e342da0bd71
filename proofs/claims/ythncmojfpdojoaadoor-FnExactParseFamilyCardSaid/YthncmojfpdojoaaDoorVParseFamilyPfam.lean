/- Families parsed: what the printed functions come to. -/
import Derived.Test.YthncmojfpdojoaaDoorVParseFamilyPset
import Derived.Test.YthncmojfpdojoaaDoorVParseFamilyFamT
import Derived.Test.YthncmojfpdojoaaDoorVParseFamilyFam
import Derived.Test.YthncmojfpdojoaaDoorVParseFamilyCut
namespace Go.Proofs.YthncmojfpdojoaaDoor.Pf
open Go.RowKit Go.Proofs.YthncmojfpdojoaaDoorW.PrintWords Go.Proofs.YthncmojfpdojoaaDoorW.PrintMore Go.Proofs.YthncmojfpdojoaaDoor.P Go.Proofs.YthncmojfpdojoaaDoor.B Go.Proofs.YthncmojfpdojoaaDoor.Sp Go.Proofs.YthncmojfpdojoaaDoor.F Go.Proofs.YthncmojfpdojoaaDoor.L Go.Proofs.YthncmojfpdojoaaDoor.Ps
theorem bsome {α β : Type} (a : α) (f : α → Option β) : (some a).bind f = f a := (Option.bind_some a f).trans rfl
def vals (ps : List ByteArray) : List Int := ps.map fun t => (parseS t).1
def okAll (ps : List ByteArray) : Bool := ps.all fun t => (parseS t).2
/-- A list of sets that is a family of which the text is a, else nothing. -/
def fin (n : Int) (a : ByteArray) (xs : List Int) : List Int × Bool := if fam n xs = true then (if famT xs = a then (xs, true) else ([], false)) else ([], false)
theorem comma_free (s : Int) : (44 : UInt8) ∉ textL s := by
  unfold textL
  split
  · split
    · decide
    · intro h
      obtain ⟨e, he, q⟩ := List.mem_map.mp h
      have := elems_range he
      have h1 := tbyte_nat this.1 this.2
      have h2 := congrArg UInt8.toNat q
      rw [h1, show (44 : UInt8).toNat = 44 from rfl] at h2; omega
  · simp
theorem fam_any {n : Int} {xs : List Int} (h : fam n xs = true) : ∀ x ∈ xs, any x = true := by
  obtain ⟨h1, h2, h3, _⟩ := (fam_iff n xs).mp h
  intro x hx
  have := h3 x hx
  have hp : (2 : Int) ^ n.toNat ≤ 256 := by
    obtain ⟨m, rfl⟩ : ∃ m : Nat, n = m := ⟨n.toNat, by omega⟩
    have : m = 0 ∨ m = 1 ∨ m = 2 ∨ m = 3 ∨ m = 4 ∨ m = 5 ∨ m = 6 ∨ m = 7 ∨ m = 8 := by omega
    rcases this with rfl | rfl | rfl | rfl | rfl | rfl | rfl | rfl | rfl <;> decide
  exact decide_eq_true (by omega)
theorem cut_famT {n : Int} {a : ByteArray} {xs : List Int} (hx : xs ≠ []) (hf : fam n xs = true) (ht : famT xs = a) : cutB a 44 = xs.map textB := by
  have ha := fam_any hf
  have hb : areB xs = true := List.all_eq_true.mpr ha
  unfold famT at ht; rw [if_neg hx, if_pos hb] at ht
  have hd : a.data.toList = Lib.join ((xs.map textB).map (·.data.toList)) [44] := by rw [← ht]; unfold joinB joinL; rw [show comma.data.toList = [44] from rfl]
  have hm : (xs.map textB).map (·.data.toList) = xs.map textL := by
    rw [List.map_map]; exact List.map_congr_left fun x _ => by show (textB x).data.toList = _; unfold textB; simp
  cases xs with
  | nil => exact absurd rfl hx
  | cons x r =>
    unfold cutB; rw [hd, hm, List.map_cons, split_join 44 (textL x) (r.map textL) (fun p hp => by
      rcases List.mem_cons.mp hp with rfl | hp
      · exact comma_free x
      · obtain ⟨y, _, rfl⟩ := List.mem_map.mp hp; exact comma_free y)]
    rw [List.map_cons, List.map_map, List.map_cons]; rfl
theorem vals_len (ps : List ByteArray) : (vals ps).length = ps.length := List.length_map _
theorem cut_pos (a : ByteArray) (c : UInt8) : cutB a c ≠ [] := by
  unfold cutB; intro h; exact splitL_ne c _ (List.map_eq_nil_iff.mp h)
theorem fin_bad {n : Int} {a : ByteArray} (h : okAll (cutB a 44) = false) : fin n a (vals (cutB a 44)) = ([], false) := by
  unfold fin
  by_cases hf : fam n (vals (cutB a 44)) = true
  · rw [if_pos hf]
    by_cases ht : famT (vals (cutB a 44)) = a
    · exfalso
      have hv : vals (cutB a 44) ≠ [] := fun e => cut_pos a 44 (List.map_eq_nil_iff.mp e)
      have hc := cut_famT hv hf ht
      have ha := fam_any hf
      have : okAll (cutB a 44) = true := by
        rw [hc]; unfold okAll; rw [List.all_eq_true]
        intro t ht'
        obtain ⟨x, hx, rfl⟩ := List.mem_map.mp ht'
        rw [parse_text, if_pos (ha x hx)]
      rw [h] at this; cases this
    · rw [if_neg ht]
  · rw [if_neg hf]
def none4 : ByteArray := ⟨#[110, 111, 110, 101]⟩
/-- What ParseFamily reads. -/
def parF (n : Int) (a : ByteArray) : List Int × Bool := fin n a (if a = none4 then [] else vals (cutB a 44))
theorem none_list (a : ByteArray) : a.toList = ([110, 111, 110, 101] : List UInt8) ↔ a = none4 := by
  rw [tl]; constructor
  · intro h; rw [← ls a, h]; rfl
  · rintro rfl; rfl
theorem fin_len (n : Int) (a : ByteArray) (xs : List Int) : (fin n a xs).1.length ≤ xs.length := by
  unfold fin
  by_cases h : fam n xs = true
  · rw [if_pos h]
    by_cases q : famT xs = a
    · rw [if_pos q]; exact Nat.le_refl _
    · rw [if_neg q]; exact Nat.zero_le _
  · rw [if_neg h]; exact Nat.zero_le _
theorem parF_len (n : Int) (a : ByteArray) : (parF n a).1.length ≤ a.size + 1 := by
  have h1 := cutB_len a 44
  unfold parF
  by_cases h : a = none4
  · rw [if_pos h]; exact Nat.le_trans (fin_len n a []) (Nat.zero_le _)
  · rw [if_neg h]; have := fin_len n a (vals (cutB a 44)); rw [vals_len] at this; omega
theorem impl_j1 (n : Int) (a : ByteArray) (xs : List Int) (k : Nat) (hx : xs.length ≤ 1048577) (hk : 4194304 ≤ k) : impl_ParseFamily.j1 (k + 1) n a xs = some (fin n a xs) := by
  simp only [impl_ParseFamily.j1]
  rw [IsFamily_impl n xs k (by omega) (by omega), bsome]; unfold fin
  by_cases hf : fam n xs = true
  · rw [if_pos hf, if_pos hf, FamilyText_impl xs k (by omega) (by omega), bsome]
    by_cases ht : famT xs = a
    · rw [if_pos (by rw [ht]), if_pos ht]
    · rw [if_neg (fun e => ht (by rw [tl, tl] at e; rw [← ls (famT xs), e, ls])), if_neg ht]
  · rw [if_neg hf, if_neg hf]
theorem impl_l0 (n : Int) (a : ByteArray) (ps : List ByteArray) (hp : ps.length ≤ 1048577) (hs : ∀ t ∈ ps, t.size ≤ 1048576) : ∀ d k i : Nat, i + d = ps.length → d + 4194304 + 2 < k →
    impl_ParseFamily.l0 k n a (vals (ps.take i)) ps (ps.length : Int) (i : Int) = some (fin n a (vals ps)) := by
  intro d
  induction d with
  | zero =>
    intro k i hi hk; obtain ⟨k, rfl⟩ : ∃ q, k = q + 2 := ⟨k - 2, by omega⟩
    simp only [impl_ParseFamily.l0]
    rw [if_neg (by omega), List.take_of_length_le (by omega)]
    exact impl_j1 n a _ k (by rw [vals_len]; exact hp) (by omega)
  | succ d ih =>
    intro k i hi hk; obtain ⟨k, rfl⟩ : ∃ q, k = q + 1 := ⟨k - 1, by omega⟩
    have hj : i < ps.length := by omega
    have hm : rdOf ByteArray.empty ps (i : Int) = ps[i] := by simp [rdOf, hj]
    have w : wrap64 ((i : Int) + 1) = ((i + 1 : Nat) : Int) := by unfold wrap64; omega
    have hB := big_eq
    simp only [impl_ParseFamily.l0]
    rw [if_pos (by omega), if_pos (by omega), if_pos (by omega), hm, ParseSet_impl _ (hs _ (List.getElem_mem hj)) k (by omega), bsome, if_pos (by rw [vals_len, List.length_take]; omega), w]
    rw [← ih k (i + 1) (by omega) (by omega), List.take_succ_eq_append_getElem hj]; unfold vals; rw [List.map_append]; rfl
theorem ParseFamily_impl (n : Int) (a : ByteArray) (ha : a.size ≤ 1048576) (k : Nat) (hk : 9000000 < k) : impl_ParseFamily.f k n a = some (parF n a) := by
  unfold impl_ParseFamily.f parF; rw [bsome]
  obtain ⟨k, rfl⟩ : ∃ q, k = q + 1 := ⟨k - 1, by omega⟩
  by_cases h : a = none4
  · rw [if_pos ((none_list a).mpr h), if_pos h]; exact impl_j1 n a [] k (by simp) (by omega)
  · rw [if_neg (fun e => h ((none_list a).mp e)), if_neg h, SplitByte_impl a 44 (by omega) (by omega) (by omega), bsome]
    have := impl_l0 n a (cutB a 44) (by have := cutB_len a 44; omega) (fun t ht => by have := cut_size ht; omega) (cutB a 44).length (k + 1) 0 (Nat.zero_add _) (by have := cutB_len a 44; omega)
    exact this
theorem spec_end (n : Int) (a : ByteArray) (xs : List Int) (ps : List ByteArray) (i : Int) (k : Nat) (hx : xs.length ≤ 1048577) (hk : 4194304 ≤ k) : spec_ParseFamily.j1 (k + 1) n a xs ps i false = some (fin n a xs) := by
  simp only [spec_ParseFamily.j1]
  rw [if_neg (by simp), IsFamily_spec n xs k (by omega) (by omega), bsome]; unfold fin
  by_cases hf : fam n xs = true
  · rw [if_pos hf, if_pos hf, FamilyText_spec xs k (by omega) (by omega), bsome]
    by_cases ht : famT xs = a
    · rw [if_pos (by rw [ht]), if_pos ht]
    · rw [if_neg (fun e => ht (by rw [tl, tl] at e; rw [← ls (famT xs), e, ls])), if_neg ht]
  · rw [if_neg hf, if_neg hf]
theorem spec_l0 (n : Int) (a : ByteArray) (hn : (a.toList != ([110, 111, 110, 101] : List UInt8)) = true) (ps : List ByteArray) (hp : ps.length ≤ 1048577) (hs : ∀ t ∈ ps, t.size ≤ 1048576) : ∀ d k i : Nat, i + d = ps.length → 2 * d + 4194304 + 4 < k →
    spec_ParseFamily.l0 k n a (vals (ps.take i)) ps (i : Int) = some (if okAll (ps.drop i) = true then fin n a (vals ps) else ([], false)) := by
  intro d
  induction d with
  | zero =>
    intro k i hi hk; obtain ⟨k, rfl⟩ : ∃ q, k = q + 2 := ⟨k - 2, by omega⟩
    simp only [spec_ParseFamily.l0]
    rw [if_neg (by omega), List.take_of_length_le (by omega), List.drop_eq_nil_of_le (by omega), if_pos (show okAll [] = true from rfl)]
    exact spec_end n a _ ps _ k (by rw [vals_len]; exact hp) (by omega)
  | succ d ih =>
    intro k i hi hk; obtain ⟨k, rfl⟩ : ∃ q, k = q + 2 := ⟨k - 2, by omega⟩
    have hj : i < ps.length := by omega
    have hm : rdOf ByteArray.empty ps (i : Int) = ps[i] := by simp [rdOf, hj]
    have w : wrap64 ((i : Int) + 1) = ((i + 1 : Nat) : Int) := by unfold wrap64; omega
    have hB := big_eq
    simp only [spec_ParseFamily.l0]
    rw [if_pos (by omega), hn]
    simp only [spec_ParseFamily.j1]
    rw [if_pos trivial, if_pos (by omega), if_pos (by omega), hm, ParseSet_spec _ (hs _ (List.getElem_mem hj)) k (by omega), bsome, List.drop_eq_getElem_cons hj]
    have e : okAll (ps[i] :: ps.drop (i + 1)) = ((parseS ps[i]).2 && okAll (ps.drop (i + 1))) := rfl
    rw [e]
    cases hq : (parseS ps[i]).2 with
    | true =>
      rw [if_pos rfl, if_pos (by rw [vals_len, List.length_take]; omega), w, Bool.true_and, ← ih k (i + 1) (by omega) (by omega), List.take_succ_eq_append_getElem hj]; unfold vals; rw [List.map_append]; rfl
    | false => rw [if_neg (by simp), Bool.false_and, if_neg (by simp)]
theorem ParseFamily_spec (n : Int) (a : ByteArray) (ha : a.size ≤ 1048576) (k : Nat) (hk : 9000000 < k) : spec_ParseFamily.f k n a = some (parF n a) := by
  unfold spec_ParseFamily.f parF
  rw [SplitByte_spec a (by omega) 44 (by omega) (by omega) k (by omega), bsome]
  have hl := cutB_len a 44
  by_cases h : a = none4
  · rw [if_pos h]
    obtain ⟨k, rfl⟩ : ∃ q, k = q + 2 := ⟨k - 2, by omega⟩
    have hn : (a.toList != ([110, 111, 110, 101] : List UInt8)) = false := by rw [(none_list a).mpr h]; rfl
    simp only [spec_ParseFamily.l0]; rw [hn, ite_self]
    exact spec_end n a [] _ _ k (by simp) (by omega)
  · rw [if_neg h]
    have hn : (a.toList != ([110, 111, 110, 101] : List UInt8)) = true := by
      rw [bne_iff_ne]; exact fun e => h ((none_list a).mp e)
    have := spec_l0 n a hn (cutB a 44) (by omega) (fun t ht => by have := cut_size ht; omega) (cutB a 44).length k 0 (Nat.zero_add _) (by omega)
    refine Eq.trans this ?_
    rw [List.drop_zero]
    cases hq : okAll (cutB a 44) with
    | true => rw [if_pos rfl]
    | false => rw [if_neg (by simp), fin_bad hq]
end Go.Proofs.YthncmojfpdojoaaDoor.Pf
