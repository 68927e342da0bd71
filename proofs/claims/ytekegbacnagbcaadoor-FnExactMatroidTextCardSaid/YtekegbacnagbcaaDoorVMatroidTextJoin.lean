/- Strings joined: what the printed functions come to. -/
import Derived.Test.YtekegbacnagbcaaDoorVMatroidTextLoop
import Derived.Lib.Join
namespace Go.Proofs.YtekegbacnagbcaaDoor.L
open Go.RowKit Go.Proofs.YtekegbacnagbcaaDoorW.PrintWords Go.Proofs.YtekegbacnagbcaaDoorW.PrintMore Go.Proofs.YtekegbacnagbcaaDoor.P Go.Proofs.YtekegbacnagbcaaDoor.B
def joinL (xs : List ByteArray) (sep : ByteArray) : List UInt8 := Lib.join (xs.map (·.data.toList)) sep.data.toList
def joinB (xs : List ByteArray) (sep : ByteArray) : ByteArray := ⟨(joinL xs sep).toArray⟩
def numsL (l : List UInt8) : List Int := l.map fun b => (b.toNat : Int)
theorem strOfNums_nums (l : List UInt8) : strOfNums (numsL l) = ⟨l.toArray⟩ := by
  unfold strOfNums numsL; congr 1; rw [List.map_map]
  congr 1
  induction l with
  | nil => rfl
  | cons b l ih => rw [List.map_cons, ih]; congr 1; simp
theorem bytesOf_nums (s : ByteArray) : bytesOf s = numsL s.data.toList := rfl
theorem numsL_append (a b : List UInt8) : numsL (a ++ b) = numsL a ++ numsL b := List.map_append
theorem numsL_len (a : List UInt8) : (numsL a).length = a.length := List.length_map _
theorem data_len (s : ByteArray) : s.data.toList.length = s.size := by cases s; rfl
theorem drop_rdOf {xs : List ByteArray} {i : Nat} (h : i < xs.length) : xs.drop i = rdOf ByteArray.empty xs (i : Int) :: xs.drop (i + 1) := by
  rw [List.drop_eq_getElem_cons h]; simp [rdOf, h]
theorem tail_cons (sep : List UInt8) (x : List UInt8) (r : List (List UInt8)) : Lib.joinTail sep (x :: r) = sep ++ x ++ Lib.joinTail sep r := by
  unfold Lib.joinTail; rw [List.map_cons, List.flatten_cons]
theorem Join_spec_l0 (xs : List ByteArray) (sep : ByteArray) (hx : xs.length < 4611686018427387904) : ∀ d k i : Nat, ∀ acc : List UInt8, 0 < i → i + d = xs.length → d < k → acc.length + (Lib.joinTail sep.data.toList ((xs.drop i).map (·.data.toList))).length < 140737488355328 →
    spec_Join.l0 k xs sep (numsL acc) (i : Int) = some ⟨(acc ++ Lib.joinTail sep.data.toList ((xs.drop i).map (·.data.toList))).toArray⟩ := by
  intro d
  induction d with
  | zero =>
    intro k i acc hi h hk hb; obtain ⟨k, rfl⟩ := pos (show 0 < k by omega)
    simp only [spec_Join.l0]; rw [if_neg (by omega), List.drop_eq_nil_of_le (by omega), strOfNums_nums]
    simp [Lib.joinTail]
  | succ d ih =>
    intro k i acc hi h hk hb; obtain ⟨k, rfl⟩ := pos (show 0 < k by omega)
    have hil : i < xs.length := by omega
    rw [drop_rdOf hil, List.map_cons, tail_cons] at hb ⊢
    simp only [List.length_append] at hb
    have e1 := data_len sep; have e2 := data_len (rdOf ByteArray.empty xs (i : Int))
    simp only [spec_Join.l0]
    rw [if_pos (by omega), if_pos (by omega), if_pos (by rw [numsL_len]; omega)]; simp only [Option.bind_some]
    rw [if_pos (by omega), bytesOf_nums, bytesOf_nums, ← numsL_append, if_pos (by rw [numsL_len, List.length_append]; omega), ← numsL_append, w1 (by omega), ih k (i + 1) _ (by omega) (by omega) (by omega) (by simp only [List.length_append]; omega)]
    simp only [List.append_assoc]
theorem Join_spec (xs : List ByteArray) (sep : ByteArray) (k : Nat) (hx : xs.length < 4611686018427387904) (hk : xs.length < k) (hb : (joinL xs sep).length < 140737488355328) : spec_Join.f k xs sep = some (joinB xs sep) := by
  unfold spec_Join.f joinB
  cases xs with
  | nil =>
    obtain ⟨k, rfl⟩ := pos (show 0 < k by omega)
    simp only [spec_Join.l0]; rw [if_neg (by simp)]; rfl
  | cons x xs =>
    obtain ⟨k, rfl⟩ := pos (show 0 < k by omega)
    have e0 : joinL (x :: xs) sep = x.data.toList ++ Lib.joinTail sep.data.toList (xs.map (·.data.toList)) := by unfold joinL; rw [List.map_cons, Lib.join_cons]
    rw [e0, List.length_append] at hb
    have e2 := data_len x
    have hk' : xs.length + 1 < k + 1 := hk
    have hx' : xs.length + 1 < 4611686018427387904 := hx
    simp only [spec_Join.l0]
    rw [if_pos (by rw [List.length_cons]; omega), if_neg (by omega), if_pos (by omega)]
    have er : rdOf ByteArray.empty (x :: xs) 0 = x := rfl
    rw [er, if_pos (by simp; omega), List.nil_append, bytesOf_nums, show wrap64 (0 + 1) = ((1 : Nat) : Int) by unfold wrap64; omega]
    rw [Join_spec_l0 (x :: xs) sep hx xs.length k 1 _ (by omega) (by rw [List.length_cons]; omega) (by omega) (by rw [List.drop_succ_cons, List.drop_zero]; omega), e0]; rfl
theorem Join_impl (xs : List ByteArray) (sep : ByteArray) (hx : xs.length ≤ 140737488355328) (hb : (joinL xs sep).length ≤ 140737488355328) : impl_Join.f xs sep = some (joinB xs sep) := by
  unfold impl_Join.f strings_Join.f; rw [if_pos ⟨hx, hb⟩]; rfl
/-- All the strings' lengths. -/
def sizes (xs : List ByteArray) : Nat := (xs.map (·.size)).sum
theorem tail_len (sep : List UInt8) (xs : List ByteArray) : (Lib.joinTail sep (xs.map (·.data.toList))).length = sizes xs + xs.length * sep.length := by
  induction xs with
  | nil => simp [Lib.joinTail, sizes]
  | cons x xs ih =>
    rw [List.map_cons, tail_cons, List.length_append, List.length_append, ih, data_len]
    unfold sizes; rw [List.map_cons, List.sum_cons, List.length_cons, Nat.succ_mul]; omega
theorem join_len (xs : List ByteArray) (sep : ByteArray) : (joinL xs sep).length ≤ sizes xs + xs.length * sep.size := by
  unfold joinL
  cases xs with
  | nil => simp [Lib.join_nil]
  | cons x xs =>
    rw [List.map_cons, Lib.join_cons, List.length_append, tail_len, data_len, data_len]
    unfold sizes; rw [List.map_cons, List.sum_cons, List.length_cons, Nat.succ_mul]; omega
end Go.Proofs.YtekegbacnagbcaaDoor.L
