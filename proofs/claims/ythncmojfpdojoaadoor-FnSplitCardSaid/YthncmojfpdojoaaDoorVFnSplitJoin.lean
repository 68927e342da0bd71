/- Strings joined: what the printed functions come to. -/
import Derived.Test.YthncmojfpdojoaaDoorVFnSplitLoop
import Derived.Lib.Join
namespace Go.Proofs.YthncmojfpdojoaaDoor.L
open Go.RowKit Go.Proofs.YthncmojfpdojoaaDoorW.PrintWords Go.Proofs.YthncmojfpdojoaaDoorW.PrintMore Go.Proofs.YthncmojfpdojoaaDoor.P Go.Proofs.YthncmojfpdojoaaDoor.B
def joinL (xs : List ByteArray) (sep : ByteArray) : List UInt8 := Lib.join (xs.map (·.data.toList)) sep.data.toList
def joinB (xs : List ByteArray) (sep : ByteArray) : ByteArray := ⟨(joinL xs sep).toArray⟩
def numsL (l : List UInt8) : List Int := l.map fun b => (b.toNat : Int)
theorem strOfNums_nums (l : List UInt8) : strOfNums (numsL l) = ⟨l.toArray⟩ := by
  unfold strOfNums numsL; congr 1; rw [List.map_map]
  congr 1
  induction l with
  | nil => rfl
  | cons b l ih => rw [List.map_cons, ih]; congr 1; simp
theorem bytesOf_nums (s : ByteArray) : bytesOf s = numsL s.data.toList := rfl
theorem numsL_append (a b : List UInt8) : numsL (a ++ b) = numsL a ++ numsL b := List.map_append
theorem numsL_len (a : List UInt8) : (numsL a).length = a.length := List.length_map _
theorem data_len (s : ByteArray) : s.data.toList.length = s.size := by cases s; rfl
theorem drop_rdOf {xs : List ByteArray} {i : Nat} (h : i < xs.length) : xs.drop i = rdOf ByteArray.empty xs (i : Int) :: xs.drop (i + 1) := by
  rw [List.drop_eq_getElem_cons h]; simp [rdOf, h]
theorem tail_cons (sep : List UInt8) (x : List UInt8) (r : List (List UInt8)) : Lib.joinTail sep (x :: r) = sep ++ x ++ Lib.joinTail sep r := by
  unfold Lib.joinTail; rw [List.map_cons, List.flatten_cons]
theorem Join_impl (xs : List ByteArray) (sep : ByteArray) (hx : xs.length ≤ 140737488355328) (hb : (joinL xs sep).length ≤ 140737488355328) : impl_Join.f xs sep = some (joinB xs sep) := by
  unfold impl_Join.f strings_Join.f; rw [if_pos ⟨hx, hb⟩]; rfl
/-- All the strings' lengths. -/
def sizes (xs : List ByteArray) : Nat := (xs.map (·.size)).sum
theorem tail_len (sep : List UInt8) (xs : List ByteArray) : (Lib.joinTail sep (xs.map (·.data.toList))).length = sizes xs + xs.length * sep.length := by
  induction xs with
  | nil => simp [Lib.joinTail, sizes]
  | cons x xs ih =>
    rw [List.map_cons, tail_cons, List.length_append, List.length_append, ih, data_len]
    unfold sizes; rw [List.map_cons, List.sum_cons, List.length_cons, Nat.succ_mul]; omega
theorem join_len (xs : List ByteArray) (sep : ByteArray) : (joinL xs sep).length ≤ sizes xs + xs.length * sep.size := by
  unfold joinL
  cases xs with
  | nil => simp [Lib.join_nil]
  | cons x xs =>
    rw [List.map_cons, Lib.join_cons, List.length_append, tail_len, data_len, data_len]
    unfold sizes; rw [List.map_cons, List.sum_cons, List.length_cons, Nat.succ_mul]; omega
end Go.Proofs.YthncmojfpdojoaaDoor.L
