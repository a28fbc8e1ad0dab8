/-
  A hasher's last block or two: the bytes one by one.
-/
import Derived.Test.YtkkfdoippibfkaaHB
namespace Go.Proofs.Ytkkfdoippibfkaa
open Go.PK

theorem u64_size (n : Nat) (h : n ≤ 1000000000) : Value.int .u64 (IntKind.u64.wrap (IntKind.u64.wrap (n : Int) * 8)) = .int .u64 ((n * 8 / 256 ^ 0 : Nat) : Int) := by
  congr 1
  simp only [IntKind.wrap, IntKind.bits, IntKind.signed]
  simp
  omega

/-- The bytes ahead of the length, of 128. -/
def pre (rest : List B8) : List Value := bytes rest ++ [U8 128#8] ++ List.replicate (127 - rest.length) (U8 0#8)
theorem pre_length {rest : List B8} (h : rest.length < 64) : (pre rest).length = 128 := by simp [pre]; omega
/-- .. with the length's last 'j' bytes, that end at 'en'. -/
def lay (rest : List B8) (n en j : Nat) : List Value := (pre rest).take (en - j) ++ bytes ((be8 (n * 8)).drop (8 - j)) ++ (pre rest).drop en
theorem lay_zero {rest : List B8} {n en : Nat} : lay rest n en 0 = pre rest := by simp [lay, be8]
theorem lay_length {rest : List B8} {n en j : Nat} (h : rest.length < 64) (hj : j ≤ 8) (h8 : 8 ≤ en) (he : en ≤ 128) : (lay rest n en j).length = 128 := by
  simp only [lay, List.length_append, List.length_take, List.length_map, List.length_drop, pre_length h, be8_length]; omega
theorem be8_cons (N : Nat) : ∀ j, j < 8 → (be8 N).drop (8 - (j + 1)) = BitVec.ofNat 8 (N / 256 ^ j) :: (be8 N).drop (8 - j)
  | 0, _ => rfl | 1, _ => rfl | 2, _ => rfl | 3, _ => rfl | 4, _ => rfl | 5, _ => rfl | 6, _ => rfl | 7, _ => rfl
  | j + 8, h => by omega
theorem lay_step {rest : List B8} {n en j : Nat} (h : rest.length < 64) (hj : j < 8) (h8 : 8 ≤ en) (he : en ≤ 128) :
    spl (lay rest n en j) (0 + (en - (j + 1)) * 1) [U8 (BitVec.ofInt 8 ((n * 8 / 256 ^ j : Nat) : Int))] = lay rest n en (j + 1) := by
  have hl := pre_length h
  rw [Nat.zero_add, Nat.mul_one, spl_one (by rw [lay_length h (by omega) h8 he]; omega)]
  have e1 : (lay rest n en j).take (en - (j + 1)) = (pre rest).take (en - (j + 1)) := by
    rw [lay, List.append_assoc, List.take_append_of_le_length (by rw [List.length_take, hl]; omega), List.take_take]
    congr 1; omega
  have e2 : (lay rest n en j).drop (en - (j + 1) + 1) = bytes ((be8 (n * 8)).drop (8 - j)) ++ (pre rest).drop en := by
    rw [lay, List.append_assoc]
    exact List.drop_left' (by rw [List.length_take, hl]; omega)
  have e3 : BitVec.ofInt 8 ((n * 8 / 256 ^ j : Nat) : Int) = BitVec.ofNat 8 (n * 8 / 256 ^ j) := BitVec.ofInt_natCast ..
  rw [e1, e2, e3, lay, be8_cons _ j hj]
  simp

theorem padEnd_le {k : Nat} : padEnd k = 64 ∨ padEnd k = 128 := by unfold padEnd; split <;> simp
theorem pad_length {rest : List B8} {n : Nat} (h : rest.length < 64) : (rest ++ padding rest.length n).length = padEnd rest.length := by
  rw [List.length_append, padding_length h]; unfold padEnd; split <;> omega
/-- The whole, as far as it is taken. -/
theorem lay_all {rest : List B8} {n : Nat} (h : rest.length < 64) : ∃ r, lay rest n (padEnd rest.length) 8 = bytes (rest ++ padding rest.length n) ++ r := by
  refine ⟨(pre rest).drop (padEnd rest.length), ?_⟩
  have e : (pre rest).take (padEnd rest.length - 8) = bytes (rest ++ 128#8 :: List.replicate (padEnd rest.length - rest.length - 9) 0#8) := by
    have h1 : padEnd rest.length - 8 = rest.length + (1 + (padEnd rest.length - rest.length - 9)) := by unfold padEnd; split <;> omega
    have h2 : padEnd rest.length - rest.length - 9 ≤ 127 - rest.length := by unfold padEnd; split <;> omega
    rw [h1, pre, List.append_assoc]
    rw [show rest.length = (bytes rest).length by simp, List.take_length_add_append]
    simp only [Nat.add_comm 1, List.cons_append, List.nil_append, List.take_succ_cons, List.take_replicate, List.map_append, List.map_cons, List.map_replicate]
    rw [show (bytes rest).length = rest.length by simp, Nat.min_eq_left h2]
  simp only [lay]
  rw [e, padding]
  simp [List.drop_zero]

theorem Lval {rest : List B8} {n j : Nat} (h : rest.length < 64) (hj : j < padEnd rest.length) : (lay rest n (padEnd rest.length) 8)[j]? = some (U8 ((rest ++ padding rest.length n).getD j 0)) := by
  obtain ⟨r, hr⟩ := lay_all (n := n) h
  have hl := pad_length (n := n) h
  rw [hr, List.getElem?_append_left (by rw [List.length_map, hl]; exact hj)]
  exact bytes_get (by rw [hl]; exact hj)
theorem Lpart {rest : List B8} {n at_ : Nat} (h : rest.length < 64) (hj : at_ + 64 ≤ padEnd rest.length) : ∀ j u, (bytes (((rest ++ padding rest.length n).drop at_).take 64))[j]? = some u → (lay rest n (padEnd rest.length) 8)[at_ + j]? = some u := by
  intro j u hu
  obtain ⟨r, hr⟩ := lay_all (n := n) h
  have hl := pad_length (n := n) h
  rw [← bytes_part] at hu
  rw [List.getElem?_take] at hu
  split at hu
  · rename_i h64
    rw [List.getElem?_drop, Nat.mul_one] at hu
    rw [hr, List.getElem?_append_left (by rw [List.length_map, hl]; omega)]
    exact hu
  · cases hu

/-! ### The digest's bytes -/
theorem div4 (i : Nat) (h : i < 32) : IntKind.i64.wrap ((i : Int).tdiv 4) = ((i / 4 : Nat) : Int) := by
  have e : (i : Int).tdiv 4 = ((i / 4 : Nat) : Int) := by rw [Int.tdiv_eq_ediv_of_nonneg (by omega)]; simp
  rw [e]; exact IntWalk.i64_in _ (by omega)
theorem mod4 (i : Nat) (h : i < 32) : IntKind.i64.wrap (8 * IntKind.i64.wrap (3 - (i : Int).tmod 4)) = ((8 * (3 - i % 4) : Nat) : Int) := by
  have e : (i : Int).tmod 4 = ((i % 4 : Nat) : Int) := by rw [Int.tmod_eq_emod_of_nonneg (by omega)]; simp
  rw [e, IntWalk.i64_in (3 - ((i % 4 : Nat) : Int)) (by omega), IntWalk.i64_in _ (by omega)]; omega
theorem dig_get (s : S8) {i : Nat} (h : i < 32) : (bytes (dig s))[i]? = some (U8 (dbyte s i)) := by simp [dig, h]
end Go.Proofs.Ytkkfdoippibfkaa
