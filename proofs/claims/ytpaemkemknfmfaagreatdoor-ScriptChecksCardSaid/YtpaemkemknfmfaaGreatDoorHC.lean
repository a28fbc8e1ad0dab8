import Derived.Test.YtpaemkemknfmfaaGreatDoorHA
import Derived.Test.YtpaemkemknfmfaaGreatDoorPC
set_option linter.unusedVariables false
set_option linter.unusedSimpArgs false
namespace Go.Proofs.YtpaemkemknfmfaaGreatDoor
open Go.PK

end Go.Proofs.YtpaemkemknfmfaaGreatDoor

/-
  A hasher's state in plain Lean: what it has taken, block by block; padding; the digest.
-/
namespace Go.Proofs.YtpaemkemknfmfaaGreatDoor
open Go.PK

/-- All whole blocks taken in. -/
def absorb (s : S8) (l : List B8) : S8 × List B8 :=
  if _h : 64 ≤ l.length then absorb (comp s (l.take 64)) (l.drop 64) else (s, l)
termination_by l.length
decreasing_by rw [List.length_drop]; omega

theorem absorb_ge {s : S8} {l : List B8} (h : 64 ≤ l.length) : absorb s l = absorb (comp s (l.take 64)) (l.drop 64) := by
  rw [absorb, dif_pos h]
theorem absorb_lt {s : S8} {l : List B8} (h : l.length < 64) : absorb s l = (s, l) := by
  rw [absorb, dif_neg (by omega)]

theorem absorb_append : ∀ (n : Nat) (s : S8) (l m : List B8), l.length ≤ n → absorb (absorb s l).1 ((absorb s l).2 ++ m) = absorb s (l ++ m)
  | n, s, l, m, hn => by
    by_cases h : 64 ≤ l.length
    · cases n with
      | zero => omega
      | succ n =>
        have ih := absorb_append n (comp s (l.take 64)) (l.drop 64) m (by rw [List.length_drop]; omega)
        rw [absorb_ge h, ih, absorb_ge (s := s) (l := l ++ m) (by simp; omega)]
        rw [List.take_append_of_le_length h, List.drop_append_of_le_length h]
    · rw [absorb_lt (s := s) (l := l) (by omega)]

theorem absorb_rest : ∀ (n : Nat) (s : S8) (l : List B8), l.length ≤ n → (absorb s l).2.length < 64 ∧ (absorb s l).2.length ≤ l.length ∧ (absorb s l).2.length % 64 = l.length % 64
  | n, s, l, hn => by
    by_cases h : 64 ≤ l.length
    · cases n with
      | zero => omega
      | succ n =>
        have ih := absorb_rest n (comp s (l.take 64)) (l.drop 64) (by rw [List.length_drop]; omega)
        rw [absorb_ge h]
        rw [List.length_drop] at ih
        omega
    · rw [absorb_lt (by omega)]; exact ⟨by show l.length < 64; omega, Nat.le_refl _, rfl⟩

/-- What a hasher is behind these bytes. -/
def after (m : List B8) : S8 × List B8 := absorb iv m
theorem after_append (l m : List B8) : absorb (after l).1 ((after l).2 ++ m) = after (l ++ m) := absorb_append l.length iv l m (Nat.le_refl _)
theorem after_nil : after [] = (iv, []) := absorb_lt (by simp)
theorem after_rest (l : List B8) : (after l).2.length < 64 ∧ (after l).2.length ≤ l.length ∧ (after l).2.length % 64 = l.length % 64 := absorb_rest l.length iv l (Nat.le_refl _)

/-- A number's eight bytes. -/
def be8 (n : Nat) : List B8 := [BitVec.ofNat 8 (n / 256 ^ 7), BitVec.ofNat 8 (n / 256 ^ 6), BitVec.ofNat 8 (n / 256 ^ 5), BitVec.ofNat 8 (n / 256 ^ 4), BitVec.ofNat 8 (n / 256 ^ 3), BitVec.ofNat 8 (n / 256 ^ 2), BitVec.ofNat 8 (n / 256 ^ 1), BitVec.ofNat 8 (n / 256 ^ 0)]
/-- What stands behind 'k' bytes that are left, of 'n' in all. -/
def padEnd (k : Nat) : Nat := if 64 < k + 9 then 128 else 64
def padding (k n : Nat) : List B8 := 128#8 :: List.replicate (padEnd k - k - 9) 0#8 ++ be8 (n * 8)
theorem be8_length (n : Nat) : (be8 n).length = 8 := rfl
theorem padding_length {k n : Nat} (h : k < 64) : (padding k n).length = padEnd k - k := by
  simp only [padding, List.length_append, List.length_cons, List.length_replicate, be8_length, padEnd]
  split <;> omega
def fin (s : S8) (r : List B8) (n : Nat) : S8 := (absorb s (r ++ padding r.length n)).1
def dbyte (s : S8) (i : Nat) : B8 := (sget s (i / 4) >>> (8 * (3 - i % 4))).setWidth 8
def dig (s : S8) : List B8 := (List.range 32).map (dbyte s)
/-- SHA-256. -/
def sha (m : List B8) : List B8 := dig (fin (after m).1 (after m).2 m.length)
theorem dig_length (s : S8) : (dig s).length = 32 := by simp [dig]
theorem sha_length (m : List B8) : (sha m).length = 32 := dig_length _
end Go.Proofs.YtpaemkemknfmfaaGreatDoor
