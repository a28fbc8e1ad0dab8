import Derived.Test.YthndhipjfdgdfaaGreatDoorPD
import Derived.Lib.ItoaNum
import Derived.Lib.ParseIntB
import Derived.Lib.SplitLaws
import Derived.Lib.IndexLaws
import Derived.Lib.IndexBytes
import Derived.Lib.Join
import Derived.Lib.Replace
import Derived.Test.YthndhipjfdgdfaaGreatDoorUB
set_option linter.unusedVariables false
set_option linter.unusedSimpArgs false
/-
  Numerals: written and read (plain Lean).
-/
namespace Go.Proofs.YthndhipjfdgdfaaGreatDoor
open Go.PK
abbrev Tx := List B8
/-! ### Numerals -/
def dgc (n : Nat) : B8 := BitVec.ofNat 8 (48 + n % 10)
def dgs : Nat → Nat → Tx → Tx
  | 0, _, acc => acc
  | f + 1, n, acc => bif Nat.beq n 0 then acc else dgs f (n / 10) (dgc n :: acc)
def decT (n : Nat) : Tx := bif Nat.beq n 0 then [48#8] else dgs 20 n []
def itoT (n : Int) : Tx := if n < 0 then 45#8 :: decT n.natAbs else decT n.toNat
theorem dgs_zero : ∀ f acc, dgs f 0 acc = acc
  | 0, _ => rfl
  | _ + 1, _ => rfl
theorem beq_f {n : Nat} (h : n ≠ 0) : Nat.beq n 0 = false := by
  cases n with
  | zero => exact absurd rfl h
  | succ n => rfl
theorem dgs_step {f n : Nat} (hn : n ≠ 0) (acc : Tx) : dgs (f + 1) n acc = dgs f (n / 10) (dgc n :: acc) := by
  rw [dgs, beq_f hn]; rfl
theorem dgs_acc : ∀ f n acc, dgs f n acc = dgs f n [] ++ acc
  | 0, _, _ => rfl
  | f + 1, n, acc => by
    by_cases hn : n = 0
    · subst hn; rw [dgs_zero, dgs_zero]; rfl
    · rw [dgs_step hn, dgs_step hn, dgs_acc f _ (_ :: acc), dgs_acc f _ [_]]; simp
theorem dgs_more : ∀ f n acc, n < 10 ^ f → dgs (f + 1) n acc = dgs f n acc
  | 0, n, acc, h => by
    obtain rfl : n = 0 := by simpa using h
    rfl
  | f + 1, n, acc, h => by
    by_cases hn : n = 0
    · subst hn; rw [dgs_zero, dgs_zero]
    · rw [dgs_step hn, dgs_step hn, dgs_more f _ _ (by rw [Nat.pow_succ] at h; omega)]
theorem decT_one {n : Nat} (h : n < 10) : decT n = [dgc n] := by
  have : n = 0 ∨ n = 1 ∨ n = 2 ∨ n = 3 ∨ n = 4 ∨ n = 5 ∨ n = 6 ∨ n = 7 ∨ n = 8 ∨ n = 9 := by omega
  rcases this with rfl | rfl | rfl | rfl | rfl | rfl | rfl | rfl | rfl | rfl <;> rfl
theorem decT_step {n : Nat} (h : 10 ≤ n) (h2 : n < 10 ^ 20) : decT n = decT (n / 10) ++ [dgc n] := by
  rw [decT, beq_f (by omega), decT, beq_f (by omega)]
  show dgs 20 n [] = dgs 20 (n / 10) [] ++ [dgc n]
  rw [dgs_step (by omega), dgs_acc, dgs_more 19 _ _ (by omega)]
theorem dgc_toNat (n : Nat) : (dgc n).toNat = 48 + n % 10 := by
  rw [dgc, BitVec.toNat_ofNat]; omega
/-! ### Reading -/
def rdN : Tx → Nat → Option Nat
  | [], n => some n
  | c :: r, n => if c.toNat < 48 ∨ 57 < c.toNat then none else if (18446744073709551615 - (c.toNat - 48)) / 10 < n then none else rdN r (10 * n + (c.toNat - 48))
def bareT (s : Tx) : Option Nat := if s = [] ∨ 20 < s.length ∨ (1 < s.length ∧ s.head? = some 48#8) then none else rdN s 0
def numT : Tx → Option Int
  | [] => none
  | c :: r => if c = 45#8 ∧ r ≠ [] then (match bareT r with
      | some n => if n = 0 ∨ 9223372036854775808 < n then none else some (-(n : Int))
      | none => none)
    else (match bareT (c :: r) with
      | some n => if 9223372036854775807 < n then none else some (n : Int)
      | none => none)
theorem rdN_app : ∀ (a b : Tx) (n : Nat), rdN (a ++ b) n = (rdN a n).bind (rdN b)
  | [], _, _ => rfl
  | c :: r, b, n => by
    simp only [List.cons_append, rdN]
    split
    · rfl
    · split
      · rfl
      · exact rdN_app r b _
theorem rdN_dig {n d : Nat} (h : 10 * n + d % 10 < 18446744073709551616) : rdN [dgc d] n = some (10 * n + d % 10) := by
  simp only [rdN, dgc_toNat]
  rw [if_neg (by omega), if_neg (by omega)]; congr 1; omega
theorem rdN_decT : ∀ (n : Nat), n < 18446744073709551616 → rdN (decT n) 0 = some n := by
  intro n
  induction n using Nat.strongRecOn with
  | _ n ih =>
    intro h
    by_cases hn : n < 10
    · rw [decT_one hn, rdN_dig (by omega)]; congr 1; omega
    · rw [decT_step (by omega) (by omega), rdN_app, ih (n / 10) (by omega) (by omega)]
      show rdN [dgc n] (n / 10) = _
      rw [rdN_dig (by omega)]; congr 1; omega
theorem decT_len : ∀ (n f : Nat), n < 10 ^ (f + 1) → f < 20 → (decT n).length ≤ f + 1 := by
  intro n
  induction n using Nat.strongRecOn with
  | _ n ih =>
    intro f h hf
    by_cases hn : n < 10
    · rw [decT_one hn]; simp
    · cases f with
      | zero => simp at h; omega
      | succ f =>
        have h3 : n < 10 ^ 20 := Nat.lt_of_lt_of_le h (Nat.pow_le_pow_right (by omega) (by omega))
        rw [decT_step (by omega) h3, List.length_append]
        have := ih (n / 10) (by omega) f (by rw [Nat.pow_succ] at h; omega) (by omega)
        simp; omega
theorem decT_ne (n : Nat) (h : n < 10 ^ 20) : decT n ≠ [] := by
  by_cases hn : n < 10
  · rw [decT_one hn]; simp
  · rw [decT_step (by omega) h]; simp
theorem decT_head : ∀ (n : Nat), n < 10 ^ 20 → 0 < n → (decT n).head? ≠ some 48#8 := by
  intro n
  induction n using Nat.strongRecOn with
  | _ n ih =>
    intro h h0 hh
    by_cases hn : n < 10
    · rw [decT_one hn] at hh
      have := congrArg BitVec.toNat (Option.some.inj hh)
      rw [dgc_toNat] at this; simp at this; omega
    · rw [decT_step (by omega) h] at hh
      have h5 := ih (n / 10) (by omega) (by omega) (by omega)
      have h6 := decT_ne (n / 10) (by omega)
      revert hh h5 h6
      cases decT (n / 10) with
      | nil => simp
      | cons c r => simp
theorem bareT_decT {n : Nat} (h : n < 18446744073709551616) : bareT (decT n) = some n := by
  have h20 : n < 10 ^ 20 := by omega
  rw [bareT, if_neg, rdN_decT n h]
  rintro (h1 | h1 | ⟨h1, h2⟩)
  · exact decT_ne n h20 h1
  · have := decT_len n 19 (by omega) (by omega); omega
  · by_cases h0 : n = 0
    · subst h0; simp [decT] at h1
    · exact decT_head n h20 (by omega) h2
theorem rdN_le : ∀ (s : Tx) (m n : Nat), m < 18446744073709551616 → rdN s m = some n → n < 18446744073709551616
  | [], m, n, hm, h => by simp [rdN] at h; omega
  | c :: r, m, n, hm, h => by
    rw [rdN] at h
    split at h
    · cases h
    · split at h
      · cases h
      · exact rdN_le r _ n (by omega) h
theorem dig_of {c : B8} (h1 : ¬ (c.toNat < 48 ∨ 57 < c.toNat)) : dgc (c.toNat - 48) = c := by
  apply BitVec.eq_of_toNat_eq
  rw [dgc_toNat]; omega
theorem decT_rdN : ∀ (k : Nat) (s : Tx) (n : Nat), s.length = k → s ≠ [] → (1 < s.length → s.head? ≠ some 48#8) → rdN s 0 = some n → decT n = s := by
  intro k
  induction k with
  | zero => intro s n hk hs; exact absurd (List.length_eq_zero_iff.1 hk) hs
  | succ k ih =>
    intro s n hk hs hz h
    have h64 := rdN_le s 0 n (by omega) h
    obtain ⟨a, c, rfl⟩ : ∃ a c, s = a ++ [c] := ⟨s.dropLast, s.getLast hs, (List.dropLast_concat_getLast hs).symm⟩
    rw [rdN_app] at h
    cases hm : rdN a 0 with
    | none => rw [hm] at h; cases h
    | some m =>
      rw [hm] at h
      have h : rdN [c] m = some n := h
      rw [rdN] at h
      split at h
      · cases h
      · next hc =>
        split at h
        · cases h
        · next hq =>
          have hn : 10 * m + (c.toNat - 48) = n := by simpa [rdN] using h
          by_cases ha : a = []
          · subst ha
            obtain rfl : 0 = m := by simpa [rdN] using hm
            rw [← hn, Nat.mul_zero, Nat.zero_add, decT_one (by omega), dig_of hc]; rfl
          · have hl : a.length = k := by simp at hk; omega
            have hz' : a.head? ≠ some 48#8 := by
              have := hz (by have := List.length_pos_iff.2 ha; simp; omega)
              revert this ha
              cases a with
              | nil => simp
              | cons x y => simp
            have e := ih a m hl ha (fun _ => hz') hm
            have hm0 : 0 < m := by
              rcases Nat.eq_zero_or_pos m with rfl | h0
              · exfalso; rw [← e] at hz'; exact hz' rfl
              · exact h0
            rw [← hn, decT_step (by omega) (by omega), show (10 * m + (c.toNat - 48)) / 10 = m by omega, e]
            congr 2
            apply BitVec.eq_of_toNat_eq
            rw [dgc_toNat]; omega
theorem decT_bareT {s : Tx} {n : Nat} (h : bareT s = some n) : decT n = s ∧ n < 18446744073709551616 := by
  rw [bareT] at h
  split at h
  · cases h
  · next hc =>
    have hc' : s ≠ [] ∧ ¬ 20 < s.length ∧ ¬ (1 < s.length ∧ s.head? = some 48#8) := ⟨fun e => hc (.inl e), fun e => hc (.inr (.inl e)), fun e => hc (.inr (.inr e))⟩
    exact ⟨decT_rdN _ s n rfl hc'.1 (fun h1 h2 => hc'.2.2 ⟨h1, h2⟩) h, rdN_le s 0 n (by omega) h⟩
theorem dgc_ne45 (n : Nat) : dgc n ≠ 45#8 := by
  intro h; have := congrArg BitVec.toNat h; rw [dgc_toNat] at this; simp at this; omega
theorem decT_no45 : ∀ (n : Nat), n < 10 ^ 20 → (decT n).head? ≠ some 45#8 := by
  intro n
  induction n using Nat.strongRecOn with
  | _ n ih =>
    intro h hh
    by_cases hn : n < 10
    · rw [decT_one hn] at hh; exact dgc_ne45 n (Option.some.inj hh)
    · rw [decT_step (by omega) h] at hh
      have h5 := ih (n / 10) (by omega) (by omega)
      have h6 := decT_ne (n / 10) (by omega)
      revert hh h5 h6
      cases decT (n / 10) with
      | nil => simp
      | cons c r => simp
theorem numT_itoT {v : Int} (h1 : -9223372036854775808 ≤ v) (h2 : v ≤ 9223372036854775807) : numT (itoT v) = some v := by
  by_cases hv : v < 0
  · rw [itoT, if_pos hv, numT, if_pos ⟨rfl, decT_ne _ (by omega)⟩, bareT_decT (by omega)]
    show (if v.natAbs = 0 ∨ _ then none else some (-(v.natAbs : Int))) = some v
    rw [if_neg (by omega)]; congr 1; omega
  · rw [itoT, if_neg hv]
    have hb := bareT_decT (n := v.toNat) (by omega)
    have h45 := decT_no45 v.toNat (by omega)
    have hne := decT_ne v.toNat (by omega)
    revert hb h45 hne
    cases decT v.toNat with
    | nil => simp
    | cons c r =>
      intro hb h45 _
      rw [numT, if_neg (by rintro ⟨rfl, -⟩; simp at h45), hb]
      show (if 9223372036854775807 < v.toNat then none else some (v.toNat : Int)) = some v
      rw [if_neg (by omega)]; congr 1; omega
theorem itoT_numT {s : Tx} {v : Int} (h : numT s = some v) : itoT v = s ∧ -9223372036854775808 ≤ v ∧ v ≤ 9223372036854775807 := by
  cases s with
  | nil => cases h
  | cons c r =>
    rw [numT] at h
    split at h
    · next hc =>
      obtain ⟨rfl, hr⟩ := hc
      cases hb : bareT r with
      | none => rw [hb] at h; cases h
      | some n =>
        rw [hb] at h
        have h : (if n = 0 ∨ 9223372036854775808 < n then none else some (-(n : Int))) = some v := h
        split at h
        · cases h
        · obtain rfl := Option.some.inj h
          obtain ⟨e, -⟩ := decT_bareT hb
          rw [itoT, if_pos (by omega), show (-(n : Int)).natAbs = n by omega, e]
          exact ⟨rfl, by omega, by omega⟩
    · next hc =>
      cases hb : bareT (c :: r) with
      | none => rw [hb] at h; cases h
      | some n =>
        rw [hb] at h
        have h : (if 9223372036854775807 < n then none else some (n : Int)) = some v := h
        split at h
        · cases h
        · obtain rfl := Option.some.inj h
          obtain ⟨e, -⟩ := decT_bareT hb
          rw [itoT, if_neg (by omega), show ((n : Int)).toNat = n by omega, e]
          exact ⟨rfl, by omega, by omega⟩
/-! ### The kit's numerals -/
theorem decT_map : ∀ (n : Nat), n < 10 ^ 20 → (decT n).map UInt8.ofBitVec = Go.Lib.decDigits n := by
  intro n
  induction n using Nat.strongRecOn with
  | _ n ih =>
    intro h
    by_cases hn : n < 10
    · rw [decT_one hn, Go.Lib.decDigits_one hn]
      show [UInt8.ofNat (48 + n % 10)] = _
      rw [Nat.mod_eq_of_lt hn]
    · rw [decT_step (by omega) h, Go.Lib.decDigits, dif_neg hn, List.map_append, ih (n / 10) (by omega) (by omega)]
      rfl
theorem itoT_map {v : Int} (h1 : -9223372036854775808 ≤ v) (h2 : v ≤ 9223372036854775807) : (itoT v).map UInt8.ofBitVec = Go.Lib.itoa v := by
  rw [itoT, Go.Lib.itoa]
  split
  · rw [List.map_cons, decT_map _ (by omega)]; rfl
  · rw [decT_map _ (by omega)]
theorem pu_rdN : ∀ (s : Tx) (m n : Nat), rdN s m = some n → Go.Lib.parseUintM 18446744073709551615 m (s.map UInt8.ofBitVec) = .ok n
  | [], m, n, h => by simp [rdN] at h; simp [Go.Lib.parseUintM, h]
  | c :: r, m, n, h => by
    rw [rdN] at h
    split at h
    · cases h
    · next hc =>
      split at h
      · cases h
      · next hq =>
        have hcn : (UInt8.ofBitVec c).toNat = c.toNat := rfl
        rw [List.map_cons, Go.Lib.parseUintM, hcn, if_pos (by omega), if_neg (by omega), if_neg (by omega)]
        have := pu_rdN r _ n h
        rwa [Nat.mul_comm] at this
theorem pu_decT {n : Nat} (h : n < 18446744073709551616) : Go.Lib.parseUintB 64 ((decT n).map UInt8.ofBitVec) = .ok n := by
  rw [Go.Lib.parseUintB, if_neg (by simpa using decT_ne n (by omega))]
  exact pu_rdN _ 0 n (rdN_decT n h)
theorem pi_itoT {v : Int} (h1 : -9223372036854775808 ≤ v) (h2 : v ≤ 9223372036854775807) : Go.Lib.parseIntB 64 ((itoT v).map UInt8.ofBitVec) = .ok v := by
  by_cases hv : v < 0
  · rw [itoT, if_pos hv, List.map_cons, Go.Lib.parseIntB]
    have h45 : (UInt8.ofBitVec 45#8).toNat = 45 := rfl
    simp only [h45]
    rw [if_pos (Or.inr trivial), pu_decT (by omega)]
    simp only [not_true, false_and, if_false, true_and, if_true]
    rw [if_neg (by omega)]
    congr 1; omega
  · rw [itoT, if_neg hv]
    have h45 := decT_no45 v.toNat (by omega)
    have hne := decT_ne v.toNat (by omega)
    have hp := pu_decT (n := v.toNat) (by omega)
    have h43 : (decT v.toNat).head? ≠ some 43#8 := by
      intro hh
      have := rdN_decT v.toNat (by omega)
      revert this hh
      cases decT v.toNat with
      | nil => simp
      | cons c r => rintro hh; simp at hh; subst hh; simp [rdN]
    revert h45 hne hp h43
    cases decT v.toNat with
    | nil => simp
    | cons c r =>
      intro h45 _ hp h43
      have e45 : (UInt8.ofBitVec c).toNat ≠ 45 := fun e => h45 (by simp; exact BitVec.eq_of_toNat_eq e)
      have e43 : (UInt8.ofBitVec c).toNat ≠ 43 := fun e => h43 (by simp; exact BitVec.eq_of_toNat_eq e)
      rw [List.map_cons] at hp ⊢
      rw [Go.Lib.parseIntB, if_neg (by omega), hp]
      simp only [e45, not_false_eq_true, true_and, false_and, if_false]
      rw [if_neg (by omega)]
      congr 1; omega
end Go.Proofs.YthndhipjfdgdfaaGreatDoor

/-
  Texts cut and joined (plain Lean).
-/
namespace Go.Proofs.YthndhipjfdgdfaaGreatDoor
open Go.PK
/-! ### Texts cut and joined -/
def splL {α : Type} [DecidableEq α] (c : α) : List α → List (List α)
  | [] => [[]]
  | x :: r => if x = c then [] :: splL c r else match splL c r with
    | h :: t => (x :: h) :: t
    | [] => [[x]]
def jnL {α : Type} (c : α) : List (List α) → List α
  | [] => []
  | [a] => a
  | a :: b :: r => a ++ c :: jnL c (b :: r)
def preL {α : Type} (a : List α) : List (List α) → List (List α)
  | h :: t => (a ++ h) :: t
  | [] => [a]
section
variable {α : Type} [DecidableEq α] {c : α}
theorem splL_ne : ∀ s : List α, splL c s ≠ []
  | [] => by simp [splL]
  | x :: r => by
    rw [splL]
    split
    · simp
    · split <;> simp
theorem splL_pre : ∀ (a r : List α), c ∉ a → splL c (a ++ r) = preL a (splL c r)
  | [], r, _ => by
    have := splL_ne (c := c) r
    revert this
    simp only [List.nil_append]
    cases splL c r with
    | nil => simp
    | cons h t => simp [preL]
  | x :: a, r, h => by
    have hx : x ≠ c := fun e => h (by simp [e])
    rw [List.cons_append, splL, if_neg hx, splL_pre a r (fun e => h (by simp [e]))]
    cases splL c r with
    | nil => rfl
    | cons h t => rfl
theorem splL_app (a r : List α) (h : c ∉ a) : splL c (a ++ c :: r) = a :: splL c r := by
  rw [splL_pre _ _ h, splL, if_pos rfl]; simp [preL]
theorem splL_no (a : List α) (h : c ∉ a) : splL c a = [a] := by
  have := splL_pre a [] h
  rw [List.append_nil] at this
  rw [this]; simp [splL, preL]
theorem splL_jn : ∀ l : List (List α), l ≠ [] → (∀ a ∈ l, c ∉ a) → splL c (jnL c l) = l
  | [], h, _ => absurd rfl h
  | [a], _, h => splL_no a (h a (by simp))
  | a :: b :: r, _, h => by
    rw [jnL, splL_app _ _ (h a (by simp)), splL_jn (b :: r) (by simp) (fun x hx => h x (by simp [hx]))]
theorem splL_len : ∀ s : List α, (splL c s).length = s.count c + 1
  | [] => rfl
  | x :: r => by
    have ih := splL_len r
    rw [splL]
    split
    · next h => subst h; simp [ih]
    · next h =>
      rw [List.count_cons_of_ne (by simpa using h)]
      split
      · next e => rw [e] at ih; simpa using ih
      · next e => rw [e] at ih; simp at ih
theorem splL_sum : ∀ s : List α, (splL c s).flatten.length ≤ s.length
  | [] => by simp [splL]
  | x :: r => by
    have ih := splL_sum r
    rw [splL]
    split
    · simp; simp at ih; omega
    · split
      · next e => rw [e] at ih; simp at ih ⊢; omega
      · simp
end
theorem splL_map {α β : Type} [DecidableEq α] [DecidableEq β] {f : α → β} (hf : ∀ a b, f a = f b → a = b) {c : α} : ∀ s : List α, splL (f c) (s.map f) = (splL c s).map (List.map f)
  | [] => rfl
  | x :: r => by
    rw [List.map_cons, splL, splL, splL_map hf r]
    by_cases h : x = c
    · rw [if_pos h, if_pos (by rw [h])]; rfl
    · rw [if_neg h, if_neg (fun e => h (hf _ _ e))]
      cases splL c r <;> rfl
theorem splK_eq (c : UInt8) : ∀ (k : Nat) (s : List UInt8), s.count c = k → Go.Lib.splitK [c] 0 k s = splL c s
  | 0, s, h => by
    rw [Go.Lib.splitK, splL_no s (List.count_eq_zero.1 h)]
  | k + 1, s, h => by
    rw [Go.Lib.splitK, Go.Lib.index_one]
    have hm : c ∈ s := by
      rcases Classical.em (c ∈ s) with hm | hm
      · exact hm
      · rw [List.count_eq_zero.2 hm] at h; omega
    obtain ⟨i, hi⟩ : ∃ i : Nat, Go.Lib.indexByte s c = i := by
      have hge := Go.Lib.indexByte_ge s c
      have hne : Go.Lib.indexByte s c ≠ -1 := fun e => by
        obtain ⟨j, hj, rfl⟩ := List.mem_iff_getElem.1 hm
        exact Go.Lib.indexByte_none e j (List.getElem?_eq_getElem hj)
      exact ⟨(Go.Lib.indexByte s c).toNat, by omega⟩
    obtain ⟨h1, h2⟩ := Go.Lib.indexByte_some hi
    have hlt : i < s.length := (List.getElem?_eq_some_iff.1 h1).1
    rw [if_neg (by rw [hi, beq_iff_eq]; omega), hi]
    have e : s = s.take i ++ c :: s.drop (i + 1) := by
      conv => lhs; rw [← List.take_append_drop i s]
      rw [List.drop_eq_getElem_cons hlt, (List.getElem?_eq_some_iff.1 h1).2]
    have hc : c ∉ s.take i := fun hx => by
      obtain ⟨j, hj, e2⟩ := List.mem_iff_getElem.1 hx
      have hj' : j < i := by simp at hj; omega
      refine h2 j hj' ?_
      rw [List.getElem?_eq_getElem (by omega)]
      rw [List.getElem_take] at e2; rw [e2]
    have hk : (s.drop (i + 1)).count c = k := by
      rw [e, List.count_append, List.count_eq_zero.2 hc] at h
      simp at h; omega
    conv => rhs; rw [e]
    rw [splL_app _ _ hc, ← splK_eq c k _ hk]
    simp
theorem jnL_map {α β : Type} (f : α → β) (c : α) : ∀ l : List (List α), (jnL c l).map f = jnL (f c) (l.map (List.map f))
  | [] => rfl
  | [a] => rfl
  | a :: b :: r => by
    rw [jnL, List.map_append, List.map_cons, jnL_map f c (b :: r)]; rfl
theorem join_jn (c : UInt8) : ∀ l : List (List UInt8), Go.Lib.join l [c] = jnL c l
  | [] => rfl
  | [a] => by rw [Go.Lib.join_one]; rfl
  | a :: b :: r => by
    rw [Go.Lib.join_cons, jnL, ← join_jn c (b :: r), Go.Lib.join_cons]
    simp [Go.Lib.joinTail]
theorem jnL_len {α : Type} (c : α) : ∀ l : List (List α), (jnL c l).length ≤ l.flatten.length + l.length
  | [] => by simp [jnL]
  | [a] => by simp [jnL]
  | a :: b :: r => by
    have := jnL_len c (b :: r)
    rw [jnL]; simp at this ⊢; omega
end Go.Proofs.YthndhipjfdgdfaaGreatDoor

/-
  Plans: what they are, whether they may be, how they are written and read (plain Lean).
-/
namespace Go.Proofs.YthndhipjfdgdfaaGreatDoor
open Go.PK
/-! ### Plans -/
abbrev Pt := Int × Int
structure Zn where
  keep : Bool
  L : List Pt
  fl : Int
  rf : Int
structure Pl where
  cf : Cf
  zs : List Zn
  de : Int
  ra : Int
  mo : Int
  sz : Int
def ptB (p : Pt) : Bool := decide ((-2305843009213693952 ≤ p.1 ∧ p.1 ≤ 2305843009213693952) ∧ (-2305843009213693952 ≤ p.2 ∧ p.2 ≤ 2305843009213693952))
def edgB (L : List Pt) (i : Nat) : Bool := match L[i]?, L[(i + 1) % L.length]? with
  | some a, some b => ptB a && !(decide (a = b))
  | _, _ => true
def Zn.ok (z : Zn) : Bool := decide (3 ≤ z.L.length ∧ z.L.length ≤ 16 ∧ z.fl ≤ z.rf) && (List.range z.L.length).all (edgB z.L)
def Zn.err (z : Zn) : Int := if z.ok = true then 0 else 2
def synB (d r m : Int) : Bool := decide (0 ≤ d ∧ d ≤ 65535 ∧ 0 ≤ r ∧ r ≤ 1048576 ∧ 1 ≤ m ∧ m ≤ 100)
def traB (n : Int) : Bool := decide (1 ≤ n ∧ n ≤ 4096)
def Sr.zero (s : Sr) : Bool := decide (s.w = 0 ∧ s.g = 0 ∧ s.st = 0 ∧ s.hz = 0 ∧ s.wt.go = 0 ∧ s.wt.gg = 0 ∧ s.wt.gm = 0 ∧ s.wt.sl = 0 ∧ s.wt.mo = 0 ∧ s.wt.sa = 0 ∧ s.wt.ra = 0 ∧ s.wt.ba = 0 ∧ s.wt.ho = 0 ∧ s.wt.pr = 0)
def Sr.bare (s : Sr) : Bool := aidB s.kd || s.zero
def Pl.ok (p : Pl) : Bool := (p.cf.ok && synB p.de p.ra p.mo && traB p.sz) && (decide (p.zs.length ≤ 8) && p.zs.all Zn.ok && p.cf.L.all Sr.bare)
def Pl.err (p : Pl) : Int := if p.ok = true then 0 else 310
/-! ### Names -/
def nGravity : Tx := [103#8, 114#8, 97#8, 118#8, 105#8, 116#8, 121#8]
def nDrift : Tx := [100#8, 114#8, 105#8, 102#8, 116#8]
def nSlot : Tx := [115#8, 108#8, 111#8, 116#8]
def nCommit : Tx := [99#8, 111#8, 109#8, 109#8, 105#8, 116#8]
def nLock : Tx := [108#8, 111#8, 99#8, 107#8]
def nGrace : Tx := [103#8, 114#8, 97#8, 99#8, 101#8]
def nStride : Tx := [115#8, 116#8, 114#8, 105#8, 100#8, 101#8]
def nClock : Tx := [99#8, 108#8, 111#8, 99#8, 107#8]
def nTrace : Tx := [116#8, 114#8, 97#8, 99#8, 101#8]
def nSource : Tx := [115#8, 111#8, 117#8, 114#8, 99#8, 101#8]
def nZone : Tx := [122#8, 111#8, 110#8, 101#8]
def nIn : Tx := [105#8, 110#8]
def nOut : Tx := [111#8, 117#8, 116#8]
def nmL : List Tx := [nGravity, nDrift, nSlot, nCommit, nLock, nGrace, nStride, nClock, nTrace]
/-! ### Keys -/
def hexd (c : B8) : Option Nat := if 48 ≤ c.toNat ∧ c.toNat ≤ 57 then some (c.toNat - 48) else if 97 ≤ c.toNat ∧ c.toNat ≤ 102 then some (c.toNat - 87) else none
def hexv (c : B8) : Nat := (hexd c).getD 0
def hexc (n : Nat) : B8 := BitVec.ofNat 8 (if n < 10 then 48 + n else 87 + n)
def hexOk (s : Tx) : Bool := s.all fun c => (hexd c).isSome
def keyB (s : Tx) : List B8 := (List.range 32).map fun j => BitVec.ofNat 8 (16 * hexv (s.getD (2 * j) 0#8) + hexv (s.getD (2 * j + 1) 0#8))
def keyT (s : Tx) : Option (List B8) := if s.length = 64 ∧ hexOk s = true then some (keyB s) else none
def hexT (k : List B8) : Tx := k.flatMap fun b => [hexc (b.toNat / 16), hexc (b.toNat % 16)]
/-! ### Lines -/
def numsL : List Tx → Option (List Int)
  | [] => some []
  | a :: r => match numT a, numsL r with
    | some v, some l => some (v :: l)
    | _, _ => none
def pairsL : List Int → List Pt
  | a :: b :: r => (a, b) :: pairsL r
  | _ => []
def srcT : List Tx → Option Sr
  | a :: b :: k :: r => match numT a, numT b, keyT k with
    | some id, some kd, some rt => if aidB kd = true then (match numsL r with
        | some [w, g, st, hz, go, gg, gm, sl, mo, sa, ra, ba, ho, pr] => some ⟨id, kd, rt, w, g, st, hz, ⟨go, gg, gm, sl, mo, sa, ra, ba, ho, pr⟩⟩
        | _ => none)
      else if r = [] then some ⟨id, kd, rt, 0, 0, 0, 0, ⟨0, 0, 0, 0, 0, 0, 0, 0, 0, 0⟩⟩ else none
    | _, _, _ => none
  | _ => none
def zonT : List Tx → Option Zn
  | k :: r => if k = nIn ∨ k = nOut then (match numsL r with
      | some (f :: g :: l) => if l.length % 2 = 0 then some ⟨decide (k = nIn), pairsL l, f, g⟩ else none
      | _ => none)
    else none
  | [] => none
def oneT (p : Pl) (nm : Tx) (w : List Tx) : Option Pl :=
  if nm = nGravity then (match numsL w with
    | some [a, b, c] => some { p with cf := { p.cf with g0 := a, g1 := b, g2 := c } }
    | _ => none)
  else if nm = nDrift then (match numsL w with
    | some [a] => some { p with cf := { p.cf with dr := a } }
    | _ => none)
  else if nm = nSlot then (match numsL w with
    | some [a, b, c, d] => some { p with cf := { p.cf with sc := ⟨a, b, c, d⟩ } }
    | _ => none)
  else if nm = nCommit then (match w with
    | [k] => (match keyT k with
      | some b => some { p with cf := { p.cf with cm := b } }
      | none => none)
    | _ => none)
  else if nm = nLock then (match numsL w with
    | some [a, b] => some { p with cf := { p.cf with mo := a, ti := b } }
    | _ => none)
  else if nm = nGrace then (match numsL w with
    | some [a] => some { p with cf := { p.cf with gr := a } }
    | _ => none)
  else if nm = nStride then (match w with
    | [k] => (match bareT k with
      | some n => some { p with cf := { p.cf with sd := n } }
      | none => none)
    | _ => none)
  else if nm = nClock then (match numsL w with
    | some [a, b, c] => some { p with de := a, ra := b, mo := c }
    | _ => none)
  else if nm = nTrace then (match numsL w with
    | some [a] => some { p with sz := a }
    | _ => none)
  else none
def lineT (p : Pl) (nm : Tx) (w : List Tx) : Option Pl :=
  if nm = nSource then (match srcT w with
    | some s => some { p with cf := { p.cf with L := p.cf.L ++ [s] } }
    | none => none)
  else if nm = nZone then (match zonT w with
    | some z => some { p with zs := p.zs ++ [z] }
    | none => none)
  else oneT p nm w
abbrev PS := Pl × List Tx
def stepT (st : PS) (l : Tx) : Option PS := match splL 32#8 l with
  | [] => none
  | nm :: w => match lineT st.1 nm w with
    | none => none
    | some q => if nm ≠ nSource ∧ nm ≠ nZone ∧ nm ∈ st.2 then none else some (q, st.2 ++ [nm])
def saysT : Tx → Bool
  | [] => false
  | c :: _ => !(c == 35#8)
/-- All lines: the number of the line that is none, or what they say. -/
def runT : List Tx → Nat → PS → Nat ⊕ PS
  | [], _, st => .inr st
  | l :: r, k, st => if saysT l = true then (match stepT st l with
      | none => .inl (k + 1)
      | some st' => runT r (k + 1) st')
    else runT r (k + 1) st
def zeroPl : Pl := ⟨⟨0, 0, 0, 0, ⟨0, 0, 0, 0⟩, List.replicate 32 0, 0, 0, 0, 0, []⟩, [], 0, 0, 0, 0⟩
def allT (seen : List Tx) : Bool := nmL.all fun n => decide (n ∈ seen)
/-- A text, read: the plan, the line at fault, the error. -/
def parseT (t : Tx) : Pl × Nat × Int :=
  if 65536 < t.length then (zeroPl, 0, 3)
  else if 64 < (splL 10#8 t).countP saysT then (zeroPl, 0, 3)
  else match runT (splL 10#8 t) 0 (zeroPl, []) with
    | .inl k => (zeroPl, k, 380)
    | .inr st => if allT st.2 = true then (if st.1.ok = true then (st.1, 0, 0) else (zeroPl, 0, 310)) else (zeroPl, 0, 380)
/-! ### Written -/
def srcP (s : Sr) : List Tx := nSource :: itoT s.id :: itoT s.kd :: hexT s.rt :: (if aidB s.kd = true then [itoT s.w, itoT s.g, itoT s.st, itoT s.hz, itoT s.wt.go, itoT s.wt.gg, itoT s.wt.gm, itoT s.wt.sl, itoT s.wt.mo, itoT s.wt.sa, itoT s.wt.ra, itoT s.wt.ba, itoT s.wt.ho, itoT s.wt.pr] else [])
def zonP (z : Zn) : List Tx := nZone :: (if z.keep = true then nIn else nOut) :: itoT z.fl :: itoT z.rf :: z.L.flatMap fun p => [itoT p.1, itoT p.2]
def nineP (p : Pl) : List (List Tx) := [[nGravity, itoT p.cf.g0, itoT p.cf.g1, itoT p.cf.g2], [nDrift, itoT p.cf.dr], [nSlot, itoT p.cf.sc.st, itoT p.cf.sc.ln, itoT p.cf.sc.lg, itoT p.cf.sc.of], [nCommit, hexT p.cf.cm], [nLock, itoT p.cf.mo, itoT p.cf.ti], [nGrace, itoT p.cf.gr], [nStride, decT p.cf.sd.toNat], [nClock, itoT p.de, itoT p.ra, itoT p.mo], [nTrace, itoT p.sz]]
def plP (p : Pl) : List (List Tx) := nineP p ++ p.cf.L.map srcP ++ p.zs.map zonP
def lnP (w : List Tx) : Tx := jnL 32#8 w ++ [10#8]
def prT (p : Pl) : Tx := (plP p).flatMap lnP
/-! ### In memory -/
abbrev ZO := Zn × Option Nat × Nat
def Pt.cells (p : Pt) : List Value := [.int .i64 p.1, .int .i64 p.2]
def znC (k : Bool) (sl : Value) (f r : Int) : List Value := [.bool k, sl, .int .i64 f, .int .i64 r]
def znO (z : ZO) : List Value := znC z.1.keep (slO z.2.1 z.1.L.length z.2.2) z.1.fl z.1.rf
/-- A zone's corners, told. -/
def znS (z : ZO) : It := sls (z.2.1.map fun b => ⟨b, 0, none⟩) 2 z.1.L.length (z.1.L.flatMap Pt.cells)
def plC (P : Pl) (sl zl : Value) : List Value := P.cf.cells sl ++ [zl, .int .i64 P.de, .int .i64 P.ra, .int .i64 P.mo, .int .i64 P.sz]
end Go.Proofs.YthndhipjfdgdfaaGreatDoor
