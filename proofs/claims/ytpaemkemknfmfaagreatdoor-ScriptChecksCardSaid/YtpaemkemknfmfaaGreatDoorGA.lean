import Derived.Test.YtpaemkemknfmfaaGreatDoorPD
import Derived.Lib.ItoaNum
import Derived.Lib.ParseIntB
import Derived.Lib.SplitLaws
import Derived.Lib.IndexLaws
import Derived.Lib.IndexBytes
import Derived.Lib.Join
import Derived.Lib.Replace
set_option linter.unusedVariables false
set_option linter.unusedSimpArgs false
/-
  Numerals: written and read (plain Lean).
-/
namespace Go.Proofs.YtpaemkemknfmfaaGreatDoor
open Go.PK
abbrev Tx := List B8
/-! ### Numerals -/
def dgc (n : Nat) : B8 := BitVec.ofNat 8 (48 + n % 10)
def dgs : Nat → Nat → Tx → Tx
  | 0, _, acc => acc
  | f + 1, n, acc => bif Nat.beq n 0 then acc else dgs f (n / 10) (dgc n :: acc)
def decT (n : Nat) : Tx := bif Nat.beq n 0 then [48#8] else dgs 20 n []
def itoT (n : Int) : Tx := if n < 0 then 45#8 :: decT n.natAbs else decT n.toNat
theorem dgs_zero : ∀ f acc, dgs f 0 acc = acc
  | 0, _ => rfl
  | _ + 1, _ => rfl
theorem beq_f {n : Nat} (h : n ≠ 0) : Nat.beq n 0 = false := by
  cases n with
  | zero => exact absurd rfl h
  | succ n => rfl
theorem dgs_step {f n : Nat} (hn : n ≠ 0) (acc : Tx) : dgs (f + 1) n acc = dgs f (n / 10) (dgc n :: acc) := by
  rw [dgs, beq_f hn]; rfl
theorem dgs_acc : ∀ f n acc, dgs f n acc = dgs f n [] ++ acc
  | 0, _, _ => rfl
  | f + 1, n, acc => by
    by_cases hn : n = 0
    · subst hn; rw [dgs_zero, dgs_zero]; rfl
    · rw [dgs_step hn, dgs_step hn, dgs_acc f _ (_ :: acc), dgs_acc f _ [_]]; simp
theorem dgs_more : ∀ f n acc, n < 10 ^ f → dgs (f + 1) n acc = dgs f n acc
  | 0, n, acc, h => by
    obtain rfl : n = 0 := by simpa using h
    rfl
  | f + 1, n, acc, h => by
    by_cases hn : n = 0
    · subst hn; rw [dgs_zero, dgs_zero]
    · rw [dgs_step hn, dgs_step hn, dgs_more f _ _ (by rw [Nat.pow_succ] at h; omega)]
theorem decT_one {n : Nat} (h : n < 10) : decT n = [dgc n] := by
  have : n = 0 ∨ n = 1 ∨ n = 2 ∨ n = 3 ∨ n = 4 ∨ n = 5 ∨ n = 6 ∨ n = 7 ∨ n = 8 ∨ n = 9 := by omega
  rcases this with rfl | rfl | rfl | rfl | rfl | rfl | rfl | rfl | rfl | rfl <;> rfl
theorem decT_step {n : Nat} (h : 10 ≤ n) (h2 : n < 10 ^ 20) : decT n = decT (n / 10) ++ [dgc n] := by
  rw [decT, beq_f (by omega), decT, beq_f (by omega)]
  show dgs 20 n [] = dgs 20 (n / 10) [] ++ [dgc n]
  rw [dgs_step (by omega), dgs_acc, dgs_more 19 _ _ (by omega)]
theorem dgc_toNat (n : Nat) : (dgc n).toNat = 48 + n % 10 := by
  rw [dgc, BitVec.toNat_ofNat]; omega
/-! ### Reading -/
def rdNu : Tx → Nat → Option Nat
  | [], n => some n
  | c :: r, n => if c.toNat < 48 ∨ 57 < c.toNat then none else if (18446744073709551615 - (c.toNat - 48)) / 10 < n then none else rdNu r (10 * n + (c.toNat - 48))
def bareT (s : Tx) : Option Nat := if s = [] ∨ 20 < s.length ∨ (1 < s.length ∧ s.head? = some 48#8) then none else rdNu s 0
def numT : Tx → Option Int
  | [] => none
  | c :: r => if c = 45#8 ∧ r ≠ [] then (match bareT r with
      | some n => if n = 0 ∨ 9223372036854775808 < n then none else some (-(n : Int))
      | none => none)
    else (match bareT (c :: r) with
      | some n => if 9223372036854775807 < n then none else some (n : Int)
      | none => none)
theorem rdN_app : ∀ (a b : Tx) (n : Nat), rdNu (a ++ b) n = (rdNu a n).bind (rdNu b)
  | [], _, _ => rfl
  | c :: r, b, n => by
    simp only [List.cons_append, rdNu]
    split
    · rfl
    · split
      · rfl
      · exact rdN_app r b _
theorem rdN_dig {n d : Nat} (h : 10 * n + d % 10 < 18446744073709551616) : rdNu [dgc d] n = some (10 * n + d % 10) := by
  simp only [rdNu, dgc_toNat]
  rw [if_neg (by omega), if_neg (by omega)]; congr 1; omega
theorem rdN_decT : ∀ (n : Nat), n < 18446744073709551616 → rdNu (decT n) 0 = some n := by
  intro n
  induction n using Nat.strongRecOn with
  | _ n ih =>
    intro h
    by_cases hn : n < 10
    · rw [decT_one hn, rdN_dig (by omega)]; congr 1; omega
    · rw [decT_step (by omega) (by omega), rdN_app, ih (n / 10) (by omega) (by omega)]
      show rdNu [dgc n] (n / 10) = _
      rw [rdN_dig (by omega)]; congr 1; omega
theorem decT_len : ∀ (n f : Nat), n < 10 ^ (f + 1) → f < 20 → (decT n).length ≤ f + 1 := by
  intro n
  induction n using Nat.strongRecOn with
  | _ n ih =>
    intro f h hf
    by_cases hn : n < 10
    · rw [decT_one hn]; simp
    · cases f with
      | zero => simp at h; omega
      | succ f =>
        have h3 : n < 10 ^ 20 := Nat.lt_of_lt_of_le h (Nat.pow_le_pow_right (by omega) (by omega))
        rw [decT_step (by omega) h3, List.length_append]
        have := ih (n / 10) (by omega) f (by rw [Nat.pow_succ] at h; omega) (by omega)
        simp; omega
theorem decT_ne (n : Nat) (h : n < 10 ^ 20) : decT n ≠ [] := by
  by_cases hn : n < 10
  · rw [decT_one hn]; simp
  · rw [decT_step (by omega) h]; simp
theorem decT_head : ∀ (n : Nat), n < 10 ^ 20 → 0 < n → (decT n).head? ≠ some 48#8 := by
  intro n
  induction n using Nat.strongRecOn with
  | _ n ih =>
    intro h h0 hh
    by_cases hn : n < 10
    · rw [decT_one hn] at hh
      have := congrArg BitVec.toNat (Option.some.inj hh)
      rw [dgc_toNat] at this; simp at this; omega
    · rw [decT_step (by omega) h] at hh
      have h5 := ih (n / 10) (by omega) (by omega) (by omega)
      have h6 := decT_ne (n / 10) (by omega)
      revert hh h5 h6
      cases decT (n / 10) with
      | nil => simp
      | cons c r => simp
theorem bareT_decT {n : Nat} (h : n < 18446744073709551616) : bareT (decT n) = some n := by
  have h20 : n < 10 ^ 20 := by omega
  rw [bareT, if_neg, rdN_decT n h]
  rintro (h1 | h1 | ⟨h1, h2⟩)
  · exact decT_ne n h20 h1
  · have := decT_len n 19 (by omega) (by omega); omega
  · by_cases h0 : n = 0
    · subst h0; simp [decT] at h1
    · exact decT_head n h20 (by omega) h2
theorem rdN_le : ∀ (s : Tx) (m n : Nat), m < 18446744073709551616 → rdNu s m = some n → n < 18446744073709551616
  | [], m, n, hm, h => by simp [rdNu] at h; omega
  | c :: r, m, n, hm, h => by
    rw [rdNu] at h
    split at h
    · cases h
    · split at h
      · cases h
      · exact rdN_le r _ n (by omega) h
theorem dig_of {c : B8} (h1 : ¬ (c.toNat < 48 ∨ 57 < c.toNat)) : dgc (c.toNat - 48) = c := by
  apply BitVec.eq_of_toNat_eq
  rw [dgc_toNat]; omega
theorem decT_rdN : ∀ (k : Nat) (s : Tx) (n : Nat), s.length = k → s ≠ [] → (1 < s.length → s.head? ≠ some 48#8) → rdNu s 0 = some n → decT n = s := by
  intro k
  induction k with
  | zero => intro s n hk hs; exact absurd (List.length_eq_zero_iff.1 hk) hs
  | succ k ih =>
    intro s n hk hs hz h
    have h64 := rdN_le s 0 n (by omega) h
    obtain ⟨a, c, rfl⟩ : ∃ a c, s = a ++ [c] := ⟨s.dropLast, s.getLast hs, (List.dropLast_concat_getLast hs).symm⟩
    rw [rdN_app] at h
    cases hm : rdNu a 0 with
    | none => rw [hm] at h; cases h
    | some m =>
      rw [hm] at h
      have h : rdNu [c] m = some n := h
      rw [rdNu] at h
      split at h
      · cases h
      · next hc =>
        split at h
        · cases h
        · next hq =>
          have hn : 10 * m + (c.toNat - 48) = n := by simpa [rdNu] using h
          by_cases ha : a = []
          · subst ha
            obtain rfl : 0 = m := by simpa [rdNu] using hm
            rw [← hn, Nat.mul_zero, Nat.zero_add, decT_one (by omega), dig_of hc]; rfl
          · have hl : a.length = k := by simp at hk; omega
            have hz' : a.head? ≠ some 48#8 := by
              have := hz (by have := List.length_pos_iff.2 ha; simp; omega)
              revert this ha
              cases a with
              | nil => simp
              | cons x y => simp
            have e := ih a m hl ha (fun _ => hz') hm
            have hm0 : 0 < m := by
              rcases Nat.eq_zero_or_pos m with rfl | h0
              · exfalso; rw [← e] at hz'; exact hz' rfl
              · exact h0
            rw [← hn, decT_step (by omega) (by omega), show (10 * m + (c.toNat - 48)) / 10 = m by omega, e]
            congr 2
            apply BitVec.eq_of_toNat_eq
            rw [dgc_toNat]; omega
theorem decT_bareT {s : Tx} {n : Nat} (h : bareT s = some n) : decT n = s ∧ n < 18446744073709551616 := by
  rw [bareT] at h
  split at h
  · cases h
  · next hc =>
    have hc' : s ≠ [] ∧ ¬ 20 < s.length ∧ ¬ (1 < s.length ∧ s.head? = some 48#8) := ⟨fun e => hc (.inl e), fun e => hc (.inr (.inl e)), fun e => hc (.inr (.inr e))⟩
    exact ⟨decT_rdN _ s n rfl hc'.1 (fun h1 h2 => hc'.2.2 ⟨h1, h2⟩) h, rdN_le s 0 n (by omega) h⟩
theorem dgc_ne45 (n : Nat) : dgc n ≠ 45#8 := by
  intro h; have := congrArg BitVec.toNat h; rw [dgc_toNat] at this; simp at this; omega
theorem decT_no45 : ∀ (n : Nat), n < 10 ^ 20 → (decT n).head? ≠ some 45#8 := by
  intro n
  induction n using Nat.strongRecOn with
  | _ n ih =>
    intro h hh
    by_cases hn : n < 10
    · rw [decT_one hn] at hh; exact dgc_ne45 n (Option.some.inj hh)
    · rw [decT_step (by omega) h] at hh
      have h5 := ih (n / 10) (by omega) (by omega)
      have h6 := decT_ne (n / 10) (by omega)
      revert hh h5 h6
      cases decT (n / 10) with
      | nil => simp
      | cons c r => simp
theorem numT_itoT {v : Int} (h1 : -9223372036854775808 ≤ v) (h2 : v ≤ 9223372036854775807) : numT (itoT v) = some v := by
  by_cases hv : v < 0
  · rw [itoT, if_pos hv, numT, if_pos ⟨rfl, decT_ne _ (by omega)⟩, bareT_decT (by omega)]
    show (if v.natAbs = 0 ∨ _ then none else some (-(v.natAbs : Int))) = some v
    rw [if_neg (by omega)]; congr 1; omega
  · rw [itoT, if_neg hv]
    have hb := bareT_decT (n := v.toNat) (by omega)
    have h45 := decT_no45 v.toNat (by omega)
    have hne := decT_ne v.toNat (by omega)
    revert hb h45 hne
    cases decT v.toNat with
    | nil => simp
    | cons c r =>
      intro hb h45 _
      rw [numT, if_neg (by rintro ⟨rfl, -⟩; simp at h45), hb]
      show (if 9223372036854775807 < v.toNat then none else some (v.toNat : Int)) = some v
      rw [if_neg (by omega)]; congr 1; omega
theorem itoT_numT {s : Tx} {v : Int} (h : numT s = some v) : itoT v = s ∧ -9223372036854775808 ≤ v ∧ v ≤ 9223372036854775807 := by
  cases s with
  | nil => cases h
  | cons c r =>
    rw [numT] at h
    split at h
    · next hc =>
      obtain ⟨rfl, hr⟩ := hc
      cases hb : bareT r with
      | none => rw [hb] at h; cases h
      | some n =>
        rw [hb] at h
        have h : (if n = 0 ∨ 9223372036854775808 < n then none else some (-(n : Int))) = some v := h
        split at h
        · cases h
        · obtain rfl := Option.some.inj h
          obtain ⟨e, -⟩ := decT_bareT hb
          rw [itoT, if_pos (by omega), show (-(n : Int)).natAbs = n by omega, e]
          exact ⟨rfl, by omega, by omega⟩
    · next hc =>
      cases hb : bareT (c :: r) with
      | none => rw [hb] at h; cases h
      | some n =>
        rw [hb] at h
        have h : (if 9223372036854775807 < n then none else some (n : Int)) = some v := h
        split at h
        · cases h
        · obtain rfl := Option.some.inj h
          obtain ⟨e, -⟩ := decT_bareT hb
          rw [itoT, if_neg (by omega), show ((n : Int)).toNat = n by omega, e]
          exact ⟨rfl, by omega, by omega⟩
/-! ### The kit's numerals -/
theorem decT_map : ∀ (n : Nat), n < 10 ^ 20 → (decT n).map UInt8.ofBitVec = Go.Lib.decDigits n := by
  intro n
  induction n using Nat.strongRecOn with
  | _ n ih =>
    intro h
    by_cases hn : n < 10
    · rw [decT_one hn, Go.Lib.decDigits_one hn]
      show [UInt8.ofNat (48 + n % 10)] = _
      rw [Nat.mod_eq_of_lt hn]
    · rw [decT_step (by omega) h, Go.Lib.decDigits, dif_neg hn, List.map_append, ih (n / 10) (by omega) (by omega)]
      rfl
theorem itoT_map {v : Int} (h1 : -9223372036854775808 ≤ v) (h2 : v ≤ 9223372036854775807) : (itoT v).map UInt8.ofBitVec = Go.Lib.itoa v := by
  rw [itoT, Go.Lib.itoa]
  split
  · rw [List.map_cons, decT_map _ (by omega)]; rfl
  · rw [decT_map _ (by omega)]
theorem pu_rdN : ∀ (s : Tx) (m n : Nat), rdNu s m = some n → Go.Lib.parseUintM 18446744073709551615 m (s.map UInt8.ofBitVec) = .ok n
  | [], m, n, h => by simp [rdNu] at h; simp [Go.Lib.parseUintM, h]
  | c :: r, m, n, h => by
    rw [rdNu] at h
    split at h
    · cases h
    · next hc =>
      split at h
      · cases h
      · next hq =>
        have hcn : (UInt8.ofBitVec c).toNat = c.toNat := rfl
        rw [List.map_cons, Go.Lib.parseUintM, hcn, if_pos (by omega), if_neg (by omega), if_neg (by omega)]
        have := pu_rdN r _ n h
        rwa [Nat.mul_comm] at this
theorem pu_decT {n : Nat} (h : n < 18446744073709551616) : Go.Lib.parseUintB 64 ((decT n).map UInt8.ofBitVec) = .ok n := by
  rw [Go.Lib.parseUintB, if_neg (by simpa using decT_ne n (by omega))]
  exact pu_rdN _ 0 n (rdN_decT n h)
theorem pi_itoT {v : Int} (h1 : -9223372036854775808 ≤ v) (h2 : v ≤ 9223372036854775807) : Go.Lib.parseIntB 64 ((itoT v).map UInt8.ofBitVec) = .ok v := by
  by_cases hv : v < 0
  · rw [itoT, if_pos hv, List.map_cons, Go.Lib.parseIntB]
    have h45 : (UInt8.ofBitVec 45#8).toNat = 45 := rfl
    simp only [h45]
    rw [if_pos (Or.inr trivial), pu_decT (by omega)]
    simp only [not_true, false_and, if_false, true_and, if_true]
    rw [if_neg (by omega)]
    congr 1; omega
  · rw [itoT, if_neg hv]
    have h45 := decT_no45 v.toNat (by omega)
    have hne := decT_ne v.toNat (by omega)
    have hp := pu_decT (n := v.toNat) (by omega)
    have h43 : (decT v.toNat).head? ≠ some 43#8 := by
      intro hh
      have := rdN_decT v.toNat (by omega)
      revert this hh
      cases decT v.toNat with
      | nil => simp
      | cons c r => rintro hh; simp at hh; subst hh; simp [rdNu]
    revert h45 hne hp h43
    cases decT v.toNat with
    | nil => simp
    | cons c r =>
      intro h45 _ hp h43
      have e45 : (UInt8.ofBitVec c).toNat ≠ 45 := fun e => h45 (by simp; exact BitVec.eq_of_toNat_eq e)
      have e43 : (UInt8.ofBitVec c).toNat ≠ 43 := fun e => h43 (by simp; exact BitVec.eq_of_toNat_eq e)
      rw [List.map_cons] at hp ⊢
      rw [Go.Lib.parseIntB, if_neg (by omega), hp]
      simp only [e45, not_false_eq_true, true_and, false_and, if_false]
      rw [if_neg (by omega)]
      congr 1; omega
end Go.Proofs.YtpaemkemknfmfaaGreatDoor

/-
  Texts cut and joined (plain Lean).
-/
namespace Go.Proofs.YtpaemkemknfmfaaGreatDoor
open Go.PK
/-! ### Texts cut and joined -/
def splL {α : Type} [DecidableEq α] (c : α) : List α → List (List α)
  | [] => [[]]
  | x :: r => if x = c then [] :: splL c r else match splL c r with
    | h :: t => (x :: h) :: t
    | [] => [[x]]
def jnL {α : Type} (c : α) : List (List α) → List α
  | [] => []
  | [a] => a
  | a :: b :: r => a ++ c :: jnL c (b :: r)
def preL {α : Type} (a : List α) : List (List α) → List (List α)
  | h :: t => (a ++ h) :: t
  | [] => [a]
section
variable {α : Type} [DecidableEq α] {c : α}
theorem splL_ne : ∀ s : List α, splL c s ≠ []
  | [] => by simp [splL]
  | x :: r => by
    rw [splL]
    split
    · simp
    · split <;> simp
theorem splL_pre : ∀ (a r : List α), c ∉ a → splL c (a ++ r) = preL a (splL c r)
  | [], r, _ => by
    have := splL_ne (c := c) r
    revert this
    simp only [List.nil_append]
    cases splL c r with
    | nil => simp
    | cons h t => simp [preL]
  | x :: a, r, h => by
    have hx : x ≠ c := fun e => h (by simp [e])
    rw [List.cons_append, splL, if_neg hx, splL_pre a r (fun e => h (by simp [e]))]
    cases splL c r with
    | nil => rfl
    | cons h t => rfl
theorem splL_app (a r : List α) (h : c ∉ a) : splL c (a ++ c :: r) = a :: splL c r := by
  rw [splL_pre _ _ h, splL, if_pos rfl]; simp [preL]
theorem splL_no (a : List α) (h : c ∉ a) : splL c a = [a] := by
  have := splL_pre a [] h
  rw [List.append_nil] at this
  rw [this]; simp [splL, preL]
theorem splL_len : ∀ s : List α, (splL c s).length = s.count c + 1
  | [] => rfl
  | x :: r => by
    have ih := splL_len r
    rw [splL]
    split
    · next h => subst h; simp [ih]
    · next h =>
      rw [List.count_cons_of_ne (by simpa using h)]
      split
      · next e => rw [e] at ih; simpa using ih
      · next e => rw [e] at ih; simp at ih
theorem splL_sum : ∀ s : List α, (splL c s).flatten.length ≤ s.length
  | [] => by simp [splL]
  | x :: r => by
    have ih := splL_sum r
    rw [splL]
    split
    · simp; simp at ih; omega
    · split
      · next e => rw [e] at ih; simp at ih ⊢; omega
      · simp
end
theorem splL_map {α β : Type} [DecidableEq α] [DecidableEq β] {f : α → β} (hf : ∀ a b, f a = f b → a = b) {c : α} : ∀ s : List α, splL (f c) (s.map f) = (splL c s).map (List.map f)
  | [] => rfl
  | x :: r => by
    rw [List.map_cons, splL, splL, splL_map hf r]
    by_cases h : x = c
    · rw [if_pos h, if_pos (by rw [h])]; rfl
    · rw [if_neg h, if_neg (fun e => h (hf _ _ e))]
      cases splL c r <;> rfl
theorem splK_eq (c : UInt8) : ∀ (k : Nat) (s : List UInt8), s.count c = k → Go.Lib.splitK [c] 0 k s = splL c s
  | 0, s, h => by
    rw [Go.Lib.splitK, splL_no s (List.count_eq_zero.1 h)]
  | k + 1, s, h => by
    rw [Go.Lib.splitK, Go.Lib.index_one]
    have hm : c ∈ s := by
      rcases Classical.em (c ∈ s) with hm | hm
      · exact hm
      · rw [List.count_eq_zero.2 hm] at h; omega
    obtain ⟨i, hi⟩ : ∃ i : Nat, Go.Lib.indexByte s c = i := by
      have hge := Go.Lib.indexByte_ge s c
      have hne : Go.Lib.indexByte s c ≠ -1 := fun e => by
        obtain ⟨j, hj, rfl⟩ := List.mem_iff_getElem.1 hm
        exact Go.Lib.indexByte_none e j (List.getElem?_eq_getElem hj)
      exact ⟨(Go.Lib.indexByte s c).toNat, by omega⟩
    obtain ⟨h1, h2⟩ := Go.Lib.indexByte_some hi
    have hlt : i < s.length := (List.getElem?_eq_some_iff.1 h1).1
    rw [if_neg (by rw [hi, beq_iff_eq]; omega), hi]
    have e : s = s.take i ++ c :: s.drop (i + 1) := by
      conv => lhs; rw [← List.take_append_drop i s]
      rw [List.drop_eq_getElem_cons hlt, (List.getElem?_eq_some_iff.1 h1).2]
    have hc : c ∉ s.take i := fun hx => by
      obtain ⟨j, hj, e2⟩ := List.mem_iff_getElem.1 hx
      have hj' : j < i := by simp at hj; omega
      refine h2 j hj' ?_
      rw [List.getElem?_eq_getElem (by omega)]
      rw [List.getElem_take] at e2; rw [e2]
    have hk : (s.drop (i + 1)).count c = k := by
      rw [e, List.count_append, List.count_eq_zero.2 hc] at h
      simp at h; omega
    conv => rhs; rw [e]
    rw [splL_app _ _ hc, ← splK_eq c k _ hk]
    simp
theorem jnL_map {α β : Type} (f : α → β) (c : α) : ∀ l : List (List α), (jnL c l).map f = jnL (f c) (l.map (List.map f))
  | [] => rfl
  | [a] => rfl
  | a :: b :: r => by
    rw [jnL, List.map_append, List.map_cons, jnL_map f c (b :: r)]; rfl
theorem join_jn (c : UInt8) : ∀ l : List (List UInt8), Go.Lib.join l [c] = jnL c l
  | [] => rfl
  | [a] => by rw [Go.Lib.join_one]; rfl
  | a :: b :: r => by
    rw [Go.Lib.join_cons, jnL, ← join_jn c (b :: r), Go.Lib.join_cons]
    simp [Go.Lib.joinTail]
theorem jnL_len {α : Type} (c : α) : ∀ l : List (List α), (jnL c l).length ≤ l.flatten.length + l.length
  | [] => by simp [jnL]
  | [a] => by simp [jnL]
  | a :: b :: r => by
    have := jnL_len c (b :: r)
    rw [jnL]; simp at this ⊢; omega
end Go.Proofs.YtpaemkemknfmfaaGreatDoor

/-
  Scripts: which lines are commands (plain Lean).
-/
namespace Go.Proofs.YtpaemkemknfmfaaGreatDoor
open Go.PK
/-! ### Words -/
def wSend : Tx := [115#8, 101#8, 110#8, 100#8]
def wDrop : Tx := [100#8, 114#8, 111#8, 112#8]
def wRoll : Tx := [114#8, 111#8, 108#8, 108#8]
def wHealth : Tx := [104#8, 101#8, 97#8, 108#8, 116#8, 104#8]
def wReserved : Tx := [114#8, 101#8, 115#8, 101#8, 114#8, 118#8, 101#8, 100#8]
def wSkip : Tx := [115#8, 107#8, 105#8, 112#8]
def wFar : Tx := [102#8, 97#8, 114#8]
def wKey : Tx := [107#8, 101#8, 121#8]
def wReset : Tx := [114#8, 101#8, 115#8, 101#8, 116#8]
def wStatus : Tx := [115#8, 116#8, 97#8, 116#8, 117#8, 115#8]
def wAgain : Tx := [97#8, 103#8, 97#8, 105#8, 110#8]
def wBytes : Tx := [98#8, 121#8, 116#8, 101#8, 115#8]
def wTick : Tx := [116#8, 105#8, 99#8, 107#8]
def wSpoil : Tx := [115#8, 112#8, 111#8, 105#8, 108#8]
def wImu : Tx := [105#8, 109#8, 117#8]
def wBaro : Tx := [98#8, 97#8, 114#8, 111#8]
def wMag : Tx := [109#8, 97#8, 103#8]
def wOdo : Tx := [111#8, 100#8, 111#8]
def wBeacon : Tx := [98#8, 101#8, 97#8, 99#8, 111#8, 110#8]
def wMode : Tx := [109#8, 111#8, 100#8, 101#8]
def wSave : Tx := [115#8, 97#8, 118#8, 101#8]
def wQuery : Tx := [113#8, 117#8, 101#8, 114#8, 121#8]
/-! ### What a word may be -/
abbrev Pd := Tx → Bool
def uOk (m : Nat) : Pd := fun s => match bareT s with
  | some n => decide (n ≤ m)
  | none => false
def iOk : Pd := fun s => match numT s with
  | some v => decide (-2147483648 ≤ v ∧ v ≤ 2147483647)
  | none => false
def sOk : Pd := fun s => (numT s).isSome
def tOk : Pd := fun s => match bareT s with
  | some n => decide (n ≤ 1000 ∧ 0 < n)
  | none => false
def hexB (c : B8) : Bool := decide ((48 ≤ c.toNat ∧ c.toNat ≤ 57) ∨ (97 ≤ c.toNat ∧ c.toNat ≤ 102))
def hxOk : Pd := fun s => decide (0 < s.length ∧ s.length ≤ 800 ∧ s.length % 2 = 0) && s.all hexB
def allP : List Pd → List Tx → Bool
  | [], [] => true
  | p :: ps, a :: l => p a && allP ps l
  | _, _ => false
abbrev M63 : Nat := 9223372036854775807
def rdP (s : Tx) : Option (List Pd) :=
  if s = wImu then some [iOk, iOk, iOk, iOk, iOk, iOk]
  else if s = wBaro then some [sOk]
  else if s = wMag then some [uOk 4294967295]
  else if s = wOdo then some [iOk, uOk 4294967295]
  else if s = wBeacon then some [uOk M63]
  else if s = wMode then some [uOk 2]
  else if s = wReset then some []
  else if s = wSave then some []
  else if s = wQuery then some [uOk 255]
  else none
def rdR (s : Tx) (l : List Tx) : Bool := match rdP s with
  | some ps => allP ps l
  | none => false
def cmdP (s : Tx) : Option (List Pd) :=
  if s = wRoll ∨ s = wHealth ∨ s = wReserved then some [uOk 7]
  else if s = wSkip then some [uOk 7, uOk M63]
  else if s = wFar then some [uOk 255, sOk, sOk, sOk]
  else if s = wKey ∨ s = wReset ∨ s = wStatus then some []
  else if s = wAgain then some [uOk M63]
  else if s = wBytes then some [hxOk]
  else if s = wTick then some [tOk]
  else if s = wSpoil then some [uOk 1, uOk M63, uOk 255]
  else none
def sendT : List Tx → Bool
  | a :: nm :: l => uOk 7 a && rdR nm l
  | _ => false
def cmdR (c : Tx) (r : List Tx) : Bool := match cmdP c with
  | some ps => allP ps r
  | none => false
/-- Are a line's words a command? -/
def rightT : List Tx → Bool
  | [] => false
  | c :: r => if c = wSend ∨ c = wDrop then sendT r else cmdR c r
/-! ### Texts -/
def saysT : Tx → Bool
  | [] => false
  | c :: _ => !(c == 35#8)
/-- Lines: an empty one behind the last end of a line is none. -/
def linT (L : List Tx) : List Tx := if L.getLast? = some [] then L.dropLast else L
theorem linT_get {L : List Tx} {i : Nat} (h : i < (linT L).length) : (linT L)[i]? = L[i]? := by
  unfold linT at h ⊢
  split
  · next hl =>
    rw [if_pos hl] at h
    rw [List.length_dropLast] at h
    rw [List.dropLast_eq_take, List.getElem?_take, if_pos h]
  · rfl
def linesT (t : Tx) : List Tx := linT (splL 10#8 t)
/-- How many ticks a line lets pass. -/
def tickT (l : Tx) : Nat := match splL 32#8 l with
  | [c, a] => if c = wTick then (bif tOk a then (bareT a).getD 0 else 0) else 0
  | _ => 0
def tickS (l : Tx) : Nat := bif saysT l && decide (l.length ≤ 4000) then tickT l else 0
def badT (l : Tx) : Bool := saysT l && !rightT (splL 32#8 l)
def firstB : List Tx → Nat → Option Nat
  | [], _ => none
  | l :: r, k => bif badT l then some (k + 1) else firstB r (k + 1)
def muchT (L : List Tx) : Bool := L.any (fun l => saysT l && decide (4000 < l.length)) || (decide (300 < L.countP saysT) || decide (5000 < (L.map tickS).sum))
/-- A text checked: how many say something, or at which line it is none; 0: it is a script, 1: too long, 2: none. -/
def chkT (t : Tx) : Nat × Nat :=
  if 65536 < t.length then (0, 1)
  else bif muchT (linesT t) then (0, 1) else match firstB (linesT t) 0 with
    | some k => (k, 2)
    | none => ((linesT t).countP saysT, 0)
end Go.Proofs.YtpaemkemknfmfaaGreatDoor

/-
  Words taken one behind the other (plain Lean).
-/
namespace Go.Proofs.YtpaemkemknfmfaaGreatDoor
open Go.PK
abbrev Wds := Nat × Bool
def nxW (ws : List Tx) (x : Wds) : Tx := ws.getD x.1 []
theorem nxW_nil {ws : List Tx} {x : Wds} (h : ¬ x.1 < ws.length) : nxW ws x = [] := by
  rw [nxW, List.getD_eq_getElem?_getD, List.getElem?_eq_none (by omega)]; rfl
theorem nxW_at {ws : List Tx} {k : Nat} {g : Bool} (h : k < ws.length) : nxW ws (k, g) = ws[k] := by
  rw [nxW, List.getD_eq_getElem?_getD, List.getElem?_eq_getElem h]; rfl
def stP (ws : List Tx) (p : Pd) (x : Wds) : Wds := (min (x.1 + 1) ws.length, x.2 && p (nxW ws x))
def stPs (ws : List Tx) : List Pd → Wds → Wds
  | [], x => x
  | p :: ps, x => stPs ws ps (stP ws p x)
theorem stPs_le (ws : List Tx) : ∀ (ps : List Pd) (x : Wds), x.1 ≤ ws.length → (stPs ws ps x).1 ≤ ws.length
  | [], _, h => h
  | p :: ps, x, _ => stPs_le ws ps (stP ws p x) (Nat.min_le_right _ _)
theorem stPs_ok (ws : List Tx) : ∀ (ps : List Pd) (x : Wds), (∀ p ∈ ps, p [] = false) → x.1 ≤ ws.length →
    ((stPs ws ps x).2 && decide ((stPs ws ps x).1 = ws.length)) = (x.2 && allP ps (ws.drop x.1))
  | [], (k, g), _, hk => by
    show (g && decide (k = ws.length)) = (g && allP [] (ws.drop k))
    have hk : k ≤ ws.length := hk
    by_cases h : k = ws.length
    · subst h; rw [List.drop_length, decide_eq_true rfl]; rfl
    · rw [List.drop_eq_getElem_cons (by omega), decide_eq_false h]; rfl
  | p :: ps, (k, g), hp, hk => by
    have hk : k ≤ ws.length := hk
    have hp' : ∀ q ∈ ps, q [] = false := fun q hq => hp q (List.mem_cons_of_mem _ hq)
    have ih := stPs_ok ws ps (stP ws p (k, g)) hp' (Nat.min_le_right _ _)
    show ((stPs ws ps (stP ws p (k, g))).2 && decide ((stPs ws ps (stP ws p (k, g))).1 = ws.length)) = _
    rw [ih]
    by_cases h : k < ws.length
    · show (g && p (nxW ws (k, g)) && allP ps (ws.drop (min (k + 1) ws.length))) = (g && allP (p :: ps) (ws.drop k))
      rw [nxW_at h, show min (k + 1) ws.length = k + 1 by omega, List.drop_eq_getElem_cons h, Bool.and_assoc]
      rfl
    · show (g && p (nxW ws (k, g)) && _) = (g && allP (p :: ps) (ws.drop k))
      rw [nxW_nil (by exact h), hp p (List.mem_cons_self ..), show ws.drop k = [] from List.drop_eq_nil_of_le (by omega), Bool.and_false, Bool.false_and]
      show false = (g && false)
      rw [Bool.and_false]
theorem hxOk_nil : hxOk [] = false := rfl
/-! ### What a line's words come to -/
def tlW (ws : List Tx) (x : Wds) : Wds := (min (x.1 + 1) ws.length, x.2 && decide (x.1 < ws.length))
/-- Behind a reading. -/
def rdX (ws : List Tx) (x : Wds) : Wds := match rdP (nxW ws x) with
  | some ps => stPs ws ps (tlW ws x)
  | none => ((tlW ws x).1, false)
theorem rdP_nil : rdP [] = none := by decide
theorem rdP_ok {s : Tx} {ps : List Pd} (h : rdP s = some ps) : ∀ p ∈ ps, p [] = false := by
  have e : ps.all (fun p => !p []) = true := by
    unfold rdP at h
    repeat' split at h
    all_goals first
      | (cases h; rfl)
      | cases h
  exact fun p hp => by simpa using List.all_eq_true.1 e p hp
theorem cmdP_ok {s : Tx} {ps : List Pd} (h : cmdP s = some ps) : ∀ p ∈ ps, p [] = false := by
  have e : ps.all (fun p => !p []) = true := by
    unfold cmdP at h
    repeat' split at h
    all_goals first
      | (cases h; rfl)
      | cases h
  exact fun p hp => by simpa using List.all_eq_true.1 e p hp
theorem right_cmd {c : Tx} {r : List Tx} {ps : List Pd} (h1 : ¬ (c = wSend ∨ c = wDrop)) (h : cmdP c = some ps) :
    ((stPs (c :: r) ps (1, true)).2 && decide ((stPs (c :: r) ps (1, true)).1 = (c :: r).length)) = rightT (c :: r) := by
  rw [stPs_ok _ ps (1, true) (cmdP_ok h) (by show 1 ≤ r.length + 1; omega), show rightT (c :: r) = if c = wSend ∨ c = wDrop then sendT r else cmdR c r from rfl, if_neg h1, cmdR, h]
  rfl
theorem right_send {c : Tx} {r : List Tx} (h : c = wSend ∨ c = wDrop) :
    ((rdX (c :: r) (stP (c :: r) (uOk 7) (1, true))).2 && decide ((rdX (c :: r) (stP (c :: r) (uOk 7) (1, true))).1 = (c :: r).length)) = rightT (c :: r) := by
  rw [show rightT (c :: r) = if c = wSend ∨ c = wDrop then sendT r else cmdR c r from rfl, if_pos h]
  clear h
  match r with
  | [] => rfl
  | [a] =>
    have e : rdX [c, a] (stP [c, a] (uOk 7) (1, true)) = (2, false) := by
      rw [rdX, show nxW [c, a] (stP [c, a] (uOk 7) (1, true)) = [] from rfl, rdP_nil]; rfl
    rw [e]; rfl
  | a :: nm :: l =>
    have e : stP (c :: a :: nm :: l) (uOk 7) (1, true) = (2, uOk 7 a) := by
      show (min 2 (l.length + 3), true && uOk 7 a) = _
      rw [show min 2 (l.length + 3) = 2 by omega, Bool.true_and]
    have e2 : tlW (c :: a :: nm :: l) (2, uOk 7 a) = (3, uOk 7 a) := by
      show (min 3 (l.length + 3), uOk 7 a && decide (2 < l.length + 3)) = _
      rw [show min 3 (l.length + 3) = 3 by omega, decide_eq_true (by omega), Bool.and_true]
    rw [e, show sendT (a :: nm :: l) = (uOk 7 a && rdR nm l) from rfl, rdX, show nxW (c :: a :: nm :: l) (2, uOk 7 a) = nm from rfl, rdR]
    cases hp : rdP nm with
    | none => simp
    | some ps =>
      rw [e2]
      show ((stPs (c :: a :: nm :: l) ps (3, uOk 7 a)).2 && decide ((stPs (c :: a :: nm :: l) ps (3, uOk 7 a)).1 = (c :: a :: nm :: l).length)) = _
      rw [stPs_ok _ ps (3, uOk 7 a) (rdP_ok hp) (by show 3 ≤ l.length + 3; omega)]
      rfl
theorem right_none {c : Tx} {r : List Tx} (h1 : ¬ (c = wSend ∨ c = wDrop)) (h : cmdP c = none) : rightT (c :: r) = false := by
  rw [show rightT (c :: r) = if c = wSend ∨ c = wDrop then sendT r else cmdR c r from rfl, if_neg h1, cmdR, h]
end Go.Proofs.YtpaemkemknfmfaaGreatDoor
