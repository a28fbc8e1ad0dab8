import Derived.Test.YthgjgeapfndeeaaGreatDoorPD
import Derived.Test.YthgjgeapfndeeaaGreatDoorPC
import Derived.Test.YthgjgeapfndeeaaGreatDoorBase0
import Derived.Test.YthgjgeapfndeeaaGreatDoorFacts
import Derived.Test.YthgjgeapfndeeaaGreatDoorPE
set_option linter.unusedVariables false
set_option linter.unusedSimpArgs false
/- The numbers of bytes, the highest first. -/
namespace Go.Proofs.YthgjgeapfndeeaaGreatDoor
open Go.PK

/-- So many bytes of a number, the highest first. -/
def beN : Nat → Nat → List B8
  | 0, _ => []
  | n + 1, x => beN n (x / 256) ++ [BitVec.ofNat 8 x]
theorem beN_length : ∀ (n x : Nat), (beN n x).length = n
  | 0, _ => rfl
  | n + 1, x => by simp [beN, beN_length n]
theorem beN_get : ∀ (n x k : Nat), k < n → (beN n x)[k]? = some (BitVec.ofNat 8 (x / 256 ^ (n - 1 - k)))
  | 0, _, _, h => by omega
  | n + 1, x, k, h => by
    rw [beN]
    by_cases hk : k < n
    · rw [List.getElem?_append_left (by rw [beN_length]; exact hk), beN_get n _ k hk, Nat.div_div_eq_div_mul, ← Nat.pow_succ', show n + 1 - 1 - k = n - 1 - k + 1 by omega]
    · have : k = n := by omega
      subst this
      rw [List.getElem?_append_right (by rw [beN_length]; exact Nat.le_refl _), beN_length]
      simp
theorem byteA (N s : Nat) : Value.int .u8 (IntKind.u8.wrap (((N : Nat) : Int).fdiv (2 ^ s))) = U8 (BitVec.ofNat 8 (N / 2 ^ s)) := by
  rw [Int.fdiv_eq_ediv_of_nonneg _ (by exact Int.pow_nonneg (by decide)), show (2 : Int) ^ s = ((2 ^ s : Nat) : Int) by simp, ← Int.natCast_ediv, u8_wrap, BitVec.ofInt_natCast]; rfl
end Go.Proofs.YthgjgeapfndeeaaGreatDoor

/- Wide numbers, as integers: no program here. -/
namespace Go.PK

theorem IntKind.wrap_i64 (n : Int) : IntKind.i64.wrap n = (n + 9223372036854775808) % 18446744073709551616 - 9223372036854775808 := by
  simp only [IntKind.wrap, IntKind.bits, IntKind.signed]
  simp
  omega
theorem IntKind.wrap_u64 (n : Int) : IntKind.u64.wrap n = n % 18446744073709551616 := by
  simp [IntKind.wrap, IntKind.bits, IntKind.signed]

/-- A wide number. -/
def W (z : Int) : Value := .agg #[.int .i64 (z / 18446744073709551616), .int .u64 (z % 18446744073709551616)]

def clip (z : Int) : Int := if z < -9223372036854775808 then -9223372036854775808 else if z > 9223372036854775807 then 9223372036854775807 else z
def cut (z : Int) : Bool := decide (z < -9223372036854775808 ∨ z > 9223372036854775807)

end Go.PK

/- Bits of whole numbers: no program here. -/
namespace Go.PK
def zbits : Nat → Int → List Int
  | 0, _ => []
  | n + 1, z => z % 2 :: zbits n (z / 2)
theorem two_pos (n : Nat) : (0 : Int) < 2 ^ n := Int.pow_pos (by decide)
theorem half_pow (z : Int) (n : Nat) : z / 2 ^ n / 2 = z / 2 ^ (n + 1) := by
  rw [Int.pow_succ, ← Int.ediv_ediv_of_nonneg (Int.le_of_lt (two_pos n))]
theorem pow_half (z : Int) (n : Nat) : z / 2 / 2 ^ n = z / 2 ^ (n + 1) := by
  rw [Int.pow_succ, Int.mul_comm, ← Int.ediv_ediv_of_nonneg (by decide)]
theorem zbits_snoc : ∀ n z, zbits (n + 1) z = zbits n z ++ [z / 2 ^ n % 2]
  | 0, z => by simp [zbits]
  | n + 1, z => by rw [zbits, zbits_snoc n (z / 2), pow_half, zbits]; rfl
theorem zbits_get : ∀ {n z i}, i < n → (zbits n z)[i]? = some (z / 2 ^ i % 2)
  | n + 1, z, 0, _ => by simp [zbits]
  | n + 1, z, i + 1, h => by
    rw [zbits, List.getElem?_cons_succ, zbits_get (by omega), pow_half]
theorem zbits_add : ∀ (n : Nat) (z q : Int), zbits n (z + 2 ^ n * q) = zbits n z
  | 0, _, _ => rfl
  | n + 1, z, q => by
    have e : (2 : Int) ^ (n + 1) * q = 2 * (2 ^ n * q) := by rw [Int.pow_succ]; simp only [Int.mul_comm, Int.mul_left_comm]
    rw [e, zbits, zbits]
    have h1 : (z + 2 * (2 ^ n * q)) % 2 = z % 2 := by omega
    have h2 : (z + 2 * (2 ^ n * q)) / 2 = z / 2 + 2 ^ n * q := by omega
    rw [h1, h2, zbits_add]
theorem zbits_app : ∀ (m n : Nat) (z : Int), zbits (m + n) z = zbits m z ++ zbits n (z / 2 ^ m)
  | 0, n, z => by simp [zbits]
  | m + 1, n, z => by
    rw [show m + 1 + n = (m + n) + 1 by omega, zbits, zbits_app m n, pow_half, zbits]; rfl
theorem zbits_two (z : Int) : zbits 64 (z % 18446744073709551616) ++ zbits 64 (z / 18446744073709551616 % 18446744073709551616) = zbits 128 z := by
  rw [show (128 : Nat) = 64 + 64 from rfl, zbits_app]
  have h : ∀ y : Int, zbits 64 (y % 18446744073709551616) = zbits 64 y := fun y => by
    have := zbits_add 64 (y % 18446744073709551616) (y / 18446744073709551616)
    rw [show (2 : Int) ^ 64 = 18446744073709551616 from rfl] at this
    rw [← this]; congr 1; omega
  rw [h, h]; rfl
theorem mod_pow (z : Int) (n : Nat) : z % 2 ^ (n + 1) = z % 2 ^ n + z / 2 ^ n % 2 * 2 ^ n := by
  have h1 := Int.emod_add_mul_ediv z (2 ^ n)
  have h2 := Int.emod_nonneg z (Int.ne_of_gt (two_pos n))
  have h3 := Int.emod_lt_of_pos z (two_pos n)
  have h4 := half_pow z n
  have h5 := Int.emod_add_mul_ediv z (2 ^ (n + 1))
  have e : ∀ k : Int, (2 : Int) ^ (n + 1) * k = 2 ^ n * (2 * k) := fun k => by rw [Int.pow_succ, Int.mul_assoc]
  rw [e, ← h4] at h5
  have h6 : z / 2 ^ n = z / 2 ^ n % 2 + 2 * (z / 2 ^ n / 2) := by omega
  rw [h6, Int.mul_add] at h1
  have h7 : (z / 2 ^ n % 2 + 2 * (z / 2 ^ n / 2)) / 2 = z / 2 ^ n / 2 := by omega
  have h8 : (z / 2 ^ n % 2 + 2 * (z / 2 ^ n / 2)) % 2 = z / 2 ^ n % 2 := by omega
  rw [Int.mul_comm (z / 2 ^ n % 2) (2 ^ n)]
  generalize hA : 2 ^ n * (2 * (z / 2 ^ n / 2)) = A at *
  generalize hB : 2 ^ n * (z / 2 ^ n % 2) = B at *
  omega
theorem mod_bd (z : Int) (n : Nat) (h : n ≤ 64) : 0 ≤ z % 2 ^ n ∧ z % 2 ^ n < 18446744073709551616 := by
  have h1 := Int.emod_nonneg z (Int.ne_of_gt (two_pos n))
  have h2 := Int.emod_lt_of_pos z (two_pos n)
  have h3 : (2 : Int) ^ n ≤ 2 ^ 64 := by
    have := Nat.pow_le_pow_right (n := 2) (by decide) h
    exact_mod_cast this
  rw [show (2 : Int) ^ 64 = 18446744073709551616 from rfl] at h3
  omega
theorem bit_bd (z : Int) (n : Nat) : 0 ≤ z / 2 ^ n % 2 ∧ z / 2 ^ n % 2 ≤ 1 := by omega
/-- What is carried. -/
def cy (a b : Int) (n : Nat) : Int := (a + b) / 2 ^ n - a / 2 ^ n - b / 2 ^ n
theorem cy_step (a b : Int) (n : Nat) : (a / 2 ^ n % 2 + b / 2 ^ n % 2 + cy a b n) % 2 = (a + b) / 2 ^ n % 2 ∧ (a / 2 ^ n % 2 + b / 2 ^ n % 2 + cy a b n) / 2 = cy a b (n + 1) := by
  simp only [cy, ← half_pow]
  omega
theorem cy_bd (a b : Int) : ∀ n, 0 ≤ cy a b n ∧ cy a b n ≤ 1
  | 0 => by simp [cy]; omega
  | n + 1 => by
    have h := cy_bd a b n
    have := (cy_step a b n).2
    have h1 := bit_bd a n
    have h2 := bit_bd b n
    omega
end Go.PK

namespace Go.Proofs.YthgjgeapfndeeaaGreatDoor
open Go.PK

/-- The sum of numbers. -/
def isum : List Int → Int
  | [] => 0
  | a :: r => a + isum r
theorem isum_snoc (l : List Int) (a : Int) : isum (l ++ [a]) = isum l + a := by
  induction l with
  | nil => simp [isum]
  | cons b l ih => simp [isum, ih]; omega
theorem isum_bd : ∀ (l : List Int), (∀ a ∈ l, -9223372036854775808 ≤ a ∧ a ≤ 9223372036854775807) → -9223372036854775808 * (l.length : Int) ≤ isum l ∧ isum l ≤ 9223372036854775807 * (l.length : Int)
  | [], _ => by simp [isum]
  | a :: l, h => by
    have h1 := h a (by simp)
    have h2 := isum_bd l (fun b hb => h b (by simp [hb]))
    simp only [isum, List.length_cons, Int.natCast_add, Int.natCast_one]
    omega

end Go.Proofs.YthgjgeapfndeeaaGreatDoor

namespace Go.Proofs.YthgjgeapfndeeaaGreatDoor
open Go.PK

/-- Numbers of one's own, so many. -/
def IntsN (n : Nat) (l : List Int) : Value → List It → List It → Prop := fun v I' H' => ∃ ob cap, v = slO ob n cap ∧ I' = [] ∧ H' = [own ob cap 3 1 n (ints l)] ∧ (n = 0 ∨ ob.isSome = true)
theorem ints_snoc (l : List Int) (x : Int) : ints (l ++ [x]) = ints l ++ [.int .i64 x] := by simp [ints]
theorem tmod2 {x : Int} (h : 0 ≤ x) : x.tmod 2 = x % 2 := Int.tmod_eq_emod_of_nonneg h
theorem tdiv2 {x : Int} (h : 0 ≤ x) : x.tdiv 2 = x / 2 := Int.tdiv_eq_ediv_of_nonneg h
theorem u64_in {n : Int} (h : 0 ≤ n ∧ n < 18446744073709551616) : IntKind.u64.wrap n = n := by rw [IntKind.wrap_u64]; omega
theorem i64_in' {n : Int} (h : -9223372036854775808 ≤ n ∧ n ≤ 9223372036854775807) : IntKind.i64.wrap n = n := IntWalk.i64_in _ (by omega)
theorem bit_conv (z : Int) (n : Nat) (h : n ≤ 64) (hz : 0 ≤ z ∧ z < 18446744073709551616) : Value.int .i64 (IntKind.i64.wrap ((z / 2 ^ n).tmod 2)) = .int .i64 (z / 2 ^ n % 2) := by
  have h0 : 0 ≤ z / 2 ^ n := Int.ediv_nonneg hz.1 (Int.le_of_lt (two_pos n))
  rw [tmod2 h0, i64_in' (by omega)]
theorem div_conv (z : Int) (n : Nat) (hz : 0 ≤ z ∧ z < 18446744073709551616) : Value.int .u64 (IntKind.u64.wrap ((z / 2 ^ n).tdiv 2)) = .int .u64 (z / 2 ^ (n + 1)) := by
  have h0 : 0 ≤ z / 2 ^ n := Int.ediv_nonneg hz.1 (Int.le_of_lt (two_pos n))
  have h1 : z / 2 ^ n ≤ z := Int.ediv_le_self _ hz.1
  rw [tdiv2 h0, u64_in (by omega), half_pow]
theorem digits_any (z : Int) (h : -170141183460469231731687303715884105728 ≤ z ∧ z < 170141183460469231731687303715884105728) : Spc Tryz.prog 477 #[W z] [] [] (IntsN 128 (zbits 128 z)) := by
  unfold W
  have hlo : 0 ≤ z % 18446744073709551616 ∧ z % 18446744073709551616 < 18446744073709551616 := by omega
  have hhi : 0 ≤ z / 18446744073709551616 % 18446744073709551616 ∧ z / 18446744073709551616 % 18446744073709551616 < 18446744073709551616 := by omega
  have hb2 := zbits_two z
  generalize hl : z % 18446744073709551616 = lo at hlo hb2
  generalize hh : z / 18446744073709551616 % 18446744073709551616 = hi' at hhi hb2
  refine Spc.enter Tryz.func477 rfl rfl rfl (fun w0 hw0 => ?_)
  refine CW.seq (CW.region (ef := [0]) (bk := []) (RL.box rfl rfl rfl rfl rfl rfl ?_))
  intro b1
  refine RL.p rfl (RL.nil (NQ.seq (CW.seq (CW.region (ef := [0]) (bk := []) (RL.buildOwn [] Tryz.runUnderlying237 Tryz.sizeOf3 Tryz.zeroValue3 rfl rfl (by decide) (by decide) rfl (by decide) rfl rfl rfl rfl rfl rfl ?_)))))
  intro b2
  refine RL.p rfl (RL.nil (NQ.seq (CW.seq (CW.rg (RL.fieldAddr fa_453_1 rfl rfl rfl rfl (RL.loadq Tryz.isAgg33 rfl rfl rfl rfl ?_))))))
  refine RL.p rfl (RL.nil (NQ.seq (CW.seq (CW.seq (CW.rg (RL.p rfl (RL.nil (NQ.seq (CW.block ?_)))))))))
  refine CW.loop (γ := Nat × Option Nat × Nat) (fun g => g.1 ≤ 64 ∧ (g.1 = 0 ∨ g.2.1.isSome = true)) (fun g => [(1, .pointer (some ⟨b1, 0, none⟩)), (3, slO g.2.1 g.1 g.2.2), (4, .int .u64 (lo / 2 ^ g.1)), (5, .int .i64 (g.1 : Int))]) (fun _ => [])
    (fun g => [own g.2.1 g.2.2 3 1 g.1 (ints (zbits g.1 lo)), cel b1 [.int .i64 (z / 18446744073709551616), .int .u64 lo] 453]) (fun g => 64 - g.1) (0, some b2, 0) ⟨by simp, .inl rfl⟩
    (.cons rfl (.cons rfl (.cons (by simp; rfl) (.cons rfl .nil)))) (fun w h => h.rea (fun _ h => h) (by repeat (first | exact Rea.nil | (apply Rea.cons; (solve | (repeat (first | exact Del.here | apply Del.there))))))) ?_
  rintro ⟨i, ob, cp⟩ ⟨hi, hs⟩
  dsimp only at hi hs ⊢
  refine CW.seq (CW.seq (CW.rg (RL.p rfl (RL.p rfl (RL.nil (NQ.seq ?_))))))
  refine CW.cond rfl (fun hlt => ?_) (fun hlt => ?_)
  ·
    have hlt : i < 64 := by simp at hlt; omega
    have hlt0 := hlo
    refine CW.skip (NQ.seq (CW.seq (CW.block (CW.seq (CW.region (ef := [4, 5]) (bk := [5]) (RL.p rfl (RL.p rfl (RL.rem rfl rfl rfl rfl rfl (by decide) ?_))))))))
    refine RL.conv Tryz.runUnderlying33 Tryz.runUnderlying3 rfl rfl rfl rfl (RL.cast (d := 18) rfl (bit_conv lo i hi hlt0) ?_)
    refine RL.buildOwn [_] Tryz.runUnderlying237 Tryz.sizeOf3 Tryz.zeroValue3 rfl rfl (by decide) (by decide) rfl (by decide) rfl rfl rfl rfl rfl rfl ?_
    intro b3
    refine RL.appendq el_237 rfl rfl rfl rfl rfl rfl rfl ?_
    intro ob1 cap1 ho1
    refine RL.p rfl (RL.nil (NQ.seq (CW.ok [1, 3, 4, 5] rfl (CW.rg (RL.p rfl (RL.quoX (v' := .int .u64 (lo / 2 ^ (i + 1))) rfl rfl rfl rfl rfl (by decide) (div_conv lo i hlt0) ?_))))))
    refine RL.p rfl (RL.nil (NQ.block (NQ.seq (CW.rg (RL.p rfl (RL.bx rfl (wrapV_i64 (by omega) (by omega)) ?_))))))
    refine RL.p rfl (RL.nil ?_)
    refine NQ.round (g := (i, ob, cp)) (i + 1, ob1, cap1) ⟨hlt, by simpa using ho1⟩ (by show 64 - (i + 1) < 64 - i; omega) (.cons rfl (.cons rfl (.cons rfl (.cons rfl .nil)))) (fun w h => ?_)
    dsimp only
    rw [zbits_snoc, ints_snoc]
    exact h.rea (fun _ h => h) (by repeat (first | exact Rea.nil | (apply Rea.cons; (solve | (repeat (first | exact Del.here | apply Del.there))))))
  ·
    have hin : i = 64 := by simp at hlt; omega
    subst hin
    refine CW.exit (XQ.seq (XQ.seq (XQ.hit (NQ.seq (CW.seq (CW.rg (RL.fieldAddr fa_453_0 rfl rfl rfl rfl (RL.loadq Tryz.isAgg2 rfl rfl rfl rfl ?_))))))))
    refine RL.conv Tryz.runUnderlying2 Tryz.runUnderlying33 rfl rfl rfl rfl (RL.cast (d := 25) (v' := .int .u64 (hi' / 2 ^ 0)) rfl (by rw [IntKind.wrap_u64, hh]; simp) ?_)
    refine RL.p rfl (RL.nil (NQ.seq (CW.ok [3, 6] rfl (CW.seq (CW.seq (CW.rg (RL.p rfl (RL.nil (NQ.seq (CW.block ?_))))))))))
    refine CW.loop (γ := Nat × Option Nat × Nat) (fun g => g.1 ≤ 64 ∧ g.2.1.isSome = true) (fun g => [(3, slO g.2.1 (64 + g.1) g.2.2), (6, .int .u64 (hi' / 2 ^ g.1)), (7, .int .i64 (g.1 : Int))]) (fun _ => [])
      (fun g => [own g.2.1 g.2.2 3 1 (64 + g.1) (ints (zbits 64 lo ++ zbits g.1 hi'))]) (fun g => 64 - g.1) (0, ob, cp) ⟨by simp, ?_⟩
      (.cons rfl (.cons rfl (.cons rfl .nil))) (fun w h => by rw [show zbits 64 lo ++ zbits (0, ob, cp).1 hi' = zbits 64 lo by simp [zbits]]; exact h.rea (fun _ h => h) (by repeat (first | exact Rea.nil | (apply Rea.cons; (solve | (repeat (first | exact Del.here | apply Del.there))))))) ?_
    · rcases hs with hs | hs
      · cases hs
      · exact hs
    rintro ⟨i, ob, cp⟩ ⟨hi, hs⟩
    dsimp only at hi hs ⊢
    refine CW.seq (CW.seq (CW.rg (RL.p rfl (RL.p rfl (RL.nil (NQ.seq ?_))))))
    refine CW.cond rfl (fun hlt => ?_) (fun hlt => ?_)
    ·
      have hlt : i < 64 := by simp at hlt; omega
      have hlt0 := hhi
      refine CW.skip (NQ.seq (CW.seq (CW.block (CW.seq (CW.region (ef := [4, 5]) (bk := [5]) (RL.p rfl (RL.p rfl (RL.rem rfl rfl rfl rfl rfl (by decide) ?_))))))))
      refine RL.conv Tryz.runUnderlying33 Tryz.runUnderlying3 rfl rfl rfl rfl (RL.cast (d := 33) rfl (bit_conv hi' i hi hlt0) ?_)
      refine RL.buildOwn [_] Tryz.runUnderlying237 Tryz.sizeOf3 Tryz.zeroValue3 rfl rfl (by decide) (by decide) rfl (by decide) rfl rfl rfl rfl rfl rfl ?_
      intro b3
      refine RL.appendq el_237 rfl rfl rfl rfl rfl rfl rfl ?_
      intro ob1 cap1 ho1
      refine RL.p rfl (RL.nil (NQ.seq (CW.ok [3, 6, 7] rfl (CW.rg (RL.p rfl (RL.quoX (v' := .int .u64 (hi' / 2 ^ (i + 1))) rfl rfl rfl rfl rfl (by decide) (div_conv hi' i hlt0) ?_))))))
      refine RL.p rfl (RL.nil (NQ.block (NQ.seq (CW.rg (RL.p rfl (RL.bx rfl (wrapV_i64 (by omega) (by omega)) ?_))))))
      refine RL.p rfl (RL.nil ?_)
      refine NQ.round (g := (i, ob, cp)) (i + 1, ob1, cap1) ⟨hlt, by simpa using ho1⟩ (by show 64 - (i + 1) < 64 - i; omega) (.cons rfl (.cons rfl (.cons rfl .nil))) (fun w h => ?_)
      dsimp only
      rw [zbits_snoc i, ← List.append_assoc, ints_snoc]
      exact h.rea (fun _ h => h) (by repeat (first | exact Rea.nil | (apply Rea.cons; (solve | (repeat (first | exact Del.here | apply Del.there))))))
    ·
      refine CW.exit (XQ.seq (XQ.seq (XQ.hit (NQ.seq (CW.seq (CW.rg (RL.p rfl (RL.p rfl (RL.nil (NQ.seq (CW.ok [2] rfl (CW.ret ?_))))))))))))
      have hin : i = 64 := by simp at hlt; omega
      subst hin
      rw [hb2]
      exact RQ.post (res1 rfl rfl) (.keep .nil) ⟨ob, cp, rfl, rfl, rfl, .inr hs⟩
/-- What is made of bits. -/
theorem add_bit (z : Int) (i : Nat) (h : i < 64) : Value.int .u64 (IntKind.u64.wrap (z % 2 ^ i + IntKind.u64.wrap (IntKind.u64.wrap (z / 2 ^ i % 2) * IntKind.u64.wrap (2 ^ i)))) = .int .u64 (z % 2 ^ (i + 1)) := by
  have h1 := mod_bd z i (by omega)
  have h2 := mod_bd z (i + 1) (by omega)
  have h3 := mod_pow z i
  have h4 := bit_bd z i
  have h5 : (2 : Int) ^ i < 18446744073709551616 := by
    have := Nat.pow_lt_pow_right (a := 2) (by decide) h
    have h6 : (2 : Int) ^ i < 2 ^ 64 := by exact_mod_cast this
    exact h6
  have h7 := two_pos i
  have e1 : IntKind.u64.wrap (z / 2 ^ i % 2) = z / 2 ^ i % 2 := u64_in (by omega)
  have e2 : IntKind.u64.wrap (2 ^ i) = 2 ^ i := u64_in (by omega)
  rw [e1, e2]
  generalize hq : z / 2 ^ i % 2 * 2 ^ i = q at *
  have h8 : 0 ≤ q := by rw [← hq]; exact Int.mul_nonneg h4.1 (Int.le_of_lt h7)
  rw [u64_in (n := q) (by omega), u64_in (by omega), h3]
theorem pow_step (i : Nat) : Value.int .u64 (IntKind.u64.wrap (2 * IntKind.u64.wrap (2 ^ i))) = .int .u64 (IntKind.u64.wrap (2 ^ (i + 1))) := by
  rw [IntKind.wrap_u64, IntKind.wrap_u64, IntKind.wrap_u64, Int.pow_succ]
  generalize (2 : Int) ^ i = q
  congr 1; omega
theorem ints_get {l : List Int} {i : Nat} {x : Int} (h : l[i]? = some x) : (ints l)[i * 1]? = some (.int .i64 x) := by simp [ints, h]
theorem number_any (p : Option Addr) (c : Nat) (z : Int) (h : -170141183460469231731687303715884105728 ≤ z ∧ z < 170141183460469231731687303715884105728) : Spc Tryz.prog 512 #[.slice p 128 c] [sls p 1 128 (ints (zbits 128 z))] [] (Is (W z)) := by
  refine Spc.enter Tryz.func512 rfl rfl rfl (fun w0 hw0 => ?_)
  refine CW.seq (CW.region (ef := [0]) (bk := []) (RL.alloc Tryz.zeroValue453 rfl rfl rfl rfl rfl ?_))
  intro b1
  refine RL.nil (NQ.seq (CW.seq (CW.rg (RL.p rfl (RL.p rfl (RL.nil (NQ.seq (CW.seq (CW.rg (RL.p rfl (RL.nil (NQ.seq (CW.seq ?_)))))))))))))
  refine CW.seq ?_
  refine CW.fact (p := p = none → (128 : Nat) = 0) (fun w hC e => sls_nil (hC.s.i _ (List.Mem.head _)) e) (fun hpp => ?_)
  obtain ⟨a, rfl⟩ : ∃ a, p = some a := by
    cases p with
    | none => exact absurd (hpp rfl) (by decide)
    | some a => exact ⟨a, rfl⟩
  clear hpp
  refine CW.rg (RL.p rfl (RL.nil (NQ.seq (CW.block ?_))))
  refine CW.loop (γ := Nat) (fun i => i ≤ 64) (fun i => [(0, .slice (some a) 128 c), (2, .pointer (some ⟨b1, 0, none⟩)), (3, .int .u64 (z % 2 ^ i)), (4, .int .u64 0), (5, .int .u64 (IntKind.u64.wrap (2 ^ i))), (6, .int .i64 (i : Int))]) (fun _ => [sls (some a) 1 128 (ints (zbits 128 z))])
    (fun _ => [cel b1 [.int .i64 0, .int .u64 0] 453]) (fun i => 64 - i) 0 (by omega)
    (.cons rfl (.cons rfl (.cons (by simp; rfl) (.cons rfl (.cons rfl (.cons rfl .nil)))))) (fun w h => h) ?_
  rintro i hi
  refine CW.seq (CW.seq (CW.rg (RL.p rfl (RL.p rfl (RL.p rfl ?_)))))
  apply RL.andB (d := 10) (dp := 15) (l' := (Sq.of [])) rfl (sK [0, 2, 3, 4, 5, 6] rfl)
  ·
    intro hb3 K3
    refine RL.p rfl (RL.p rfl (RL.lenS Tryz.runUnderlying237 rfl rfl rfl rfl (RL.p rfl (RL.p rfl ?_))))
    exact K3 _ (.cons rfl (sK [0, 2, 3, 4, 5, 6] rfl))
  ·
    intro hb3 K3
    refine RL.p rfl (RL.p rfl (RL.p rfl (RL.p rfl (RL.p rfl ?_))))
    exact K3 _ (.cons rfl (sK [0, 2, 3, 4, 5, 6] rfl))
  refine RL.nil (NQ.seq ?_)
  refine CW.cond rfl (fun hlt => ?_) (fun hlt => ?_)
  ·
    have hlt : i < 64 := by simp at hlt; omega
    have hg : (zbits 128 z)[i]? = some (z / 2 ^ i % 2) := zbits_get (by omega)
    refine CW.skip (NQ.seq (CW.seq (CW.block (CW.seq (CW.rg (RL.p rfl (RL.p rfl (RL.p rfl (RL.idx (j := i) Tryz.runUnderlying237 Tryz.sizeOf3 rfl rfl rfl rfl rfl rfl (by omega) ?_)))))))))
    refine RL.load Tryz.isAgg3 rfl rfl rfl rfl (Rd.getS (List.Mem.head _) (ints_get hg)) (RL.conv Tryz.runUnderlying3 Tryz.runUnderlying33 rfl rfl rfl rfl (RL.p rfl (RL.p rfl (RL.p rfl (RL.cast (d := 26) rfl (add_bit z i hlt) ?_)))))
    refine RL.p rfl (RL.nil (NQ.seq (CW.ok [0, 2, 3, 4, 5, 6] rfl (CW.rg (RL.p rfl (RL.p rfl (RL.cast (d := 28) rfl (pow_step i) ?_)))))))
    refine RL.p rfl (RL.nil (NQ.block (NQ.seq (CW.rg (RL.p rfl (RL.bx rfl (wrapV_i64 (by omega) (by omega)) ?_))))))
    refine RL.p rfl (RL.nil ?_)
    refine NQ.round (g := i) (i + 1) hlt (by omega) (.cons rfl (.cons rfl (.cons rfl (.cons rfl (.cons rfl (.cons rfl .nil)))))) (fun w h => h)
  ·
    have hin : i = 64 := by simp at hlt; omega
    subst hin
    refine CW.exit (XQ.seq (XQ.seq (XQ.hit (NQ.seq (CW.seq (CW.rg (RL.p rfl (RL.nil (NQ.seq (CW.seq (CW.seq (CW.rg (RL.p rfl ?_)))))))))))))
    refine RL.nil (NQ.seq (CW.block ?_))
    refine CW.loop (γ := Nat) (fun i => i ≤ 64) (fun i => [(0, .slice (some a) 128 c), (2, .pointer (some ⟨b1, 0, none⟩)), (3, .int .u64 (z % 2 ^ 64)), (4, .int .u64 (z / 2 ^ 64 % 2 ^ i)), (5, .int .u64 (IntKind.u64.wrap (2 ^ i))), (7, .int .i64 ((64 + i : Nat) : Int))]) (fun _ => [sls (some a) 1 128 (ints (zbits 128 z))])
      (fun _ => [cel b1 [.int .i64 0, .int .u64 0] 453]) (fun i => 64 - i) 0 (by omega)
      (.cons rfl (.cons rfl (.cons rfl (.cons (by simp; rfl) (.cons rfl (.cons rfl .nil)))))) (fun w h => h) ?_
    rintro i hi
    refine CW.seq (CW.seq (CW.rg (RL.p rfl (RL.p rfl (RL.p rfl ?_)))))
    apply RL.andB (d := 31) (dp := 36) (l' := (Sq.of [])) rfl (sK [0, 2, 3, 4, 5, 7] rfl)
    ·
      intro hb3 K3
      refine RL.p rfl (RL.p rfl (RL.lenS Tryz.runUnderlying237 rfl rfl rfl rfl (RL.p rfl (RL.p rfl ?_))))
      exact K3 _ (.cons rfl (sK [0, 2, 3, 4, 5, 7] rfl))
    ·
      intro hb3 K3
      refine RL.p rfl (RL.p rfl (RL.p rfl (RL.p rfl (RL.p rfl ?_))))
      exact K3 _ (.cons rfl (sK [0, 2, 3, 4, 5, 7] rfl))
    refine RL.nil (NQ.seq ?_)
    refine CW.cond rfl (fun hlt => ?_) (fun hlt => ?_)
    ·
      have hlt : i < 64 := by simp at hlt; omega
      have hg : (zbits 128 z)[64 + i]? = some (z / 2 ^ 64 / 2 ^ i % 2) := by
        rw [zbits_get (by omega), Int.ediv_ediv_of_nonneg (Int.le_of_lt (two_pos 64)), ← Int.pow_add]
      refine CW.skip (NQ.seq (CW.seq (CW.block (CW.seq (CW.rg (RL.p rfl (RL.p rfl (RL.p rfl (RL.idx (j := 64 + i) Tryz.runUnderlying237 Tryz.sizeOf3 rfl rfl rfl rfl rfl rfl (by omega) ?_)))))))))
      refine RL.load Tryz.isAgg3 rfl rfl rfl rfl (Rd.getS (List.Mem.head _) (ints_get hg)) (RL.conv Tryz.runUnderlying3 Tryz.runUnderlying33 rfl rfl rfl rfl (RL.p rfl (RL.p rfl (RL.p rfl (RL.cast (d := 47) rfl (add_bit (z / 2 ^ 64) i hlt) ?_)))))
      refine RL.p rfl (RL.nil (NQ.seq (CW.ok [0, 2, 3, 4, 5, 7] rfl (CW.rg (RL.p rfl (RL.p rfl (RL.cast (d := 49) rfl (pow_step i) ?_)))))))
      refine RL.p rfl (RL.nil (NQ.block (NQ.seq (CW.rg (RL.p rfl (RL.bx rfl (wrapV_i64 (by omega) (by omega)) ?_))))))
      refine RL.p rfl (RL.nil ?_)
      refine NQ.round (g := i) (i + 1) hlt (by omega) (.cons rfl (.cons rfl (.cons rfl (.cons rfl (.cons rfl (.cons rfl .nil)))))) (fun w h => h)
    ·
      have hin : i = 64 := by simp at hlt; omega
      subst hin
      refine CW.exit (XQ.seq (XQ.seq (XQ.hit (NQ.seq (CW.seq (CW.region (ef := [4]) (bk := [4]) (RL.p rfl (RL.conv Tryz.runUnderlying33 Tryz.runUnderlying2 rfl rfl rfl rfl ?_))))))))
      refine RL.cast (d := 51) (v' := .int .i64 (z / 18446744073709551616)) rfl (by
        rw [show (2 : Int) ^ 64 = 18446744073709551616 from rfl, IntKind.wrap_i64]; congr 1; omega) ?_
      refine RL.p rfl (RL.buildS [_, _] Tryz.zeroValue453 pl_453 rfl rfl rfl rfl rfl (RL.store (vs := [_, _]) Tryz.sizeOf453 rfl rfl rfl rfl rfl rfl rfl rfl rfl (by repeat (first | exact Upd.here | apply Upd.there)) ?_))
      refine RL.nil (NQ.seq (CW.ok [2] rfl (CW.ret ?_)))
      exact RQ.post (resC rfl rfl Tryz.isAgg453 (vs := [_, _]) Tryz.sizeOf453 (Rds.cel (List.Mem.head _) (at_spec ⟨rfl, rfl, trivial⟩))) (Split.none _) ⟨rfl, rfl, rfl⟩
end Go.Proofs.YthgjgeapfndeeaaGreatDoor

namespace Go.Proofs.YthgjgeapfndeeaaGreatDoor
open Go.PK
def sw (z : Int) : Int := (z + 170141183460469231731687303715884105728) % 340282366920938463463374607431768211456 - 170141183460469231731687303715884105728
theorem sw_bd (z : Int) : -170141183460469231731687303715884105728 ≤ sw z ∧ sw z < 170141183460469231731687303715884105728 := by unfold sw; omega
theorem sw_id {z : Int} (h : -170141183460469231731687303715884105728 ≤ z ∧ z < 170141183460469231731687303715884105728) : sw z = z := by unfold sw; omega
theorem zbits_add : ∀ (n : Nat) (z q : Int), zbits n (z + 2 ^ n * q) = zbits n z
  | 0, _, _ => rfl
  | n + 1, z, q => by
    have h : (2 : Int) ^ (n + 1) * q = 2 * (2 ^ n * q) := by rw [Int.pow_succ, Int.mul_comm (2 ^ n) 2, Int.mul_assoc]
    rw [zbits, zbits, h]
    have ih := zbits_add n (z / 2) q
    generalize (2 : Int) ^ n * q = t at *
    rw [show (z + 2 * t) % 2 = z % 2 by omega, show (z + 2 * t) / 2 = z / 2 + t by omega, ih]
theorem zbits_sw (z : Int) : zbits 128 (sw z) = zbits 128 z := by
  have h : sw z = z + 2 ^ 128 * (-((z + 170141183460469231731687303715884105728) / 340282366920938463463374607431768211456)) := by
    rw [show (2 : Int) ^ 128 = 340282366920938463463374607431768211456 by decide]
    unfold sw; omega
  rw [h, zbits_add]
theorem radd_w (a b : Int) (ha : -170141183460469231731687303715884105728 ≤ a ∧ a < 170141183460469231731687303715884105728) (hb : -170141183460469231731687303715884105728 ≤ b ∧ b < 170141183460469231731687303715884105728) :
    Spc Tryz.prog 478 #[W a, W b] [] [] (Is (W (sw (a + b)))) := by
  have hsw := sw_bd (a + b)
  refine Spc.enter Tryz.func478 rfl rfl rfl (fun w0 hw0 => ?_)
  refine CW.seq (CW.region (ef := [0, 1, 2]) (bk := []) (RL.box rfl rfl rfl rfl rfl rfl ?_))
  intro b1
  refine RL.box rfl rfl rfl rfl rfl rfl ?_
  intro b2
  refine RL.alloc Tryz.zeroValue453 rfl rfl rfl rfl rfl ?_
  intro b3
  refine RL.nil (NQ.seq (CW.seq (CW.freezeP (A := [_, _]) (B := [_]) (.leave (.take (.take .nil))) rfl ?_)))
  refine CW.cutG (γ := Option Nat × Nat × Option Nat × Nat) (fun g => g.1.isSome = true ∧ g.2.2.1.isSome = true) (fun g => [(4, .pointer (some ⟨b3, 0, none⟩)), (5, slO g.1 128 g.2.1), (6, slO g.2.2.1 128 g.2.2.2)]) (fun _ => [])
    (fun g => [own g.1 g.2.1 3 1 128 (ints (zbits 128 a)), own g.2.2.1 g.2.2.2 3 1 128 (ints (zbits 128 b)), cel b3 [.int .i64 0, .int .u64 0] 453]) ?_ ?_
  ·
    refine CW.regionD (Sq.of [0, 2, 1, 3, 4, 5]) [1, 3] [] [0, 2, 4, 5] mixed (by kernel_rfl) ?_
    refine RL.loadNT (vs := [_, _]) Tryz.isAgg453 Tryz.sizeOf453 rfl rfl rfl rfl (by first | (apply Rds.cel; (solve | (repeat (first | exact List.Mem.head _ | apply List.Mem.tail))); exact at_spec ⟨rfl, rfl, trivial⟩) | (apply Rds.celI; (solve | (repeat (first | exact List.Mem.head _ | apply List.Mem.tail))); exact at_spec ⟨rfl, rfl, trivial⟩) | assumption | (apply RdsI.rds; assumption)) ?_
    refine RL.loadNT (vs := [_, _]) Tryz.isAgg453 Tryz.sizeOf453 rfl rfl rfl rfl (by first | (apply Rds.cel; (solve | (repeat (first | exact List.Mem.head _ | apply List.Mem.tail))); exact at_spec ⟨rfl, rfl, trivial⟩) | (apply Rds.celI; (solve | (repeat (first | exact List.Mem.head _ | apply List.Mem.tail))); exact at_spec ⟨rfl, rfl, trivial⟩) | assumption | (apply RdsI.rds; assumption)) ?_
    refine RL.callq (digits_any a ha) Tryz.call477 rfl rfl rfl rfl rfl (.inl rfl) ?_
    rintro _ _ _ ⟨ob1, cap1, rfl, rfl, rfl, ho1⟩
    refine RL.callq (digits_any b hb) Tryz.call477 rfl rfl rfl rfl rfl (.inl rfl) ?_
    rintro _ _ _ ⟨ob2, cap2, rfl, rfl, rfl, ho2⟩
    refine RL.p rfl (RL.p rfl (RL.nil ?_))
    exact NQ.midG (ob1, cap1, ob2, cap2) ⟨by simpa using ho1, by simpa using ho2⟩ (.cons rfl (.cons rfl (.cons rfl .nil))) (fun w h => h.rea (fun _ h => by simp at h) (by repeat (first | exact Rea.nil | (apply Rea.cons; (solve | (repeat (first | exact Del.here | apply Del.there)))))))
  rintro ⟨x, cx, y, cz⟩ ⟨hx, hy⟩
  dsimp only at hx hy ⊢
  obtain ⟨bx, rfl⟩ := Option.isSome_iff_exists.1 hx
  obtain ⟨bY, rfl⟩ := Option.isSome_iff_exists.1 hy
  have hga0 : ∀ i, i < 128 → (zbits 128 a)[i]? = some (a / 2 ^ i % 2) := fun i h => zbits_get h
  have hgb0 : ∀ i, i < 128 → (zbits 128 b)[i]? = some (b / 2 ^ i % 2) := fun i h => zbits_get h
  generalize zbits 128 a = xa at hga0 ⊢
  generalize zbits 128 b = xb at hgb0 ⊢
  refine CW.seq (CW.region (ef := [0]) (bk := []) (RL.buildOwn [] Tryz.runUnderlying237 Tryz.sizeOf3 Tryz.zeroValue3 rfl rfl (by decide) (by decide) rfl (by decide) rfl rfl rfl rfl rfl rfl ?_))
  intro b4
  refine RL.p rfl (RL.nil (NQ.seq (CW.seq (CW.rg (RL.p rfl (RL.nil (NQ.seq (CW.seq (CW.seq (CW.rg (RL.p rfl (RL.nil (NQ.seq ?_)))))))))))))
  refine CW.block ?_
  refine CW.loop (γ := Nat × Option Nat × Nat) (fun g => g.1 ≤ 128 ∧ (g.1 = 0 ∨ g.2.1.isSome = true)) (fun g => [(4, .pointer (some ⟨b3, 0, none⟩)), (5, slO (some bx) 128 cx), (6, slO (some bY) 128 cz), (7, slO g.2.1 g.1 g.2.2), (8, .int .i64 (cy a b g.1)), (9, .int .i64 (g.1 : Int))]) (fun _ => [])
    (fun g => [own g.2.1 g.2.2 3 1 g.1 (ints (zbits g.1 (a + b))), own (some bx) cx 3 1 128 (ints xa), own (some bY) cz 3 1 128 (ints xb), cel b3 [.int .i64 0, .int .u64 0] 453]) (fun g => 128 - g.1) (0, some b4, 0) ⟨by simp, .inl rfl⟩
    (.cons rfl (.cons rfl (.cons rfl (.cons rfl (.cons (by rw [show cy a b 0 = 0 by simp [cy]; omega]; rfl) (.cons rfl .nil)))))) (fun w h => h.rea (fun _ h => h) (by repeat (first | exact Rea.nil | (apply Rea.cons; (solve | (repeat (first | exact Del.here | apply Del.there))))))) ?_
  rintro ⟨i, ob, cp⟩ ⟨hi, hs⟩
  dsimp only at hi hs ⊢
  refine CW.seq (CW.seq (CW.rg (RL.p rfl (RL.p rfl (RL.nil (NQ.seq ?_))))))
  refine CW.cond rfl (fun hlt => ?_) (fun hlt => ?_)
  ·
    have hlt : i < 128 := by simp at hlt; omega
    have hga := hga0 i hlt
    have hgb := hgb0 i hlt
    have hc := cy_bd a b i
    have h1 := bit_bd a i
    have h2 := bit_bd b i
    have h3 := bit_bd (a + b) i
    have hst := cy_step a b i
    have hr : Value.int .i64 ((a / 2 ^ i % 2 + b / 2 ^ i % 2 + cy a b i).tmod 2) = .int .i64 ((a + b) / 2 ^ i % 2) := by rw [tmod2 (by omega), hst.1]
    have hq : Value.int .i64 (IntKind.i64.wrap ((a / 2 ^ i % 2 + b / 2 ^ i % 2 + cy a b i).tdiv 2)) = .int .i64 (cy a b (i + 1)) := by
      have := cy_bd a b (i + 1)
      rw [tdiv2 (by omega), hst.2, i64_in' (by omega)]
    refine CW.skip (NQ.seq (CW.seq (CW.block (CW.seq (CW.regionD (Sq.of [0, 1, 2, 3, 4, 5, 6, 7, 8, 9, 10, 11]) [] [] [0, 1, 2, 4, 5, 6, 8, 9, 10, 11] mixed (by kernel_rfl) ?_)))))
    refine RL.p rfl (RL.p rfl (RL.idx (j := i) Tryz.runUnderlying237 Tryz.sizeOf3 rfl rfl rfl rfl rfl rfl hlt (RL.load Tryz.isAgg3 rfl rfl rfl rfl (Rd.getO (List.Mem.tail _ (List.Mem.head _)) (ints_get hga)) (RL.p rfl (RL.p rfl (RL.idx (j := i) Tryz.runUnderlying237 Tryz.sizeOf3 rfl rfl rfl rfl rfl rfl hlt (RL.load Tryz.isAgg3 rfl rfl rfl rfl (Rd.getO (List.Mem.tail _ (List.Mem.tail _ (List.Mem.head _))) (ints_get hgb)) (RL.bx rfl (wrapV_i64 (by omega) (by omega)) ?_))))))))
    refine RL.p rfl (RL.bx rfl (wrapV_i64 (by omega) (by omega)) ?_)
    refine RL.p rfl (RL.nil (NQ.seq (CW.ok [4, 5, 6, 7, 9, 10] rfl (CW.seq (CW.region (ef := [3, 4]) (bk := [4]) (RL.p rfl (RL.p rfl (RL.remX rfl rfl rfl rfl rfl (by decide) hr ?_))))))))
    refine RL.buildOwn [_] Tryz.runUnderlying237 Tryz.sizeOf3 Tryz.zeroValue3 rfl rfl (by decide) (by decide) rfl (by decide) rfl rfl rfl rfl rfl rfl ?_
    intro b5
    refine RL.appendq el_237 rfl rfl rfl rfl rfl rfl rfl ?_ (hs := by first | exact Src.ownS (List.Mem.head _) | exact Src.own (List.Mem.head _))
    intro ob1 cap1 ho1
    refine RL.p rfl (RL.nil (NQ.seq (CW.rg (RL.p rfl (RL.quoX rfl rfl rfl rfl rfl (by decide) hq ?_)))))
    refine RL.p rfl (RL.nil (NQ.block (NQ.seq (CW.ok [4, 5, 6, 7, 8, 9] rfl (CW.rg (RL.p rfl (RL.bx rfl (wrapV_i64 (by omega) (by omega)) ?_)))))))
    refine RL.p rfl (RL.nil ?_)
    refine NQ.round (g := (i, ob, cp)) (i + 1, ob1, cap1) ⟨hlt, by simpa using ho1⟩ (by show 128 - (i + 1) < 128 - i; omega) (.cons rfl (.cons rfl (.cons rfl (.cons rfl (.cons rfl (.cons rfl .nil)))))) (fun w h => ?_)
    dsimp only
    rw [zbits_snoc, ints_snoc]
    exact h.rea (fun _ h => h) (by repeat (first | exact Rea.nil | (apply Rea.cons; (solve | (repeat (first | exact Del.here | apply Del.there))))))
  ·
    have hin : i = 128 := by simp at hlt; omega
    subst hin
    rw [← zbits_sw (a + b)]
    refine CW.exit (XQ.seq (XQ.seq (XQ.hit (NQ.seq (CW.ok [4, 7] rfl (CW.seq (CW.region (ef := [2]) (bk := [2]) (RL.p rfl (RL.callv (number_any (ob.map fun b => ⟨b, 0, none⟩) cp (sw (a + b)) hsw) Tryz.call512 rfl rfl rfl rfl (Lend.own (by repeat (first | exact List.Mem.head _ | apply List.Mem.tail)) .nil) ?_)))))))))
    refine RL.store (vs := [_, _]) Tryz.sizeOf453 rfl rfl rfl rfl rfl rfl rfl rfl rfl (by repeat (first | exact Upd.here | apply Upd.there)) ?_
    refine RL.nil (NQ.seq (CW.ret ?_))
    exact RQ.post (resW (vs := [.int .i64 (sw (a + b) / 18446744073709551616), .int .u64 (sw (a + b) % 18446744073709551616)]) rfl rfl Tryz.isAgg453 Tryz.sizeOf453 (List.Mem.tail _ (List.Mem.tail _ (List.Mem.tail _ (List.Mem.head _)))) rfl) (Split.none _) ⟨rfl, rfl, rfl⟩
theorem radd_any (a b : Int) (ha : -170141183460469231731687303715884105728 ≤ a ∧ a < 170141183460469231731687303715884105728) (hb : -170141183460469231731687303715884105728 ≤ b ∧ b < 170141183460469231731687303715884105728) (hab : -170141183460469231731687303715884105728 ≤ a + b ∧ a + b < 170141183460469231731687303715884105728) :
    Spc Tryz.prog 478 #[W a, W b] [] [] (Is (W (a + b))) := by
  have := radd_w a b ha hb
  rwa [sw_id hab] at this
theorem rwof_any (n : Int) (h : -9223372036854775808 ≤ n ∧ n ≤ 9223372036854775807) : Spc Tryz.prog 476 #[.int .i64 n] [] [] (Is (W n)) := by
  refine Spc.enter Tryz.func476 rfl rfl rfl (fun w0 hw0 => ?_)
  refine CW.seq (CW.region (ef := [0]) (bk := []) (RL.alloc Tryz.zeroValue453 rfl rfl rfl rfl rfl ?_))
  intro b1
  refine RL.nil (NQ.seq (CW.seq (CW.seq (CW.rg (RL.p rfl (RL.p rfl (RL.nil (NQ.seq ?_))))))))
  refine CW.cond rfl (fun hn => ?_) (fun hn => ?_)
  ·
    refine CW.seq (CW.region (ef := [3]) (bk := [3]) (RL.p rfl (RL.conv Tryz.runUnderlying2 Tryz.runUnderlying33 rfl rfl rfl rfl (RL.buildS [_, _] Tryz.zeroValue453 pl_453 rfl rfl rfl rfl rfl (RL.store (vs := [_, _]) Tryz.sizeOf453 rfl rfl rfl rfl rfl rfl rfl rfl rfl (by repeat (first | exact Upd.here | apply Upd.there)) ?_)))))
    refine RL.nil (NQ.seq (CW.ret (RQ.seq ?_)))
    refine RQ.post (resC rfl rfl Tryz.isAgg453 (vs := [_, _]) Tryz.sizeOf453 (Rds.cel (List.Mem.head _) (at_spec ⟨rfl, rfl, trivial⟩))) (Split.none _) ⟨?_, rfl, rfl⟩
    simp only [decide_eq_true_eq] at hn
    rw [W, IntKind.wrap_u64, show n / 18446744073709551616 = -1 by omega]
  ·
    refine CW.skip (NQ.seq (CW.seq (CW.region (ef := [3]) (bk := [3]) (RL.p rfl (RL.conv Tryz.runUnderlying2 Tryz.runUnderlying33 rfl rfl rfl rfl (RL.buildS [_, _] Tryz.zeroValue453 pl_453 rfl rfl rfl rfl rfl (RL.store (vs := [_, _]) Tryz.sizeOf453 rfl rfl rfl rfl rfl rfl rfl rfl rfl (by repeat (first | exact Upd.here | apply Upd.there)) ?_)))))))
    refine RL.nil (NQ.seq (CW.ok [2] rfl (CW.ret ?_)))
    refine RQ.post (resC rfl rfl Tryz.isAgg453 (vs := [_, _]) Tryz.sizeOf453 (Rds.cel (List.Mem.head _) (at_spec ⟨rfl, rfl, trivial⟩))) (Split.none _) ⟨?_, rfl, rfl⟩
    simp only [decide_eq_false_iff_not] at hn
    rw [W, IntKind.wrap_u64, show n / 18446744073709551616 = 0 by omega]
theorem rless_any (a b : Int) : Spc Tryz.prog 475 #[W a, W b] [] [] (Is (.bool (decide (a < b)))) := by
  unfold W
  refine Spc.enter Tryz.func475 rfl rfl rfl (fun w0 hw0 => ?_)
  refine CW.seq (CW.region (ef := [0, 1]) (bk := []) (RL.box rfl rfl rfl rfl rfl rfl ?_))
  intro b1
  refine RL.box rfl rfl rfl rfl rfl rfl ?_
  intro b2
  refine RL.p rfl (RL.nil (NQ.seq (CW.seq (CW.rg (RL.fieldAddr fa_453_0 rfl rfl rfl rfl (RL.loadq Tryz.isAgg2 rfl rfl rfl rfl ?_))))))
  refine RL.fieldAddr fa_453_0 rfl rfl rfl rfl (RL.loadq Tryz.isAgg2 rfl rfl rfl rfl ?_)
  refine RL.p rfl (RL.p rfl ?_)
  apply RL.orB (d := 10) (dp := 23) (l' := (Sq.of [19])) rfl (sK [4] rfl)
  ·
    intro hb6 K6
    refine RL.fieldAddr fa_453_0 rfl rfl rfl rfl (RL.loadq Tryz.isAgg2 rfl rfl rfl rfl ?_)
    refine RL.fieldAddr fa_453_0 rfl rfl rfl rfl (RL.loadq Tryz.isAgg2 rfl rfl rfl rfl ?_)
    refine RL.p rfl (RL.p rfl ?_)
    apply RL.andB (d := 16) (dp := 22) (l' := (Sq.of [18, 19])) rfl (sK [4, 10] rfl)
    ·
      intro hb12 K12
      refine RL.fieldAddr fa_453_1 rfl rfl rfl rfl (RL.loadq Tryz.isAgg33 rfl rfl rfl rfl ?_)
      refine RL.fieldAddr fa_453_1 rfl rfl rfl rfl (RL.loadq Tryz.isAgg33 rfl rfl rfl rfl ?_)
      refine RL.p rfl (RL.p rfl ?_)
      exact K12 _ (.cons rfl (sK [4, 10] rfl))
    ·
      intro hb12 K12
      refine RL.p rfl (RL.p rfl (RL.p rfl (RL.p rfl (RL.p rfl (RL.p rfl ?_)))))
      exact K12 _ (.cons rfl (sK [4, 10] rfl))
    refine RL.p rfl ?_
    exact K6 _ (.cons rfl (sK [4] rfl))
  ·
    intro hb6 K6
    refine RL.p rfl (RL.p rfl (RL.p rfl (RL.p rfl (RL.p rfl (RL.p rfl (RL.p rfl (RL.p rfl (RL.p rfl (RL.p rfl (RL.p rfl (RL.p rfl (RL.p rfl ?_))))))))))))
    exact K6 _ (.cons rfl (sK [4] rfl))
  refine RL.p rfl (RL.nil (NQ.seq (CW.ret ?_)))
  refine RQ.post (res1 rfl rfl) (Split.none _) ⟨?_, rfl, rfl⟩
  congr 1
  rw [Bool.eq_iff_iff]
  simp
  omega
theorem rwclip_any (z : Int) (h : -170141183460469231731687303715884105728 ≤ z ∧ z < 170141183460469231731687303715884105728) : Spc Tryz.prog 414 #[W z] [] [] (Is (.tuple #[.int .i64 (clip z), .bool (cut z)])) := by
  refine Spc.enter Tryz.func414 rfl rfl rfl (fun w0 hw0 => ?_)
  refine CW.seq (CW.region (ef := [0]) (bk := []) (RL.box rfl rfl rfl rfl rfl rfl ?_))
  intro b1
  refine RL.p rfl (RL.p rfl (RL.nil (NQ.seq (CW.seq (CW.seq (CW.freezeP (A := [_]) (B := []) (.take .nil) rfl (CW.regionD (Sq.of [0, 1, 2]) [] [] [0, 1, 2] mixed (by kernel_rfl) ?_)))))))
  refine RL.loadNT (vs := [_, _]) Tryz.isAgg453 Tryz.sizeOf453 rfl rfl rfl rfl (by first | (apply Rds.cel; (solve | (repeat (first | exact List.Mem.head _ | apply List.Mem.tail))); exact at_spec ⟨rfl, rfl, trivial⟩) | (apply Rds.celI; (solve | (repeat (first | exact List.Mem.head _ | apply List.Mem.tail))); exact at_spec ⟨rfl, rfl, trivial⟩) | assumption | (apply RdsI.rds; assumption)) ?_
  refine RL.callTq (rwof_any _ (by decide)) Tryz.call476 rfl rfl rfl rfl ?_
  refine RL.callTq (rless_any _ _) Tryz.call475 rfl rfl rfl rfl ?_
  refine RL.nil (NQ.seq ?_)
  refine CW.cond rfl (fun h1 => ?_) (fun h1 => ?_)
  ·
    refine CW.seq (CW.rg (RL.p rfl (RL.p rfl (RL.nil (NQ.seq (CW.ret (RQ.seq ?_)))))))
    refine RQ.post (res2 rfl rfl rfl) (Split.none _) ⟨?_, rfl, rfl⟩
    simp only [decide_eq_true_eq] at h1
    rw [clip, if_pos h1, cut]; simp [h1]
  ·
    refine CW.skip (NQ.seq (CW.ok [1] rfl (CW.seq (CW.seq (CW.regionD (Sq.of [0, 1, 2]) [] [] [0, 1, 2] mixed (by kernel_rfl) ?_)))))
    refine RL.callTq (rwof_any _ (by decide)) Tryz.call476 rfl rfl rfl rfl ?_
    refine RL.loadNT (vs := [_, _]) Tryz.isAgg453 Tryz.sizeOf453 rfl rfl rfl rfl (by first | (apply Rds.cel; (solve | (repeat (first | exact List.Mem.head _ | apply List.Mem.tail))); exact at_spec ⟨rfl, rfl, trivial⟩) | (apply Rds.celI; (solve | (repeat (first | exact List.Mem.head _ | apply List.Mem.tail))); exact at_spec ⟨rfl, rfl, trivial⟩) | assumption | (apply RdsI.rds; assumption)) ?_
    refine RL.callTq (rless_any _ _) Tryz.call475 rfl rfl rfl rfl ?_
    refine RL.nil (NQ.seq ?_)
    simp only [decide_eq_false_iff_not] at h1
    refine CW.cond rfl (fun h2 => ?_) (fun h2 => ?_)
    ·
      refine CW.seq (CW.rg (RL.p rfl (RL.p rfl (RL.nil (NQ.seq (CW.ret (RQ.seq ?_)))))))
      refine RQ.post (res2 rfl rfl rfl) (Split.none _) ⟨?_, rfl, rfl⟩
      simp only [decide_eq_true_eq] at h2
      rw [clip, if_neg h1, if_pos h2, cut]; simp [h2]
    ·
      refine CW.skip (NQ.seq (CW.seq (CW.rg (RL.fieldAddr fa_453_1 rfl rfl rfl rfl (RL.loadq Tryz.isAgg33 rfl rfl rfl rfl ?_)))))
      refine RL.conv Tryz.runUnderlying33 Tryz.runUnderlying2 rfl rfl rfl rfl (RL.p rfl (RL.p rfl (RL.nil (NQ.seq (CW.ok [2, 3] rfl (CW.ret ?_))))))
      simp only [decide_eq_false_iff_not] at h2
      refine RQ.post (res2 rfl rfl rfl) (Split.none _) ⟨?_, rfl, rfl⟩
      have : IntKind.i64.wrap (z % 18446744073709551616) = z := by rw [IntKind.wrap_i64]; omega
      rw [clip, if_neg h1, if_neg h2, cut, this]; simp; omega
theorem rclip_any (z : Int) (h : -170141183460469231731687303715884105728 ≤ z ∧ z < 170141183460469231731687303715884105728) : Spc Tryz.prog 480 #[W z] [] [] (Is (.tuple #[.int .i64 (clip z), .bool (cut z)])) := by
  refine Spc.enter Tryz.func480 rfl rfl rfl (fun w0 hw0 => ?_)
  refine CW.seq (CW.region (ef := [0]) (bk := []) (RL.box rfl rfl rfl rfl rfl rfl ?_))
  intro b1
  refine RL.p rfl (RL.p rfl (RL.nil (NQ.seq (CW.seq (CW.rg (RL.loadN (vs := [_, _]) Tryz.isAgg453 Tryz.sizeOf453 rfl rfl rfl rfl (by first | (apply Rds.cel; (solve | (repeat (first | exact List.Mem.head _ | apply List.Mem.tail))); exact at_spec ⟨rfl, rfl, trivial⟩) | (apply Rds.celI; (solve | (repeat (first | exact List.Mem.head _ | apply List.Mem.tail))); exact at_spec ⟨rfl, rfl, trivial⟩) | assumption | (apply RdsI.rds; assumption)) ?_))))))
  refine RL.callvq (rwclip_any z h) Tryz.call414 rfl rfl rfl rfl ?_
  refine RL.p rfl (RL.p rfl (RL.p rfl (RL.p rfl (RL.p rfl (RL.nil (NQ.seq (CW.ok [4, 5] rfl (CW.seq (CW.rg (RL.p rfl (RL.p rfl (RL.p rfl (RL.p rfl ?_)))))))))))))
  refine RL.nil (NQ.seq (CW.ret ?_))
  exact RQ.post (res2 rfl rfl rfl) (Split.none _) ⟨rfl, rfl, rfl⟩
theorem rsum_any (p : Option Addr) (l : List Int) (cap : Nat) (hl : l.length ≤ 9223372036854775807) (hb : ∀ a ∈ l, -9223372036854775808 ≤ a ∧ a ≤ 9223372036854775807) :
    Spc Tryz.prog 416 #[.slice p l.length cap] [sls p 1 l.length (ints l)] [] (Is (.tuple #[.int .i64 (clip (isum l)), .bool (cut (isum l))])) := by
  refine Spc.enter Tryz.func416 rfl rfl rfl (fun w0 hw0 => ?_)
  refine CW.seq (CW.rg (RL.p rfl (RL.p rfl (RL.nil (NQ.seq (CW.seq (CW.region (ef := [1, 2]) (bk := [2]) (RL.buildS _ Tryz.zeroValue453 pl_453 rfl rfl rfl rfl rfl (RL.alloc Tryz.zeroValue453 rfl rfl rfl rfl rfl ?_)))))))))
  intro b1
  refine RL.store (vs := [_, _]) Tryz.sizeOf453 rfl rfl rfl rfl rfl rfl rfl rfl rfl (by repeat (first | exact Upd.here | apply Upd.there)) ?_
  refine RL.nil (NQ.seq (CW.seq (CW.seq (CW.rg (RL.p rfl (RL.nil (NQ.seq (CW.block ?_))))))))
  refine CW.fact (p := p = none → l.length = 0) (fun w hw hp => sls_nil (hw.s.i _ (List.Mem.head _)) hp) (fun hp => ?_)
  refine CW.loop (γ := Nat) (fun k => k ≤ l.length) (fun k => [(0, .slice p l.length cap), (4, .pointer (some ⟨b1, 0, none⟩)), (5, .int .i64 k)]) (fun _ => [sls p 1 l.length (ints l)])
    (fun k => [cel b1 [.int .i64 (isum (l.take k) / 18446744073709551616), .int .u64 (isum (l.take k) % 18446744073709551616)] 453]) (fun k => l.length - k) 0 (by omega) (.cons rfl (.cons rfl (.cons rfl .nil))) (fun _ h => h) (fun k hk => ?_)
  refine CW.seq (CW.seq (CW.rg (RL.p rfl (RL.p rfl (RL.lenS Tryz.runUnderlying353 rfl rfl rfl rfl (RL.p rfl (RL.nil (NQ.seq ?_))))))))
  refine CW.cond rfl (fun hc => ?_) (fun hc => ?_)
  ·
    have hlt : k < l.length := by simpa using hc
    obtain ⟨a, rfl⟩ : ∃ a, p = some a := by
      cases p with
      | none => have := hp rfl; omega
      | some a => exact ⟨a, rfl⟩
    have hb1 := isum_bd (l.take k) (fun a ha => hb a (List.mem_of_mem_take ha))
    have hb2 := hb l[k] (List.getElem_mem _)
    rw [List.length_take, Nat.min_eq_left hk] at hb1
    have hs : isum (l.take (k + 1)) = isum (l.take k) + l[k] := by rw [List.take_succ_eq_append_getElem hlt, isum_snoc]
    have hg : l[k]? = some l[k] := List.getElem?_eq_getElem hlt
    refine CW.skip (NQ.seq (CW.seq (CW.block (CW.regionD (Sq.of [0, 1, 2, 3, 4, 5, 6, 7]) [7] [7] [1, 2, 3] mixed (by kernel_rfl) ?_))))
    refine RL.loadN (vs := [_, _]) Tryz.isAgg453 Tryz.sizeOf453 rfl rfl rfl rfl (by first | (apply Rds.cel; (solve | (repeat (first | exact List.Mem.head _ | apply List.Mem.tail))); exact at_spec ⟨rfl, rfl, trivial⟩) | (apply Rds.celI; (solve | (repeat (first | exact List.Mem.head _ | apply List.Mem.tail))); exact at_spec ⟨rfl, rfl, trivial⟩) | assumption | (apply RdsI.rds; assumption)) ?_
    refine RL.p rfl (RL.p rfl (RL.idx (j := k) Tryz.runUnderlying353 Tryz.sizeOf26 rfl rfl rfl rfl rfl rfl hlt (RL.load Tryz.isAgg26 rfl rfl rfl rfl (Rd.getS (List.Mem.head _) (ints_get hg)) (RL.callvq (rwof_any l[k] hb2) Tryz.call476 rfl rfl rfl rfl ?_))))
    refine RL.callvq (radd_any (isum (l.take k)) l[k] (by omega) (by omega) (by omega)) Tryz.call478 rfl rfl rfl rfl ?_
    refine RL.store (vs := [_, _]) Tryz.sizeOf453 rfl rfl rfl rfl rfl rfl rfl rfl rfl (by repeat (first | exact Upd.here | apply Upd.there)) ?_
    refine RL.nil (NQ.block (NQ.seq (CW.ok [0, 4, 5] rfl (CW.rg (RL.p rfl (RL.bx rfl (wrapV_i64 (by omega) (by omega)) ?_))))))
    refine RL.p rfl (RL.nil ?_)
    refine NQ.round (k + 1) hlt (by omega) (.cons rfl (.cons rfl (.cons rfl .nil))) (fun w hw => by simp only [hs]; exact hw)
  ·
    have hge : k = l.length := by simp at hc; omega
    subst hge
    have hb1 := isum_bd l hb
    have hb2 : isum (l.take l.length) = isum l := by rw [List.take_length]
    rw [hb2]
    refine CW.exit (XQ.seq (XQ.seq (XQ.hit (NQ.seq (CW.ok [4] rfl (CW.seq (CW.rg (RL.loadN (vs := [_, _]) Tryz.isAgg453 Tryz.sizeOf453 rfl rfl rfl rfl (by first | (apply Rds.cel; (solve | (repeat (first | exact List.Mem.head _ | apply List.Mem.tail))); exact at_spec ⟨rfl, rfl, trivial⟩) | (apply Rds.celI; (solve | (repeat (first | exact List.Mem.head _ | apply List.Mem.tail))); exact at_spec ⟨rfl, rfl, trivial⟩) | assumption | (apply RdsI.rds; assumption)) ?_))))))))
    refine RL.callvq (rclip_any (isum l) (by omega)) Tryz.call480 rfl rfl rfl rfl ?_
    refine RL.p rfl (RL.p rfl (RL.p rfl (RL.p rfl (RL.nil (NQ.seq (CW.ret ?_))))))
    exact RQ.post (res2 rfl rfl rfl) (Split.none _) ⟨rfl, rfl, rfl⟩
end Go.Proofs.YthgjgeapfndeeaaGreatDoor

namespace Go.Proofs.YthgjgeapfndeeaaGreatDoor
open Go.PK
/-! ### How far a source may lead astray -/
abbrev Wc (z : Int) : List Value := [.int .i64 (z / 18446744073709551616), .int .u64 (z % 18446744073709551616)]
theorem bit_cast (t i : Nat) : (t : Int) / 2 ^ i % 2 = ((t / 2 ^ i % 2 : Nat) : Int) := by simp
theorem mod_step (t i : Nat) : t % 2 ^ (i + 1) = t % 2 ^ i + 2 ^ i * (t / 2 ^ i % 2) := by
  rw [Nat.pow_succ, Nat.mod_mul]
theorem bit_small {t i : Nat} (ht : t ≤ 65535) (h : t / 2 ^ i % 2 = 1) : i < 16 := by
  rcases Nat.lt_or_ge i 16 with h1 | h1
  · exact h1
  · have h2 : (2 : Nat) ^ 16 ≤ 2 ^ i := Nat.pow_le_pow_right (by decide) h1
    have h3 : t / 2 ^ i = 0 := Nat.div_eq_of_lt (by omega)
    rw [h3] at h; cases h
theorem dbl_bd {a : Int} (ha : 0 ≤ a ∧ a ≤ 9223372036854775807) {i : Nat} (hi : i ≤ 16) : 0 ≤ a * 2 ^ i ∧ a * 2 ^ i ≤ 9223372036854775807 * 65536 := by
  have h1 : (2 : Int) ^ i ≤ 65536 := by
    have : (2 : Nat) ^ i ≤ 2 ^ 16 := Nat.pow_le_pow_right (by decide) hi
    have h2 : (((2 : Nat) ^ i : Nat) : Int) ≤ ((2 ^ 16 : Nat) : Int) := Int.ofNat_le.2 this
    simpa using h2
  have h0 : (0 : Int) ≤ 2 ^ i := Int.le_of_lt (Int.pow_pos (by decide))
  exact ⟨Int.mul_nonneg ha.1 h0, Int.mul_le_mul ha.2 h1 h0 (by decide)⟩
theorem prd_bd {a : Int} (ha : 0 ≤ a ∧ a ≤ 9223372036854775807) {n : Nat} (hn : n ≤ 65535) : 0 ≤ a * (n : Int) ∧ a * (n : Int) ≤ 9223372036854775807 * 65535 :=
  ⟨Int.mul_nonneg ha.1 (by omega), Int.mul_le_mul ha.2 (by omega) (by omega) (by decide)⟩
theorem rmul_any (a : Int) (t : Nat) (ha : 0 ≤ a ∧ a ≤ 9223372036854775807) (ht : t ≤ 65535) : Spc Tryz.prog 415 #[.int .i64 a, .int .i64 (t : Int)] [] [] (Is (W (a * t))) := by
  refine Spc.enter Tryz.func415 rfl rfl rfl (fun w0 hw0 => ?_)
  refine CW.seq (CW.region (ef := [0]) (bk := []) (RL.alloc Tryz.zeroValue453 rfl rfl rfl rfl rfl ?_))
  intro b1
  refine RL.nil (NQ.seq (CW.seq (CW.region (ef := [1, 2]) (bk := [2]) (RL.buildS _ Tryz.zeroValue453 pl_453 rfl rfl rfl rfl rfl (RL.alloc Tryz.zeroValue453 rfl rfl rfl rfl rfl ?_)))))
  intro b2
  refine RL.store (vs := [_, _]) Tryz.sizeOf453 rfl rfl rfl rfl rfl rfl rfl rfl rfl (by repeat (first | exact Upd.here | apply Upd.there)) ?_
  refine RL.nil (NQ.seq (CW.seq (CW.region (ef := [4, 5, 6]) (bk := [6]) (RL.p rfl (RL.callvq (rwof_any a (by omega)) Tryz.call476 rfl rfl rfl rfl ?_)))))
  refine RL.p rfl (RL.callvq (rwof_any t (by omega)) Tryz.call476 rfl rfl rfl rfl ?_)
  refine RL.callq (digits_any (t : Int) (by omega)) Tryz.call477 rfl rfl rfl rfl rfl (.inl rfl) ?_
  rintro _ _ _ ⟨ob1, cap1, rfl, rfl, rfl, ho1⟩
  refine RL.alloc Tryz.zeroValue453 rfl rfl rfl rfl rfl ?_
  intro b3
  refine RL.storeW (vs := Wc a) Tryz.sizeOf453 rfl rfl rfl rfl rfl rfl rfl rfl (by repeat (first | exact Upd.here | apply Upd.there)) rfl rfl ?_
  refine RL.p rfl (RL.nil (NQ.seq (CW.ok [4, 5, 6, 7] rfl (CW.seq (CW.seq (CW.rg (RL.p rfl (RL.nil (NQ.seq (CW.block ?_))))))))))
  obtain ⟨bd, rfl⟩ : ∃ q, ob1 = some q := Option.isSome_iff_exists.1 (by simpa using ho1)
  have hgd : ∀ i, i < 128 → (zbits 128 (t : Int))[i]? = some ((t : Int) / 2 ^ i % 2) := fun i h => zbits_get h
  generalize zbits 128 (t : Int) = ds at hgd ⊢
  refine CW.loop (γ := Nat × Int) (fun g => g.1 ≤ 127 ∧ (-170141183460469231731687303715884105728 ≤ g.2 ∧ g.2 < 170141183460469231731687303715884105728) ∧ (g.1 ≤ 16 → g.2 = a * 2 ^ g.1)) (fun g => [(4, .pointer (some ⟨b1, 0, none⟩)), (5, .pointer (some ⟨b2, 0, none⟩)), (6, .pointer (some ⟨b3, 0, none⟩)), (7, slO (some bd) 128 cap1), (8, .int .i64 (g.1 : Int))]) (fun _ => [])
    (fun g => [cel b3 (Wc g.2) 453, cel b2 (Wc (a * ((t % 2 ^ g.1 : Nat) : Int))) 453, own (some bd) cap1 3 1 128 (ints ds), cel b1 [.int .i64 0, .int .u64 0] 453]) (fun g => 127 - g.1) (0, a) ⟨by show 0 ≤ 127; decide, by omega, fun _ => by simp⟩
    (.cons rfl (.cons rfl (.cons rfl (.cons rfl (.cons rfl .nil))))) (fun w h => h.rea (fun _ h => h) (by
      rw [show Wc (a * ((t % 2 ^ 0 : Nat) : Int)) = [.int .i64 0, .int .u64 0] by simp [Wc, Nat.mod_one]]
      exact (by repeat (first | exact Rea.nil | (apply Rea.cons; (solve | (repeat (first | exact Del.here | apply Del.there)))))))) ?_
  rintro ⟨i, x⟩ ⟨hi, hx1, hx⟩
  dsimp only at hi hx1 hx ⊢
  refine CW.seq (CW.seq (CW.rg (RL.p rfl (RL.p rfl (RL.nil (NQ.seq ?_))))))
  refine CW.cond rfl (fun hlt => ?_) (fun hlt => ?_)
  ·
    have hlt : i < 127 := by simp at hlt; omega
    have hgi := hgd i (by omega)
    rw [bit_cast] at hgi
    have hms := mod_step t i
    have hlt2 : t / 2 ^ i % 2 < 2 := Nat.mod_lt _ (by decide)
    obtain ⟨bt, hbt⟩ : ∃ b, t / 2 ^ i % 2 = b := ⟨_, rfl⟩
    rw [hbt] at hgi hms hlt2
    have hsm := Nat.le_trans (Nat.mod_le t (2 ^ i)) ht
    have hsb := prd_bd ha hsm
    have hxx : i + 1 ≤ 16 → sw (x + x) = a * 2 ^ (i + 1) := fun h => by
      have h1 := dbl_bd ha (show i ≤ 16 by omega)
      rw [← hx (by omega)] at h1
      rw [sw_id (by omega), hx (by omega), Int.pow_succ, ← Int.mul_assoc]; omega
    refine CW.skip (NQ.seq (CW.seq (CW.block (CW.seq (CW.seq (CW.rg (RL.p rfl (RL.p rfl (RL.idx (j := i) Tryz.runUnderlying237 Tryz.sizeOf3 rfl rfl rfl rfl rfl rfl (by omega) ?_)))))))))
    refine RL.load Tryz.isAgg3 rfl rfl rfl rfl (Rd.getO (by repeat (first | exact List.Mem.head _ | apply List.Mem.tail)) (ints_get hgi)) ?_
    refine RL.p rfl (RL.nil (NQ.seq (CW.ok [4, 5, 6, 7, 8, 23] rfl ?_)))
    refine CW.cond rfl (fun hb => ?_) (fun hb => ?_)
    ·
      have hb1 : bt = 1 := by simp at hb; omega
      subst hb1
      have hi16 := bit_small ht hbt
      have hsum : sw (a * ((t % 2 ^ i : Nat) : Int) + x) = a * ((t % 2 ^ (i + 1) : Nat) : Int) := by
        have h1 := dbl_bd ha (show i ≤ 16 by omega)
        rw [← hx (by omega)] at h1
        rw [sw_id (by omega), hms, hx (by omega), Nat.mul_one, Int.natCast_add, Int.mul_add]; simp
      refine CW.region (ef := [3]) (bk := [3]) (RL.loadN (vs := Wc (a * ((t % 2 ^ i : Nat) : Int))) Tryz.isAgg453 Tryz.sizeOf453 rfl rfl rfl rfl (Rds.cel (by repeat (first | exact List.Mem.head _ | apply List.Mem.tail)) (at_spec ⟨rfl, rfl, trivial⟩)) ?_)
      refine RL.loadN (vs := Wc x) Tryz.isAgg453 Tryz.sizeOf453 rfl rfl rfl rfl (Rds.cel (by repeat (first | exact List.Mem.head _ | apply List.Mem.tail)) (at_spec ⟨rfl, rfl, trivial⟩)) ?_
      refine RL.callvq (radd_w (a * ((t % 2 ^ i : Nat) : Int)) x (by omega) hx1) Tryz.call478 rfl rfl rfl rfl ?_
      rw [hsum]
      refine RL.storeW (vs := Wc (a * ((t % 2 ^ (i + 1) : Nat) : Int))) Tryz.sizeOf453 rfl rfl rfl rfl rfl rfl rfl rfl (by repeat (first | exact Upd.here | apply Upd.there)) rfl rfl ?_
      refine RL.nil (NQ.seq (CW.region (ef := [3]) (bk := [3]) (RL.loadN (vs := Wc x) Tryz.isAgg453 Tryz.sizeOf453 rfl rfl rfl rfl (Rds.cel (by repeat (first | exact List.Mem.head _ | apply List.Mem.tail)) (at_spec ⟨rfl, rfl, trivial⟩)) ?_)))
      refine RL.loadN (vs := Wc x) Tryz.isAgg453 Tryz.sizeOf453 rfl rfl rfl rfl (Rds.cel (by repeat (first | exact List.Mem.head _ | apply List.Mem.tail)) (at_spec ⟨rfl, rfl, trivial⟩)) ?_
      refine RL.callvq (radd_w x x hx1 hx1) Tryz.call478 rfl rfl rfl rfl ?_
      refine RL.storeW (vs := Wc (sw (x + x))) Tryz.sizeOf453 rfl rfl rfl rfl rfl rfl rfl rfl (by repeat (first | exact Upd.here | apply Upd.there)) rfl rfl ?_
      refine RL.nil (NQ.block (NQ.seq (CW.ok [4, 5, 6, 7, 8] rfl (CW.rg (RL.p rfl (RL.bx rfl (wrapV_i64 (by omega) (by omega)) ?_))))))
      refine RL.p rfl (RL.nil ?_)
      refine NQ.round (g := (i, x)) (i + 1, sw (x + x)) ⟨hlt, sw_bd _, hxx⟩ (by show 127 - (i + 1) < 127 - i; omega) (.cons rfl (.cons rfl (.cons rfl (.cons rfl (.cons rfl .nil))))) (fun w h => h.rea (fun _ h => h) (by repeat (first | exact Rea.nil | (apply Rea.cons; (solve | (repeat (first | exact Del.here | apply Del.there)))))))
    ·
      have hb1 : bt = 0 := by simp at hb; omega
      subst hb1
      have hsum : t % 2 ^ i = t % 2 ^ (i + 1) := by rw [hms, Nat.mul_zero, Nat.add_zero]
      rw [hsum]
      refine CW.skip (NQ.seq (CW.region (ef := [3]) (bk := [3]) (RL.loadN (vs := Wc x) Tryz.isAgg453 Tryz.sizeOf453 rfl rfl rfl rfl (Rds.cel (by repeat (first | exact List.Mem.head _ | apply List.Mem.tail)) (at_spec ⟨rfl, rfl, trivial⟩)) ?_)))
      refine RL.loadN (vs := Wc x) Tryz.isAgg453 Tryz.sizeOf453 rfl rfl rfl rfl (Rds.cel (by repeat (first | exact List.Mem.head _ | apply List.Mem.tail)) (at_spec ⟨rfl, rfl, trivial⟩)) ?_
      refine RL.callvq (radd_w x x hx1 hx1) Tryz.call478 rfl rfl rfl rfl ?_
      refine RL.storeW (vs := Wc (sw (x + x))) Tryz.sizeOf453 rfl rfl rfl rfl rfl rfl rfl rfl (by repeat (first | exact Upd.here | apply Upd.there)) rfl rfl ?_
      refine RL.nil (NQ.block (NQ.seq (CW.rg (RL.p rfl (RL.bx rfl (wrapV_i64 (by omega) (by omega)) ?_)))))
      refine RL.p rfl (RL.nil ?_)
      refine NQ.round (g := (i, x)) (i + 1, sw (x + x)) ⟨hlt, sw_bd _, hxx⟩ (by show 127 - (i + 1) < 127 - i; omega) (.cons rfl (.cons rfl (.cons rfl (.cons rfl (.cons rfl .nil))))) (fun w h => h.rea (fun _ h => h) (by repeat (first | exact Rea.nil | (apply Rea.cons; (solve | (repeat (first | exact Del.here | apply Del.there)))))))
  ·
    have hin : i = 127 := by simp at hlt; omega
    subst hin
    have hgi := hgd 127 (by omega)
    have h127 : (2 : Nat) ^ 127 > 65535 := by decide
    rw [bit_cast, Nat.div_eq_of_lt (show t < 2 ^ 127 by omega)] at hgi
    rw [Nat.mod_eq_of_lt (show t < 2 ^ 127 by omega)]
    refine CW.exit (XQ.seq (XQ.seq (XQ.hit (NQ.seq (CW.seq (CW.seq (CW.rg (RL.p rfl (RL.idx (j := 127) Tryz.runUnderlying237 Tryz.sizeOf3 rfl rfl rfl rfl rfl rfl (by omega) ?_)))))))))
    refine RL.load Tryz.isAgg3 rfl rfl rfl rfl (Rd.getO (by repeat (first | exact List.Mem.head _ | apply List.Mem.tail)) (ints_get hgi)) ?_
    refine RL.p rfl (RL.nil (NQ.seq (CW.ok [4, 5, 6, 33] rfl (CW.condF rfl (rfl) (CW.skip (NQ.seq (CW.seq (CW.region (ef := [1]) (bk := [1]) (RL.loadN (vs := Wc (a * (t : Int))) Tryz.isAgg453 Tryz.sizeOf453 rfl rfl rfl rfl (Rds.cel (by repeat (first | exact List.Mem.head _ | apply List.Mem.tail)) (at_spec ⟨rfl, rfl, trivial⟩)) ?_)))))))))
    refine RL.storeW (vs := Wc (a * (t : Int))) Tryz.sizeOf453 rfl rfl rfl rfl rfl rfl rfl rfl (by repeat (first | exact Upd.here | apply Upd.there)) rfl rfl ?_
    refine RL.nil (NQ.seq (CW.ret ?_))
    exact RQ.post (resW (vs := Wc (a * (t : Int))) rfl rfl Tryz.isAgg453 Tryz.sizeOf453 (by repeat (first | exact List.Mem.head _ | apply List.Mem.tail)) rfl) (Split.none _) ⟨rfl, rfl, rfl⟩
def i64 (n : Int) : Prop := -9223372036854775808 ≤ n ∧ n ≤ 9223372036854775807
def drf (k t : Int) : Int := min (max k 0 * min (max t 0) 65535) 9223372036854775807
def limB (h k g t : Int) : Int := clip (isum [max h 0, max g 0, drf k t])
theorem drf_bd (k t : Int) : 0 ≤ drf k t ∧ drf k t ≤ 9223372036854775807 := by
  have : 0 ≤ max k 0 * min (max t 0) 65535 := Int.mul_nonneg (by omega) (by omega)
  unfold drf; omega
theorem rbound_any (h k g t : Int) (hh : i64 h) (hk : i64 k) (hg : i64 g) : Spc Tryz.prog 346 #[.int .i64 h, .int .i64 k, .int .i64 g, .int .i64 t] [] [] (Is (.int .i64 (limB h k g t))) := by
  unfold i64 at hh hk hg
  obtain ⟨n, hn, hnb⟩ : ∃ n : Nat, min (max t 0) 65535 = (n : Int) ∧ n ≤ 65535 := ⟨(min (max t 0) 65535).toNat, by omega, by omega⟩
  have hp := prd_bd (a := max k 0) (by omega) hnb
  have hd : clip (max k 0 * (n : Int)) = drf k t := by
    unfold drf clip
    rw [hn]
    split
    · omega
    · split <;> omega
  have hdb := drf_bd k t
  have hm : Spc Tryz.prog 415 #[.int .i64 (max k 0), .int .i64 (min (max t 0) 65535)] [] [] (Is (W (max k 0 * n))) := by
    rw [hn]; exact rmul_any _ n (by omega) hnb
  have hcl := rwclip_any (max k 0 * (n : Int)) (by omega)
  rw [hd] at hcl
  refine Spc.enter Tryz.func346 rfl rfl rfl (fun w0 hw0 => ?_)
  refine CW.seq (CW.rg (RL.p rfl (RL.nil (NQ.seq (CW.seq (CW.rg (RL.p rfl (RL.max rfl rfl rfl rfl rfl (RL.p rfl (RL.max rfl rfl rfl rfl rfl (RL.min rfl rfl rfl rfl rfl (RL.callvq (hm) Tryz.call415 rfl rfl rfl rfl ?_))))))))))))
  refine RL.callvq (hcl) Tryz.call414 rfl rfl rfl rfl ?_
  refine RL.p rfl (RL.p rfl (RL.p rfl (RL.p rfl (RL.p rfl (RL.nil (NQ.seq (CW.ok [0, 2, 9] rfl (CW.seq (CW.region (ef := [5]) (bk := []) (RL.p rfl (RL.max rfl rfl rfl rfl rfl (RL.p rfl (RL.max rfl rfl rfl rfl rfl ?_)))))))))))))
  refine RL.p rfl (RL.buildSlice [_, _, _] Tryz.runUnderlying353 Tryz.sizeOf26 Tryz.zeroValue26 rfl rfl (by decide) (by decide) rfl rfl rfl rfl rfl rfl ?_)
  intro b1
  refine RL.callv (rsum_any _ [max h 0, max g 0, drf k t] _ (by simp) (by intro z hz; simp only [List.mem_cons, List.not_mem_nil, or_false] at hz; rcases hz with rfl | rfl | rfl <;> omega)) Tryz.call416 rfl rfl rfl rfl (.all (List.Mem.head _) rfl .nil) ?_
  refine RL.p rfl (RL.p rfl (RL.p rfl (RL.p rfl (RL.p rfl (RL.nil (NQ.seq (CW.ok [11] rfl (CW.seq (CW.rg (RL.p rfl (RL.p rfl (RL.nil (NQ.seq ?_)))))))))))))
  refine CW.ret ?_
  exact RQ.post (res1 rfl rfl) (Split.none _) ⟨rfl, rfl, rfl⟩
end Go.Proofs.YthgjgeapfndeeaaGreatDoor
