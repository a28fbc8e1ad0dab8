/- A reading, and what is got of bytes. -/
import Derived.Test.YtflpiaeffnoepaaRead2
namespace Go.Proofs.Ytflpiaeffnoepaa
open Go.PK

structure Rdg where
  kind : Int
  g0 : Int
  g1 : Int
  g2 : Int
  a0 : Int
  a1 : Int
  a2 : Int
  height : Int
  heading : Int
  speed : Int
  steps : Int
  interval : Int
  seq : B8
  p0 : Int
  p1 : Int
  p2 : Int
  key : Nat → B8
  tick : Int
  mode : B8
  epoch : Int
  bound : Int
  flags : Int
  source : B8
  state : B8
  fails : Int
  counter : Int
def keyV (k : Nat → B8) : List Value := [U8 (k 0), U8 (k 1), U8 (k 2), U8 (k 3), U8 (k 4), U8 (k 5), U8 (k 6), U8 (k 7), U8 (k 8), U8 (k 9), U8 (k 10), U8 (k 11), U8 (k 12), U8 (k 13), U8 (k 14), U8 (k 15), U8 (k 16), U8 (k 17), U8 (k 18), U8 (k 19), U8 (k 20), U8 (k 21), U8 (k 22), U8 (k 23), U8 (k 24), U8 (k 25), U8 (k 26), U8 (k 27), U8 (k 28), U8 (k 29), U8 (k 30), U8 (k 31)]
def Rdg.cells (r : Rdg) : List Value :=
  [.int .i64 r.kind, .int .i32 r.g0, .int .i32 r.g1, .int .i32 r.g2, .int .i32 r.a0, .int .i32 r.a1, .int .i32 r.a2, .int .i64 r.height, .int .u32 r.heading, .int .i32 r.speed, .int .u32 r.steps, .int .u32 r.interval, U8 r.seq, .int .i64 r.p0, .int .i64 r.p1, .int .i64 r.p2] ++ (keyV r.key ++
  [.int .u64 r.tick, U8 r.mode, .int .u32 r.epoch, .int .i64 r.bound, .int .u32 r.flags, U8 r.source, U8 r.state, .int .u16 r.fails, .int .u64 r.counter])
/-- Nothing but a kind. -/
def rz (k : Int) : Rdg := ⟨k, 0, 0, 0, 0, 0, 0, 0, 0, 0, 0, 0, 0, 0, 0, 0, fun _ => 0, 0, 0, 0, 0, 0, 0, 0, 0, 0⟩

/-- A number of so many bytes from a place on. -/
def nat (l : List B8) (o n : Nat) : Nat := numB ((l.drop o).take n)
def i32at (l : List B8) (o : Nat) : Int := IntKind.i32.wrap (nat l o 4)
def i64at (l : List B8) (o : Nat) : Int := IntKind.i64.wrap (nat l o 8)
def bat (l : List B8) (o : Nat) : B8 := l.getD o 0
def getR (k : Int) (l : List B8) : Rdg :=
  if k = 1 then { rz 1 with g0 := i32at l 0, g1 := i32at l 4, g2 := i32at l 8, a0 := i32at l 12, a1 := i32at l 16, a2 := i32at l 20 }
  else if k = 2 then { rz 2 with height := i64at l 0 }
  else if k = 3 then { rz 3 with heading := nat l 0 4 }
  else if k = 4 then { rz 4 with speed := i32at l 0, steps := nat l 4 4 }
  else if k = 5 then { rz 5 with interval := nat l 0 4, seq := bat l 4, p0 := i64at l 5, p1 := i64at l 13, p2 := i64at l 21 }
  else if k = 6 then { rz 6 with interval := nat l 0 4, key := fun j => bat l (4 + j) }
  else if k = 7 then { rz 7 with tick := nat l 0 8 }
  else if k = 8 then { rz 8 with mode := bat l 0 }
  else if k = 10 then { rz 10 with epoch := nat l 0 4 }
  else if k = 12 then { rz 12 with source := bat l 0 }
  else if k = 13 then { rz 13 with mode := bat l 0, p0 := i64at l 1, p1 := i64at l 9, p2 := i64at l 17, bound := i64at l 25, flags := nat l 33 4 }
  else if k = 14 then { rz 14 with source := bat l 0, state := bat l 1, fails := nat l 2 2, counter := nat l 4 8, epoch := nat l 12 4 }
  else rz k
def sizeR (k : Int) : Nat := if k = 1 then 24 else if k = 2 then 8 else if k = 3 then 4 else if k = 4 then 8 else if k = 5 then 29 else if k = 6 then 36 else if k = 7 then 8 else if k = 8 then 1 else if k = 9 then 0 else if k = 10 then 4 else if k = 11 then 0 else if k = 12 then 1 else if k = 13 then 37 else 16

theorem nat_lt (l : List B8) (o n : Nat) : nat l o n < 256 ^ n := by
  have h := numB_lt ((l.drop o).take n)
  refine Nat.lt_of_lt_of_le h (Nat.pow_le_pow_right (by decide) ?_)
  rw [List.length_take]; omega
theorem u32_nat (l : List B8) (o : Nat) : IntKind.u32.wrap (numB ((l.drop o).take 4) : Int) = (nat l o 4 : Int) := by
  have h := nat_lt l o 4
  unfold nat at h ⊢
  simp [IntKind.wrap, IntKind.bits, IntKind.signed]; omega
theorem u32_nat0 (l : List B8) : IntKind.u32.wrap (numB (l.take 4) : Int) = (nat l 0 4 : Int) := by rw [← u32_nat, List.drop_zero]
theorem u16_nat (l : List B8) (o : Nat) : IntKind.u16.wrap (numB ((l.drop o).take 2) : Int) = (nat l o 2 : Int) := by
  have h := nat_lt l o 2
  unfold nat at h ⊢
  simp [IntKind.wrap, IntKind.bits, IntKind.signed]; omega
theorem bat_nat (l : List B8) (o : Nat) (h : o < l.length) : numB ((l.drop o).take 1) = (bat l o).toNat := by
  rw [List.drop_eq_getElem_cons h, List.take_succ_cons, List.take_zero]
  simp only [numB, List.foldl_cons, List.foldl_nil, Nat.mul_zero, Nat.zero_add]
  simp [bat, h]
theorem bat_nat0 (l : List B8) (h : 0 < l.length) : numB (l.take 1) = (bat l 0).toNat := by rw [← bat_nat l 0 h, List.drop_zero]
theorem ofNat_nat8 (b : B8) : BitVec.ofNat 8 b.toNat = b := by simp
theorem bat_get {l : List B8} {o : Nat} (h : o < l.length) : l[o]? = some (bat l o) := by simp [bat, h]
theorem key_bat {l : List B8} {o : Nat} (h : o + 32 ≤ l.length) : bytes ((l.drop o).take 32) = keyV (fun j => bat l (o + j)) := by
  apply List.ext_getElem?
  intro j
  by_cases hj : j < 32
  · have e : (bytes ((l.drop o).take 32))[j]? = some (U8 (bat l (o + j))) := by
      rw [List.getElem?_map, List.getElem?_take_of_lt hj, List.getElem?_drop, bat_get (by omega)]; rfl
    rw [e]
    clear e
    revert j
    intro j hj
    match j, hj with
    | 0, _ => rfl
    | 1, _ => rfl
    | 2, _ => rfl
    | 3, _ => rfl
    | 4, _ => rfl
    | 5, _ => rfl
    | 6, _ => rfl
    | 7, _ => rfl
    | 8, _ => rfl
    | 9, _ => rfl
    | 10, _ => rfl
    | 11, _ => rfl
    | 12, _ => rfl
    | 13, _ => rfl
    | 14, _ => rfl
    | 15, _ => rfl
    | 16, _ => rfl
    | 17, _ => rfl
    | 18, _ => rfl
    | 19, _ => rfl
    | 20, _ => rfl
    | 21, _ => rfl
    | 22, _ => rfl
    | 23, _ => rfl
    | 24, _ => rfl
    | 25, _ => rfl
    | 26, _ => rfl
    | 27, _ => rfl
    | 28, _ => rfl
    | 29, _ => rfl
    | 30, _ => rfl
    | 31, _ => rfl
    | _ + 32, h => omega
  · rw [List.getElem?_eq_none (by rw [List.length_map, List.length_take]; omega), List.getElem?_eq_none (by simp [keyV]; omega)]
theorem pre32 {l : List B8} {o : Nat} (h : o + 32 ≤ l.length) : ∀ (j : Nat) (u : Value), (keyV (fun j => bat l (o + j)))[j]? = some u → (bytes (l.drop o))[0 * 1 + j]? = some u := by
  intro j u hu
  rw [← key_bat h, List.getElem?_map, List.getElem?_take] at hu
  rw [Nat.zero_mul, Nat.zero_add, List.getElem?_map]
  split at hu
  · exact hu
  · simp at hu
end Go.Proofs.Ytflpiaeffnoepaa
