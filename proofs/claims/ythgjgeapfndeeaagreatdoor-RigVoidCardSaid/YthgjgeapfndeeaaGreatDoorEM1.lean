/-
  EM, part 1: the machine for the rig's example.
-/
import Derived.Test.YthgjgeapfndeeaaGreatDoorEX5
import Derived.Test.YthgjgeapfndeeaaGreatDoorFA
import Derived.Test.YthgjgeapfndeeaaGreatDoorF6
import Derived.Test.YthgjgeapfndeeaaGreatDoorF7
import Derived.Test.YthgjgeapfndeeaaGreatDoorFB
set_option linter.unusedVariables false
set_option linter.unusedSimpArgs false
namespace Go.PK
theorem gcalls2_okF {P : Program} {an : Nat → Nat → Option RA} {hk : Nat → Option (Heap → Heap → Nat → List AV → Option (AV × Heap × Nat))} {h2 : Nat → Option (Cl FT)} (hm : P.follows .mixedOrders = true) (hh : ∀ f g, hk f = some g → ∀ hb h nx args v h' nx', g hb h nx args = some (v, h', nx') → FOk P f args h hb v h') (hk2 : ∀ f g, h2 f = some g → HkOk P f g) (d : Nat) : CallOk P (gF2 ⟨P, an, hk, okF P⟩ h2 stE d) :=
  gcalls2_ok (C := ⟨P, an, hk, okF P⟩) hm hh hk2 (fun f h => okF_ok f h) d
theorem spH_okF {P : Program} {an : Nat → Nat → Option RA} {hk : Nat → Option (Heap → Heap → Nat → List AV → Option (AV × Heap × Nat))} (hm : P.follows .mixedOrders = true) (f : Nat) : HkOk P f (spH ⟨P, an, hk, okF P⟩ stE f) :=
  spH_ok (C := ⟨P, an, hk, okF P⟩) (fun f h => okF_ok f h) (fun _ hc => drOk hm (fun _ _ => stE_eq) hc) f
end Go.PK
namespace Go.Proofs.YthgjgeapfndeeaaGreatDoor
open Go.PK
def anR : Nat → Nat → Option RA
  | 7, 3 => some ⟨[], PK.Sq.of [0, 1, 2, 3, 4, 5, 6, 7, 8, 9, 10, 11], [], [], [], 0⟩
  | 9, 7 => some ⟨[], PK.Sq.of [0, 1, 2, 3, 4, 5], [], [], [], 0⟩
  | 18, 1 => some ⟨[], .cons 0 (.cons 1 (.cons 3 (.cons 4 (.cons 5 (.cons 6 (.cons 7 (.cons 8 (.cons 9 (.cons 10 (.fork [2, 12] (fun k => (bif Nat.beq k 2 then (PK.Sq.of [11, 12, 13]) else (PK.Sq.of [2, 11, 13]))))))))))))), [2, 12, 13], [13], [], 365⟩
  | 18, 5 => some ⟨[], PK.Sq.of [0, 1, 2, 3, 4, 5, 6, 7, 8, 9, 10, 11, 12, 13, 14, 15, 16, 17, 18, 19, 20], [19, 20], [20], [], 0⟩
  | 18, 9 => some ⟨[], PK.Sq.of [0, 1, 2, 3, 4, 5, 6, 7, 8, 9, 10, 11, 12, 13, 14], [11, 12, 14], [12, 14], [], 0⟩
  | 20, 2 => some ⟨[], PK.Sq.of [0, 1, 2, 3, 4, 5, 6, 7], [6, 7], [7], [], 0⟩
  | 20, 3 => some ⟨[], PK.Sq.of [0, 1, 2, 3, 4, 5, 6, 7, 8, 9, 10, 11, 12, 13, 14], [], [], [], 0⟩
  | 20, 11 => some ⟨[0, 1, 2, 3, 4, 5, 6, 7, 10, 11, 12, 13, 14, 15, 16, 17, 19, 20, 24, 25, 26, 27], .cons 8 (.cons 9 (.cons 18 (.cons 21 (.cons 22 (.cons 29 (.fork [23, 30] (fun k => (bif Nat.beq k 23 then (PK.Sq.of [28, 30, 31, 32]) else (PK.Sq.of [23, 28, 31, 32]))))))))), [30, 32], [30, 32], [3, 6, 13, 16, 25, 26], 1⟩
  | 20, 18 => some ⟨[], PK.Sq.of [0, 1, 2, 3, 4, 5, 6, 7, 8, 9, 10, 11], [], [], [], 0⟩
  | 27, 11 => some ⟨[], PK.Sq.of [0, 1, 2, 3, 4, 5, 6, 7, 8], [8], [8], [], 0⟩
  | 28, 4 => some ⟨[], PK.Sq.of [0, 1, 2, 3, 4, 5, 6, 7, 8, 9, 10, 11, 12, 13, 14, 15, 16], [], [], [], 0⟩
  | 29, 0 => some ⟨[], PK.Sq.of [0, 1, 2, 3, 4, 5, 6, 7, 8, 9, 10, 11, 12, 13], [13], [13], [], 0⟩
  | 31, 0 => some ⟨[], PK.Sq.of [0, 1, 2, 3, 4, 5, 6, 7, 8, 9, 10, 11, 12, 13, 14, 15, 16, 17, 18, 19, 20, 21, 22], [16, 22], [22], [], 0⟩
  | 33, 4 => some ⟨[], PK.Sq.of [0, 1, 2, 3, 4, 5, 6, 7, 8, 9, 10, 11, 12, 13, 14, 15, 16, 17, 18, 19, 20, 21, 22, 23, 24, 25, 26, 27], [26, 27], [27], [24], 0⟩
  | 33, 5 => some ⟨[], PK.Sq.of [0, 1, 2, 3, 4, 5, 6, 7, 8, 9, 10, 11, 12, 13, 14, 15, 16, 17, 18, 19, 20, 21, 22, 25, 23, 24], [23], [], [24], 0⟩
  | 38, 8 => some ⟨[], .cons 0 (.cons 1 (.fork [2, 3] (fun k => (bif Nat.beq k 2 then (PK.Sq.of [3, 4, 5, 6]) else (PK.Sq.of [2, 4, 5, 6]))))), [2, 3, 5], [], [], 1⟩
  | 41, 2 => some ⟨[], .cons 0 (.cons 2 (.fork [1, 3] (fun k => (bif Nat.beq k 1 then (PK.Sq.of [3, 4, 5]) else (PK.Sq.of [1, 4, 5]))))), [1, 3, 5], [5], [], 905⟩
  | 47, 5 => some ⟨[], PK.Sq.of [0, 1, 2, 3, 4, 5, 6, 7, 8, 9, 10, 11], [8, 9, 11], [9, 11], [], 0⟩
  | 53, 1 => some ⟨[], PK.Sq.of [0, 1, 2, 3, 4, 5, 6, 7, 8, 9], [6, 9], [9], [3], 0⟩
  | 56, 5 => some ⟨[], PK.Sq.of [0, 2, 3, 1, 4, 5], [1, 4], [4], [], 0⟩
  | 59, 8 => some ⟨[], PK.Sq.of [0, 1, 2, 3, 4, 5, 6, 7, 8, 9, 10, 11], [10], [10], [], 0⟩
  | 59, 11 => some ⟨[], PK.Sq.of [0, 1, 2, 3, 4, 5, 6, 7, 8, 9, 10], [9], [9], [], 0⟩
  | 62, 1 => some ⟨[], PK.Sq.of [0, 1, 2, 3, 4, 5, 6, 7, 8, 9, 10, 11, 12, 13, 14, 15, 16, 17], [], [], [14], 0⟩
  | 66, 4 => some ⟨[], PK.Sq.of [0, 1, 2, 3, 4, 5, 6, 7, 8, 9, 10, 11, 12], [12], [12], [], 0⟩
  | 67, 9 => some ⟨[], PK.Sq.of [0, 1, 2, 3, 4, 5, 6, 7, 8, 9, 10], [10], [10], [], 0⟩
  | 67, 11 => some ⟨[], PK.Sq.of [0, 1, 2, 3, 4, 5], [5], [5], [], 0⟩
  | 68, 7 => some ⟨[], PK.Sq.of [0, 1, 2, 3, 4, 5, 6, 7, 8, 9, 10, 11, 12, 13, 14, 15, 16, 17], [17], [17], [], 0⟩
  | 71, 3 => some ⟨[], PK.Sq.of [0, 1, 2, 3, 4, 5, 6, 7, 8, 9, 10, 11], [9, 10], [10], [], 0⟩
  | 71, 6 => some ⟨[], PK.Sq.of [0, 1, 2, 3, 4, 5, 6, 7, 8, 9, 10, 11], [], [], [10], 0⟩
  | 71, 9 => some ⟨[], PK.Sq.of [0, 1, 2, 3, 4], [4], [4], [], 0⟩
  | 73, 6 => some ⟨[], PK.Sq.of [0, 1, 2, 3, 4, 5, 6, 7, 8, 9, 10, 11, 12, 13, 14, 15, 16, 17], [11, 17], [17], [], 0⟩
  | 73, 7 => some ⟨[], PK.Sq.of [0, 1, 2, 3, 4, 5, 6, 7, 8, 9, 10, 11, 12, 13, 14, 15, 16, 17], [11, 17], [17], [], 0⟩
  | 75, 3 => some ⟨[], .cons 0 (.cons 1 (.cons 2 (.cons 4 (.cons 5 (.cons 6 (.cons 8 (.cons 9 (.cons 10 (.cons 11 (.cons 12 (.cons 13 (.fork [3, 7, 14, 16] (fun k => (bif Nat.beq k 3 then (.fork [7, 14, 16] (fun k => (bif Nat.beq k 7 then (.fork [14, 16] (fun k => (bif Nat.beq k 14 then (PK.Sq.of [15, 16, 17]) else (PK.Sq.of [14, 15, 17])))) else (bif Nat.beq k 14 then (PK.Sq.of [7, 15, 16, 17]) else (.fork [7, 14] (fun k => (bif Nat.beq k 7 then (PK.Sq.of [14, 15, 17]) else (PK.Sq.of [7, 15, 17])))))))) else (bif Nat.beq k 7 then (.fork [3, 14, 16] (fun k => (bif Nat.beq k 3 then (.fork [14, 16] (fun k => (bif Nat.beq k 14 then (PK.Sq.of [15, 16, 17]) else (PK.Sq.of [14, 15, 17])))) else (bif Nat.beq k 14 then (PK.Sq.of [3, 15, 16, 17]) else (.fork [3, 14] (fun k => (bif Nat.beq k 3 then (PK.Sq.of [14, 15, 17]) else (PK.Sq.of [3, 15, 17])))))))) else (bif Nat.beq k 14 then (PK.Sq.of [3, 7, 15, 16, 17]) else (.fork [3, 7, 14] (fun k => (bif Nat.beq k 3 then (.fork [7, 14] (fun k => (bif Nat.beq k 7 then (PK.Sq.of [14, 15, 17]) else (PK.Sq.of [7, 15, 17])))) else (bif Nat.beq k 7 then (.fork [3, 14] (fun k => (bif Nat.beq k 3 then (PK.Sq.of [14, 15, 17]) else (PK.Sq.of [3, 15, 17])))) else (PK.Sq.of [3, 7, 15, 17]))))))))))))))))))))), [14, 16, 17], [14, 17], [], 107327⟩
  | 75, 7 => some ⟨[], PK.Sq.of [0, 1, 2, 3, 4, 5, 6, 7, 8, 9, 10, 11, 12, 13, 14, 15, 16, 17], [15, 16], [16], [], 0⟩
  | 76, 3 => some ⟨[], PK.Sq.of [0, 1, 2, 3, 4, 5, 6, 7, 8, 9, 10, 11], [], [], [5], 0⟩
  | 76, 5 => some ⟨[], PK.Sq.of [0, 1, 2, 3, 4, 5, 6, 7, 8, 9, 10], [], [], [], 0⟩
  | 76, 11 => some ⟨[], PK.Sq.of [0, 1, 2, 3, 4, 5, 6, 7, 8, 9, 10, 11, 12, 13, 14, 15], [13, 14], [14], [], 0⟩
  | 77, 7 => some ⟨[], PK.Sq.of [0, 1, 2, 3, 4, 5, 6, 7, 8, 9, 10, 11, 12, 13, 14, 15, 16, 17, 18, 19], [], [], [], 0⟩
  | 85, 6 => some ⟨[], PK.Sq.of [0, 1, 2, 3, 4, 5, 6, 7, 8, 9], [6, 7, 9], [7, 9], [], 0⟩
  | 87, 11 => some ⟨[], PK.Sq.of [0, 1, 2, 3, 4, 5, 6, 7, 8, 9, 10, 11, 12, 13, 14, 15, 16, 17, 18, 19, 20, 21, 22, 23, 24, 25, 26, 27, 28, 29, 30, 31, 32, 33, 34, 35, 36, 37, 38, 39, 40, 41, 42, 43], [], [], [], 0⟩
  | 88, 6 => some ⟨[], PK.Sq.of [0, 1, 2, 3, 4, 5, 6, 7, 8, 9, 10, 11, 12, 13, 14, 15, 16, 17, 18, 19, 20, 21, 22, 23, 24], [], [], [19], 0⟩
  | 89, 3 => some ⟨[], PK.Sq.of [0, 1, 2, 3, 4, 5, 6, 7, 8, 9, 10, 11, 12, 13, 14, 15, 16, 17, 18, 19], [], [], [8, 17], 0⟩
  | 89, 6 => some ⟨[], PK.Sq.of [0, 1, 2, 3, 4, 5, 6, 7, 8, 9, 10, 11, 12, 13, 14, 15, 16, 17], [11, 17], [17], [], 0⟩
  | 89, 7 => some ⟨[], PK.Sq.of [0, 1, 2, 3, 4, 5, 6, 7, 8, 9, 10, 11, 12, 13, 14, 15, 16, 17], [11, 17], [17], [], 0⟩
  | 89, 15 => some ⟨[], PK.Sq.of [0, 1, 2, 3, 4, 5, 6, 7, 8, 9, 10, 11], [10, 11], [11], [], 0⟩
  | 89, 16 => some ⟨[], PK.Sq.of [0, 1, 2, 3, 4, 5, 6, 7, 8, 9, 10, 11, 12, 13, 14], [], [], [], 0⟩
  | 89, 18 => some ⟨[], PK.Sq.of [0, 1, 2, 3, 4, 9, 10, 5, 6, 7, 8, 11, 12], [5, 12], [12], [], 0⟩
  | 99, 2 => some ⟨[0, 1, 2, 3, 6, 7], PK.Sq.of [4, 5, 8, 9, 10], [4, 5, 8, 9], [5, 9], [2, 3, 7], 0⟩
  | 103, 12 => some ⟨[0, 1, 2, 3, 4, 5, 6, 7, 8], PK.Sq.of [9, 10, 11], [9, 11], [9, 11], [2, 3, 6, 7], 0⟩
  | 103, 13 => some ⟨[], PK.Sq.of [0, 1, 2, 3, 4, 5, 6, 7, 8, 9, 10], [8, 10], [8, 10], [3], 0⟩
  | 108, 4 => some ⟨[0, 1, 2, 3, 4, 5, 6, 7, 8, 10], PK.Sq.of [9, 11, 12], [9, 12], [9, 12], [3, 7, 8, 10], 0⟩
  | 109, 3 => some ⟨[], PK.Sq.of [0, 1, 2, 3, 4, 5, 6, 7, 8, 9, 10, 11, 12, 13, 14, 15, 16, 17, 18, 19, 20, 21, 22, 23], [], [], [], 0⟩
  | 110, 1 => some ⟨[], PK.Sq.of [0, 1, 2, 3, 4, 5, 6, 7, 8, 9, 10, 11, 12, 13, 14, 15, 16, 17, 18, 19, 20], [16, 17, 20], [17, 20], [], 0⟩
  | 117, 5 => some ⟨[], PK.Sq.of [0, 1, 2, 3, 4, 5, 6, 7, 8, 9, 10], [10], [10], [], 0⟩
  | 120, 3 => some ⟨[], PK.Sq.of [0, 1, 2, 3, 4, 5, 6, 7, 8, 9], [9], [9], [], 0⟩
  | 124, 10 => some ⟨[], .cons 0 (.cons 1 (.cons 2 (.cons 3 (.cons 6 (.cons 8 (.cons 9 (.fork [4, 5] (fun k => (bif Nat.beq k 4 then (PK.Sq.of [5, 7, 10, 11]) else (.fork [4, 7] (fun k => (bif Nat.beq k 4 then (PK.Sq.of [7, 10, 11]) else (PK.Sq.of [4, 10, 11]))))))))))))), [5, 7, 11], [7, 11], [], 1⟩
  | 132, 1 => some ⟨[], PK.Sq.of [0, 1, 2, 3, 4, 5, 6, 7, 8], [8], [8], [], 0⟩
  | 134, 1 => some ⟨[], PK.Sq.of [0, 1, 2, 3, 4, 5, 6, 7, 8, 9, 10, 11, 12, 13, 14, 15, 16, 17, 18], [], [], [8, 14], 0⟩
  | 136, 4 => some ⟨[], .cons 0 (.cons 1 (.fork [2, 3] (fun k => (bif Nat.beq k 2 then (PK.Sq.of [3, 4, 5, 6, 7]) else (PK.Sq.of [2, 4, 5, 6, 7]))))), [2, 3, 5], [], [], 2⟩
  | 137, 3 => some ⟨[], PK.Sq.of [0, 1, 2, 3, 4, 5, 6, 7, 8], [5, 7], [], [], 0⟩
  | 137, 10 => some ⟨[0, 1, 2, 3, 4, 5, 6, 7, 9, 10], .fork [8, 11] (fun k => (bif Nat.beq k 8 then (PK.Sq.of [11, 12, 13, 14]) else (PK.Sq.of [12, 8, 13, 14]))), [8, 11, 13], [11, 13], [3, 5, 6, 10], 1⟩
  | 138, 6 => some ⟨[], PK.Sq.of [0, 1, 2, 3, 4, 5, 6, 7, 8, 9, 10], [9, 10], [10], [], 0⟩
  | 139, 2 => some ⟨[], PK.Sq.of [0, 1, 2, 3, 4, 5, 6, 7, 8, 9, 10, 11], [10, 11], [11], [], 0⟩
  | 139, 3 => some ⟨[], PK.Sq.of [0, 1, 2, 3, 4, 5, 6, 7, 8, 9, 10, 11, 12, 13, 14], [], [], [], 0⟩
  | 139, 5 => some ⟨[], PK.Sq.of [0, 1, 2, 3, 4, 5, 6, 7, 8, 9, 10, 11, 12], [8, 12], [12], [], 0⟩
  | 143, 1 => some ⟨[], PK.Sq.of [0, 1, 2, 3, 4, 5, 6, 7, 8, 9, 10, 11, 12, 13, 14], [], [], [], 0⟩
  | 150, 5 => some ⟨[], PK.Sq.of [0, 1, 2, 3, 4], [4], [4], [], 0⟩
  | 157, 5 => some ⟨[], PK.Sq.of [0, 1, 2, 3, 4, 5, 6, 7, 8, 9, 10, 11, 12, 13, 14, 15, 16, 17], [], [], [], 0⟩
  | 159, 10 => some ⟨[], PK.Sq.of [0, 1, 2, 3], [3], [3], [], 0⟩
  | 166, 7 => some ⟨[], PK.Sq.of [0, 1, 2, 3, 4, 5, 6, 7, 8, 9, 10, 11, 12, 13, 14, 15, 16, 17, 18, 19, 20, 21, 22, 23, 24, 25, 26, 27, 28, 29, 30, 31, 32, 33, 34, 35, 36, 37, 38, 39, 40, 41, 42, 43, 44, 45, 46, 47, 48, 49], [], [], [], 0⟩
  | 167, 7 => some ⟨[], PK.Sq.of [0, 1, 2, 3, 4, 5, 6, 7, 8, 9, 10, 11, 12, 13, 14, 15, 16, 17, 18, 19, 20, 21], [18, 19, 21], [19, 21], [], 0⟩
  | 172, 6 => some ⟨[], PK.Sq.of [0, 1, 2, 3, 4, 5], [3], [], [], 0⟩
  | 174, 8 => some ⟨[], PK.Sq.of [0, 1, 2, 3, 4, 5, 6, 7], [6], [6], [], 0⟩
  | 174, 14 => some ⟨[], PK.Sq.of [0, 1, 2, 3, 4, 5, 6, 7, 8, 9, 10, 11, 12, 13, 14, 15], [11, 12, 15], [12, 15], [], 0⟩
  | 176, 1 => some ⟨[], PK.Sq.of [0, 1, 2, 3, 4, 5, 6, 7, 8], [], [], [], 0⟩
  | 178, 0 => some ⟨[], PK.Sq.of [0, 1, 2, 3, 4, 5, 6, 7, 8, 9, 10, 11, 12, 13, 14, 15, 16, 17, 18, 19, 20, 21], [20, 21], [21], [], 0⟩
  | 178, 6 => some ⟨[], PK.Sq.of [0, 1, 2, 3, 4, 5, 6, 7, 8, 9, 10, 11, 12, 13, 14], [13, 14], [14], [], 0⟩
  | 178, 7 => some ⟨[], PK.Sq.of [0, 1, 2, 3, 4, 5, 6, 7, 8, 9, 10], [], [], [], 0⟩
  | 178, 8 => some ⟨[], PK.Sq.of [0, 1, 2, 3, 4, 5, 6, 7, 8, 9, 10, 11, 12, 13, 14, 15, 16, 17, 18, 19], [], [], [], 0⟩
  | 178, 10 => some ⟨[], PK.Sq.of [0, 1, 2, 3, 4, 5, 6, 7, 8, 9, 10, 11], [11], [11], [], 0⟩
  | 178, 11 => some ⟨[], PK.Sq.of [0, 1, 2, 3, 4, 5], [5], [5], [], 0⟩
  | 179, 1 => some ⟨[], PK.Sq.of [0, 1, 2, 3, 4, 5, 6, 7, 8, 9, 10, 11, 12, 13, 14, 15, 16, 17, 18, 19, 20, 21], [15, 18, 21], [15, 18, 21], [], 0⟩
  | 190, 2 => some ⟨[], PK.Sq.of [0, 1, 2, 3, 4, 5, 6, 7, 8, 9, 10, 11, 12, 13, 14], [], [], [], 0⟩
  | 198, 3 => some ⟨[], PK.Sq.of [0, 1, 2, 3, 4, 5, 6, 7, 8, 9, 10], [], [], [], 0⟩
  | 198, 5 => some ⟨[], PK.Sq.of [0, 1, 2, 3, 4, 5, 6, 7, 8], [], [], [], 0⟩
  | 198, 11 => some ⟨[], PK.Sq.of [0, 1, 2, 3, 4, 5, 6, 7, 8, 9, 10, 11, 12], [11], [11], [], 0⟩
  | 198, 14 => some ⟨[], PK.Sq.of [0, 1, 2, 3, 4, 5, 6, 7], [6], [6], [], 0⟩
  | 213, 7 => some ⟨[0, 1, 2, 3, 5, 6], PK.Sq.of [4, 7, 8], [4, 7], [4, 7], [2, 3, 6], 0⟩
  | 220, 3 => some ⟨[], .cons 0 (.cons 1 (.cons 2 (.cons 3 (.cons 4 (.cons 5 (.cons 6 (.cons 7 (.fork [8, 9] (fun k => (bif Nat.beq k 8 then (PK.Sq.of [9, 10, 11]) else (PK.Sq.of [8, 10, 11]))))))))))), [8, 9, 10, 11], [10, 11], [], 4⟩
  | 229, 6 => some ⟨[], PK.Sq.of [0, 1, 2, 3, 4, 5, 6, 7], [6], [6], [], 0⟩
  | 231, 3 => some ⟨[], PK.Sq.of [0, 1, 2, 3, 4, 5, 6, 7, 8], [], [], [], 0⟩
  | 235, 5 => some ⟨[], PK.Sq.of [0, 1, 2, 3, 4, 5, 6, 7, 8, 9], [9], [9], [], 0⟩
  | 238, 1 => some ⟨[], PK.Sq.of [0, 1, 2, 3, 4, 5, 6, 7, 8], [], [], [], 0⟩
  | 240, 1 => some ⟨[], PK.Sq.of [0, 1, 2, 3, 4, 5, 6, 7, 8, 9, 10], [], [], [], 0⟩
  | 247, 4 => some ⟨[], PK.Sq.of [0, 1, 2, 3, 4, 5, 6, 7, 8, 9, 10, 11, 12, 13], [12], [12], [8], 0⟩
  | 262, 8 => some ⟨[0, 2, 3, 4, 6, 9, 10, 11, 14, 15, 16, 18], .cons 5 (.cons 7 (.fork [1, 12, 17] (fun k => (bif Nat.beq k 1 then (.fork [8, 12, 17] (fun k => (bif Nat.beq k 8 then (.fork [12, 17] (fun k => (bif Nat.beq k 12 then (.fork [13, 17] (fun k => (bif Nat.beq k 13 then (PK.Sq.of [17, 19, 20, 21, 22, 23]) else (PK.Sq.of [19, 13, 20, 21, 22, 23])))) else (PK.Sq.of [19, 12, 13, 20, 21, 22, 23])))) else (bif Nat.beq k 12 then (.fork [8, 17] (fun k => (bif Nat.beq k 8 then (.fork [13, 17] (fun k => (bif Nat.beq k 13 then (PK.Sq.of [17, 19, 20, 21, 22, 23]) else (PK.Sq.of [19, 13, 20, 21, 22, 23])))) else (PK.Sq.of [19, 8, 13, 20, 21, 22, 23])))) else (.cons 19 (.fork [8, 12] (fun k => (bif Nat.beq k 8 then (PK.Sq.of [12, 13, 20, 21, 22, 23]) else (PK.Sq.of [8, 13, 20, 21, 22, 23]))))))))) else (bif Nat.beq k 12 then (.fork [1, 17] (fun k => (bif Nat.beq k 1 then (.fork [8, 17] (fun k => (bif Nat.beq k 8 then (.fork [13, 17] (fun k => (bif Nat.beq k 13 then (PK.Sq.of [17, 19, 20, 21, 22, 23]) else (PK.Sq.of [19, 13, 20, 21, 22, 23])))) else (PK.Sq.of [19, 8, 13, 20, 21, 22, 23])))) else (PK.Sq.of [19, 1, 8, 13, 20, 21, 22, 23])))) else (.cons 19 (.fork [1, 12] (fun k => (bif Nat.beq k 1 then (.fork [8, 12] (fun k => (bif Nat.beq k 8 then (PK.Sq.of [12, 13, 20, 21, 22, 23]) else (PK.Sq.of [8, 13, 20, 21, 22, 23])))) else (PK.Sq.of [1, 8, 13, 20, 21, 22, 23])))))))))), [1, 8, 12, 13, 20, 23], [8, 13, 20, 23], [10], 1⟩
  | 268, 7 => some ⟨[], PK.Sq.of [0, 1, 3, 5, 6, 2, 4, 7, 8], [2, 4, 8], [4, 8], [], 0⟩
  | 269, 3 => some ⟨[], PK.Sq.of [1, 2, 3, 4, 5, 6, 7, 8, 9, 0, 10, 11], [0, 10], [10], [], 0⟩
  | 269, 5 => some ⟨[], PK.Sq.of [0, 1, 2, 3, 4, 5, 6, 7, 8, 9], [9], [9], [], 0⟩
  | 289, 1 => some ⟨[], PK.Sq.of [0, 1, 2, 3, 4, 5, 6, 7, 8, 9, 10, 11, 12, 13, 14, 15], [13, 14], [14], [], 0⟩
  | 289, 4 => some ⟨[], PK.Sq.of [0, 1, 2, 3, 4, 5, 6, 7], [4, 5], [], [], 0⟩
  | 290, 3 => some ⟨[], PK.Sq.of [0, 1, 2, 3, 4, 5, 6], [6], [6], [], 0⟩
  | 316, 4 => some ⟨[], PK.Sq.of [0, 1, 2, 3, 4, 5, 6, 7, 8, 9, 10, 11, 12, 13, 14, 15, 16, 17, 18, 19, 20, 21, 22, 23, 24, 25], [], [], [6, 19], 0⟩
  | 326, 7 => some ⟨[], PK.Sq.of [0, 1, 2, 3, 4, 5, 6, 7, 8], [7, 8], [8], [], 0⟩
  | 340, 2 => some ⟨[], PK.Sq.of [0, 1, 2, 3, 4], [], [], [], 0⟩
  | 351, 7 => some ⟨[0, 1, 2, 3, 4, 5, 6, 9, 10, 11, 12, 13], PK.Sq.of [7, 8, 14, 15, 16], [7, 8, 14, 15], [8, 15], [5, 6, 13], 0⟩
  | 351, 8 => some ⟨[], PK.Sq.of [0, 1, 2, 3, 6, 7, 4, 5, 8, 9], [4, 5, 8], [5, 8], [3], 0⟩
  | 363, 1 => some ⟨[], .cons 0 (.cons 1 (.cons 2 (.cons 3 (.cons 4 (.cons 5 (.cons 7 (.cons 8 (.cons 9 (.cons 11 (.cons 12 (.cons 14 (.cons 15 (.fork [6, 10] (fun k => (bif Nat.beq k 6 then (PK.Sq.of [10, 13, 16, 17, 18]) else (.fork [6, 13] (fun k => (bif Nat.beq k 6 then (PK.Sq.of [13, 16, 17, 18]) else (PK.Sq.of [6, 16, 17, 18]))))))))))))))))))), [6, 10, 13, 16, 17], [], [2, 5, 9], 9⟩
  | 405, 1 => some ⟨[], PK.Sq.of [0, 1, 2, 3, 4, 5, 6, 7], [], [], [6], 0⟩
  | 405, 3 => some ⟨[], PK.Sq.of [0, 1, 2, 3, 4, 5, 6, 7], [], [], [6], 0⟩
  | 407, 1 => some ⟨[], PK.Sq.of [0, 1, 2, 3, 4, 5, 6, 7, 8, 9], [], [], [], 0⟩
  | 408, 4 => some ⟨[], PK.Sq.of [0, 1, 2, 3, 4, 5, 6, 7, 8, 9, 10, 11], [11], [11], [], 0⟩
  | 462, 1 => some ⟨[], PK.Sq.of [0, 1, 2, 3, 4, 5, 6, 7, 8, 9, 10], [], [], [], 0⟩
  | 472, 4 => some ⟨[], PK.Sq.of [0, 1, 2, 3, 4, 5, 6, 7, 8, 9, 10, 11, 12, 13, 14, 15, 16], [16], [16], [10], 0⟩
  | _, _ => none
noncomputable def hkR : Nat → Option Hk
  | 398 => some hkEnter
  | 209 => some hkSrcs
  | 427 => some hkDerive
  | 98 => some hkDerive
  | 362 => some hkRight
  | 97 => some hkTag
  | 252 => some hkNext
  | 424 => some hkAdd
  | 273 => some hkAdd
  | 102 => some hkConcat
  | 346 => some hkBound
  | 153 => some hkFCheck
  | 63 => some hkNext36
  | _ => none
theorem hkR_ok (f : Nat) (g : Hk) (hg : hkR f = some g) (hb h : Heap) (nx : Nat) (args : List AV) (v : AV) (h' : Heap) (nx' : Nat) (he : g hb h nx args = some (v, h', nx')) : FOk Tryz.prog f args h hb v h' := by
  unfold hkR at hg
  split at hg
  · cases hg; exact hkEnter_ok (by kernel_rfl) (fun r m1 m2 o c0 e g h1 h2 h3 => enter_none r m1 m2 o c0 e g h1 h2 h3) he
  · cases hg; exact hkSrcs_ok (by kernel_rfl) sources_c he
  · cases hg; exact hkDerive_ok (by kernel_rfl) derive_any he
  · cases hg; exact hkDerive_ok (by kernel_rfl) rderive_any he
  · cases hg; exact hkRight_ok (by kernel_rfl) right_any he
  · cases hg; exact hkTag_ok (by kernel_rfl) rtag_any he
  · cases hg; exact hkNext_ok (by kernel_rfl) rnext_any he
  · cases hg; exact hkAdd_ok (by kernel_rfl) cadd_any he
  · cases hg; exact hkAdd_ok (by kernel_rfl) radd11 he
  · cases hg; exact hkConcat_ok (by kernel_rfl) concatB_any he
  · cases hg; exact hkBound_ok (by kernel_rfl) rbound_any he
  · cases hg; exact hkFCheck_ok (by kernel_rfl) fcheck_any he
  · cases hg; exact hkNext36_ok (by kernel_rfl) enext_any he
  · cases hg
noncomputable def mchR : Mch := ⟨Tryz.prog, anR, hkR, okF Tryz.prog⟩
noncomputable def hk2R : Nat → Option (Cl FT)
  | 68 => some (spH mchR stE 68)
  | 77 => some (spH mchR stE 77)
  | 27 => some (spH mchR stE 27)
  | 218 => some (hkTouches 316)
  | 219 => some (hkWithin 316 317)
  | 37 => some (hkGram 83 74 40 82)
  | _ => none
theorem hk2R_ok (f : Nat) (g : Cl FT) (hg : hk2R f = some g) : HkOk Tryz.prog f g := by
  unfold hk2R at hg
  split at hg
  · rw [← Option.some.inj hg]; exact spH_okF mixed _
  · rw [← Option.some.inj hg]; exact spH_okF mixed _
  · rw [← Option.some.inj hg]; exact spH_okF mixed _
  · rw [← Option.some.inj hg]; exact hkTouches_ok (by kernel_rfl)
  · rw [← Option.some.inj hg]; exact hkWithin_ok (by kernel_rfl)
  · rw [← Option.some.inj hg]; exact hkGram_ok (by kernel_rfl)
  · cases hg
theorem callR (d : Nat) : CallOk Tryz.prog (gF2 mchR hk2R stE d) := gcalls2_okF mixed hkR_ok hk2R_ok d
end Go.Proofs.YthgjgeapfndeeaaGreatDoor
