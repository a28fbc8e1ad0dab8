/- What the rows want of the program alone (the types in parts: in one piece it is too much for the kernel's memory). -/
import Derived.Test.YthgjgeapfndeeaaGreatDoorRows
import Derived.Test.YthgjgeapfndeeaaGreatDoorPD
import Derived.KernelRfl
set_option linter.unusedVariables false
set_option linter.unusedSimpArgs false
namespace Go.PK
theorem all_chunks {f : Nat → Bool} (k : Nat) (hk : 0 < k) (n : Nat) (h : ∀ j, j < n → (List.range' (k * j) k).all f = true) : ∀ t, t < k * n → f t = true := fun t ht => by
  have hj : t / k < n := Nat.div_lt_of_lt_mul ht
  refine List.all_eq_true.1 (h _ hj) t (List.mem_range'_1.2 ⟨Nat.mul_div_le t k, ?_⟩)
  have := Nat.div_add_mod t k
  have := Nat.mod_lt t hk
  omega
end Go.PK
namespace Go.Proofs.YthgjgeapfndeeaaGreatDoor
theorem shOwn : ownKnob Tryz.prog.godebug = none := by kernel_rfl
noncomputable def rowF (t : Nat) : Bool := Nat.ble 806 t || rowFine Tryz.prog t
theorem sh2_0 : (List.range' (50 * 0) 50).all rowF = true := by kernel_rfl
theorem sh2_1 : (List.range' (50 * 1) 50).all rowF = true := by kernel_rfl
theorem sh2_2 : (List.range' (50 * 2) 50).all rowF = true := by kernel_rfl
theorem sh2_3 : (List.range' (50 * 3) 50).all rowF = true := by kernel_rfl
theorem sh2_4 : (List.range' (50 * 4) 50).all rowF = true := by kernel_rfl
theorem sh2_5 : (List.range' (50 * 5) 50).all rowF = true := by kernel_rfl
theorem sh2_6 : (List.range' (50 * 6) 50).all rowF = true := by kernel_rfl
theorem sh2_7 : (List.range' (50 * 7) 50).all rowF = true := by kernel_rfl
theorem sh2_8 : (List.range' (50 * 8) 50).all rowF = true := by kernel_rfl
theorem sh2_9 : (List.range' (50 * 9) 50).all rowF = true := by kernel_rfl
theorem sh2_10 : (List.range' (50 * 10) 50).all rowF = true := by kernel_rfl
theorem sh2_11 : (List.range' (50 * 11) 50).all rowF = true := by kernel_rfl
theorem sh2_12 : (List.range' (50 * 12) 50).all rowF = true := by kernel_rfl
theorem sh2_13 : (List.range' (50 * 13) 50).all rowF = true := by kernel_rfl
theorem sh2_14 : (List.range' (50 * 14) 50).all rowF = true := by kernel_rfl
theorem sh2_15 : (List.range' (50 * 15) 50).all rowF = true := by kernel_rfl
theorem sh2_16 : (List.range' (50 * 16) 50).all rowF = true := by kernel_rfl
theorem sh2s : Tryz.prog.types.size = 806 := by kernel_rfl
theorem sh2g : Tryz.prog.globals.all (fun g => decide (g.type < 806)) = true := by kernel_rfl
theorem sh2f : Tryz.prog.funcs.all (fun f => f.params.all fun t => decide (t < 806)) = true := by kernel_rfl
theorem sh2 : laidOutB Tryz.prog = true := by
  unfold laidOutB
  rw [sh2s, sh2g, sh2f, Bool.and_true, Bool.and_true, List.all_eq_true]
  intro t ht
  have ht : t < 806 := List.mem_range.1 ht
  have h : rowF t = true := Go.PK.all_chunks 50 (by decide) 17 (fun j hj => by
    have : j = 0 ∨ j = 1 ∨ j = 2 ∨ j = 3 ∨ j = 4 ∨ j = 5 ∨ j = 6 ∨ j = 7 ∨ j = 8 ∨ j = 9 ∨ j = 10 ∨ j = 11 ∨ j = 12 ∨ j = 13 ∨ j = 14 ∨ j = 15 ∨ j = 16 := by omega
    rcases this with rfl | rfl | rfl | rfl | rfl | rfl | rfl | rfl | rfl | rfl | rfl | rfl | rfl | rfl | rfl | rfl | rfl
    · exact sh2_0
    · exact sh2_1
    · exact sh2_2
    · exact sh2_3
    · exact sh2_4
    · exact sh2_5
    · exact sh2_6
    · exact sh2_7
    · exact sh2_8
    · exact sh2_9
    · exact sh2_10
    · exact sh2_11
    · exact sh2_12
    · exact sh2_13
    · exact sh2_14
    · exact sh2_15
    · exact sh2_16) t (by omega)
  unfold rowF at h
  rw [Bool.or_eq_true] at h
  rcases h with h | h
  · exact absurd (Nat.le_of_ble_eq_true h) (by omega)
  · exact h
theorem sh3 : mapsRowed Tryz.prog = true := by kernel_rfl
theorem sh7 : (Tryz.prog.stops == []) = true := by kernel_rfl
theorem sh9 : (Tryz.prog.stopKnobs == []) = true := by kernel_rfl
theorem sh25 : Tryz.prog.stopsHeard = true := by kernel_rfl
theorem sh26 : Tryz.prog.mayEnter = true := by kernel_rfl
end Go.Proofs.YthgjgeapfndeeaaGreatDoor
