import Derived.Test.YthndhipjfdgdfaaGreatDoorGA
set_option linter.unusedVariables false
set_option linter.unusedSimpArgs false
namespace Go.Proofs.YthndhipjfdgdfaaGreatDoor
open Go.PK
/-! ### A line that stands once, by its name (plain Lean) -/
theorem one_grav (P : Pl) (w : List Tx) : oneT P nGravity w = match numsL w with
    | some [a, b, c] => some { P with cf := { P.cf with g0 := a, g1 := b, g2 := c } }
    | _ => none := by unfold oneT; rfl
theorem one_drift (P : Pl) (w : List Tx) : oneT P nDrift w = match numsL w with
    | some [a] => some { P with cf := { P.cf with dr := a } }
    | _ => none := by unfold oneT; rfl
theorem one_slot (P : Pl) (w : List Tx) : oneT P nSlot w = match numsL w with
    | some [a, b, c, d] => some { P with cf := { P.cf with sc := ⟨a, b, c, d⟩ } }
    | _ => none := by unfold oneT; rfl
theorem one_commit (P : Pl) (w : List Tx) : oneT P nCommit w = match w with
    | [k] => (match keyT k with
      | some b => some { P with cf := { P.cf with cm := b } }
      | none => none)
    | _ => none := by unfold oneT; rfl
theorem one_commitN {P : Pl} {k : Tx} (h : keyT k = none) : oneT P nCommit [k] = none := by rw [one_commit]; simp only [h]
theorem one_commitS {P : Pl} {k : Tx} {b : List B8} (h : keyT k = some b) : oneT P nCommit [k] = some { P with cf := { P.cf with cm := b } } := by rw [one_commit]; simp only [h]
theorem one_lock (P : Pl) (w : List Tx) : oneT P nLock w = match numsL w with
    | some [a, b] => some { P with cf := { P.cf with mo := a, ti := b } }
    | _ => none := by unfold oneT; rfl
theorem one_grace (P : Pl) (w : List Tx) : oneT P nGrace w = match numsL w with
    | some [a] => some { P with cf := { P.cf with gr := a } }
    | _ => none := by unfold oneT; rfl
theorem one_stride (P : Pl) (w : List Tx) : oneT P nStride w = match w with
    | [k] => (match bareT k with
      | some n => some { P with cf := { P.cf with sd := n } }
      | none => none)
    | _ => none := by unfold oneT; rfl
theorem one_strideN {P : Pl} {k : Tx} (h : bareT k = none) : oneT P nStride [k] = none := by rw [one_stride]; simp only [h]
theorem one_strideS {P : Pl} {k : Tx} {b : Nat} (h : bareT k = some b) : oneT P nStride [k] = some { P with cf := { P.cf with sd := b } } := by rw [one_stride]; simp only [h]
theorem one_clock (P : Pl) (w : List Tx) : oneT P nClock w = match numsL w with
    | some [a, b, c] => some { P with de := a, ra := b, mo := c }
    | _ => none := by unfold oneT; rfl
theorem one_trace (P : Pl) (w : List Tx) : oneT P nTrace w = match numsL w with
    | some [a] => some { P with sz := a }
    | _ => none := by unfold oneT; rfl
end Go.Proofs.YthndhipjfdgdfaaGreatDoor
