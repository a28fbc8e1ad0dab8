/-
  How far a source may lead astray: the reference's number, taken by its contract.
-/
import Derived.Test.YthgjgeapfndeeaaGreatDoorUA
import Derived.Test.YthgjgeapfndeeaaGreatDoorEH
set_option linter.unusedVariables false
set_option linter.unusedSimpArgs false
namespace Go.Proofs.YthgjgeapfndeeaaGreatDoor
open Go.PK
def i64b (n : Int) : Bool := decide (-9223372036854775808 ≤ n ∧ n ≤ 9223372036854775807)
theorem i64b_ok {n : Int} (h : i64b n = true) : i64 n := by
  have h : decide (-9223372036854775808 ≤ n ∧ n ≤ 9223372036854775807) = true := h
  have h2 : -9223372036854775808 ≤ n ∧ n ≤ 9223372036854775807 := by simpa using h
  exact h2
noncomputable def hkBound : Hk := fun _ h nx a => match a with
  | [.val (.int .i64 x), .val (.int .i64 k), .val (.int .i64 g), .val (.int .i64 t)] => bo (i64b x && (i64b k && i64b g)) (frc (.val (.int .i64 (limB x k g t))) fun v => some (v, h, nx)) none
  | _ => none
theorem hkBound_ok {f : Nat} (hO : okF Tryz.prog f = true) (hS : ∀ (h k g t : Int), i64 h → i64 k → i64 g → Spc Tryz.prog f #[.int .i64 h, .int .i64 k, .int .i64 g, .int .i64 t] [] [] (Is (.int .i64 (limB h k g t))))
    {hb h h' : Heap} {nx nx' : Nat} {args : List AV} {v : AV} (he : hkBound hb h nx args = some (v, h', nx')) : FOk Tryz.prog f args h hb v h' := by
  unfold hkBound at he
  split at he
  · next x k g t =>
    obtain ⟨h1, h2⟩ := bo_inv he
    rw [frc_eq] at h2
    cases h2
    rw [Bool.and_eq_true, Bool.and_eq_true] at h1
    exact .quiet hO (fun A => trivial) fun θ w hm hwa => ⟨[], fun x hx => (by cases hx), hS x k g t (i64b_ok h1.1) (i64b_ok h1.2.1) (i64b_ok h1.2.2)⟩
  · cases he
end Go.Proofs.YthgjgeapfndeeaaGreatDoor
