import Derived.Test.YthgjgeapfndeeaaGreatDoorRows
import Derived.Test.YthgjgeapfndeeaaGreatDoorEM2
import Derived.Test.YthgjgeapfndeeaaGreatDoorURd
import Derived.Handed
import Derived.Lay
import Derived.LaidOnce
import Derived.LaidLaws
import Derived.Lib.LaidTab
import Derived.Lib.LaidU8
import Derived.KernelRfl
import Derived.SevenTiedAt
set_option linter.unusedVariables false
set_option linter.unusedSimpArgs false
namespace Go.Proofs.YthgjgeapfndeeaaGreatDoor
open Go.PK Go.RowKit
/-! ### What a row that lists variables hands over, the world's shape kept -/
section
variable {H : Type} {enc : TypeId × Value → H}
theorem returns_listed {C : Checked} {os : Os} {f : FuncId} {fn : Func} {s : ChangeSpec} {X : World → Array Value → Prop} (hX : ∀ (w w' : World) (args : Array Value), w.heap = w'.heap → X w args → X w' args)
    (own : ownKnob C.prog.godebug = none) (started : os.Started) (noInit : C.prog.inits.idxOf? f = none) (hfn : C.prog.funcs[f]? = some fn)
    (witness : ∃ (w : World) (tape : Tape) (i : Input), w.os = os ∧ (w.forCall tape i).Shaped C.prog ∧ i.vars = [] ∧ Input.okWide C.prog (w.forCall tape i) .any w.heap.size f i ∧
      ((s.pre enc C.prog fn [] false (w.forCall tape i).memory i.args ∧ X (w.forCall tape i).memory i.args) ∧ sizedMet enc C.prog fn (OpenSpec.ofChange s) false (w.forCall tape i).memory i.args) ∧ ({} : Assume).holds C.prog (lone (Frame.enter C.prog f i.args .normal) [] (w.forCall tape i)))
    (contract : ∀ (W : World) (base : Nat) (args : Array Value) (ds gs : List (DataW H)) (before : List MemPlace),
      (∀ (j : Nat) t v, fn.params[j]? = some t → args[j]? = some v → Value.okWide C.prog W .any base t v) →
      DataW.Whole enc C.prog fn.params.toList s.vars false W args.toList ds gs before → X W args → W.ShapedOpen C.prog →
      Calls C.prog f args W fun e W' => ∃ v, e = .returned v ∧ s.post enc C.prog fn false true false false W args v W') :
    ReturnsInHanded {} C os f .any (fun w args => (s.pre enc C.prog fn [] false w args ∧ X w args) ∧ sizedMet enc C.prog fn (OpenSpec.ofChange s) false w args) (s.post enc C.prog fn false true false false) := by
  refine returnsInHanded_of_calls own started noInit witness fun w tape i _ hsh _ hok hpre _ => ?_
  obtain ⟨_, _, _, fn', hfn', _, _, _, _, hval⟩ := hok
  obtain rfl : fn' = fn := Option.some.inj (hfn'.symm.trans hfn)
  obtain ⟨⟨⟨ds, gs, before, hw, -⟩, hx⟩, -⟩ := hpre
  refine (contract (w.forCall tape i) w.heap.size i.args ds gs before hval (DataW.Whole.of_heap (w' := w.forCall tape i) (by rfl) hw) (hX _ _ _ (by rfl) hx) hsh).mono fun e W' ⟨v, he, hp⟩ => ?_
  subst he
  exact ChangeSpec.post_blind hp
end
/-- No function of the program starts another goroutine: without a look at what the law reaches. -/
theorem goes_none {P : Program} {c : OpenClaim} (h : P.funcs.any Func.goes = false) : false = c.goesBy P := by
  have h1 : ∀ g : FuncId, (P.funcs[g]?).any Func.goes = false := fun g => by
    cases e : P.funcs[g]? with
    | none => rfl
    | some f =>
      obtain ⟨hlt, rfl⟩ := Array.getElem?_eq_some_iff.1 e
      exact Bool.eq_false_iff.2 (Array.any_eq_false.1 h g hlt)
  have h2 : ∀ f : FuncId, P.goes f = false := fun f => by
    unfold Program.goes
    rw [h, Bool.and_false, Bool.or_false, List.any_eq_false]
    intro g _; rw [h1 g]; exact Bool.false_ne_true
  unfold OpenClaim.goesBy Program.goesAt Program.goesFrom
  have h3 : (P.funcNamed c.func).any P.goes = false := by
    cases P.funcNamed c.func with
    | none => rfl
    | some f => exact h2 f
  have h4 : P.inits.toList.any P.goes = false := by
    rw [List.any_eq_false]; intro g _; rw [h2 g]; exact Bool.false_ne_true
  rw [h3, h4]
  cases c.start <;> rfl
theorem gv_of (W : World) (_ : laidMet Tryz.prog Rows.rigVoidRow.laid W) (_ : W.ShapedOpen Tryz.prog) : True := trivial
theorem rigVoid_call (W : World) (x : Sl B8) (_ : rBytes.ok x) (_ : ∀ y ∈ rBytes.its x, y.A W) (_ : True) :
    Calls Tryz.prog 3 #[rBytes.val x] W (fun e w' => e = .returned (.bool true) ∧ RowKit.Below W.heap.size W w') := (rvoid x.p x.l.length x.c).lawI (by simp)
end Go.Proofs.YthgjgeapfndeeaaGreatDoor
