import Derived.Test.YtpaemkemknfmfaaGreatDoorRows
import Derived.Test.YtpaemkemknfmfaaGreatDoorGX
import Derived.Handed
import Derived.Lay
import Derived.LaidOnce
import Derived.LaidLaws
import Derived.Lib.LaidTab
import Derived.Lib.LaidU8
import Derived.KernelRfl
import Derived.SevenTiedAt
set_option linter.unusedVariables false
set_option linter.unusedSimpArgs false
namespace Go.Proofs.YtpaemkemknfmfaaGreatDoor
open Go.PK Go.RowKit
/-! ### What a row that lists variables hands over, the world's shape kept -/
section
variable {H : Type} {enc : TypeId × Value → H}
theorem returns_listed {C : Checked} {os : Os} {f : FuncId} {fn : Func} {s : ChangeSpec} {X : World → Array Value → Prop} (hX : ∀ (w w' : World) (args : Array Value), w.heap = w'.heap → X w args → X w' args)
    (own : ownKnob C.prog.godebug = none) (started : os.Started) (noInit : C.prog.inits.idxOf? f = none) (hfn : C.prog.funcs[f]? = some fn)
    (witness : ∃ (w : World) (tape : Tape) (i : Input), w.os = os ∧ (w.forCall tape i).Shaped C.prog ∧ i.vars = [] ∧ Input.okWide C.prog (w.forCall tape i) .any w.heap.size f i ∧
      ((s.pre enc C.prog fn [] false (w.forCall tape i).memory i.args ∧ X (w.forCall tape i).memory i.args) ∧ sizedMet enc C.prog fn (OpenSpec.ofChange s) false (w.forCall tape i).memory i.args) ∧ ({} : Assume).holds C.prog (lone (Frame.enter C.prog f i.args .normal) [] (w.forCall tape i)))
    (contract : ∀ (W : World) (base : Nat) (args : Array Value) (ds gs : List (DataW H)) (before : List MemPlace),
      (∀ (j : Nat) t v, fn.params[j]? = some t → args[j]? = some v → Value.okWide C.prog W .any base t v) →
      DataW.Whole enc C.prog fn.params.toList s.vars false W args.toList ds gs before → X W args → W.ShapedOpen C.prog →
      Calls C.prog f args W fun e W' => ∃ v, e = .returned v ∧ s.post enc C.prog fn false true false false W args v W') :
    ReturnsInHanded {} C os f .any (fun w args => (s.pre enc C.prog fn [] false w args ∧ X w args) ∧ sizedMet enc C.prog fn (OpenSpec.ofChange s) false w args) (s.post enc C.prog fn false true false false) := by
  refine returnsInHanded_of_calls own started noInit witness fun w tape i _ hsh _ hok hpre _ => ?_
  obtain ⟨_, _, _, fn', hfn', _, _, _, _, hval⟩ := hok
  obtain rfl : fn' = fn := Option.some.inj (hfn'.symm.trans hfn)
  obtain ⟨⟨⟨ds, gs, before, hw, -⟩, hx⟩, -⟩ := hpre
  refine (contract (w.forCall tape i) w.heap.size i.args ds gs before hval (DataW.Whole.of_heap (w' := w.forCall tape i) (by rfl) hw) (hX _ _ _ (by rfl) hx) hsh).mono fun e W' ⟨v, he, hp⟩ => ?_
  subst he
  exact ChangeSpec.post_blind hp
end
theorem tab_reads {P : Program} {W : World} {name : String} {k : IntKind} {zs : List Int} {g : Nat} {t e : TypeId} {n : Nat} (hg : P.globalNamed name = some g) (hty : (P.globals[g]?).map (·.type) = some t) (ht : P.underlying t = some (.array n e))
    (he : P.underlying e = some (.int k)) (hce : P.cellsOf e = 1) (hct : P.cellsOf t = n) (h : Lib.VarReads P W name (Lib.tabData k zs)) : Lib.TabIs P W name k zs := by
  obtain ⟨g', t', cs, fuel, p, hg', ht', hvar, hd⟩ := h
  obtain rfl := Option.some.inj (hg.symm.trans hg')
  obtain rfl := Option.some.inj (hty.symm.trans ht')
  unfold Lib.TabIs
  rw [hvar, ← Lib.cells_of_tab ht he hce hct hd]
theorem err_reads {P : Program} {W : World} {name nm : String} {d : DataW Unit} {g : Nat} {t : TypeId} {ms : Array (String × TypeId)} (hg : P.globalNamed name = some g) (hty : (P.globals[g]?).map (·.type) = some t) (ht : P.underlying t = some (.interface ms))
    (h : Lib.VarReads P W name (.iface nm d)) : ∃ tp p, W.var? P name = some #[.iface tp p] := by
  obtain ⟨g', t', cs, fuel, p, hg', ht', hvar, hd⟩ := h
  obtain rfl := Option.some.inj (hg.symm.trans hg')
  obtain rfl := Option.some.inj (hty.symm.trans ht')
  obtain ⟨_, u, v, e, -⟩ := iface_of_trod ht hd
  exact ⟨u, v, by rw [hvar]; congr 1; exact Array.ext' (by simpa using e)⟩
/-- No function of the program starts another goroutine: without a look at what the law reaches. -/
theorem goes_none {P : Program} {c : OpenClaim} (h : P.funcs.any Func.goes = false) : false = c.goesBy P := by
  have h1 : ∀ g : FuncId, (P.funcs[g]?).any Func.goes = false := fun g => by
    cases e : P.funcs[g]? with
    | none => rfl
    | some f =>
      obtain ⟨hlt, rfl⟩ := Array.getElem?_eq_some_iff.1 e
      exact Bool.eq_false_iff.2 (Array.any_eq_false.1 h g hlt)
  have h2 : ∀ f : FuncId, P.goes f = false := fun f => by
    unfold Program.goes
    rw [h, Bool.and_false, Bool.or_false, List.any_eq_false]
    intro g _; rw [h1 g]; exact Bool.false_ne_true
  unfold OpenClaim.goesBy Program.goesAt Program.goesFrom
  have h3 : (P.funcNamed c.func).any P.goes = false := by
    cases P.funcNamed c.func with
    | none => rfl
    | some f => exact h2 f
  have h4 : P.inits.toList.any P.goes = false := by
    rw [List.any_eq_false]; intro g _; rw [h2 g]; exact Bool.false_ne_true
  rw [h3, h4]
  cases c.start <;> rfl
theorem gv_of (W : World) (hL : laidMet Tryz.prog Rows.scriptChecksRow.laid W) (hsh : W.ShapedOpen Tryz.prog) : gvI.A W := by
  refine ⟨⟨?_, ?_⟩, ?_, ?_⟩
  · exact tab_reads gG_pow (t := 385) (e := 39) (n := 20) (by kernel_rfl) (by kernel_rfl) (by kernel_rfl) (by kernel_rfl) (by kernel_rfl) (Lib.laidMet.reads hL (by
      have e : (Rows.laid_internal_strconv_uint64pow10 : DataW Unit) = Lib.tabData .u64 Lib.pow10Tab := by kernel_rfl
      rw [← e]; simp [Rows.scriptChecksRow]))
  · exact err_reads gG_syn (t := 123) (by kernel_rfl) Tryz.underlying123 (Lib.laidMet.reads hL (d := Rows.laid_strconv_ErrSyntax) (by simp [Rows.scriptChecksRow]))
  · exact err_reads gG_ran (t := 123) (by kernel_rfl) Tryz.underlying123 (Lib.laidMet.reads hL (d := Rows.laid_strconv_ErrRange) (by simp [Rows.scriptChecksRow]))
  · have e : gG "internal/bytealg.MaxLen" = Tryz.lSplit_ren.g 1 := by kernel_rfl
    rw [e]
    exact Tryz.lSplit.s1_3 W hsh
end Go.Proofs.YtpaemkemknfmfaaGreatDoor
