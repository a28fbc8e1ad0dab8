/- SetupPlain: for every input the law returns true, and its arguments read as before. Conditions: none (the statement's own constant). -/
import Derived.Test.YtbdnebedmdoehaaShut
import Derived.Test.YtbdnebedmdoehaaU21
namespace Go.Proofs.Ytbdnebedmdoehaa.setupPlain
open Go.ChangeShapes Go.WideShapes Go.ChangeAt Go.RowKit Go.PK
set_option linter.unusedVariables false


set_option maxRecDepth 100000 in
theorem lifted (os : Os) (started : os.Started) (H : Type) (enc : TypeId × Value → H) :
    ReturnsInHanded {} Try.checked os 3 .any (Rows.setupPlainSpec.pre6 enc Try.prog Try.f3 Rows.setupPlainRow.domain false) (Rows.setupPlainSpec.post enc Try.prog Try.f3 false true false false) := by
  refine returnsInHanded_of_change (C := Try.checked) shOwn started (by kernel_rfl) Try.func3
    (ChangeSpec.witness6 (enc := enc) (C := Try.checked) false ⟨#[], #[.int .u8 0, .slice none 0 0], []⟩ 8 (by kernel_rfl) (by kernel_rfl) (by kernel_rfl) (by kernel_rfl)) ?_
  intro W base args ds gs before hval0 hW hcnd _
  have hval : ∀ (j : Nat) t v, Try.f3.params[j]? = some t → args[j]? = some v → Value.okWide Try.prog W .any base t v := hval0
  have hW' := hW
  obtain ⟨p, q, hA0, hV, rfl, hfz, hnd⟩ := hW
  have hA : DataW.TrodAll enc Try.prog W 0 (fun _ => true) true Try.f3.params.toList args.toList ds p := hA0
  rw [Try.params3] at hA hval
  obtain ⟨v0, vs0, d0, ds0, p0, q0, hargs, rfl, rfl, h0, r0⟩ := trodAll_cons hA
  obtain ⟨v1, vs1, d1, ds1, p1, q1, rfl, rfl, rfl, h1, r1⟩ := trodAll_cons r0
  obtain ⟨rfl, rfl, rfl⟩ := trodAll_nil r1
  obtain rfl : args = #[v0, v1] := by cases args; simp_all
  obtain ⟨rfl, rfl⟩ := trodVars_none hV
  have lt0 : ∀ x ∈ p0, x.block < W.heap.size := by obtain ⟨m, hm⟩ := h0; exact DataW.trod_lt m _ _ _ hm
  obtain ⟨x0, e0, o0, t0⟩ := rU8.arg (hval 0 5 v0 rfl rfl) h0
  have lt1 : ∀ x ∈ p1, x.block < W.heap.size := by obtain ⟨m, hm⟩ := h1; exact DataW.trod_lt m _ _ _ hm
  obtain ⟨x1, e1, o1, t1⟩ := rIL.arg (hval 1 22 v1 rfl rfl) h1
  clear hA0 hval0
  have hc := setupPlain_call W x0 x1 o0 o1 t0 t1
  rw [← e0, ← e1] at hc
  refine hc.mono fun e W' ⟨he, bel⟩ => ?_
  subst he
  exact ⟨_, rfl, _, _, _, [], _, [], hW', trodAll_mk1 (shut_bool Try.underlying4 _), (trodAll_cons_mk (Below.trod sh2 (by kernel_rfl) (of_decide_eq_true (by kernel_rfl)) h0 bel lt0) (trodAll_cons_mk (Below.trod sh2 (by kernel_rfl) (of_decide_eq_true (by kernel_rfl)) h1 bel lt1) trodAll_mk0)), rfl, bel.frame _, fun h => by cases h⟩
theorem c1 : Rows.setupPlainRow.wf (OpenSpec.ofChange Rows.setupPlainSpec) = true := by kernel_rfl
theorem c4 : Try.f3.params.all (Try.prog.readableRec ·) = true := by kernel_rfl
theorem c5 : namedTie Try.prog Rows.setupPlainRow.named Rows.setupPlainSpec.vars = true := by kernel_rfl
theorem c6 : (Rows.setupPlainRow.stops == []) = true := by kernel_rfl
theorem c8 : (Rows.setupPlainRow.knobs == []) = true := by kernel_rfl
theorem c10 : (Rows.setupPlainRow.inPlace == Try.prog.inPlace 3) = true := by kernel_rfl
theorem c11 : (Rows.setupPlainRow.unfollowed == Try.prog.unfollowed 3) = true := by kernel_rfl
theorem c12 : (Rows.setupPlainRow.recurses == Try.prog.recurses 3) = true := by kernel_rfl
theorem c13 : (Rows.setupPlainRow.named == Try.prog.varsNamed 3) = true := by kernel_rfl
theorem c14 : (Rows.setupPlainRow.maps == (Try.f3.params.toList ++ Rows.setupPlainSpec.plain.varTypes Try.prog ).any (Try.prog.mapsRec ·)) = true := by kernel_rfl
theorem c15 : (Rows.setupPlainRow.ifaces == (Try.f3.params.toList ++ Rows.setupPlainSpec.plain.varTypes Try.prog ).any (Try.prog.ifacesRec ·)) = true := by kernel_rfl
theorem c16 : (Rows.setupPlainRow.mapsOut == Try.prog.mapsAmong Try.f3.resultTypes.toList) = true := by kernel_rfl
theorem c17 : (Rows.setupPlainRow.loops == (Try.f3.params.toList ++ Rows.setupPlainSpec.plain.varTypes Try.prog ).any (Try.prog.loopsFrom ·)) = true := by kernel_rfl
theorem c18 : (Rows.setupPlainRow.wideKeys == (Try.f3.params.toList ++ Rows.setupPlainSpec.plain.varTypes Try.prog ++ Try.f3.resultTypes.toList).any (Try.prog.wideKeysFrom ·)) = true := by kernel_rfl
theorem c19 : Rows.setupPlainSpec.vars.all (Try.prog.varReadable ·) = true := by kernel_rfl
theorem c20 : Try.f3.resultTypes.all (fun t => Try.prog.readableRec t && decide (t < Try.prog.types.size)) = true := by kernel_rfl
theorem c21 : (Rows.setupPlainRow.ifacesOut == Try.f3.resultTypes.toList.any (Try.prog.ifacesRec ·)) = true := by kernel_rfl
theorem c22 : (Rows.setupPlainRow.loopsOut == Try.f3.resultTypes.toList.any (Try.prog.loopsFrom ·)) = true := by kernel_rfl
theorem c23 : (Rows.setupPlainRow.plainKeys == Try.prog.plainKeys) = true := by kernel_rfl
theorem c24 : Rows.setupPlainRow.shortTexts.isNone = true := by kernel_rfl
theorem c27 : (Rows.setupPlainRow.lifted == Try.prog.liftsFinal) = true := by kernel_rfl
theorem c28 : (Try.prog.make == some Rows.setupPlainRow.make) = true := by kernel_rfl
theorem c29 : (Rows.setupPlainRow.kinds == (if Rows.setupPlainRow.domain.isEmpty then [] else Try.f3.params.toList.map fun t => match Try.prog.underlying t with | some (.int k) => some k | _ => none)) = true := by kernel_rfl
theorem c30 : (Rows.setupPlainRow.pinned == Rows.setupPlainRow.pinnedBy) = true := by kernel_rfl
theorem c31 : (Rows.setupPlainRow.veiled == (Try.f3.params.toList ++ Rows.setupPlainSpec.plain.varTypes Try.prog ++ Try.f3.resultTypes.toList).any (Try.prog.veiledRec ·)) = true := by kernel_rfl
theorem c32 : Rows.setupPlainRow.veiledFits Try.prog Try.f3.params.toList (Try.f3.params.toList ++ Rows.setupPlainSpec.plain.varTypes Try.prog ++ Try.f3.resultTypes.toList) = true := by kernel_rfl

set_option maxRecDepth 100000 in
theorem over : Rows.setupPlainRow.holds Try.pinned (OpenSpec.ofChange Rows.setupPlainSpec) :=
  OpenClaim.holds_of_wide 3 Try.f3 rfl rfl rfl rfl rfl rfl rfl ⟨rfl, rfl, rfl, rfl, rfl⟩ rfl rfl rfl rfl rfl (by kernel_rfl) Try.func3 (joined_of c1 sh2 sh3 c4 c5 c6 sh7 c8 sh9 c10 c11 c12 c13 c14 c15 c16 c17 c18 c19 c20 c21 c22 c23 c24 sh25 sh26 c27 c28 c29 c30 c31 c32)
    (of_decide_eq_true (by kernel_rfl)) (by unfold Func.isWrapper; first | (rw [if_pos (by decide +kernel)]; kernel_rfl) | (rw [if_neg (by decide +kernel)]; exact ⟨rfl, rfl⟩))
    (fun os started H enc _ => lifted os started H enc)

/-- The statement. -/
theorem proved : Rows.SetupPlainSaid := over
#print axioms proved
end Go.Proofs.Ytbdnebedmdoehaa.setupPlain
