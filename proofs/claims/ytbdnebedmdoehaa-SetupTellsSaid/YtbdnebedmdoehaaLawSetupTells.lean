/- SetupTells: for every input the law returns true, and its arguments read as before. Conditions: none (the statement's own constant). -/
import Derived.Test.YtbdnebedmdoehaaShut
import Derived.Test.YtbdnebedmdoehaaU19
namespace Go.Proofs.Ytbdnebedmdoehaa.setupTells
open Go.ChangeShapes Go.WideShapes Go.ChangeAt Go.RowKit Go.PK
set_option linter.unusedVariables false


set_option maxRecDepth 100000 in
theorem lifted (os : Os) (started : os.Started) (H : Type) (enc : TypeId × Value → H) :
    ReturnsInHanded {} Try.checked os 4 .any (Rows.setupTellsSpec.pre6 enc Try.prog Try.f4 Rows.setupTellsRow.domain false) (Rows.setupTellsSpec.post enc Try.prog Try.f4 false true false false) := by
  refine returnsInHanded_of_change (C := Try.checked) shOwn started (by kernel_rfl) Try.func4
    (ChangeSpec.witness6 (enc := enc) (C := Try.checked) false ⟨#[], #[.agg #[.slice none 0 0, .int .i64 0, .int .i64 0, .int .i64 0, .int .i64 0, .int .i64 0, .int .i64 0, .int .i64 0, .int .i64 0, .int .u8 0, .int .u8 0, .int .u8 0, .int .u8 0, .int .u8 0, .int .u8 0, .int .u8 0, .int .u8 0, .int .u8 0, .int .u8 0, .int .u8 0, .int .u8 0, .int .u8 0, .int .u8 0, .int .u8 0, .int .u8 0, .int .u8 0, .int .u8 0, .int .u8 0, .int .u8 0, .int .u8 0, .int .u8 0, .int .u8 0, .int .u8 0, .int .u8 0, .int .u8 0, .int .u8 0, .int .u8 0, .int .u8 0, .int .u8 0, .int .u8 0, .int .u8 0, .int .i64 0, .int .i64 0, .int .i64 0, .int .u64 0], .int .i64 0], []⟩ 8 (by kernel_rfl) (by kernel_rfl) (by kernel_rfl) (by kernel_rfl)) ?_
  intro W base args ds gs before hval0 hW hcnd _
  have hval : ∀ (j : Nat) t v, Try.f4.params[j]? = some t → args[j]? = some v → Value.okWide Try.prog W .any base t v := hval0
  have hW' := hW
  obtain ⟨p, q, hA0, hV, rfl, hfz, hnd⟩ := hW
  have hA : DataW.TrodAll enc Try.prog W 0 (fun _ => true) true Try.f4.params.toList args.toList ds p := hA0
  rw [Try.params4] at hA hval
  obtain ⟨v0, vs0, d0, ds0, p0, q0, hargs, rfl, rfl, h0, r0⟩ := trodAll_cons hA
  obtain ⟨v1, vs1, d1, ds1, p1, q1, rfl, rfl, rfl, h1, r1⟩ := trodAll_cons r0
  obtain ⟨rfl, rfl, rfl⟩ := trodAll_nil r1
  obtain rfl : args = #[v0, v1] := by cases args; simp_all
  obtain ⟨rfl, rfl⟩ := trodVars_none hV
  have lt0 : ∀ x ∈ p0, x.block < W.heap.size := by obtain ⟨m, hm⟩ := h0; exact DataW.trod_lt m _ _ _ hm
  obtain ⟨x0, e0, o0, t0⟩ := rCf.arg (hval 0 33 v0 rfl rfl) h0
  have lt1 : ∀ x ∈ p1, x.block < W.heap.size := by obtain ⟨m, hm⟩ := h1; exact DataW.trod_lt m _ _ _ hm
  obtain ⟨x1, e1, o1, t1⟩ := rInt.arg (hval 1 3 v1 rfl rfl) h1
  clear hA0 hval0
  have hc := setupTells_call W x0 x1 o0 o1 t0 t1
  rw [← e0, ← e1] at hc
  refine hc.mono fun e W' ⟨he, bel⟩ => ?_
  subst he
  exact ⟨_, rfl, _, _, _, [], _, [], hW', trodAll_mk1 (shut_bool Try.underlying4 _), (trodAll_cons_mk (Below.trod sh2 (by kernel_rfl) (of_decide_eq_true (by kernel_rfl)) h0 bel lt0) (trodAll_cons_mk (Below.trod sh2 (by kernel_rfl) (of_decide_eq_true (by kernel_rfl)) h1 bel lt1) trodAll_mk0)), rfl, bel.frame _, fun h => by cases h⟩
theorem c1 : Rows.setupTellsRow.wf (OpenSpec.ofChange Rows.setupTellsSpec) = true := by kernel_rfl
theorem c4 : Try.f4.params.all (Try.prog.readableRec ·) = true := by kernel_rfl
theorem c5 : namedTie Try.prog Rows.setupTellsRow.named Rows.setupTellsSpec.vars = true := by kernel_rfl
theorem c6 : (Rows.setupTellsRow.stops == []) = true := by kernel_rfl
theorem c8 : (Rows.setupTellsRow.knobs == []) = true := by kernel_rfl
theorem c10 : (Rows.setupTellsRow.inPlace == Try.prog.inPlace 4) = true := by kernel_rfl
theorem c11 : (Rows.setupTellsRow.unfollowed == Try.prog.unfollowed 4) = true := by kernel_rfl
theorem c12 : (Rows.setupTellsRow.recurses == Try.prog.recurses 4) = true := by kernel_rfl
theorem c13 : (Rows.setupTellsRow.named == Try.prog.varsNamed 4) = true := by kernel_rfl
theorem c14 : (Rows.setupTellsRow.maps == (Try.f4.params.toList ++ Rows.setupTellsSpec.plain.varTypes Try.prog ).any (Try.prog.mapsRec ·)) = true := by kernel_rfl
theorem c15 : (Rows.setupTellsRow.ifaces == (Try.f4.params.toList ++ Rows.setupTellsSpec.plain.varTypes Try.prog ).any (Try.prog.ifacesRec ·)) = true := by kernel_rfl
theorem c16 : (Rows.setupTellsRow.mapsOut == Try.prog.mapsAmong Try.f4.resultTypes.toList) = true := by kernel_rfl
theorem c17 : (Rows.setupTellsRow.loops == (Try.f4.params.toList ++ Rows.setupTellsSpec.plain.varTypes Try.prog ).any (Try.prog.loopsFrom ·)) = true := by kernel_rfl
theorem c18 : (Rows.setupTellsRow.wideKeys == (Try.f4.params.toList ++ Rows.setupTellsSpec.plain.varTypes Try.prog ++ Try.f4.resultTypes.toList).any (Try.prog.wideKeysFrom ·)) = true := by kernel_rfl
theorem c19 : Rows.setupTellsSpec.vars.all (Try.prog.varReadable ·) = true := by kernel_rfl
theorem c20 : Try.f4.resultTypes.all (fun t => Try.prog.readableRec t && decide (t < Try.prog.types.size)) = true := by kernel_rfl
theorem c21 : (Rows.setupTellsRow.ifacesOut == Try.f4.resultTypes.toList.any (Try.prog.ifacesRec ·)) = true := by kernel_rfl
theorem c22 : (Rows.setupTellsRow.loopsOut == Try.f4.resultTypes.toList.any (Try.prog.loopsFrom ·)) = true := by kernel_rfl
theorem c23 : (Rows.setupTellsRow.plainKeys == Try.prog.plainKeys) = true := by kernel_rfl
theorem c24 : Rows.setupTellsRow.shortTexts.isNone = true := by kernel_rfl
theorem c27 : (Rows.setupTellsRow.lifted == Try.prog.liftsFinal) = true := by kernel_rfl
theorem c28 : (Try.prog.make == some Rows.setupTellsRow.make) = true := by kernel_rfl
theorem c29 : (Rows.setupTellsRow.kinds == (if Rows.setupTellsRow.domain.isEmpty then [] else Try.f4.params.toList.map fun t => match Try.prog.underlying t with | some (.int k) => some k | _ => none)) = true := by kernel_rfl
theorem c30 : (Rows.setupTellsRow.pinned == Rows.setupTellsRow.pinnedBy) = true := by kernel_rfl
theorem c31 : (Rows.setupTellsRow.veiled == (Try.f4.params.toList ++ Rows.setupTellsSpec.plain.varTypes Try.prog ++ Try.f4.resultTypes.toList).any (Try.prog.veiledRec ·)) = true := by kernel_rfl
theorem c32 : Rows.setupTellsRow.veiledFits Try.prog Try.f4.params.toList (Try.f4.params.toList ++ Rows.setupTellsSpec.plain.varTypes Try.prog ++ Try.f4.resultTypes.toList) = true := by kernel_rfl

set_option maxRecDepth 100000 in
theorem over : Rows.setupTellsRow.holds Try.pinned (OpenSpec.ofChange Rows.setupTellsSpec) :=
  OpenClaim.holds_of_wide 4 Try.f4 rfl rfl rfl rfl rfl rfl rfl ⟨rfl, rfl, rfl, rfl, rfl⟩ rfl rfl rfl rfl rfl (by kernel_rfl) Try.func4 (joined_of c1 sh2 sh3 c4 c5 c6 sh7 c8 sh9 c10 c11 c12 c13 c14 c15 c16 c17 c18 c19 c20 c21 c22 c23 c24 sh25 sh26 c27 c28 c29 c30 c31 c32)
    (of_decide_eq_true (by kernel_rfl)) (by unfold Func.isWrapper; first | (rw [if_pos (by decide +kernel)]; kernel_rfl) | (rw [if_neg (by decide +kernel)]; exact ⟨rfl, rfl⟩))
    (fun os started H enc _ => lifted os started H enc)

/-- The statement. -/
theorem proved : Rows.SetupTellsSaid := over
#print axioms proved
end Go.Proofs.Ytbdnebedmdoehaa.setupTells
