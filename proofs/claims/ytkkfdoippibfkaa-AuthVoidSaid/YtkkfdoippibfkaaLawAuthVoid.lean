/- AuthVoid: for every input the law returns true, and its arguments read as before. Conditions: none (the statement's own constant). -/
import Derived.Test.YtkkfdoippibfkaaShut
import Derived.Test.YtkkfdoippibfkaaAV
namespace Go.Proofs.Ytkkfdoippibfkaa.authVoid
open Go.ChangeShapes Go.WideShapes Go.ChangeAt Go.RowKit Go.PK
set_option linter.unusedVariables false


set_option maxRecDepth 100000 in
theorem lifted (os : Os) (started : os.Started) (H : Type) (enc : TypeId × Value → H) :
    ReturnsInHanded {} Try.checked os 9 .any (Rows.authVoidSpec.pre6 enc Try.prog Try.f9 Rows.authVoidRow.domain false) (Rows.authVoidSpec.post enc Try.prog Try.f9 false true false false) := by
  refine returnsInHanded_of_change (C := Try.checked) shOwn started (by kernel_rfl) Try.func9
    (ChangeSpec.witness6 (enc := enc) (C := Try.checked) false ⟨#[], #[.agg #[.int .i64 0, .int .i64 0, .int .i64 0, .int .i64 0, .int .i64 0, .int .i64 0, .int .u32 0, .int .u64 0, .slice none 0 0, .int .u8 0, .int .u8 0, .int .u8 0, .int .u8 0, .int .u8 0, .int .u8 0, .int .u8 0, .int .u8 0, .int .u8 0, .int .u8 0, .int .u8 0, .int .u8 0, .int .u8 0, .int .u8 0, .int .u8 0, .int .u8 0, .bool false, .bool false, .int .u8 0, .int .u32 0, .int .u32 0, .int .u64 0, .slice none 0 0]], []⟩ 8 (by kernel_rfl) (by kernel_rfl) (by kernel_rfl) (by kernel_rfl)) ?_
  intro W base args ds gs before hval0 hW hcnd _
  have hval : ∀ (j : Nat) t v, Try.f9.params[j]? = some t → args[j]? = some v → Value.okWide Try.prog W .any base t v := hval0
  have hW' := hW
  obtain ⟨p, q, hA0, hV, rfl, hfz, hnd⟩ := hW
  have hA : DataW.TrodAll enc Try.prog W 0 (fun _ => true) true Try.f9.params.toList args.toList ds p := hA0
  rw [Try.params9] at hA hval
  obtain ⟨v0, vs0, d0, ds0, p0, q0, hargs, rfl, rfl, h0, r0⟩ := trodAll_cons hA
  obtain ⟨rfl, rfl, rfl⟩ := trodAll_nil r0
  obtain rfl : args = #[v0] := by cases args; simp_all
  obtain ⟨rfl, rfl⟩ := trodVars_none hV
  have lt0 : ∀ x ∈ p0, x.block < W.heap.size := by obtain ⟨m, hm⟩ := h0; exact DataW.trod_lt m _ _ _ hm
  obtain ⟨x0, e0, o0, t0⟩ := rAct19.arg (hval 0 116 v0 rfl rfl) h0
  clear hA0 hval0
  have hc := authVoid_call W x0 o0 t0
  rw [← e0] at hc
  refine hc.mono fun e W' ⟨he, bel⟩ => ?_
  subst he
  exact ⟨_, rfl, _, _, _, [], _, [], hW', trodAll_mk1 (shut_bool Try.underlying4 _), (trodAll_cons_mk (Below.trod sh2 (by kernel_rfl) (of_decide_eq_true (by kernel_rfl)) h0 bel lt0) trodAll_mk0), rfl, bel.frame _, fun h => by cases h⟩
theorem c1 : Rows.authVoidRow.wf (OpenSpec.ofChange Rows.authVoidSpec) = true := by kernel_rfl
theorem c4 : Try.f9.params.all (Try.prog.readableRec ·) = true := by kernel_rfl
theorem c5 : namedTie Try.prog Rows.authVoidRow.named Rows.authVoidSpec.vars = true := by kernel_rfl
theorem c6 : (Rows.authVoidRow.stops == []) = true := by kernel_rfl
theorem c8 : (Rows.authVoidRow.knobs == []) = true := by kernel_rfl
theorem c10 : (Rows.authVoidRow.inPlace == Try.prog.inPlace 9) = true := by kernel_rfl
theorem c11 : (Rows.authVoidRow.unfollowed == Try.prog.unfollowed 9) = true := by kernel_rfl
theorem c12 : (Rows.authVoidRow.recurses == Try.prog.recurses 9) = true := by kernel_rfl
theorem c13 : (Rows.authVoidRow.named == Try.prog.varsNamed 9) = true := by kernel_rfl
theorem c14 : (Rows.authVoidRow.maps == (Try.f9.params.toList ++ Rows.authVoidSpec.plain.varTypes Try.prog ).any (Try.prog.mapsRec ·)) = true := by kernel_rfl
theorem c15 : (Rows.authVoidRow.ifaces == (Try.f9.params.toList ++ Rows.authVoidSpec.plain.varTypes Try.prog ).any (Try.prog.ifacesRec ·)) = true := by kernel_rfl
theorem c16 : (Rows.authVoidRow.mapsOut == Try.prog.mapsAmong Try.f9.resultTypes.toList) = true := by kernel_rfl
theorem c17 : (Rows.authVoidRow.loops == (Try.f9.params.toList ++ Rows.authVoidSpec.plain.varTypes Try.prog ).any (Try.prog.loopsFrom ·)) = true := by kernel_rfl
theorem c18 : (Rows.authVoidRow.wideKeys == (Try.f9.params.toList ++ Rows.authVoidSpec.plain.varTypes Try.prog ++ Try.f9.resultTypes.toList).any (Try.prog.wideKeysFrom ·)) = true := by kernel_rfl
theorem c19 : Rows.authVoidSpec.vars.all (Try.prog.varReadable ·) = true := by kernel_rfl
theorem c20 : Try.f9.resultTypes.all (fun t => Try.prog.readableRec t && decide (t < Try.prog.types.size)) = true := by kernel_rfl
theorem c21 : (Rows.authVoidRow.ifacesOut == Try.f9.resultTypes.toList.any (Try.prog.ifacesRec ·)) = true := by kernel_rfl
theorem c22 : (Rows.authVoidRow.loopsOut == Try.f9.resultTypes.toList.any (Try.prog.loopsFrom ·)) = true := by kernel_rfl
theorem c23 : (Rows.authVoidRow.plainKeys == Try.prog.plainKeys) = true := by kernel_rfl
theorem c24 : Rows.authVoidRow.shortTexts.isNone = true := by kernel_rfl
theorem c27 : (Rows.authVoidRow.lifted == Try.prog.liftsFinal) = true := by kernel_rfl
theorem c28 : (Try.prog.make == some Rows.authVoidRow.make) = true := by kernel_rfl
theorem c29 : (Rows.authVoidRow.kinds == (if Rows.authVoidRow.domain.isEmpty then [] else Try.f9.params.toList.map fun t => match Try.prog.underlying t with | some (.int k) => some k | _ => none)) = true := by kernel_rfl
theorem c30 : (Rows.authVoidRow.pinned == Rows.authVoidRow.pinnedBy) = true := by kernel_rfl
theorem c31 : (Rows.authVoidRow.veiled == (Try.f9.params.toList ++ Rows.authVoidSpec.plain.varTypes Try.prog ++ Try.f9.resultTypes.toList).any (Try.prog.veiledRec ·)) = true := by kernel_rfl
theorem c32 : Rows.authVoidRow.veiledFits Try.prog Try.f9.params.toList (Try.f9.params.toList ++ Rows.authVoidSpec.plain.varTypes Try.prog ++ Try.f9.resultTypes.toList) = true := by kernel_rfl

set_option maxRecDepth 100000 in
theorem over : Rows.authVoidRow.holds Try.pinned (OpenSpec.ofChange Rows.authVoidSpec) :=
  OpenClaim.holds_of_wide 9 Try.f9 rfl rfl rfl rfl rfl rfl rfl ⟨rfl, rfl, rfl, rfl, rfl⟩ rfl rfl rfl rfl rfl (by kernel_rfl) Try.func9 (joined_of c1 sh2 sh3 c4 c5 c6 sh7 c8 sh9 c10 c11 c12 c13 c14 c15 c16 c17 c18 c19 c20 c21 c22 c23 c24 sh25 sh26 c27 c28 c29 c30 c31 c32)
    (of_decide_eq_true (by kernel_rfl)) (by unfold Func.isWrapper; first | (rw [if_pos (by decide +kernel)]; kernel_rfl) | (rw [if_neg (by decide +kernel)]; exact ⟨rfl, rfl⟩))
    (fun os started H enc _ => lifted os started H enc)

/-- The statement. -/
theorem proved : Rows.AuthVoidSaid := over
#print axioms proved
end Go.Proofs.Ytkkfdoippibfkaa.authVoid
