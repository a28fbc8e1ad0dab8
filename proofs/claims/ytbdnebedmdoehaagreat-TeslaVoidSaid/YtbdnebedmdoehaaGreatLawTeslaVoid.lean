/- TeslaVoid: for every input the law returns true, and its arguments read as before. Conditions: none (the statement's own constant). -/
import Derived.Test.YtbdnebedmdoehaaGreatShut
import Derived.Test.YtbdnebedmdoehaaGreatV2
namespace Go.Proofs.YtbdnebedmdoehaaGreat.teslaVoid
open Go.ChangeShapes Go.WideShapes Go.ChangeAt Go.RowKit Go.PK
set_option linter.unusedVariables false


set_option maxRecDepth 100000 in
theorem lifted (os : Os) (started : os.Started) (H : Type) (enc : TypeId × Value → H) :
    ReturnsInHanded {} Tryz.checked os 7 .any (Rows.teslaVoidSpec.pre6 enc Tryz.prog Tryz.f7 Rows.teslaVoidRow.domain false) (Rows.teslaVoidSpec.post enc Tryz.prog Tryz.f7 false true false false) := by
  refine returnsInHanded_of_change (C := Tryz.checked) shOwn started (by kernel_rfl) Tryz.func7
    (ChangeSpec.witness6 (enc := enc) (C := Tryz.checked) false ⟨#[], #[.agg #[.int .i64 0, .int .i64 0, .int .u32 0, .int .u8 0, .int .i64 0, .bool false, .bool false, .int .u8 0, .int .i64 0, .int .i64 0, .int .u32 0, .int .u64 0, .slice none 0 0, .int .u8 0, .int .u8 0, .int .u8 0, .int .u8 0, .int .u8 0, .int .u8 0, .int .u8 0, .int .u8 0, .int .u8 0, .int .u8 0, .int .u8 0, .int .u8 0, .int .u8 0, .int .u8 0, .int .u8 0, .int .u8 0, .int .u8 0, .int .u8 0, .int .u8 0, .int .u8 0, .int .u8 0, .int .u8 0, .int .u8 0, .int .u8 0, .int .u8 0, .int .u8 0, .int .u8 0, .int .u8 0, .int .u8 0, .int .u8 0, .int .u8 0, .int .u8 0, .int .u8 0, .int .u8 0, .int .u8 0, .int .u8 0, .int .u8 0, .int .u8 0, .int .u8 0, .int .u8 0, .int .u8 0, .int .u8 0, .int .u8 0, .int .u8 0, .int .u8 0, .int .u8 0, .int .u8 0, .int .u8 0]], []⟩ 8 (by kernel_rfl) (by kernel_rfl) (by kernel_rfl) (by kernel_rfl)) ?_
  intro W base args ds gs before hval0 hW hcnd _
  have hval : ∀ (j : Nat) t v, Tryz.f7.params[j]? = some t → args[j]? = some v → Value.okWide Tryz.prog W .any base t v := hval0
  have hW' := hW
  obtain ⟨p, q, hA0, hV, rfl, hfz, hnd⟩ := hW
  have hA : DataW.TrodAll enc Tryz.prog W 0 (fun _ => true) true Tryz.f7.params.toList args.toList ds p := hA0
  rw [Tryz.params7] at hA hval
  obtain ⟨v0, vs0, d0, ds0, p0, q0, hargs, rfl, rfl, h0, r0⟩ := trodAll_cons hA
  obtain ⟨rfl, rfl, rfl⟩ := trodAll_nil r0
  obtain rfl : args = #[v0] := by cases args; simp_all
  obtain ⟨rfl, rfl⟩ := trodVars_none hV
  have lt0 : ∀ x ∈ p0, x.block < W.heap.size := by obtain ⟨m, hm⟩ := h0; exact DataW.trod_lt m _ _ _ hm
  obtain ⟨x0, e0, o0, t0⟩ := rAct21.arg (hval 0 47 v0 rfl rfl) h0
  clear hA0 hval0
  have hc := teslaVoid_call W x0 o0 t0
  rw [← e0] at hc
  refine hc.mono fun e W' ⟨he, bel⟩ => ?_
  subst he
  exact ⟨_, rfl, _, _, _, [], _, [], hW', trodAll_mk1 (shut_bool Tryz.underlying4 _), (trodAll_cons_mk (Below.trod sh2 (by kernel_rfl) (of_decide_eq_true (by kernel_rfl)) h0 bel lt0) trodAll_mk0), rfl, bel.frame _, fun h => by cases h⟩
theorem c1 : Rows.teslaVoidRow.wf (OpenSpec.ofChange Rows.teslaVoidSpec) = true := by kernel_rfl
theorem c4 : Tryz.f7.params.all (Tryz.prog.readableRec ·) = true := by kernel_rfl
theorem c5 : namedTie Tryz.prog Rows.teslaVoidRow.named Rows.teslaVoidSpec.vars = true := by kernel_rfl
theorem c6 : (Rows.teslaVoidRow.stops == []) = true := by kernel_rfl
theorem c8 : (Rows.teslaVoidRow.knobs == []) = true := by kernel_rfl
theorem c10 : (Rows.teslaVoidRow.inPlace == Tryz.prog.inPlace 7) = true := by kernel_rfl
theorem c11 : (Rows.teslaVoidRow.unfollowed == Tryz.prog.unfollowed 7) = true := by kernel_rfl
theorem c12 : (Rows.teslaVoidRow.recurses == Tryz.prog.recurses 7) = true := by kernel_rfl
theorem c13 : (Rows.teslaVoidRow.named == Tryz.prog.varsNamed 7) = true := by kernel_rfl
theorem c14 : (Rows.teslaVoidRow.maps == (Tryz.f7.params.toList ++ Rows.teslaVoidSpec.plain.varTypes Tryz.prog ).any (Tryz.prog.mapsRec ·)) = true := by kernel_rfl
theorem c15 : (Rows.teslaVoidRow.ifaces == (Tryz.f7.params.toList ++ Rows.teslaVoidSpec.plain.varTypes Tryz.prog ).any (Tryz.prog.ifacesRec ·)) = true := by kernel_rfl
theorem c16 : (Rows.teslaVoidRow.mapsOut == Tryz.prog.mapsAmong Tryz.f7.resultTypes.toList) = true := by kernel_rfl
theorem c17 : (Rows.teslaVoidRow.loops == (Tryz.f7.params.toList ++ Rows.teslaVoidSpec.plain.varTypes Tryz.prog ).any (Tryz.prog.loopsFrom ·)) = true := by kernel_rfl
theorem c18 : (Rows.teslaVoidRow.wideKeys == (Tryz.f7.params.toList ++ Rows.teslaVoidSpec.plain.varTypes Tryz.prog ++ Tryz.f7.resultTypes.toList).any (Tryz.prog.wideKeysFrom ·)) = true := by kernel_rfl
theorem c19 : Rows.teslaVoidSpec.vars.all (Tryz.prog.varReadable ·) = true := by kernel_rfl
theorem c20 : Tryz.f7.resultTypes.all (fun t => Tryz.prog.readableRec t && decide (t < Tryz.prog.types.size)) = true := by kernel_rfl
theorem c21 : (Rows.teslaVoidRow.ifacesOut == Tryz.f7.resultTypes.toList.any (Tryz.prog.ifacesRec ·)) = true := by kernel_rfl
theorem c22 : (Rows.teslaVoidRow.loopsOut == Tryz.f7.resultTypes.toList.any (Tryz.prog.loopsFrom ·)) = true := by kernel_rfl
theorem c23 : (Rows.teslaVoidRow.plainKeys == Tryz.prog.plainKeys) = true := by kernel_rfl
theorem c24 : Rows.teslaVoidRow.shortTexts.isNone = true := by kernel_rfl
theorem c27 : (Rows.teslaVoidRow.lifted == Tryz.prog.liftsFinal) = true := by kernel_rfl
theorem c28 : (Tryz.prog.make == some Rows.teslaVoidRow.make) = true := by kernel_rfl
theorem c29 : (Rows.teslaVoidRow.kinds == (if Rows.teslaVoidRow.domain.isEmpty then [] else Tryz.f7.params.toList.map fun t => match Tryz.prog.underlying t with | some (.int k) => some k | _ => none)) = true := by kernel_rfl
theorem c30 : (Rows.teslaVoidRow.pinned == Rows.teslaVoidRow.pinnedBy) = true := by kernel_rfl
theorem c31 : (Rows.teslaVoidRow.veiled == (Tryz.f7.params.toList ++ Rows.teslaVoidSpec.plain.varTypes Tryz.prog ++ Tryz.f7.resultTypes.toList).any (Tryz.prog.veiledRec ·)) = true := by kernel_rfl
theorem c32 : Rows.teslaVoidRow.veiledFits Tryz.prog Tryz.f7.params.toList (Tryz.f7.params.toList ++ Rows.teslaVoidSpec.plain.varTypes Tryz.prog ++ Tryz.f7.resultTypes.toList) = true := by kernel_rfl

set_option maxRecDepth 100000 in
theorem over : Rows.teslaVoidRow.holds Tryz.pinned (OpenSpec.ofChange Rows.teslaVoidSpec) :=
  OpenClaim.holds_of_wide 7 Tryz.f7 rfl rfl rfl rfl rfl rfl rfl ⟨rfl, rfl, rfl, rfl, rfl⟩ rfl rfl rfl rfl rfl (by kernel_rfl) Tryz.func7 (joined_of c1 sh2 sh3 c4 c5 c6 sh7 c8 sh9 c10 c11 c12 c13 c14 c15 c16 c17 c18 c19 c20 c21 c22 c23 c24 sh25 sh26 c27 c28 c29 c30 c31 c32)
    (of_decide_eq_true (by kernel_rfl)) (by unfold Func.isWrapper; first | (rw [if_pos (by decide +kernel)]; kernel_rfl) | (rw [if_neg (by decide +kernel)]; exact ⟨rfl, rfl⟩))
    (fun os started H enc _ => lifted os started H enc)

/-- The statement. -/
theorem proved : Rows.TeslaVoidSaid := over
#print axioms proved
end Go.Proofs.YtbdnebedmdoehaaGreat.teslaVoid
