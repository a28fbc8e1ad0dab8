/- RigVoid: for every input the law returns true, and its arguments read as before. Conditions: none (the statement's own constant). -/
import Derived.Test.YthgjgeapfndeeaaGreatDoorShut
import Derived.Test.YthgjgeapfndeeaaGreatDoorY1
import Derived.Test.YthgjgeapfndeeaaGreatDoorTie
import Derived.Test.YthgjgeapfndeeaaGreatDoorCards
import Derived.MakeChecks
set_option linter.unusedVariables false
set_option linter.unusedSimpArgs false
namespace Go.Proofs.YthgjgeapfndeeaaGreatDoor.rigVoid
open Go.ChangeShapes Go.WideShapes Go.ChangeAt Go.RowKit Go.PK
set_option linter.unusedVariables false


set_option maxRecDepth 100000 in
theorem lifted (os : Os) (started : os.Started) (H : Type) (enc : TypeId × Value → H) :
    ReturnsInHanded {} Tryz.checked os 3 .any (fun w args => (Rows.rigVoidSpec.pre enc Tryz.prog Tryz.f3 [] false w args ∧ laidMetH Tryz.prog Rows.rigVoidRow.laid w) ∧ sizedMet enc Tryz.prog Tryz.f3 (OpenSpec.ofChange Rows.rigVoidSpec) false w args) (Rows.rigVoidSpec.post enc Tryz.prog Tryz.f3 false true false false) := by
  refine returns_listed (C := Tryz.checked) (X := (fun w _ => laidMetH Tryz.prog Rows.rigVoidRow.laid w)) (fun _ _ _ hh h => h.of_heap hh) shOwn started (by kernel_rfl) Tryz.func3
    (ChangeSpec.witness_shaped (enc := enc) (C := Tryz.checked) (os := os) (X := (fun w _ => laidMetH Tryz.prog Rows.rigVoidRow.laid w)) false (World.laidAll Tryz.prog os Rows.rigVoidRow.laid) #[.slice none 0 0] 8 (World.laidAll_os _ _ _)
      (World.shaped_of_ZipB (by kernel_rfl) (by kernel_rfl)) (by kernel_rfl) (by kernel_rfl) (by kernel_rfl)
      (by rw [MakeChecks.laidMetH_plain _ _ _ (by kernel_rfl)]; exact laidMet_laidAll _ (by kernel_rfl) (by kernel_rfl))) ?_
  intro W base args ds gs before hval0 hW hL hsh
  rw [MakeChecks.laidMetH_plain _ _ _ (by kernel_rfl)] at hL
  have hval : ∀ (j : Nat) t v, Tryz.f3.params[j]? = some t → args[j]? = some v → Value.okWide Tryz.prog W .any base t v := hval0
  have hW' := hW
  obtain ⟨p, q, hA0, hV, rfl, hfz, hnd⟩ := hW
  have hA : DataW.TrodAll enc Tryz.prog W 0 (fun _ => true) true Tryz.f3.params.toList args.toList ds p := hA0
  rw [Tryz.params3] at hA hval
  obtain ⟨v0, vs0, d0, ds0, p0, q0, hargs, rfl, rfl, h0, r0⟩ := trodAll_cons hA
  obtain ⟨rfl, rfl, rfl⟩ := trodAll_nil r0
  obtain rfl : args = #[v0] := by cases args; simp_all
  obtain ⟨rfl, rfl⟩ := trodVars_none hV
  have lt0 : ∀ x ∈ p0, x.block < W.heap.size := by obtain ⟨m, hm⟩ := h0; exact DataW.trod_lt m _ _ _ hm
  obtain ⟨x0, e0, o0, t0⟩ := rBytes.arg (hval 0 22 v0 rfl rfl) h0
  clear hA0 hval0
  have hc := rigVoid_call W x0 o0 t0 (gv_of W hL hsh)
  rw [← e0] at hc
  refine hc.mono fun e W' ⟨he, bel⟩ => ?_
  subst he
  exact ⟨_, rfl, _, _, _, [], _, [], hW', trodAll_mk1 (shut_bool Tryz.underlying4 _), (trodAll_cons_mk (Below.trod sh2 (by kernel_rfl) (of_decide_eq_true (by kernel_rfl)) h0 bel lt0) trodAll_mk0), rfl, bel.frame _, fun h => by cases h⟩
theorem c1 : Rows.rigVoidRow.wf (OpenSpec.ofChange Rows.rigVoidSpec) = true := by kernel_rfl
theorem c4 : Tryz.f3.params.all (Tryz.prog.readableRec ·) = true := by kernel_rfl
theorem c5 : namedTie Tryz.prog Rows.rigVoidRow.named Rows.rigVoidSpec.vars = true := by kernel_rfl
theorem c6 : (Rows.rigVoidRow.stops == []) = true := by kernel_rfl
theorem c8 : (Rows.rigVoidRow.knobs == []) = true := by kernel_rfl
theorem c10 : (Rows.rigVoidRow.inPlace == Tryz.prog.inPlace 3) = true := by kernel_rfl
theorem c11 : (Rows.rigVoidRow.unfollowed == Tryz.prog.unfollowed 3) = true := by kernel_rfl
theorem c12 : (Rows.rigVoidRow.recurses == Tryz.prog.recurses 3) = true := by kernel_rfl
theorem c13 : (Rows.rigVoidRow.named == Tryz.prog.varsNamed 3) = true := by kernel_rfl
theorem c14 : (Rows.rigVoidRow.maps == (Tryz.f3.params.toList ++ Rows.rigVoidSpec.plain.varTypes Tryz.prog ).any (Tryz.prog.mapsRec ·)) = true := by kernel_rfl
theorem c15 : (Rows.rigVoidRow.ifaces == (Tryz.f3.params.toList ++ Rows.rigVoidSpec.plain.varTypes Tryz.prog ).any (Tryz.prog.ifacesRec ·)) = true := by kernel_rfl
theorem c16 : (Rows.rigVoidRow.mapsOut == Tryz.prog.mapsAmong Tryz.f3.resultTypes.toList) = true := by kernel_rfl
theorem c17 : (Rows.rigVoidRow.loops == (Tryz.f3.params.toList ++ Rows.rigVoidSpec.plain.varTypes Tryz.prog ).any (Tryz.prog.loopsFrom ·)) = true := by kernel_rfl
theorem c18 : (Rows.rigVoidRow.wideKeys == (Tryz.f3.params.toList ++ Rows.rigVoidSpec.plain.varTypes Tryz.prog ++ Tryz.f3.resultTypes.toList).any (Tryz.prog.wideKeysFrom ·)) = true := by kernel_rfl
theorem c19 : Rows.rigVoidSpec.vars.all (Tryz.prog.varReadable ·) = true := by kernel_rfl
theorem c20 : Tryz.f3.resultTypes.all (fun t => Tryz.prog.readableRec t && decide (t < Tryz.prog.types.size)) = true := by kernel_rfl
theorem c21 : (Rows.rigVoidRow.ifacesOut == Tryz.f3.resultTypes.toList.any (Tryz.prog.ifacesRec ·)) = true := by kernel_rfl
theorem c22 : (Rows.rigVoidRow.loopsOut == Tryz.f3.resultTypes.toList.any (Tryz.prog.loopsFrom ·)) = true := by kernel_rfl
theorem c23 : (Rows.rigVoidRow.plainKeys == Tryz.prog.plainKeys) = true := by kernel_rfl
theorem c24 : Rows.rigVoidRow.shortTexts.isNone = true := by kernel_rfl
theorem c27 : (Rows.rigVoidRow.lifted == Tryz.prog.liftsFinal) = true := by kernel_rfl
theorem c28 : (Tryz.prog.make == some Rows.rigVoidRow.make) = true := by kernel_rfl
theorem c29 : (Rows.rigVoidRow.kinds == (if Rows.rigVoidRow.domain.isEmpty then [] else Tryz.f3.params.toList.map fun t => match Tryz.prog.underlying t with | some (.int k) => some k | _ => none)) = true := by kernel_rfl
theorem c30 : (Rows.rigVoidRow.pinned == Rows.rigVoidRow.pinnedBy) = true := by kernel_rfl
theorem c31 : (Rows.rigVoidRow.veiled == (Tryz.f3.params.toList ++ Rows.rigVoidSpec.plain.varTypes Tryz.prog ++ Tryz.f3.resultTypes.toList).any (Tryz.prog.veiledRec ·)) = true := by kernel_rfl
theorem c32 : Rows.rigVoidRow.veiledFits Tryz.prog Tryz.f3.params.toList (Tryz.f3.params.toList ++ Rows.rigVoidSpec.plain.varTypes Tryz.prog ++ Tryz.f3.resultTypes.toList) = true := by kernel_rfl

set_option maxRecDepth 100000 in
theorem over : Rows.rigVoidRow.holds Tryz.pinned (OpenSpec.ofChange Rows.rigVoidSpec) :=
  OpenClaim.holds_of_wide 3 Tryz.f3 rfl rfl rfl rfl rfl rfl rfl ⟨rfl, rfl, rfl, rfl, rfl⟩ rfl rfl rfl rfl rfl (by kernel_rfl) Tryz.func3 (joined_of c1 sh2 sh3 c4 c5 c6 sh7 c8 sh9 c10 c11 c12 c13 c14 c15 c16 c17 c18 c19 c20 c21 c22 c23 c24 sh25 sh26 c27 c28 c29 c30 c31 c32)
    (of_decide_eq_true (by kernel_rfl)) (by unfold Func.isWrapper; first | (rw [if_pos (by decide +kernel)]; kernel_rfl) | (rw [if_neg (by decide +kernel)]; exact ⟨rfl, rfl⟩))
    (fun os started H enc _ => lifted os started H enc)

set_option maxRecDepth 100000 in
theorem z1 : Rows.rigVoidRow.wfByText (OpenSpec.ofChange Rows.rigVoidSpec) = true := by kernel_rfl
set_option maxRecDepth 100000 in
theorem z2 : Tryz.pinned.checked.prog.mainIs = some (((true, "9306f9c4cfb54bcc31005ea86438aecc400c668cbca21844052034f6264e7559") : Bool × String).1, ((true, "9306f9c4cfb54bcc31005ea86438aecc400c668cbca21844052034f6264e7559") : Bool × String).2.toList) := by kernel_rfl
set_option maxRecDepth 100000 in
theorem z3 : false = Tryz.prog.looks [] := by kernel_rfl
set_option maxRecDepth 100000 in
theorem z4 : Tryz.prog.funcNamed "pelorus/peloruslaw39.RigVoid" = some 3 := by kernel_rfl
set_option maxRecDepth 100000 in
theorem z5 : ([22].all fun u => !Tryz.prog.wantsStandIn u) = true := by kernel_rfl
set_option maxRecDepth 100000 in
theorem z6 : Tryz.prog.funcs.any Func.goes = false := by kernel_rfl
/-- The statement: the row is tied to the text. -/
theorem proved : Rows.RigVoidCardSaid :=
  Claim7.holds_tied_plain_at .later [] [.data, .data, .data] true (true, "9306f9c4cfb54bcc31005ea86438aecc400c668cbca21844052034f6264e7559") false over (fun _ h => by cases h) z1 (fun _ h => by cases h) rigVoid_row_tie rfl ⟨rfl, rfl⟩ z2 rfl
    (fun f fn hf hfn => by
      obtain rfl : f = 3 := Option.some.inj (z4.symm.trans hf) |>.symm
      obtain rfl : fn = Tryz.f3 := (Option.some.inj (Tryz.func3.symm.trans hfn)).symm
      exact ⟨z3, fun j t ht => by
        rw [Tryz.params3] at ht
        have hm : t ∈ [22] := by simpa using Array.mem_of_getElem? ht
        exact (show Tryz.prog.wantsStandIn t = false by simpa using List.all_eq_true.1 z5 t hm)⟩)
    (goes_none z6)
#print axioms proved
end Go.Proofs.YthgjgeapfndeeaaGreatDoor.rigVoid
