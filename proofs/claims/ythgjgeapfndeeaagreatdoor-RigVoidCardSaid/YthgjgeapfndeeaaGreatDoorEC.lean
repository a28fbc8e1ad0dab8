import Derived.Test.YthgjgeapfndeeaaGreatDoorEB
import Derived.Test.YthgjgeapfndeeaaGreatDoorPE
set_option linter.unusedVariables false
set_option linter.unusedSimpArgs false
/-
  EV, part 14: flat values compared; maps.
-/
namespace Go.PK
section
variable {P : Program} {θ : Vl} {h h' hb : Heap} {id : Nat} {v : AV} {nt : Nat} {a : Act} {env : EnvT} {t kt : TypeId} {x y z : Operand} {w : World}
theorem fitsB_ok : ∀ {ks : List EK} {l : List AV}, fitsB ks l = true → Fits ks (l.map (AV.dec θ))
  | [], [], _ => trivial
  | [], _ :: _, h => by cases h
  | _ :: _, [], h => by cases h
  | k :: ks, c :: cs, h => by
    have h : (fitB k c && fitsB ks cs) = true := h
    rw [Bool.and_eq_true] at h
    refine ⟨?_, fitsB_ok h.2⟩
    have h1 := h.1
    unfold fitB at h1
    split at h1
    · trivial
    · rw [Bool.and_eq_true, decide_eq_true_eq] at h1
      obtain ⟨rfl, h2⟩ := h1
      exact ⟨rfl, h2⟩
    · cases h1
theorem fitB_inv {k : EK} {c : AV} (h : fitB k c = true) : (k = .bool ∧ ∃ p, c = .val (.bool p)) ∨ ∃ q, k = .int q ∧ ∃ m, c = .val (.int q m) := by
  unfold fitB at h
  split at h
  · exact .inl ⟨rfl, _, rfl⟩
  · rw [Bool.and_eq_true, decide_eq_true_eq] at h
    have e := h.1
    subst e
    exact .inr ⟨_, rfl, _, rfl⟩
  · cases h
theorem samesB_ok : ∀ {ks : List EK} {l m : List AV}, fitsB ks l = true → fitsB ks m = true → (samesB l m = true ↔ l.map (AV.dec θ) = m.map (AV.dec θ))
  | [], [], [], _, _ => by simp [samesB]
  | [], _ :: _, _, h, _ => by cases h
  | [], [], _ :: _, _, h => by cases h
  | _ :: _, [], _, h, _ => by cases h
  | _ :: _, _ :: _, [], _, h => by cases h
  | k :: ks, c :: cs, d :: ds, h, g => by
    have h : (fitB k c && fitsB ks cs) = true := h
    have g : (fitB k d && fitsB ks ds) = true := g
    rw [Bool.and_eq_true] at h g
    have ih := samesB_ok h.2 g.2
    have hs : sameB c d = true ↔ c.dec θ = d.dec θ := by
      rcases fitB_inv h.1 with ⟨rfl, p, rfl⟩ | ⟨q, rfl, m, rfl⟩
      · rcases fitB_inv g.1 with ⟨-, p', rfl⟩ | ⟨q, e, -⟩
        · simp [sameB, AV.dec]
        · cases e
      · rcases fitB_inv g.1 with ⟨e, -⟩ | ⟨q', e, m', rfl⟩
        · cases e
        · cases e
          simp [sameB, AV.dec]
    simp only [samesB, Bool.and_eq_true, hs, ih, List.map_cons, List.cons.injEq]
theorem goodB_ok {ks : KS} {k : AV} (hk : ks.goodB k = true) : ks.good (k.dec θ) := by
  unfold KS.goodB at hk
  split at hk
  · rw [decide_eq_true_eq] at hk
    subst hk
    exact ⟨_, rfl⟩
  · exact ⟨_, fitsB_ok (θ := θ) hk, by simp [AV.dec, decL_map]⟩
  · cases hk
theorem sameKey {ks : KS} {k c : AV} (hk : ks.goodB k = true) (hc : ks.goodB c = true) : samesB k.cells c.cells = true ↔ k.dec θ = c.dec θ := by
  unfold KS.goodB at hk
  split at hk
  · rw [decide_eq_true_eq] at hk
    subst hk
    unfold KS.goodB at hc
    split at hc
    · next heq =>
      cases heq
      rw [decide_eq_true_eq] at hc
      subst hc
      simp [AV.cells, samesB, sameB, AV.dec]
    · next heq => cases heq
    · cases hc
  · unfold KS.goodB at hc
    split at hc
    · next heq => cases heq
    · next heq =>
      cases heq
      have := samesB_ok (θ := θ) hk hc
      simp only [AV.cells, AV.dec, decL_map]
      rw [this]
      simp
    · cases hc
  · cases hk
theorem lookA_ok {ks : KS} {k : AV} (hk : ks.goodB k = true) : ∀ {c : List (AV × AV)}, ks.all c = true → lookV (k.dec θ) (c.map (decP θ)) = (lookA k c).map (AV.dec θ)
  | [], _ => rfl
  | (a, u) :: r, h => by
    have h : (ks.goodB a && ks.all r) = true := h
    rw [Bool.and_eq_true] at h
    have hs := sameKey (θ := θ) hk h.1
    rw [List.map_cons]
    unfold lookA
    cases hc : samesB k.cells a.cells with
    | true =>
      have := hs.1 hc
      simp [decP, lookV, this]
    | false =>
      have hne : k.dec θ ≠ a.dec θ := fun e => by rw [hs.2 e] at hc; cases hc
      have ih := lookA_ok hk h.2
      have ih' : lookV (k.dec θ) (r.map (decP θ)) = (lookA k r).map (AV.dec θ) := ih
      show lookV (k.dec θ) ((a.dec θ, u.dec θ) :: r.map (decP θ)) = _
      rw [lookV, if_neg hne, ih']
      rfl
theorem setA_ok {ks : KS} {k u : AV} (hk : ks.goodB k = true) : ∀ {c : List (AV × AV)}, ks.all c = true → setV (k.dec θ) (u.dec θ) (c.map (decP θ)) = (setA k u c).map (decP θ)
  | [], _ => rfl
  | (a, q) :: r, h => by
    have h : (ks.goodB a && ks.all r) = true := h
    rw [Bool.and_eq_true] at h
    have hs := sameKey (θ := θ) hk h.1
    rw [List.map_cons]
    unfold setA
    cases hc : samesB k.cells a.cells with
    | true =>
      have := hs.1 hc
      simp [decP, setV, this]
    | false =>
      have hne : k.dec θ ≠ a.dec θ := fun e => by rw [hs.2 e] at hc; cases hc
      have ih := setA_ok (u := u) hk h.2
      show setV (k.dec θ) (u.dec θ) ((a.dec θ, q.dec θ) :: r.map (decP θ)) = _
      rw [setV, if_neg hne, ih]
      rfl
theorem lookA_mem {k u : AV} : ∀ {c : List (AV × AV)}, lookA k c = some u → u ∈ c.map (·.2)
  | (a, q) :: r, h => by
    unfold lookA at h
    cases hc : samesB k.cells a.cells with
    | true => rw [hc] at h; cases h; simp
    | false => rw [hc] at h; exact List.mem_cons_of_mem _ (lookA_mem h)
theorem setA_wf {A : Nat → Nat → Prop} {k u : AV} (hk : k.Wf A) (hu : u.Wf A) : ∀ {c : List (AV × AV)}, (∀ x ∈ c.map (·.1) ++ c.map (·.2), x.Wf A) → ∀ x ∈ (setA k u c).map (·.1) ++ (setA k u c).map (·.2), x.Wf A
  | [], _, x, hx => by
    simp [setA] at hx
    rcases hx with rfl | rfl
    · exact hk
    · exact hu
  | (a, q) :: r, h, x, hx => by
    unfold setA at hx
    have ha : a.Wf A := h a (by simp)
    have hq : q.Wf A := h q (by simp)
    have hr : ∀ x ∈ r.map (·.1) ++ r.map (·.2), x.Wf A := fun x hx => h x (by
      simp only [List.map_cons, List.mem_append, List.mem_cons] at hx ⊢
      rcases hx with hx | hx
      · exact .inl (.inr hx)
      · exact .inr (.inr hx))
    cases hc : samesB k.cells a.cells with
    | true =>
      rw [hc] at hx
      simp only [cond_true, List.map_cons, List.mem_append, List.mem_cons] at hx
      rcases hx with (rfl | hx) | (rfl | hx)
      · exact ha
      · exact hr x (List.mem_append_left _ hx)
      · exact hu
      · exact hr x (List.mem_append_right _ hx)
    | false =>
      rw [hc] at hx
      simp only [cond_false, List.map_cons, List.mem_append, List.mem_cons] at hx
      rcases hx with (rfl | hx) | (rfl | hx)
      · exact ha
      · exact setA_wf hk hu hr x (List.mem_append_left _ hx)
      · exact hq
      · exact setA_wf hk hu hr x (List.mem_append_right _ hx)
end
end Go.PK

/-
  EV, part 15: flat values compared; maps, whole.
-/
namespace Go.PK
section
variable {P : Program} {θ : Vl} {h h' hb : Heap} {id : Nat} {v : AV} {nt : Nat} {a : Act} {env : EnvT} {t kt : TypeId} {x y z : Operand} {w : World}
theorem flatOf_inv {ks : List EK} (hf : flatOf P t = some ks) : ∃ d, P.underlying t = some d ∧ aggD d = true ∧ shape P 20 t = some ks ∧ P.keyTypeAt 20 t = true ∧ P.cellsOf t = ks.length ∧ P.eqGuardType P.depth t = false := by
  unfold flatOf at hf
  split at hf
  · next d ks' hd hs =>
    cases hc : (aggD d && P.keyTypeAt 20 t && Nat.beq (P.cellsOf t) ks'.length && !P.eqGuardType P.depth t) with
    | false => rw [hc] at hf; cases hf
    | true =>
      rw [hc] at hf
      cases hf
      simp only [Bool.and_eq_true, Bool.not_eq_true'] at hc
      obtain ⟨⟨⟨h1, h2⟩, h3⟩, h4⟩ := hc
      exact ⟨d, hd, h1, hs, h2, Nat.eq_of_beq_eq_true h3, h4⟩
  · cases hf
theorem agg_desc {d : TypeDesc} (hd : P.underlying t = some d) (ha : aggD d = true) : (match P.underlying t with | some (.array _ _) | some (.struct _) => true | _ => false) = true := by
  rw [hd]
  cases d <;> first | rfl | cases ha
theorem isAgg_dec {u : AV} (hu : isAggA u = true) : u.dec θ = .agg (u.cells.map (AV.dec θ)).toArray := by
  unfold isAggA at hu
  split at hu
  · simp [AV.dec, decL_map, AV.cells]
  · next cs =>
    have := val_cells (θ := θ) (.agg cs)
    simp only [Value.cells] at this
    rw [this, AV.dec]
  · cases hu
theorem ex_flat {op : BinOp} {yt : TypeId} (ha : AgT θ nt a env) (hv : evFlat P op t x y env = some v) : Ex P a (.binOp op t x y yt) (v.dec θ) := by
  unfold evFlat at hv
  split at hv
  · next ks u q hf hx hy =>
    obtain ⟨d, hd, h1, h2, h3, h4, h5⟩ := flatOf_inv hf
    cases hc : ((isAggA u && isAggA q) && (fitsB ks u.cells && fitsB ks q.cells)) with
    | false => rw [hc] at hv; cases hv
    | true =>
      rw [hc] at hv
      simp only [Bool.and_eq_true] at hc
      obtain ⟨⟨c1, c2⟩, c3, c4⟩ := hc
      have hxe := (ha.ev hx).trans (isAgg_dec c1)
      have hye := (ha.ev hy).trans (isAgg_dec c2)
      have hs := samesB_ok (θ := θ) c3 c4
      intro dst ty pos af g w
      show Sem.run P (do pure (Next.value (← (do eqGuard op t x y (a.eval x) (a.eval y); binOp op t (a.eval x) (a.eval y) : Sem Value)))) w = _
      rw [hxe, hye, Sem.run_bind]
      cases op
      case eql =>
        cases hv
        rw [eql_flat (x := x) (y := y) (by omega) h3 h2 (agg_desc hd h1) h4 h5 (fitsB_ok c3) (fitsB_ok c4) hs w]
        rfl
      case neq =>
        cases hv
        rw [neq_flat (x := x) (y := y) (by omega) h3 h2 (agg_desc hd h1) h4 h5 (fitsB_ok c3) (fitsB_ok c4) hs w]
        rfl
      all_goals cases hv
  · cases hv
theorem equal_int {k : IntKind} (hu : ∀ w, (underlying t).run P w = .ok (.int k) w) (p q : Int) (w : World) : (Op.equal t (.int k p) (.int k q)).run P w = .ok (decide (p = q)) w := by
  unfold Op.equal
  rw [show Op.maxDepth = 9999 + 1 from rfl, Op.equalIn.eq_2]
  simp [hu]
  rw [Bool.eq_iff_iff]; simp
theorem keyKS_ok {ks : KS} (hk : keyKS P kt = some ks) : KeyT P kt ks.good := by
  unfold keyKS at hk
  split at hk
  · next k hu =>
    cases hk
    have hu' := run_underlying hu
    refine ⟨⟨_, hu', ?_⟩, ?_, ?_, ?_⟩
    · rintro _ _ ⟨m, rfl⟩ ⟨n, rfl⟩
      by_cases h : m = n <;> simp [Instr.sameNow, same, h]
    · rintro _ _ ⟨m, rfl⟩ ⟨n, rfl⟩ w
      rw [equal_int hu']
      by_cases h : m = n <;> simp [same, h]
    · rintro _ ⟨m, rfl⟩ e w
      have : ∀ n, (Instr.checkKey e (n + 2) kt (.int k m)).run P w = .ok () w := by
        intro n
        simp [Instr.checkKey, hu']
      exact this 9998
    · rintro _ ⟨m, rfl⟩
      simp [Instr.sameBits]
  · obtain ⟨l, hl, rfl⟩ := Option.map_eq_some_iff.1 hk
    obtain ⟨d, hd, h1, h2, h3, h4, h5⟩ := flatOf_inv hl
    refine keyT_flat (by omega) h3 h2 (agg_desc hd h1) h4 ⟨d, run_underlying hd, fun a b => ?_⟩
    cases d <;> first | rfl | cases h1
end
end Go.PK

/-
  EV, part 16: maps, whole.
-/
namespace Go.PK
section
variable {P : Program} {θ : Vl} {h h' hb : Heap} {id : Nat} {v : AV} {nt : Nat} {a : Act} {env : EnvT} {t kt : TypeId} {x y z : Operand} {w : World}
theorem mkMap_ok (hv : evMkMap P t id h = some (v, h')) : Ok P a (.makeMap t none) θ h hb v h' := by
  unfold evMkMap at hv
  split at hv
  · split at hv
    · next ks hk =>
      obtain ⟨h0, rfl, hg⟩ := newB_inv hv
      refine ⟨fun dst ty pos af g w hm => ?_, fun hI => inv_new hI h0 hg⟩
      have key : (execOp a.eval ⟨dst, .makeMap t none, ty, pos, af, g⟩).run P w = .ok (.value (.map (some w.heap.size))) (w.alloc (.map #[] 0)) := by simp [execOp, Instr.makeMap]
      unfold does
      rw [key]
      refine post_new hm h0 hg (w.heap.size, 0) (Keeps.alloc _ _ _) ?_ ?_ (fun x hx => by simp [Blk.vals] at hx) ⟨got hg, Nat.zero_le _⟩ (by simp [AV.dec, upd_at])
      · show (mapI (upd θ id (w.heap.size, 0) id).1 ks.good []).A _
        rw [upd_at]
        exact ⟨#[], 0, heap_alloc_same w _, rfl, by simp, by simp, by simp, by simp⟩
      · intro q hq
        have hq : q ∈ (mapI (upd θ id (w.heap.size, 0) id).1 ks.good []).bs := hq
        rw [upd_at] at hq
        have : q = w.heap.size := by simpa [mapI] using hq
        omega
    · cases hv
  · cases hv
theorem entries_ok {b : Blk} {ks : KS} {c : List (AV × AV)} (hb : b.entries = some (ks, c)) (hA : (itA θ id b).A w) : (mapI (θ id).1 ks.good (c.map (decP θ))).A w := by
  cases b with
  | map ks' c' => cases hb; exact hA
  | mapE ks' c' k i => cases hb; exact mapE_I hA
  | _ => cases hb
theorem entries_wf {b : Blk} {ks : KS} {c : List (AV × AV)} {A : Nat → Nat → Prop} (hb : b.entries = some (ks, c)) (hA : ∀ x ∈ b.vals, x.Wf A) : ∀ x ∈ c.map (·.1) ++ c.map (·.2), x.Wf A := by
  cases b with
  | map ks' c' => cases hb; exact hA
  | mapE ks' c' k i => cases hb; exact fun x hx => hA x (List.mem_cons_of_mem _ (List.mem_cons_of_mem _ hx))
  | _ => cases hb
theorem orZero_inv {et : TypeId} {o : Option AV} (hz : orZero P et o = some v) : ∃ i z, P.info? et = some i ∧ i.zero = some z ∧ v = o.getD (.val z) := by
  unfold orZero at hz
  split at hz
  · next i hi =>
    split at hz
    · next z hz1 => cases hz; exact ⟨i, z, hi, hz1, rfl⟩
    · cases hz
  · cases hz
theorem orZero_dec {et : TypeId} {o : Option AV} (hz : orZero P et o = some v) : ∃ zv, (∀ w, (zeroValue et).run P w = .ok zv w) ∧ v.dec θ = (o.map (AV.dec θ)).getD zv := by
  obtain ⟨i, z, hi, hz1, rfl⟩ := orZero_inv hz
  exact ⟨z, run_zero' hi hz1, by cases o <;> rfl⟩
theorem orZero_wf {A : Nat → Nat → Prop} {et : TypeId} {o : Option AV} (hz : orZero P et o = some v) (ho : ∀ u, o = some u → u.Wf A) : v.Wf A := by
  obtain ⟨i, z, hi, hz1, rfl⟩ := orZero_inv hz
  cases o with
  | none => trivial
  | some u => exact ho u rfl
theorem look_ok {two : Bool} (ha : AgT θ nt a env) (hv : evLook P t x y two env h = some v) : ExM P a (.lookup t x y two) θ h v := by
  unfold evLook at hv
  split at hv
  · next kt et id k hd hx hy =>
    split at hv
    · next ks ks' c hks hc =>
      cases hcc : (decide (ks' = ks) && (ks.goodB k && ks.all c)) with
      | false => rw [hcc] at hv; cases hv
      | true =>
        rw [hcc] at hv
        simp only [Bool.and_eq_true, decide_eq_true_eq] at hcc
        obtain ⟨rfl, c1, c2⟩ := hcc
        have K := keyKS_ok hks
        obtain ⟨b, hb, hent⟩ := Option.bind_eq_some_iff.1 hc
        have hv : (match orZero P et (lookA k c) with
          | some v => some (bif two then AV.tup [v, .val (.bool (lookA k c).isSome)] else v)
          | none => none) = some v := hv
        split at hv
        · next q hq =>
          cases hv
          intro dst ty pos af g w hm
          obtain ⟨zv, z1, z2⟩ := orZero_dec (θ := θ) hq
          obtain ⟨es, clock, h1, h2, h3, h4, h5, h6⟩ := entries_ok hent (hm.ok id b hb)
          have hg := goodB_ok (θ := θ) c1
          have hf := run_findKey K hg es.toList w (good_of_kvs h2 h4)
          have hl := findL_look (k := k.dec θ) es.toList 0
          rw [h2, lookA_ok c1 c2] at hl
          have hgo : (getObj (θ id).1).run P w = .ok (.map es clock) w := by simp [getObj, Sem.run, h1]
          have hxe := ha.ev hx
          have hye := ha.ev hy
          simp only [AV.dec] at hxe
          simp only [execOp, hxe, hye, Instr.lookup, Sem.run_bind, run_underlying hd, Result.andThen_ok, hgo, Sem.run_pure, K.chk _ hg, hf]
          cases hfl : findL (k.dec θ) es.toList 0 with
          | none =>
            rw [hfl] at hl
            have hl : lookA k c = none := by
              cases hq2 : lookA k c with
              | none => rfl
              | some u => rw [hq2] at hl; cases hl
            rw [hl] at z2 ⊢
            cases two <;> simp [z1, AV.dec, AV.decL, z2]
          | some p =>
            rw [hfl] at hl
            obtain ⟨u, hu, hu2⟩ := Option.map_eq_some_iff.1 hl.symm
            rw [hu] at z2 ⊢
            cases two <;> simp [AV.dec, AV.decL, z2, hu2]
        · cases hv
    · cases hv
  · next kt et k hd hx hy =>
    split at hv
    · next ks hks =>
      cases hcc : ks.goodB k with
      | false => rw [hcc] at hv; cases hv
      | true =>
        rw [hcc] at hv
        have K := keyKS_ok hks
        have hv : (match orZero P et none with
          | some v => some (bif two then AV.tup [v, .val (.bool false)] else v)
          | none => none) = some v := hv
        split at hv
        · next q hq =>
          cases hv
          intro dst ty pos af g w hm
          obtain ⟨zv, z1, z2⟩ := orZero_dec (θ := θ) hq
          have hg := goodB_ok (θ := θ) hcc
          have hf := run_findKey K hg [] w (by simp)
          have hxe := ha.ev hx
          have hye := ha.ev hy
          simp only [AV.dec] at hxe
          simp only [execOp, hxe, hye, Instr.lookup, Sem.run_bind, run_underlying hd, Result.andThen_ok, Sem.run_pure, K.chk _ hg, hf, findL]
          simp only [Option.map_none, Option.getD_none] at z2
          cases two <;> simp [z1, AV.dec, AV.decL, z2]
        · cases hv
    · cases hv
  · cases hv
theorem look_wf {two : Bool} (hmw : ∀ id b, h.get id = some b → ∀ x ∈ b.vals, x.Wf (AH θ h)) (hv : evLook P t x y two env h = some v) : v.Wf (AH θ h) := by
  have pair : ∀ q : AV, ∀ p : Bool, q.Wf (AH θ h) → (bif two then AV.tup [q, .val (.bool p)] else q).Wf (AH θ h) := fun q p hq => by
    cases two
    · exact hq
    · exact ⟨hq, trivial, trivial⟩
  unfold evLook at hv
  split at hv
  · next kt et id k hd hx hy =>
    split at hv
    · next ks ks' c hks hc =>
      obtain ⟨b, hb, hent⟩ := Option.bind_eq_some_iff.1 hc
      cases hcc : (decide (ks' = ks) && (ks.goodB k && ks.all c)) with
      | false => rw [hcc] at hv; cases hv
      | true =>
        rw [hcc] at hv
        have hv : (match orZero P et (lookA k c) with
          | some v => some (bif two then AV.tup [v, .val (.bool (lookA k c).isSome)] else v)
          | none => none) = some v := hv
        split at hv
        · next q hq =>
          cases hv
          exact pair _ _ (orZero_wf hq fun u hu => entries_wf hent (hmw _ b hb) u (List.mem_append_right _ (lookA_mem hu)))
        · cases hv
    · cases hv
  · next kt et k hd hx hy =>
    split at hv
    · next ks hks =>
      cases hcc : ks.goodB k with
      | false => rw [hcc] at hv; cases hv
      | true =>
        rw [hcc] at hv
        have hv : (match orZero P et none with
          | some v => some (bif two then AV.tup [v, .val (.bool false)] else v)
          | none => none) = some v := hv
        split at hv
        · next q hq =>
          cases hv
          exact pair _ _ (orZero_wf hq fun u hu => by cases hu)
        · cases hv
    · cases hv
  · cases hv
theorem mapUp_ok (ha : AgT θ nt a env) (hw : WfE (AH θ h) env) (hmw : ∀ id b, h.get id = some b → ∀ x ∈ b.vals, x.Wf (AH θ h)) (hv : evMapUp P hb t x y z env h = some (v, h')) : Ok P a (.mapUpdate t x y z) θ h hb v h' := by
  unfold evMapUp at hv
  split at hv
  · next kt et id k u hd hx hy hz =>
    split at hv
    · next ks ks' c hks hb0 =>
      cases hcc : (decide (ks' = ks) && (ks.goodB k && ks.all c)) with
      | false => rw [hcc] at hv; cases hv
      | true =>
        rw [hcc] at hv
        simp only [Bool.and_eq_true, decide_eq_true_eq] at hcc
        obtain ⟨rfl, c1, c2⟩ := hcc
        have K := keyKS_ok hks
        obtain ⟨h0, rfl, hg⟩ := turnB_inv hv
        refine ⟨fun dst ty pos af g w hm => ?_, fun hI => inv_turn hI h0 hg⟩
        have hA : (mapI (θ id).1 ks'.good (c.map (decP θ))).A w := hm.ok id _ hb0
        obtain ⟨w', r1, r2, r3⟩ := run_mapUpdate (u := u.dec θ) K (run_underlying hd) (goodB_ok (θ := θ) c1) hA
        have hxe := ha.ev hx
        simp only [AV.dec] at hxe
        have key : (execOp a.eval ⟨dst, .mapUpdate t x y z, ty, pos, af, g⟩).run P w = .ok .skip w' := by
          show Sem.run P (do Instr.mapUpdate t (a.eval x) (a.eval y) (a.eval z); pure Next.skip) w = _
          rw [hxe, ha.ev hy, ha.ev hz]
          simp [r1]
        unfold does
        rw [key]
        refine post_turn hm hb0 h0 hg r2 ?_ (fun q hq => hq) (setA_wf (evO_wf hw hy) (evO_wf hw hz) (hmw id _ hb0)) trivial rfl
        show (mapI (θ id).1 ks'.good ((setA k u c).map (decP θ))).A w'
        rw [← setA_ok c1 c2]
        exact r3
    · cases hv
  · cases hv
theorem entSt_ok (ha : AgT θ nt a env) (hw : WfE (AH θ h) env) (hmw : ∀ id b, h.get id = some b → ∀ x ∈ b.vals, x.Wf (AH θ h)) (hv : evEntSt hb x y z env h = some (v, h')) : Ok P a (.entryStore t x y z) θ h hb v h' := by
  unfold evEntSt at hv
  split at hv
  · next id i u hx hy hz =>
    split at hv
    · next ks c k j hb0 =>
      cases hcc : (Nat.beq i j && (ks.goodB k && ks.all c)) with
      | false => rw [hcc] at hv; cases hv
      | true =>
        rw [hcc] at hv
        simp only [Bool.and_eq_true] at hcc
        obtain ⟨c0, c1, c2⟩ := hcc
        have c0 := Nat.eq_of_beq_eq_true c0
        subst c0
        obtain ⟨h0, rfl, hg⟩ := turnB_inv hv
        refine ⟨fun dst ty pos af g w hm => ?_, fun hI => inv_turn hI h0 hg⟩
        have hA : (mapE (θ id).1 ks.good (c.map (decP θ)) (k.dec θ) (θ i).2).A w := hm.ok id _ hb0
        obtain ⟨w', r1, r2, r3⟩ := run_entryStore (t := t) (P := P) (u := u.dec θ) hA
        have hxe := ha.ev hx
        have hye := ha.ev hy
        simp only [AV.dec] at hxe hye
        have key : (execOp a.eval ⟨dst, .entryStore t x y z, ty, pos, af, g⟩).run P w = .ok .skip w' := by
          show Sem.run P (do Instr.entryStore t (a.eval x) (a.eval y) (a.eval z); pure Next.skip) w = _
          rw [hxe, hye, ha.ev hz]
          simp [r1]
        have hbw := hmw id _ hb0
        have hkw : k.Wf (AH θ h) := hbw k (List.mem_cons_self ..)
        have hcw : ∀ x ∈ c.map (·.1) ++ c.map (·.2), x.Wf (AH θ h) := fun x hx => hbw x (List.mem_cons_of_mem _ (List.mem_cons_of_mem _ hx))
        unfold does
        rw [key]
        refine post_turn hm hb0 h0 hg r2 ?_ (fun q hq => hq) (setA_wf hkw (evO_wf hw hz) hcw) trivial rfl
        show (mapI (θ id).1 ks.good ((setA k u c).map (decP θ))).A w'
        rw [← setA_ok c1 c2]
        exact r3
    · cases hv
  · cases hv
theorem mapE_ok (ha : AgT θ nt a env) (hw : WfE (AH θ h) env) (hmw : ∀ id b, h.get id = some b → ∀ x ∈ b.vals, x.Wf (AH θ h)) {nid : Nat} (hv : evMapE P hb t x y env nid h = some (v, h')) : Ok P a (.mapEntry t x y) θ h hb v h' := by
  unfold evMapE at hv
  split at hv
  · next kt et id k hd hx hy =>
    split at hv
    · next ks ks' c hks hb0 =>
      cases hcc : (decide (ks' = ks) && (ks.goodB k && ks.all c)) with
      | false => rw [hcc] at hv; cases hv
      | true =>
        rw [hcc] at hv
        simp only [Bool.and_eq_true, decide_eq_true_eq] at hcc
        obtain ⟨rfl, c1, c2⟩ := hcc
        have K := keyKS_ok hks
        have hv : (match orZero P et (lookA k c) with
          | some v => match newB nid .dead v h with
            | some (_, h1) => turnB hb id (.mapE ks' (setA k v c) k nid) (.tup [v, .stamp nid]) h1
            | none => none
          | none => none : Eff) = some (v, h') := hv
        split at hv
        · next q hq =>
          split at hv
          · next q1 h1 hn1 =>
            obtain ⟨n0, -, ng⟩ := newB_inv hn1
            obtain ⟨h0, rfl, hg⟩ := turnB_inv hv
            refine ⟨fun dst ty pos af g w hm => ?_, fun hI => inv_turn (inv_new hI n0 ng) h0 hg⟩
            have hA : (mapI (θ id).1 ks'.good (c.map (decP θ))).A w := hm.ok id _ hb0
            obtain ⟨zv, z1, z2⟩ := orZero_dec (θ := θ) hq
            obtain ⟨n, w', r1, r2, r3⟩ := run_mapEntry K (run_underlying hd) z1 (goodB_ok (θ := θ) c1) hA
            rw [lookA_ok c1 c2, ← z2] at r1 r3
            rw [setA_ok c1 c2] at r3
            have hxe := ha.ev hx
            simp only [AV.dec] at hxe
            have key : (execOp a.eval ⟨dst, .mapEntry t x y, ty, pos, af, g⟩).run P w = .ok (.value (.tuple #[q.dec θ, .int .i64 n])) w' := by
              show Sem.run P (do let v ← Instr.mapEntry t (a.eval x) (a.eval y); pure (Next.value v)) w = _
              rw [hxe, ha.ev hy]
              simp [r1]
            have hne : id ≠ nid := fun e => by subst e; rw [hb0] at n0; cases n0
            have hcw := hmw id _ hb0
            have hkw := evO_wf hw hy
            have hqw : q.Wf (AH θ h) := orZero_wf hq fun u hu => hcw u (List.mem_append_right _ (lookA_mem hu))
            have hsw : ∀ x ∈ (setA k q c).map (·.1) ++ (setA k q c).map (·.2), x.Wf (AH θ h) := setA_wf hkw hqw hcw
            have A1 : Aft θ h hb w (.val undef) h1 undef w (upd θ nid (0, n)) := aft_new hm n0 ng (0, n) (Keeps.refl _ _) trivial (fun x hx => by cases hx) (fun x hx => by cases hx) trivial rfl
            have hx1 : ∀ k m, AH θ h k m → upd θ nid (0, n) k = θ k := A1.x.th
            have hb1 : h1.get id = some (.map ks' c) := by rw [ng, if_neg hne]; exact hb0
            have hid : upd θ nid (0, n) id = θ id := upd_ne hne
            have hst : (AV.stamp nid).Wf (AH (upd θ nid (0, n)) h1) := ⟨got ng, Nat.zero_le _⟩
            unfold does
            rw [key]
            refine ⟨_, A1.trans (aft_turn A1.m hb1 h0 hg ?_ ?_ ?_ (fun x hx => ?_) ⟨hqw.mono A1.x.ah, hst, trivial⟩ ?_)⟩
            · show Keeps [(upd θ nid (0, n) id).1] w w'
              rw [hid]; exact r2
            · show (mapE (upd θ nid (0, n) id).1 ks'.good ((setA k q c).map (decP (upd θ nid (0, n)))) (k.dec (upd θ nid (0, n))) (upd θ nid (0, n) nid).2).A w'
              rw [hid, decPs_ext hx1 hsw, AV.dec_ext hx1 hkw, upd_at]
              exact r3
            · intro p hp
              have hp : p ∈ [(upd θ nid (0, n) id).1] := hp
              exact hp
            · have hx : x ∈ k :: .stamp nid :: ((setA k q c).map (·.1) ++ (setA k q c).map (·.2)) := hx
              rcases List.mem_cons.1 hx with rfl | hx
              · exact hkw.mono A1.x.ah
              · rcases List.mem_cons.1 hx with rfl | hx
                · exact hst
                · exact (hsw x hx).mono A1.x.ah
            · simp [AV.dec, AV.decL, upd_at, AV.dec_ext hx1 hqw]
          · cases hv
        · cases hv
    · cases hv
  · cases hv
end
end Go.PK

/-
  EV, part 17: every operation but calls.
-/
namespace Go.PK
section
variable {P : Program} {θ : Vl} {h h' hb : Heap} {id lv : Nat} {v : AV} {nt : Nat} {a : Act} {env : EnvT} {op : Op}
structure MOk (P : Program) (a : Act) (op : Op) (θ : Vl) (h hb : Heap) (lv : Nat) (v : AV) (h' : Heap) : Prop where
  ok : Ok P a op θ h hb v h'
  q0 : lv = 0 → h' = h ∧ Ex P a op (v.dec θ)
  q1 : lv = 1 → h' = h ∧ ExM P a op θ h v ∧ pureOp op = false
  q2 : lv = 2 → ∀ hb', Ok P a op θ h hb' v h'
  wf : lv ≤ 1 → v.Wf (AH θ h)
theorem Ex.ok (hx : Ex P a op (v.dec θ)) (hw : v.Wf (AH θ h)) : Ok P a op θ h hb v h := ⟨fun dst ty pos af g w hm => by
  unfold does
  rw [hx dst ty pos af g w]
  exact .same hm hw, fun h => h⟩
theorem MOk.exm (hp : pureOp op = false) (hx : ExM P a op θ h v) (hw : v.Wf (AH θ h)) : MOk P a op θ h hb 1 v h := ⟨hx.ok hw, fun e => (by cases e), fun _ => ⟨rfl, hx, hp⟩, fun e => (by cases e), fun _ => hw⟩
theorem MOk.ex (hx : Ex P a op (v.dec θ)) (hw : v.Wf (AH θ h)) : MOk P a op θ h hb 0 v h := ⟨hx.ok hw, fun _ => ⟨rfl, hx⟩, fun e => (by cases e), fun e => (by cases e), fun _ => hw⟩
theorem MOk.mk2 (hx : ∀ hb, Ok P a op θ h hb v h') : MOk P a op θ h hb 2 v h' := ⟨hx hb, fun e => (by cases e), fun e => (by cases e), fun _ => hx, fun e => absurd e (by omega)⟩
theorem MOk.mk3 (hx : Ok P a op θ h hb v h') : MOk P a op θ h hb 3 v h' := ⟨hx, fun e => (by cases e), fun e => (by cases e), fun e => (by cases e), fun e => absurd e (by omega)⟩
theorem flat_wf {A : Nat → Nat → Prop} {o : BinOp} {t : TypeId} {x y : Operand} (hv : evFlat P o t x y env = some v) : v.Wf A := by
  unfold evFlat at hv
  split at hv
  · next ks u q hf hx hy =>
    cases hc : ((isAggA u && isAggA q) && (fitsB ks u.cells && fitsB ks q.cells)) with
    | false => rw [hc] at hv; cases hv
    | true =>
      rw [hc] at hv
      cases o
      case eql => cases hv; trivial
      case neq => cases hv; trivial
      all_goals cases hv
  · cases hv
theorem evM_ok (ha : AgT θ nt a env) (hw : WfE (AH θ h) env) (hmw : ∀ id b, h.get id = some b → ∀ x ∈ b.vals, x.Wf (AH θ h)) (hv : evM P hb op env id h = some (lv, v, h')) : MOk P a op θ h hb lv v h' := by
  unfold evM at hv
  split at hv
  · obtain ⟨r, hr, he⟩ := Option.map_eq_some_iff.1 hv
    cases he; exact .exm rfl (load_ok ha hr) (load_wf hmw hr)
  · obtain ⟨r, hr, he⟩ := Option.map_eq_some_iff.1 hv
    cases he; exact .mk2 fun hb => ok_alloc hr
  · obtain ⟨r, hr, he⟩ := Option.map_eq_some_iff.1 hv
    cases he; exact .mk2 fun hb => ok_box ha hw hr
  · obtain ⟨r, hr, he⟩ := Option.map_eq_some_iff.1 hv
    cases he; exact .mk2 fun hb => ok_bslice ha hw hr
  · obtain ⟨r, hr, he⟩ := Option.map_eq_some_iff.1 hv
    cases he; exact .mk2 fun hb => ok_mslice ha hr
  · obtain ⟨r, hr, he⟩ := Option.map_eq_some_iff.1 hv
    cases he; exact .mk3 (store_ok ha hw hmw hr)
  · obtain ⟨r, hr, he⟩ := Option.map_eq_some_iff.1 hv
    cases he; exact .ex (ex_flat ha hr) (flat_wf hr)
  · obtain ⟨r, hr, he⟩ := Option.map_eq_some_iff.1 hv
    cases he; exact .mk2 fun hb => mkMap_ok hr
  · obtain ⟨r, hr, he⟩ := Option.map_eq_some_iff.1 hv
    cases he; exact .exm rfl (look_ok ha hr) (look_wf hmw hr)
  · obtain ⟨r, hr, he⟩ := Option.map_eq_some_iff.1 hv
    cases he; exact .mk3 (mapUp_ok ha hw hmw hr)
  · obtain ⟨r, hr, he⟩ := Option.map_eq_some_iff.1 hv
    cases he; exact .mk3 (mapE_ok ha hw hmw hr)
  · obtain ⟨r, hr, he⟩ := Option.map_eq_some_iff.1 hv
    cases he; exact .mk3 (entSt_ok ha hw hmw hr)
  · next x y t t2 =>
    by_cases ht : t2 = t
    · rw [decide_eq_true ht] at hv
      obtain ⟨r, hr, he⟩ := Option.map_eq_some_iff.1 hv
      cases he; exact .mk3 (append_ok ht ha hw hmw hr)
    · rw [decide_eq_false ht] at hv; cases hv
  · cases hv
end
end Go.PK

/-
  EV, part 18: calls; one step in the text's order.
-/
namespace Go.PK
/-- A call gives this, and it keeps what may not be turned. -/
structure FOk (P : Program) (f : FuncId) (args : List AV) (h hb : Heap) (v : AV) (h' : Heap) : Prop where
  run : ∀ as w, (callFunc f as).run P w = .ok (.enter f as) w
  call : Inv hb h → ∀ θ w, Mem θ h w → (∀ x ∈ args, x.Wf (AH θ h)) → Calls P f (args.map (AV.dec θ)).toArray w (fun e w' => ∃ u, e = .returned u ∧ Post θ h hb w v h' u w' ∧ Inv hb h')
/-- The operation does this, and keeps what may not be turned. -/
def OkD (P : Program) (a : Act) (op : Op) (θ : Vl) (h hb : Heap) (v : AV) (h' : Heap) : Prop :=
  Inv hb h → ∀ (dst : Option Tmp) (ty : TypeId) (pos : String) (af : Array Edge) (g : Option (Nat × Bool)) (w : World), Mem θ h w → does P ⟨dst, op, ty, pos, af, g⟩ a w (fun u w' => Post θ h hb w v h' u w' ∧ Inv hb h')
theorem Ok.d {P : Program} {a : Act} {op : Op} {θ : Vl} {h hb h' : Heap} {v : AV} (k : Ok P a op θ h hb v h') : OkD P a op θ h hb v h' := fun hi dst ty pos af g w hm => does_mono (fun _ _ p => ⟨p, k.2 hi⟩) (k.1 dst ty pos af g w hm)
abbrev CallT := Heap → Heap → Nat → Nat → List AV → Option (AV × Heap × Nat)
def CallOk (P : Program) (call : CallT) : Prop := ∀ hb h nx f args v h' nx', call hb h nx f args = some (v, h', nx') → FOk P f args h hb v h'
/-- What is known of a state. -/
structure Snd (θ : Vl) (nt : Nat) (hb : Heap) (a : Act) (s : St) : Prop where
  ag : AgT θ nt a s.env
  wf : WfE (AH θ s.h) s.env
  inv : Inv hb s.h
  mw : ∀ id b, s.h.get id = some b → ∀ x ∈ b.vals, x.Wf (AH θ s.h)
section
variable {P : Program} {θ θ' : Vl} {h h' hb : Heap} {id nx nx' : Nat} {v : AV} {nt : Nat} {a : Act} {env env' : EnvT} {op : Op} {call : CallT} {L : List Oper} {s s' : St} {o : Oper}
theorem callOp_ok (hc : CallOk P call) (ha : AgT θ nt a env) (hw : WfE (AH θ h) env) (hv : callOp call hb op env h nx = some (v, h', nx')) : OkD P a op θ h hb v h' := by
  unfold callOp at hv
  split at hv
  · next c =>
    split at hv
    · next f args hcal =>
      unfold calleeA at hcal
      split at hcal
      · next x hx =>
        split at hcal
        · next f' A B l hfx hl =>
          cases hcal
          have F := hc _ _ _ _ _ _ _ _ hv
          intro hi dst ty pos af g w hm
          obtain ⟨cal, xs, ats⟩ := c
          cases hx
          have hy := ha.ev hfx
          simp only [AV.dec] at hy
          have hargs : ((AV.decL θ A).toArray ++ xs.map a.eval ++ (AV.decL θ B).toArray) = ((A ++ l ++ B).map (AV.dec θ)).toArray := by
            apply Array.toList_inj.1
            have := evsA_dec ha hl
            simp [decL_map, this]
          have hwx : (AV.fn f A B).Wf (AH θ h) := evO_wf hw hfx
          have hwl := evsA_wf hw hl
          have hwa : ∀ q ∈ A ++ l ++ B, q.Wf (AH θ h) := fun q hq => by
            rcases List.mem_append.1 hq with hq | hq
            · rcases List.mem_append.1 hq with hq | hq
              · exact wfL_iff.1 hwx.1 q hq
              · exact wfL_iff.1 hwl q hq
            · exact wfL_iff.1 hwx.2 q hq
          unfold does
          rw [exec_callF hy, F.run]
          show Calls P f _ w _
          rw [hargs]
          exact (F.call hi θ w hm hwa)
        · cases hcal
      · cases hcal
    · cases hv
  · cases hv
theorem putA_inv (hp : putA nt (some id) v env = some env') : Nat.blt id nt = true ∧ env.set v id = some env' := by
  unfold putA at hp
  cases hb : Nat.blt id nt with
  | false => simp only [hb] at hp; cases hp
  | true => simp only [hb, cond_true, frc_eq] at hp; exact ⟨rfl, hp⟩
/-- A slot is filled. -/
theorem put_ok {d : Option Nat} (hs : Snd θ nt hb a s) (hx : Ext θ s.h θ' h') (hi : Inv hb h') (hmw : ∀ id b, h'.get id = some b → ∀ x ∈ b.vals, x.Wf (AH θ' h')) (hv : v.Wf (AH θ' h')) (hp : putA nt d v s.env = some env') : Snd θ' nt hb (a.put d (v.dec θ')) ⟨env', h', nx⟩ := by
  have hag : AgT θ' nt a s.env := hs.ag.ext hs.wf hx.th
  have hwf : WfE (AH θ' h') s.env := fun k u hk => (hs.wf k u hk).mono hx.ah
  cases d with
  | none => cases hp; exact ⟨hag, hwf, hi, hmw⟩
  | some d =>
    obtain ⟨h1, h2⟩ := putA_inv hp
    refine ⟨hag.put h1 h2, fun k u hk => ?_, hi, hmw⟩
    rw [EnvT.set_get h2] at hk
    by_cases e : k = d
    · rw [if_pos e] at hk; cases hk; exact hv
    · rw [if_neg e] at hk; exact hwf k u hk
theorem wantA_ok {t : Bool} (ha : AgT θ nt a env) (hw : wantA L env o = some t) : Region.wanted o (yielded L.toArray a.tmps) = t := by
  unfold wantA at hw
  unfold Region.wanted
  split at hw
  · next hg => rw [hg]; cases hw; rfl
  · next j want hg =>
    rw [hg]
    split at hw
    · next oj hj =>
      rw [nth_eq] at hj
      split at hw
      · next dj hd =>
        split at hw
        · next b hb =>
          cases hw
          have := ha.t _ _ hb
          simp only [AV.dec] at this
          cases b <;> cases want <;> simp [yielded, hj, hd, this]
        · next u hu hb =>
          cases hw
          have := ha.t _ _ hb
          have hne : ∀ b, u.dec θ ≠ .bool b := by
            intro b
            cases u <;> simp only [AV.dec] <;> first | (intro e; cases e; done) | skip
            next q => intro e; subst e; exact hu b rfl
          have : yielded L.toArray a.tmps j = none := by
            simp only [yielded, List.getElem?_toArray, hj, Option.bind_some, hd, this]
            split
            · next b he => exact absurd (Option.some.inj he) (hne b)
            · rfl
          show (yielded L.toArray a.tmps j == some want) = false
          rw [this]; rfl
        · cases hw
      · cases hw
    · cases hw
/-- One operation, in every world. -/
theorem stepT_ok {C : Mch} {call : CallT} (hc : CallOk C.P call) {w0 : World} {S : Nat → Prop} {ops : Array Oper} {ef bk tq : List Nat} {i : Nat} {R : Act → (World → Prop) → Prop} (hL : ops = L.toArray) (ho : L[i]? = some o) (hi : i ∈ ef) (hb' : i ∈ bk)
    (hst : stepT C call nt hb L o s = some s') (hs : Snd θ nt hb a s)
    (hR : ∀ θ' a', Ext θ s.h θ' s'.h → Snd θ' nt hb a' s' → R a' (ClA w0 S hb θ' s'.h)) : stepRW C.P ops ef bk tq (fun _ => True) i R a (ClA w0 S hb θ s.h) := by
  subst hL
  refine ⟨o, by simpa using ho, ?_⟩
  unfold stepT at hst
  -- what is carried out
  have go : ∀ v h', OkD C.P a o.op θ s.h hb v h' → ∀ env' nx', putA nt o.dst v s.env = some env' → s' = ⟨env', h', nx'⟩ → Region.wanted o (yielded L.toArray a.tmps) = true → (i ∈ ef ∧ ∀ w, ClA w0 S hb θ s.h w → does C.P o a w (fun v w' => ∃ C' : World → Prop, (Open C' ∧ ∀ w, C' w → True) ∧ C' w' ∧ (i ∉ bk → ∀ w, C' w → ClA w0 S hb θ s.h w) ∧ R (a.put o.dst v) C')) := by
    intro v h' hok env' nx' hp hs' hw
    subst hs'
    refine ⟨hi, fun w hw => does_mono ?_ (hok hs.inv o.dst o.type o.pos o.after o.guard w hw.m)⟩
    rintro u w' ⟨⟨θ', A⟩, hI⟩
    have hsn : Snd θ' nt hb (a.put o.dst u) ⟨env', h', nx'⟩ := by
      rw [A.d]
      exact put_ok hs A.x hI A.m.wf A.wf hp
    refine ⟨ClA w0 S hb θ' h', ⟨ClA.open w0 S hb θ' h', fun _ _ => trivial⟩, ⟨?_, A.m, fun x hx hlt => ?_⟩, fun h => absurd hb' h, hR θ' _ A.x hsn⟩
    · exact ⟨A.k.os.trans hw.k.os, A.k.tape.trans hw.k.tape, A.k.output.trans hw.k.output, Nat.le_trans hw.k.size A.k.size, fun x hx hn => (A.k.block x (Nat.lt_of_lt_of_le hx hw.k.size) (fun h => hn (hw.o x h hx))).trans (hw.k.block x hx hn), Nat.le_trans hw.k.drawn A.k.drawn⟩
    · exact hw.o x (A.o x hx (Nat.lt_of_lt_of_le hlt hw.k.size)) hlt
  split at hst
  · next hwt =>
    have hwt := wantA_ok hs.ag hwt
    refine .inr ⟨hwt, .inr ?_⟩
    split at hst
    · next v hv =>
      split at hst
      · next env' hp =>
        exact go v s.h (Ex.ok (ex_evP hs.ag hs.wf AH.cap hv) (evP_wf hs.wf AH.le hv)).d env' _ hp (Option.some.inj hst).symm hwt
      · cases hst
    · split at hst
      · next lv v h' hv =>
        split at hst
        · next env' hp =>
          rw [frcN_eq] at hst
          exact go v h' (evM_ok hs.ag hs.wf hs.mw hv).ok.d env' _ hp (Option.some.inj hst).symm hwt
        · cases hst
      · split at hst
        · next v h' nx' hv =>
          split at hst
          · next env' hp => exact go v h' (callOp_ok hc hs.ag hs.wf hv) env' _ hp (Option.some.inj hst).symm hwt
          · cases hst
        · cases hst
  · next hwt =>
    refine .inl ⟨wantA_ok hs.ag hwt, ?_⟩
    split at hst
    · next env' hp =>
      cases hst
      exact hR θ _ (.refl θ s.h) (put_ok (v := .val undef) hs (.refl θ s.h) hs.inv hs.mw trivial hp)
    · cases hst
  · cases hst
end
end Go.PK

/-
  EV, part 19: regions in the text's order; code.
-/
namespace Go.PK
/-- Where code may end. -/
def Out (θ0 : Vl) (h0 : Heap) (nt : Nat) (hb : Heap) (w0 : World) (S : Nat → Prop) : Xt → Exit → Act → World → Prop
  | .nrm s, .normal, a, w => ∃ θ, Ext θ0 h0 θ s.h ∧ Snd θ nt hb a s ∧ ClA w0 S hb θ s.h w
  | .ext i s, .exit j, a, w => i = j ∧ ∃ θ, Ext θ0 h0 θ s.h ∧ Snd θ nt hb a s ∧ ClA w0 S hb θ s.h w
  | .gto i s, .goto j, a, w => i = j ∧ ∃ θ, Ext θ0 h0 θ s.h ∧ Snd θ nt hb a s ∧ ClA w0 S hb θ s.h w
  | .ret s, .ret, a, w => ∃ θ, Ext θ0 h0 θ s.h ∧ Snd θ nt hb a s ∧ ClA w0 S hb θ s.h w
  | _, _, _, _ => False
/-- From this state code ends so. -/
def Does (P : Program) (θ0 : Vl) (h0 : Heap) (nt : Nat) (hb : Heap) (w0 : World) (S : Nat → Prop) (c : Code) (s : St) (r : Xt) : Prop :=
  ∀ θ a w, Ext θ0 h0 θ s.h → Snd θ nt hb a s → ClA w0 S hb θ s.h w → c.wpIn (FnR none) 0 P (Out θ0 h0 nt hb w0 S r) a w
section
variable {θ θ0 : Vl} {h0 hb : Heap} {nt : Nat} {a : Act} {call : CallT} {L : List Oper} {s s' : St} {w0 : World} {S : Nat → Prop} {C : Mch} {Q : Exit → Act → World → Prop}
theorem evT_ok (hc : CallOk C.P call) : ∀ (r : List Oper) (i : Nat) (s : St) (θ : Vl) (a : Act), L.drop i = r → evT C call nt hb L r s = some s' → Snd θ nt hb a s → (∀ θ' a' w', Ext θ s.h θ' s'.h → Snd θ' nt hb a' s' → ClA w0 S hb θ' s'.h w' → Q .normal a' w') →
    RW C.P L.toArray (List.range L.length) (List.range L.length) [] (fun _ => True) Q (Sq.of (List.range' i r.length)) a (ClA w0 S hb θ s.h)
  | [], i, s, θ, a, _, h, hs, hQ => by
    cases h
    exact fun w hw => hQ θ a w (.refl _ _) hs hw
  | o :: r, i, s, θ, a, hd, h, hs, hQ => by
    unfold evT at h
    have ho : L[i]? = some o := by
      have : (L.drop i)[0]? = some o := by rw [hd]; rfl
      simpa [List.getElem?_drop] using this
    have hi : i ∈ List.range L.length := by
      rw [List.mem_range]
      exact (List.getElem?_eq_some_iff.1 ho).1
    have hd' : L.drop (i + 1) = r := by rw [← List.drop_drop, hd]; rfl
    have h : (match stepT C call nt hb L o s with
      | some s' => evT C call nt hb L r s'
      | none => none) = some s' := h
    split at h
    · next s1 hst =>
      rw [List.length_cons, List.range'_succ]
      exact stepT_ok hc rfl ho hi hi hst hs fun θ' a' hx hs' => evT_ok hc r (i + 1) s1 θ' a' hd' h hs' fun θ2 a2 w2 hx2 hs2 hw2 => hQ θ2 a2 w2 (hx.trans hx2) hs2 hw2
    · cases h
theorem region_ok {rid : Nat} {ops : Array Oper} (hc : CallOk C.P call) (h : evT C call nt hb ops.toList ops.toList s = some s') : Does C.P θ0 h0 nt hb w0 S (.region rid ops false) s (.nrm s') := fun θ a w hx hs hw => by
  have := evT_ok (Q := Out θ0 h0 nt hb w0 S (.nrm s')) hc ops.toList 0 s θ a rfl h hs fun θ' a' w' hx' hs' hw' => ⟨θ', hx.trans hx', hs', hw'⟩
  refine wpIn_region ?_
  have r := RW.text (ro := none) _ a _ w ⟨ClA.open w0 S hb θ s.h, fun _ _ => trivial⟩ this hw
  simpa [List.range_eq_range'] using r
end
end Go.PK
