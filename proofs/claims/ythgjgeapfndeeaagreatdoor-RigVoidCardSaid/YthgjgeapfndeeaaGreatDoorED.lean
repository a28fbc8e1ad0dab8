import Derived.Test.YthgjgeapfndeeaaGreatDoorEC
import Derived.Scope
set_option linter.unusedVariables false
set_option linter.unusedSimpArgs false
/-
  EV, part 20: code.
-/
namespace Go.PK
section
variable {P : Program} {θ0 : Vl} {h0 hb : Heap} {nt : Nat} {s : St} {r r1 : Xt} {w0 : World} {S : Nat → Prop} {x y c : Code} {i : Nat}
theorem Does.seq (h1 : Does P θ0 h0 nt hb w0 S x s r1) (h2 : ∀ s1, r1 = .nrm s1 → Does P θ0 h0 nt hb w0 S y s1 r) (h3 : (∀ s1, r1 ≠ .nrm s1) → r1 = r) : Does P θ0 h0 nt hb w0 S (.seq x y) s r := fun θ a w hx hs hw => by
  refine wpIn_seq (wpIn_mono (h1 θ a w hx hs hw) ?_)
  intro e a' w' hq
  cases r1 with
  | nrm s1 =>
    cases e with
    | normal =>
      obtain ⟨θ', q1, q2, q3⟩ := hq
      exact h2 s1 rfl θ' a' w' q1 q2 q3
    | _ => exact hq.elim
  | ext j s1 =>
    have := h3 (fun _ h => by cases h)
    subst this
    cases e with
    | exit j' => exact hq
    | _ => exact hq.elim
  | gto j s1 =>
    have := h3 (fun _ h => by cases h)
    subst this
    cases e with
    | goto j' => exact hq
    | _ => exact hq.elim
  | ret s1 =>
    have := h3 (fun _ h => by cases h)
    subst this
    cases e with
    | ret => exact hq
    | _ => exact hq.elim
theorem Does.thenX {k : St → Option Xt} {o : Option Xt} (ho : ∀ r1, o = some r1 → Does P θ0 h0 nt hb w0 S x s r1) (hk : ∀ s1 r, k s1 = some r → Does P θ0 h0 nt hb w0 S y s1 r) (h : thenX k o = some r) : Does P θ0 h0 nt hb w0 S (.seq x y) s r := by
  cases o with
  | none => cases h
  | some r1 =>
    cases r1 with
    | nrm s1 => exact .seq (ho _ rfl) (fun s2 e => by cases e; exact hk _ _ h) (fun h => absurd rfl (h s1))
    | ext j s1 => cases h; exact .seq (ho _ rfl) (fun s2 e => by cases e) (fun _ => rfl)
    | gto j s1 => cases h; exact .seq (ho _ rfl) (fun s2 e => by cases e) (fun _ => rfl)
    | ret s1 => cases h; exact .seq (ho _ rfl) (fun s2 e => by cases e) (fun _ => rfl)
theorem Does.blockX {o : Option Xt} (ho : ∀ r1, o = some r1 → Does P θ0 h0 nt hb w0 S c s r1) (h : blockX i o = some r) : Does P θ0 h0 nt hb w0 S (.block i c) s r := by
  cases o with
  | none => cases h
  | some r1 =>
    have h1 := ho r1 rfl
    intro θ a w hx hs hw
    refine wpIn_block (wpIn_mono (h1 θ a w hx hs hw) ?_)
    intro e a' w' hq
    cases r1 with
    | nrm s1 =>
      cases h
      cases e with
      | normal => exact hq
      | _ => exact hq.elim
    | ext j s1 =>
      cases e with
      | exit j' =>
        obtain ⟨rfl, hq⟩ := hq
        have h : (bif Nat.beq j i then some (Xt.nrm s1) else some (.ext j s1)) = some r := h
        cases hb : Nat.beq j i with
        | true =>
          rw [hb] at h; cases h
          have := Nat.eq_of_beq_eq_true hb
          subst this
          show (if j = j then _ else _)
          rw [if_pos rfl]; exact hq
        | false =>
          rw [hb] at h; cases h
          have hne : j ≠ i := fun e => by subst e; simp at hb
          show (if j = i then _ else _)
          rw [if_neg hne]; exact ⟨rfl, hq⟩
      | _ => exact hq.elim
    | gto j s1 =>
      cases h
      cases e with
      | goto j' => exact hq
      | _ => exact hq.elim
    | ret s1 =>
      cases h
      cases e with
      | ret => exact hq
      | _ => exact hq.elim
theorem Does.loop {b : St → Option Xt} (hb' : ∀ s r, b s = some r → Does P θ0 h0 nt hb w0 S c s r) : ∀ (n : Nat) (s : St), iterA b n s = some r → ∀ θ a w, Ext θ0 h0 θ s.h → Snd θ nt hb a s → ClA w0 S hb θ s.h w → Code.roundsIn (FnR none) 0 P c (Out θ0 h0 nt hb w0 S r) n a w
  | 0, s, h, θ, a, w, _, _, _ => by cases h
  | n + 1, s, h, θ, a, w, hx, hs, hw => by
    have h : Go.PK.thenX (iterA b n) (b s) = some r := h
    cases hbs : b s with
    | none => rw [hbs] at h; cases h
    | some r1 =>
      rw [hbs] at h
      refine wpIn_mono (hb' s r1 hbs θ a w hx hs hw) ?_
      intro e a' w' hq
      cases r1 with
      | nrm s1 =>
        cases e with
        | normal =>
          obtain ⟨θ', q1, q2, q3⟩ := hq
          exact Does.loop hb' n s1 h θ' a' w' q1 q2 q3
        | _ => exact hq.elim
      | ext j s1 =>
        cases h
        cases e with
        | exit j' => exact hq
        | _ => exact hq.elim
      | gto j s1 =>
        cases h
        cases e with
        | goto j' => exact hq
        | _ => exact hq.elim
      | ret s1 =>
        cases h
        cases e with
        | ret => exact hq
        | _ => exact hq.elim
/-- What is left of a scope from a label on: at most so many passes. -/
def Rem (P : Program) (rest : Code) (l : Nat) (Q : Exit → Act → World → Prop) : Nat → Act → World → Prop
  | 0, a, w => rest.wp P (Exit.jump l (fun _ _ => False) Q) a w
  | n + 1, a, w => rest.wp P (Exit.jump l (Rem P rest l Q n) Q) a w
theorem jump_mono {l : Nat} {J J' : Act → World → Prop} {Q : Exit → Act → World → Prop} (h : ∀ a w, J a w → J' a w) : ∀ e a w, Exit.jump l J Q e a w → Exit.jump l J' Q e a w := fun e a w hq => by
  cases e with
  | goto l' => exact ⟨hq.1, h _ _ hq.2⟩
  | _ => exact hq
theorem least {p : Nat → Prop} : ∀ n, p n → ∃ m, p m ∧ ∀ k, p k → m ≤ k := by
  intro n
  induction n using Nat.strongRecOn with
  | _ n ih =>
    intro hn
    by_cases h : ∃ k, p k ∧ k < n
    · obtain ⟨k, hk, hlt⟩ := h
      exact ih k hlt hk
    · exact ⟨n, hn, fun k hk => Nat.le_of_not_lt fun hlt => h ⟨k, hk, hlt⟩⟩
open Classical in
theorem wp_scope_rem {rest : Code} {l : Nat} {Q : Exit → Act → World → Prop} {a : Act} {w : World} (hf : findLabel c l = some rest) (first : c.wp P (Exit.jump l (fun a w => ∃ n, Rem P rest l Q n a w) Q) a w) : (Code.scope c).wp P Q a w := by
  have ex : ∀ a w, (∃ n, Rem P rest l Q n a w) → ∃ m, Rem P rest l Q m a w ∧ ∀ k, Rem P rest l Q k a w → m ≤ k := fun a w ⟨n, hn⟩ => least n hn
  refine wp_scope_jumps l (fun a w => ∃ n, Rem P rest l Q n a w) (fun a w => if h : ∃ m, Rem P rest l Q m a w ∧ ∀ k, Rem P rest l Q k a w → m ≤ k then Classical.choose h else 0) hf first ?_
  intro a w h
  have h1 := ex a w h
  have he : (if h : ∃ m, Rem P rest l Q m a w ∧ ∀ k, Rem P rest l Q k a w → m ≤ k then Classical.choose h else 0) = Classical.choose h1 := dif_pos h1
  rw [he]
  have hm := (Classical.choose_spec h1).1
  generalize Classical.choose h1 = n at hm
  cases n with
  | zero => exact wp_mono hm (jump_mono fun _ _ h => h.elim)
  | succ n =>
    refine wp_mono hm (jump_mono fun a' w' h' => ⟨⟨n, h'⟩, ?_⟩)
    have h2 := ex a' w' ⟨n, h'⟩
    rw [dif_pos h2]
    exact Nat.lt_succ_of_le ((Classical.choose_spec h2).2 n h')
end
end Go.PK

/-
  EV, part 21: code, whole.
-/
namespace Go.PK
section
variable {θ0 : Vl} {h0 hb : Heap} {nt fn : Nat} {s : St} {r : Xt} {w0 : World} {S : Nat → Prop} {c : Code} {C : Mch} {call : CallT} {eqS : St → St → Bool} {prev : Code → St → Option Xt}
theorem jumpX_ok {P : Program} {l : Nat} {rest : Code} (hp : ∀ s r, prev rest s = some r → Does P θ0 h0 nt hb w0 S rest s r) : ∀ (n : Nat) (s : St), jumpX prev l rest n s = some r → ∀ θ a w, Ext θ0 h0 θ s.h → Snd θ nt hb a s → ClA w0 S hb θ s.h w → Rem P rest l (Out θ0 h0 nt hb w0 S r) n a w
  | 0, s, h, θ, a, w, _, _, _ => by cases h
  | n + 1, s, h, θ, a, w, hx, hs, hw => by
    unfold jumpX at h
    split at h
    · next l' s' hpr =>
      cases hb' : Nat.beq l' l with
      | false => rw [hb'] at h; cases h
      | true =>
        rw [hb'] at h
        have := Nat.eq_of_beq_eq_true hb'
        subst this
        refine wp_mono (wpIn_wide.1 (hp s _ hpr θ a w hx hs hw)) ?_
        intro e a' w' hq
        cases e with
        | goto k =>
          obtain ⟨rfl, θ', q1, q2, q3⟩ := hq
          exact ⟨rfl, jumpX_ok hp n s' h θ' a' w' q1 q2 q3⟩
        | _ => exact hq.elim
    · next hne =>
      refine wp_mono (wpIn_wide.1 (hp s _ h θ a w hx hs hw)) ?_
      intro e a' w' hq
      cases e with
      | goto k =>
        cases r with
        | gto l' s' => exact absurd h (hne l' s')
        | _ => exact hq.elim
      | _ => exact hq
theorem scopeX_ok {P : Program} {o : Option Xt} (hp : ∀ c s r, prev c s = some r → Does P θ0 h0 nt hb w0 S c s r) (ho : ∀ r1, o = some r1 → Does P θ0 h0 nt hb w0 S c s r1) (h : scopeX prev c o = some r) : Does P θ0 h0 nt hb w0 S (.scope c) s r := by
  cases o with
  | none => cases h
  | some r1 =>
    have h1 := ho r1 rfl
    intro θ a w hx hs hw
    refine wpIn_wide.2 ?_
    have h1 := wpIn_wide.1 (h1 θ a w hx hs hw)
    cases r1 with
    | gto l s' =>
      have h : (match findLabel c l with
        | some rest => jumpX prev l rest 1000 s'
        | none => none) = some r := h
      split at h
      · next rest hf =>
        refine wp_scope_rem hf (wp_mono h1 ?_)
        intro e a' w' hq
        cases e with
        | goto k =>
          obtain ⟨rfl, θ', q1, q2, q3⟩ := hq
          exact ⟨rfl, 1000, jumpX_ok (hp rest) 1000 s' h θ' a' w' q1 q2 q3⟩
        | _ => exact hq.elim
      · cases h
    | nrm s' =>
      cases h
      exact wp_scope_straight (wp_mono h1 fun e a' w' hq => by
        cases e with
        | normal => exact hq
        | _ => exact hq.elim)
    | ext j s' =>
      cases h
      exact wp_scope_straight (wp_mono h1 fun e a' w' hq => by
        cases e with
        | exit j' => exact hq
        | _ => exact hq.elim)
    | ret s' =>
      cases h
      exact wp_scope_straight (wp_mono h1 fun e a' w' hq => by
        cases e with
        | ret => exact hq
        | _ => exact hq.elim)
/-- What a region that draws must give. -/
def DrOk (C : Mch) (call : CallT) (eqS : St → St → Bool) : Prop := ∀ (θ0 : Vl) (h0 hb : Heap) (nt fn : Nat) (w0 : World) (S : Nat → Prop) (id : Nat) (ops : Array Oper) (s : St) (r : Xt),
  evRg C call nt eqS fn hb id ops true s = some r → Does C.P θ0 h0 nt hb w0 S (.region id ops true) s r
theorem code_ok (hc : CallOk C.P call) (hD : DrOk C call eqS) (hp : ∀ c s r, prev c s = some r → Does C.P θ0 h0 nt hb w0 S c s r) : ∀ (c : Code) (s : St) (r : Xt), evCn C call nt eqS fn hb prev c s = some r → Does C.P θ0 h0 nt hb w0 S c s r
  | .skip, s, r, h => by cases h; exact fun θ a w hx hs hw => wpIn_skip ⟨θ, hx, hs, hw⟩
  | .label l, s, r, h => by cases h; exact fun θ a w hx hs hw => wpIn_label ⟨θ, hx, hs, hw⟩
  | .region id ops false, s, r, h => by
    have h : (evT C call nt hb ops.toList ops.toList s).map Xt.nrm = some r := h
    obtain ⟨s', hs', rfl⟩ := Option.map_eq_some_iff.1 h
    exact region_ok hc hs'
  | .region id ops true, s, r, h => hD θ0 h0 hb nt fn w0 S id ops s r h
  | .seq x y, s, r, h => Does.thenX (fun r1 h1 => code_ok hc hD hp x s r1 h1) (fun s1 r h1 => code_ok hc hD hp y s1 r h1) h
  | .cond o x y, s, r, h => by
    have h : condX (evCn C call nt eqS fn hb prev x) (evCn C call nt eqS fn hb prev y) s (evO s.env o) = some r := h
    unfold condX at h
    split at h
    · next ho =>
      intro θ a w hx hs hw
      have he := hs.ag.ev ho
      exact wpIn_cond_true he (code_ok hc hD hp x s r h θ a w hx hs hw)
    · next ho =>
      intro θ a w hx hs hw
      have he := hs.ag.ev ho
      exact wpIn_cond_false he (code_ok hc hD hp y s r h θ a w hx hs hw)
    · cases h
  | .block id x, s, r, h => Does.blockX (fun r1 h1 => code_ok hc hD hp x s r1 h1) h
  | .loop x, s, r, h => fun θ a w hx hs hw => wpIn_loop_rounds 1000000 (Does.loop (fun s r h1 => code_ok hc hD hp x s r h1) 1000000 s h θ a w hx hs hw)
  | .exit id, s, r, h => by cases h; exact fun θ a w hx hs hw => wpIn_exit ⟨rfl, θ, hx, hs, hw⟩
  | .goto l, s, r, h => by cases h; exact fun θ a w hx hs hw => wpIn_goto ⟨rfl, θ, hx, hs, hw⟩
  | .scope x, s, r, h => scopeX_ok hp (fun r1 h1 => code_ok hc hD hp x s r1 h1) h
  | .ret, s, r, h => by cases h; exact fun θ a w hx hs hw => wpIn_ret ⟨θ, hx, hs, hw⟩
  | .rangeFunc _ _ _ _, s, r, h => by cases h
  | .refuse _, s, r, h => by cases h
theorem evC_ok (hc : CallOk C.P call) (hD : DrOk C call eqS) : ∀ (n : Nat) (c : Code) (s : St) (r : Xt), evC C call nt eqS fn hb n c s = some r → Does C.P θ0 h0 nt hb w0 S c s r
  | 0, c, s, r, h => by cases h
  | n + 1, c, s, r, h => code_ok hc hD (fun c s r h => evC_ok hc hD n c s r h) c s r h
end
end Go.PK

/-
  EV, part 22: functions.
-/
namespace Go.PK
section
variable {P : Program} {θ : Vl} {h h' hb : Heap} {nt : Nat} {a : Act} {s : St} {v : AV} {w : World} {C : Mch} {eqS : St → St → Bool}
def rsV (tmps : Array Value) (x : ResultVar) : Sem Value := match x with
  | .tmp t => pure (tmps.getD t undef)
  | .cell b t => do loadVar t (← asAddr (tmps.getD b undef))
theorem run_amapM {α β : Type} {f : α → Sem β} {arr : Array α} {vs : List β} (h : (arr.toList.mapM f).run P w = .ok vs w) : (arr.mapM f).run P w = .ok vs.toArray w := by
  rw [Array.mapM_eq_mapM_toList, ← bind_pure_comp]
  show Sem.run P ((arr.toList.mapM f) >>= fun l => pure l.toArray) w = _
  rw [Sem.run_bind, h]
  simp
theorem resV_ok (ha : AgT θ nt a s.env) (hm : Mem θ s.h w) {x : ResultVar} (hv : resVA P s x = some v) : (rsV a.tmps x).run P w = .ok (v.dec θ) w := by
  unfold rsV
  cases x with
  | tmp t =>
    have := ha.t t v hv
    simp [this]
  | cell b t =>
    have hv : (match s.env.get b with
      | some (.ptr id off) => loadA P t id off s.h
      | _ => none) = some v := hv
    split at hv
    · next id off hb =>
      have := ha.t b _ hb
      simp only [AV.dec] at this
      have hl := loadA_ok hm hv
      simp [this, asAddr, hl]
    · cases hv
theorem resV_wf (hw : WfE (AH θ s.h) s.env) (hmw : ∀ id b, s.h.get id = some b → ∀ x ∈ b.vals, x.Wf (AH θ s.h)) {x : ResultVar} (hv : resVA P s x = some v) : v.Wf (AH θ s.h) := by
  cases x with
  | tmp t => exact hw t v hv
  | cell b t =>
    have hv : (match s.env.get b with
      | some (.ptr id off) => loadA P t id off s.h
      | _ => none) = some v := hv
    split at hv
    · exact loadA_wf hmw hv
    · cases hv
theorem resL_ok (ha : AgT θ nt a s.env) (hm : Mem θ s.h w) : ∀ {l : List ResultVar} {vs : List AV}, resL P s l = some vs → (l.mapM (rsV a.tmps)).run P w = .ok (vs.map (AV.dec θ)) w
  | [], vs, h => by cases h; simp
  | x :: r, vs, h => by
    unfold resL at h
    split at h
    · next v l h1 h2 =>
      cases h
      rw [List.mapM_cons, Sem.run_bind, resV_ok ha hm h1]
      simp [resL_ok ha hm h2]
    · cases h
theorem resL_wf (hw : WfE (AH θ s.h) s.env) (hmw : ∀ id b, s.h.get id = some b → ∀ x ∈ b.vals, x.Wf (AH θ s.h)) : ∀ {l : List ResultVar} {vs : List AV}, resL P s l = some vs → AV.WfL (AH θ s.h) vs
  | [], vs, h => by cases h; trivial
  | x :: r, vs, h => by
    unfold resL at h
    split at h
    · next v l h1 h2 => cases h; exact ⟨resV_wf hw hmw h1, resL_wf hw hmw h2⟩
    · cases h
theorem resA_wf (hw : WfE (AH θ s.h) s.env) (hmw : ∀ id b, s.h.get id = some b → ∀ x ∈ b.vals, x.Wf (AH θ s.h)) {l : List ResultVar} (h : resA P s l = some v) : v.Wf (AH θ s.h) := by
  unfold resA at h
  split at h
  · next h1 => cases h; exact (resL_wf hw hmw h1).1
  · next h1 => cases h; exact resL_wf hw hmw h1
  · cases h
theorem resA_ok {fn : Func} (ha : AgT θ nt a s.env) (hm : Mem θ s.h w) (h : resA P s fn.results.toList = some v) : (results fn a.tmps).run P w = .ok (v.dec θ) w := by
  show Sem.run P (do let vs ← fn.results.mapM (rsV a.tmps); pure (if h : vs.size = 1 then vs[0] else .tuple vs)) w = _
  unfold resA at h
  split at h
  · next q h1 =>
    cases h
    rw [Sem.run_bind, run_amapM (resL_ok ha hm h1)]
    simp
  · next l hne h1 =>
    cases h
    rw [Sem.run_bind, run_amapM (resL_ok ha hm h1)]
    have hl : ¬ (l.map (AV.dec θ)).toArray.size = 1 := by
      intro e
      rw [List.size_toArray, List.length_map] at e
      match l, e with
      | [q], _ => exact hne q rfl
    rw [Result.andThen_ok, dif_neg hl]
    simp [AV.dec, decL_map]
  · cases h
end
end Go.PK

/-
  EV, part 23: calls, whole.
-/
namespace Go.PK
section
variable {P : Program} {θ : Vl} {h h' hb : Heap} {nt : Nat} {a : Act} {s : St} {v : AV} {w : World} {C : Mch} {eqS : St → St → Bool}
theorem envOf_get : ∀ {l : List AV} {n : Nat} {e e' : EnvT}, envOf l n e = some e' → ∀ k v, e'.get k = some v → (n ≤ k ∧ l[k - n]? = some v) ∨ e.get k = some v
  | [], n, e, e', h, k, v, hk => by cases h; exact .inr hk
  | u :: r, n, e, e', h, k, v, hk => by
    unfold envOf at h
    split at h
    · next e1 h1 =>
      rcases envOf_get h k v hk with ⟨h2, h3⟩ | h2
      · have h2 : n + 1 ≤ k := h2
        have h3 : r[k - (n + 1)]? = some v := h3
        refine .inl ⟨by omega, ?_⟩
        rw [show k - n = (k - (n + 1)) + 1 by omega]
        simpa using h3
      · rw [EnvT.set_get h1] at h2
        by_cases e : k = n
        · rw [if_pos e] at h2
          subst e
          cases h2
          exact .inl ⟨Nat.le_refl _, by simp⟩
        · rw [if_neg e] at h2; exact .inr h2
    · cases h
/-- A function's code, carried out, is a call of it. -/
theorem fn_ok {call : CallT} {f : FuncId} {fn : Func} {c : Code} {env : EnvT} {args : List AV} {nx nx' : Nat} (hc : CallOk C.P call) (hD : DrOk C call eqS) (hO : ∀ as w, (callFunc f as).run C.P w = .ok (.enter f as) w) (hfn : C.P.funcs[f]? = some fn) (hbody : fn.body = some c) (hle : args.length ≤ fn.ntmps) (henv : envOf args 0 EnvT.nil = some env)
    (he : endX C.P fn.results.toList (evC C call fn.ntmps eqS f hb 3 c ⟨env, h, nx⟩) = some (v, h', nx')) : FOk C.P f args h hb v h' := by
  refine ⟨hO, fun hi θ w hm hwa => ?_⟩
  have hget := envOf_get henv
  have fin : ∀ s', (resA C.P s' fn.results.toList).map (fun v => (v, s'.h, s'.nx)) = some (v, h', nx') → ∀ a w', (∃ θ', Ext θ h θ' s'.h ∧ Snd θ' fn.ntmps hb a s' ∧ ClA w (Own θ h hb) hb θ' s'.h w') →
      LeavesInM Fence.wide 0 C.P fn a.tmps (fun e w' => ∃ u, e = .returned u ∧ Post θ h hb w v h' u w' ∧ Inv hb h') a.defers .returning w' := by
    rintro s' hr a w' ⟨θ', x1, sn, cl⟩
    obtain ⟨q, hq, he⟩ := Option.map_eq_some_iff.1 hr
    cases he
    rw [sn.ag.d]
    exact ⟨v.dec θ', resA_ok sn.ag cl.m hq, v.dec θ', rfl, ⟨θ', rfl, x1, cl.k, cl.m, resA_wf sn.wf sn.mw hq, cl.o⟩, sn.inv⟩
  refine (callsIn_wide (n := 0)).1 (callsIn_of_wp_marks hfn hbody trivial ?_)
  have hr : ∀ o, endX C.P fn.results.toList o = some (v, h', nx') → ∃ r, o = some r := fun o h => by
    cases o with
    | none => cases h
    | some r => exact ⟨r, rfl⟩
  obtain ⟨r, hev⟩ := hr _ he
  rw [hev] at he
  refine wpIn_mono (evC_ok (θ0 := θ) (h0 := h) (w0 := w) (S := Own θ h hb) hc hD 3 c _ r hev θ _ w (.refl _ _) ⟨⟨rfl, ?_, fun k u hk => ?_⟩, fun k u hk => ?_, hi, hm.wf⟩ ⟨.refl _ _, hm, fun _ hx _ => hx⟩) ?_
  · simp; omega
  · rcases hget k u hk with ⟨-, h2⟩ | h2
    · simp only [Nat.sub_zero] at h2
      have hlt : k < args.length := (List.getElem?_eq_some_iff.1 h2).1
      rw [Array.getElem?_append]
      simp [hlt, h2]
      exact congrArg _ (List.getElem?_eq_some_iff.1 h2).2
    · rw [EnvT.get_nil] at h2; cases h2
  · rcases hget k u hk with ⟨-, h2⟩ | h2
    · exact hwa u (List.mem_of_getElem? h2)
    · rw [EnvT.get_nil] at h2; cases h2
  · intro e a w' hq
    cases r with
    | nrm s' =>
      cases e with
      | normal => exact fin s' he a w' hq
      | _ => exact hq.elim
    | ret s' =>
      cases e with
      | ret => exact fin s' he a w' hq
      | _ => exact hq.elim
    | ext j s' => cases he
    | gto j s' => cases he
end
end Go.PK

/-
  EV, part 24: states compared.
-/
namespace Go.PK
def u8L : List UInt8 → List UInt8 → Bool
  | [], [] => true
  | a :: l, b :: m => Nat.beq a.toNat b.toNat && u8L l m
  | _, _ => false
theorem u8L_eq : ∀ {l m : List UInt8}, u8L l m = true → l = m
  | [], [], _ => rfl
  | [], _ :: _, h => by cases h
  | _ :: _, [], h => by cases h
  | a :: l, b :: m, h => by
    have h : (Nat.beq a.toNat b.toNat && u8L l m) = true := h
    rw [Bool.and_eq_true] at h
    rw [UInt8.toNat_inj.1 (Nat.eq_of_beq_eq_true h.1), u8L_eq h.2]
theorem txB_eq : ∀ {a b : ByteArray}, u8L a.data.toList b.data.toList = true → a = b
  | ⟨_⟩, ⟨_⟩, h => congrArg ByteArray.mk (Array.toList_inj.1 (u8L_eq h))
def val1B : Value → Value → Bool
  | .string a, .string b => u8L a.data.toList b.data.toList
  | .bool a, .bool b => a == b
  | .int k n, .int k' m => decide (k = k') && decide (n = m)
  | .pointer none, .pointer none => true
  | .slice none 0 0, .slice none 0 0 => true
  | .map none, .map none => true
  | .nilFunc, .nilFunc => true
  | .nilIface, .nilIface => true
  | .tuple ⟨[]⟩, .tuple ⟨[]⟩ => true
  | _, _ => false
theorem val1B_eq {a b : Value} (h : val1B a b = true) : a = b := by
  unfold val1B at h
  split at h
  · rw [txB_eq h]
  · rw [eq_of_beq h]
  · rw [Bool.and_eq_true, decide_eq_true_eq, decide_eq_true_eq] at h
    rw [h.1, h.2]
  all_goals first | rfl | cases h
def vals1B : List Value → List Value → Bool
  | [], [] => true
  | a :: l, b :: m => val1B a b && vals1B l m
  | _, _ => false
theorem vals1B_eq : ∀ {l m : List Value}, vals1B l m = true → l = m
  | [], [], _ => rfl
  | [], _ :: _, h => by cases h
  | _ :: _, [], h => by cases h
  | a :: l, b :: m, h => by
    have h : (val1B a b && vals1B l m) = true := h
    rw [Bool.and_eq_true] at h
    rw [val1B_eq h.1, vals1B_eq h.2]
def valB : Value → Value → Bool
  | .agg a, .agg b => vals1B a.toList b.toList
  | a, b => val1B a b
theorem valB_eq {a b : Value} (h : valB a b = true) : a = b := by
  unfold valB at h
  split at h
  · rw [Array.toList_inj.1 (vals1B_eq h)]
  · exact val1B_eq h
mutual
def AV.eqB : AV → AV → Bool
  | .val a, .val b => valB a b
  | .ptr i o, .ptr j p => Nat.beq i j && Nat.beq o p
  | .sl i o l k c, .sl i' o' l' k' c' => (Nat.beq i i' && Nat.beq o o') && ((Nat.beq l l' && (k == k')) && Nat.beq c c')
  | .map i, .map j => Nat.beq i j
  | .stamp i, .stamp j => Nat.beq i j
  | .tail i o z l c, .tail i' o' z' l' c' => (Nat.beq i i' && Nat.beq o o') && ((Nat.beq z z' && Nat.beq l l') && Nat.beq c c')
  | .fn f a b, .fn g c d => decide (f = g) && (AV.eqL a c && AV.eqL b d)
  | .agg a, .agg b => AV.eqL a b
  | .tup a, .tup b => AV.eqL a b
  | _, _ => false
def AV.eqL : List AV → List AV → Bool
  | [], [] => true
  | a :: l, b :: m => a.eqB b && AV.eqL l m
  | _, _ => false
end
mutual
theorem AV.eqB_eq : ∀ {a b : AV}, a.eqB b = true → a = b
  | .val a, b, h => by
    cases b <;> simp only [AV.eqB] at h <;> first | (rw [valB_eq h]; done) | cases h
  | .ptr i o, b, h => by
    cases b <;> simp only [AV.eqB, Bool.and_eq_true, Nat.beq_eq] at h <;> first | (rw [h.1, h.2]; done) | cases h
  | .sl i o l k c, b, h => by
    cases b <;> simp only [AV.eqB, Bool.and_eq_true, Nat.beq_eq, beq_iff_eq] at h <;> first | (rw [h.1.1, h.1.2, h.2.1.1, h.2.1.2, h.2.2]; done) | cases h
  | .map i, b, h => by
    cases b <;> simp only [AV.eqB, Nat.beq_eq] at h <;> first | (rw [h]; done) | cases h
  | .stamp i, b, h => by
    cases b <;> simp only [AV.eqB, Nat.beq_eq] at h <;> first | (rw [h]; done) | cases h
  | .tail i o z l c, b, h => by
    cases b <;> simp only [AV.eqB, Bool.and_eq_true, Nat.beq_eq] at h <;> first | (rw [h.1.1, h.1.2, h.2.1.1, h.2.1.2, h.2.2]; done) | cases h
  | .fn f a c, b, h => by
    cases b <;> simp only [AV.eqB, Bool.and_eq_true, decide_eq_true_eq] at h <;> first | (rw [h.1, AV.eqL_eq h.2.1, AV.eqL_eq h.2.2]; done) | cases h
  | .agg a, b, h => by
    cases b <;> simp only [AV.eqB] at h <;> first | (rw [AV.eqL_eq h]; done) | cases h
  | .tup a, b, h => by
    cases b <;> simp only [AV.eqB] at h <;> first | (rw [AV.eqL_eq h]; done) | cases h
theorem AV.eqL_eq : ∀ {l m : List AV}, AV.eqL l m = true → l = m
  | [], m, h => by
    cases m with
    | nil => rfl
    | cons b m => simp only [AV.eqL] at h; cases h
  | a :: l, m, h => by
    cases m with
    | nil => simp only [AV.eqL] at h; cases h
    | cons b m =>
      simp only [AV.eqL, Bool.and_eq_true] at h
      rw [AV.eqB_eq h.1, AV.eqL_eq h.2]
end
def optB {α : Type} (f : α → α → Bool) : Option α → Option α → Bool
  | none, none => true
  | some a, some b => f a b
  | _, _ => false
theorem optB_eq {α : Type} {f : α → α → Bool} (hf : ∀ a b, f a b = true → a = b) : ∀ {a b : Option α}, optB f a b = true → a = b
  | none, none, _ => rfl
  | some a, some b, h => by rw [hf a b h]
  | none, some _, h => by cases h
  | some _, none, h => by cases h
def Tr.eqB {α : Type} (f : α → α → Bool) : Tr α → Tr α → Bool
  | .e, .e => true
  | .n l v r, .n l' v' r' => Tr.eqB f l l' && (optB f v v' && Tr.eqB f r r')
  | _, _ => false
theorem Tr.eqB_eq {α : Type} {f : α → α → Bool} (hf : ∀ a b, f a b = true → a = b) : ∀ {a b : Tr α}, Tr.eqB f a b = true → a = b
  | .e, .e, _ => rfl
  | .n l v r, .n l' v' r', h => by
    have h : (Tr.eqB f l l' && (optB f v v' && Tr.eqB f r r')) = true := h
    rw [Bool.and_eq_true, Bool.and_eq_true] at h
    rw [Tr.eqB_eq hf h.1, optB_eq hf h.2.1, Tr.eqB_eq hf h.2.2]
  | .e, .n _ _ _, h => by cases h
  | .n _ _ _, .e, h => by cases h
def pairsB : List (AV × AV) → List (AV × AV) → Bool
  | [], [] => true
  | a :: l, b :: m => a.1.eqB b.1 && (a.2.eqB b.2 && pairsB l m)
  | _, _ => false
theorem pairsB_eq : ∀ {l m : List (AV × AV)}, pairsB l m = true → l = m
  | [], [], _ => rfl
  | [], _ :: _, h => by cases h
  | _ :: _, [], h => by cases h
  | (a, a') :: l, (b, b') :: m, h => by
    have h : (a.eqB b && (a'.eqB b' && pairsB l m)) = true := h
    rw [Bool.and_eq_true, Bool.and_eq_true] at h
    rw [AV.eqB_eq h.1, AV.eqB_eq h.2.1, pairsB_eq h.2.2]
def Blk.eqB : Blk → Blk → Bool
  | .cells T l, .cells U m => decide (T = U) && AV.eqL l m
  | .own T z n l, .own U z' n' m => decide (T = U) && (Nat.beq z z' && (Nat.beq n n' && AV.eqL l m))
  | .map k c, .map k' c' => decide (k = k') && pairsB c c'
  | .mapE k c x i, .mapE k' c' x' i' => decide (k = k') && (pairsB c c' && (x.eqB x' && Nat.beq i i'))
  | .dead, .dead => true
  | _, _ => false
theorem Blk.eqB_eq {a b : Blk} (h : a.eqB b = true) : a = b := by
  unfold Blk.eqB at h
  split at h
  · rw [Bool.and_eq_true, decide_eq_true_eq] at h; rw [h.1, AV.eqL_eq h.2]
  · simp only [Bool.and_eq_true, decide_eq_true_eq, Nat.beq_eq] at h; rw [h.1, h.2.1, h.2.2.1, AV.eqL_eq h.2.2.2]
  · rw [Bool.and_eq_true, decide_eq_true_eq] at h; rw [h.1, pairsB_eq h.2]
  · simp only [Bool.and_eq_true, decide_eq_true_eq, Nat.beq_eq] at h; rw [h.1, pairsB_eq h.2.1, AV.eqB_eq h.2.2.1, h.2.2.2]
  · rfl
  · cases h
end Go.PK

/-
  EV, part 25: one step in another order.
-/
namespace Go.PK
section
variable {P : Program} {θ θ' : Vl} {h h' hb : Heap} {w w' w0 : World} {S : Nat → Prop} {v : AV} {u : Value} {nt : Nat} {a : Act}
theorem own_none {x : Nat} (ho : Own θ h h x) : False := by
  obtain ⟨id, b, h1, h2, -⟩ := ho
  rw [h1] at h2; cases h2
theorem KeepP.none (hk : KeepP (Own θ h h) w w') : Grow w w' := hk.toGrow fun _ => own_none
/-- What made memory alone made it for any owner. -/
theorem Aft.rebase (A : Aft θ h h w v h' u w' θ') (hi : Inv h h') (hw : ∀ id b, h.get id = some b → ∀ x ∈ b.vals, x.Wf (AH θ h)) : Aft θ h hb w v h' u w' θ' :=
  ⟨A.d, A.x, .grow A.k.none, A.m, A.wf, fun x ⟨id, b, h1, h2, h3⟩ hlt => by
    cases h0 : h.get id with
    | none => exact (own_none (A.o x ⟨id, b, h0, h2, h3⟩ hlt)).elim
    | some b0 =>
      have := hi id b0 h0
      rw [h2] at this
      cases this
      rw [itA_ext A.x.th ((A.x.e id (by rw [h0]; rfl)).1) (hw id b h0)] at h3
      exact ⟨id, b, h1, h0, h3⟩⟩
/-- A class that only knows more. -/
theorem ClA.less {w2 : World} (hx : Ext θ h θ' h') (hi : Inv h h') (hm : Mem θ h w) (hc : ClA w0 S hb θ' h' w2) : ClA w0 S hb θ h w2 := by
  have it : ∀ id b, h.get id = some b → itA θ' id b = itA θ id b := fun id b hb => itA_ext hx.th ((hx.e id (by rw [hb]; rfl)).1) (hm.wf id b hb)
  refine ⟨hc.k, ⟨fun id b hb => ?_, hm.wf, hm.dj⟩, fun x ⟨id, b, h1, h2, h3⟩ => ?_⟩
  · rw [← it id b hb]; exact hc.m.ok id b (hi id b hb)
  · rw [← it id b h2] at h3
    exact hc.o x ⟨id, b, h1, hi id b h2, h3⟩
/-- The class behind. -/
theorem Aft.cls (A : Aft θ h hb w v h' u w' θ') (hw : ClA w0 S hb θ h w) : ClA w0 S hb θ' h' w' :=
  ⟨⟨A.k.os.trans hw.k.os, A.k.tape.trans hw.k.tape, A.k.output.trans hw.k.output, Nat.le_trans hw.k.size A.k.size, fun x hx hn => (A.k.block x (Nat.lt_of_lt_of_le hx hw.k.size) (fun h => hn (hw.o x h hx))).trans (hw.k.block x hx hn), Nat.le_trans hw.k.drawn A.k.drawn⟩,
    A.m, fun x hx hlt => hw.o x (A.o x hx (Nat.lt_of_lt_of_le hlt hw.k.size)) hlt⟩
mutual
theorem AV.idsIn_wf : ∀ {v : AV}, v.idsIn h = true → v.Wf (AH θ h)
  | .val _, _ => trivial
  | .ptr _ _, hv => ⟨hv, Nat.zero_le _⟩
  | .sl _ _ _ k _, hv => by
    simp only [AV.idsIn, Bool.and_eq_true] at hv
    obtain ⟨rfl, h2⟩ := hv
    exact ⟨h2, Nat.zero_le _⟩
  | .map _, hv => ⟨hv, Nat.zero_le _⟩
  | .stamp _, hv => by cases hv
  | .tail _ _ _ _ _, hv => by cases hv
  | .fn _ _ _, hv => by
    simp only [AV.idsIn, Bool.and_eq_true] at hv
    exact ⟨AV.idsInL_wf hv.1, AV.idsInL_wf hv.2⟩
  | .agg _, hv => AV.idsInL_wf hv
  | .tup _, hv => AV.idsInL_wf hv
theorem AV.idsInL_wf : ∀ {l : List AV}, AV.idsInL h l = true → AV.WfL (AH θ h) l
  | [], _ => trivial
  | _ :: _, hv => by
    simp only [AV.idsInL, Bool.and_eq_true] at hv
    exact ⟨AV.idsIn_wf hv.1, AV.idsInL_wf hv.2⟩
end
end
end Go.PK

/-
  EV, part 26: one step in another order, whole.
-/
namespace Go.PK
section
variable {θ : Vl} {hb : Heap} {num : Nat} {w0 : World} {S : Nat → Prop} {nt : Nat} {a : Act} {C : Mch} {call : CallT} {R : RA} {L : List Oper} {i : Nat} {s s' : St}
theorem call_notpure {hb' h : Heap} {op : Op} {env : EnvT} {nx : Nat} {r : AV × Heap × Nat} (hv : callOp call hb' op env h nx = some r) : pureOp op = false := by
  unfold callOp at hv
  split at hv
  · rfl
  · cases hv
theorem stepD_ok (hc : CallOk C.P call) {T : World → Prop} {Rk : Act → (World → Prop) → Prop} (hst : stepD C call nt hb R L i num s = some s') (hT : ∀ θ' h' w, Ext θ s.h θ' h' → Inv hb h' → Mem θ' h' w → T w) (hs : Snd θ nt hb a s)
    (hR : ∀ θ' a', Ext θ s.h θ' s'.h → Snd θ' nt hb a' s' → Rk a' (ClA w0 S hb θ' s'.h)) : stepRW C.P L.toArray R.ef R.bk R.tq T i Rk a (ClA w0 S hb θ s.h) := by
  unfold stepD at hst
  split at hst
  · next o ho =>
    rw [nth_eq] at ho
    refine ⟨o, by simpa using ho, ?_⟩
    -- quiet ones
    have quiet : ∀ v env' nx', v.Wf (AH θ s.h) → putA nt o.dst v s.env = some env' → s' = ⟨env', s.h, nx'⟩ → Rk (a.put o.dst (v.dec θ)) (ClA w0 S hb θ s.h) := by
      intro v env' nx' hw hp hs'
      subst hs'
      exact hR θ _ (.refl θ s.h) (put_ok hs (.refl θ s.h) hs.inv hs.mw hw hp)
    -- those that turn memory
    have turn : i ∈ R.ef → i ∈ R.bk → ∀ v h', OkD C.P a o.op θ s.h hb v h' → ∀ env' nx', putA nt o.dst v s.env = some env' → s' = ⟨env', h', nx'⟩ → (i ∈ R.ef ∧ ∀ w, ClA w0 S hb θ s.h w → does C.P o a w (fun v w' => ∃ C' : World → Prop, (Open C' ∧ ∀ w, C' w → T w) ∧ C' w' ∧ (i ∉ R.bk → ∀ w, C' w → ClA w0 S hb θ s.h w) ∧ Rk (a.put o.dst v) C')) := by
      intro hi hb' v h' hok env' nx' hp hs'
      subst hs'
      refine ⟨hi, fun w hw => does_mono ?_ (hok hs.inv o.dst o.type o.pos o.after o.guard w hw.m)⟩
      rintro u w' ⟨⟨θ', A⟩, hI⟩
      have hsn : Snd θ' nt hb (a.put o.dst u) ⟨env', h', nx'⟩ := by
        rw [A.d]
        exact put_ok hs A.x hI A.m.wf A.wf hp
      exact ⟨ClA w0 S hb θ' h', ⟨ClA.open w0 S hb θ' h', fun w hw => hT θ' h' w A.x hI hw.m⟩, A.cls hw, fun h => absurd hb' h, hR θ' _ A.x hsn⟩
    -- those that make memory
    have make : i ∈ R.ef → ∀ v h', OkD C.P a o.op θ s.h s.h v h' → ∀ env' nx', putA nt o.dst v s.env = some env' → s' = ⟨env', h', nx'⟩ → (i ∈ R.ef ∧ ∀ w, ClA w0 S hb θ s.h w → does C.P o a w (fun v w' => ∃ C' : World → Prop, (Open C' ∧ ∀ w, C' w → T w) ∧ C' w' ∧ (i ∉ R.bk → ∀ w, C' w → ClA w0 S hb θ s.h w) ∧ Rk (a.put o.dst v) C')) := by
      intro hi v h' hok env' nx' hp hs'
      subst hs'
      refine ⟨hi, fun w hw => does_mono ?_ (hok (fun _ _ h => h) o.dst o.type o.pos o.after o.guard w hw.m)⟩
      rintro u w' ⟨⟨θ', A⟩, hI⟩
      have A' : Aft θ s.h hb w v h' u w' θ' := A.rebase hI hs.mw
      have hsn : Snd θ' nt hb (a.put o.dst u) ⟨env', h', nx'⟩ := by
        rw [A.d]
        exact put_ok hs A.x (fun k c hk => hI k c (hs.inv k c hk)) A.m.wf A.wf hp
      exact ⟨ClA w0 S hb θ' h', ⟨ClA.open w0 S hb θ' h', fun w hw => hT θ' h' w A.x (fun k c hk => hI k c (hs.inv k c hk)) hw.m⟩, A'.cls hw, fun _ w2 h2 => h2.less A.x hI hw.m, hR θ' _ A.x hsn⟩
    split at hst
    · next hwt =>
      have hwt := wantA_ok hs.ag hwt
      refine .inr ⟨hwt, ?_⟩
      split at hst
      · next v hv =>
        split at hst
        · next env' hp =>
          refine .inl ⟨v.dec θ, fun w _ => ?_, quiet v env' _ (evP_wf hs.wf AH.le hv) hp (Option.some.inj hst).symm⟩
          have := ex_evP hs.ag hs.wf AH.cap hv o.dst o.type o.pos o.after o.guard w
          unfold does
          rw [this]
          exact ⟨rfl, Keeps.refl _ _⟩
        · cases hst
      · split at hst
        · next lv v h' hv =>
          have M := evM_ok hs.ag hs.wf hs.mw hv
          cases hlv : lvOk R i lv with
          | false => rw [hlv] at hst; cases hst
          | true =>
            rw [hlv] at hst
            have hst : (match putA nt o.dst v s.env with
              | some env => frcN (fun nx => some (St.mk env h' nx)) (bif Nat.ble 2 lv then Nat.succ num else num)
              | none => none) = some s' := hst
            split at hst
            · next env' hp =>
              rw [frcN_eq] at hst
              have hs' := (Option.some.inj hst).symm
              match lv, M, hlv with
              | 0, M, _ =>
                obtain ⟨rfl, hx⟩ := M.q0 rfl
                refine .inl ⟨v.dec θ, fun w _ => ?_, quiet v env' _ (M.wf (by omega)) hp hs'⟩
                unfold does
                rw [hx o.dst o.type o.pos o.after o.guard w]
                exact ⟨rfl, Keeps.refl _ _⟩
              | 1, M, hlv =>
                obtain ⟨rfl, hx, hpu⟩ := M.q1 rfl
                have hlv : (!R.tq.contains i) = true := hlv
                refine .inl ⟨v.dec θ, fun w hw => ?_, quiet v env' _ (M.wf (by omega)) hp hs'⟩
                rcases hw with hw | hw | hw
                · rw [hpu] at hw; cases hw
                · have := List.contains_iff_mem.2 hw.1
                  rw [this] at hlv; cases hlv
                · unfold does
                  rw [hx o.dst o.type o.pos o.after o.guard w hw.m]
                  exact ⟨rfl, Keeps.refl _ _⟩
              | 2, M, hlv =>
                have hlv : R.ef.contains i = true := hlv
                exact .inr (make (List.contains_iff_mem.1 hlv) v h' (M.q2 rfl s.h).d env' _ hp hs')
              | k + 3, M, hlv =>
                have hlv : (R.ef.contains i && R.bk.contains i) = true := hlv
                rw [Bool.and_eq_true] at hlv
                exact .inr (turn (List.contains_iff_mem.1 hlv.1) (List.contains_iff_mem.1 hlv.2) v h' M.ok.d env' _ hp hs')
            · cases hst
        · cases hbk : R.bk.contains i with
          | true =>
            rw [hbk] at hst
            have hst : (match callOp call hb o.op s.env s.h num with
              | some (v, h, nx) => bif R.ef.contains i then (match putA nt o.dst v s.env with
                | some env => some (St.mk env h nx)
                | none => none) else none
              | none => none) = some s' := hst
            split at hst
            · next v h' nx' hv =>
              cases hef : R.ef.contains i with
              | false => rw [hef] at hst; cases hst
              | true =>
                rw [hef] at hst
                have hst : (match putA nt o.dst v s.env with
                  | some env => some (St.mk env h' nx')
                  | none => none) = some s' := hst
                split at hst
                · next env' hp => exact .inr (turn (List.contains_iff_mem.1 hef) (List.contains_iff_mem.1 hbk) v h' (callOp_ok hc hs.ag hs.wf hv) env' _ hp (Option.some.inj hst).symm)
                · cases hst
            · cases hst
          | false =>
            rw [hbk] at hst
            cases hef : R.ef.contains i with
            | true =>
              rw [hef] at hst
              have hst : (match callOp call s.h o.op s.env s.h num with
                | some (v, h, nx) => (match putA nt o.dst v s.env with
                  | some env => some (St.mk env h nx)
                  | none => none)
                | none => none) = some s' := hst
              split at hst
              · next v h' nx' hv =>
                split at hst
                · next env' hp => exact .inr (make (List.contains_iff_mem.1 hef) v h' (callOp_ok hc hs.ag hs.wf hv) env' _ hp (Option.some.inj hst).symm)
                · cases hst
              · cases hst
            | false =>
              rw [hef] at hst
              have hst : (match callOp call s.h o.op s.env s.h num with
                | some (v, _, _) => bif v.idsIn s.h && !R.tq.contains i then (match putA nt o.dst v s.env with
                  | some env => some (St.mk env s.h num)
                  | none => none) else none
                | none => none) = some s' := hst
              split at hst
              · next v h' nx' hv =>
                cases hq : (v.idsIn s.h && !R.tq.contains i) with
                | false => rw [hq] at hst; cases hst
                | true =>
                  rw [hq] at hst
                  rw [Bool.and_eq_true] at hq
                  have hvw : v.Wf (AH θ s.h) := AV.idsIn_wf hq.1
                  have hst : (match putA nt o.dst v s.env with
                    | some env => some (St.mk env s.h num)
                    | none => none) = some s' := hst
                  split at hst
                  · next env' hp =>
                    have hok : OkD C.P a o.op θ s.h s.h v h' := callOp_ok hc hs.ag hs.wf hv
                    refine .inl ⟨v.dec θ, fun w hw => ?_, quiet v env' _ hvw hp (Option.some.inj hst).symm⟩
                    rcases hw with hw | hw | hw
                    · rw [call_notpure hv] at hw; cases hw
                    · have := List.contains_iff_mem.2 hw.1
                      rw [this] at hq; cases hq.2
                    · refine does_mono ?_ (hok (fun _ _ h => h) o.dst o.type o.pos o.after o.guard w hw.m)
                      rintro u w' ⟨⟨θ', A⟩, -⟩
                      exact ⟨A.d.trans (AV.dec_ext A.x.th hvw), A.k.none⟩
                  · cases hst
              · cases hst
    · next hwt =>
      refine .inl ⟨wantA_ok hs.ag hwt, ?_⟩
      split at hst
      · next env' hp =>
        exact quiet (.val undef) env' _ trivial hp (Option.some.inj hst).symm
      · cases hst
    · cases hst
  · cases hst
end
end Go.PK

/-
  EV, part 27: regions that draw their order.
-/
namespace Go.PK
section
variable {θ : Vl} {hb : Heap} {w0 : World} {S : Nat → Prop} {nt : Nat} {a : Act} {C : Mch} {call : CallT} {R : RA} {L : List Oper} {s s' : St} {eqS : St → St → Bool} {Q : Exit → Act → World → Prop}
theorem forkA_all (he : ∀ s t, eqS s t = true → s = t) {br : Nat → St → Option St} {ks : List Nat} (h : forkA eqS br ks s = some s') : ∀ k ∈ ks, br k s = some s' := by
  cases ks with
  | nil => cases h
  | cons k r =>
    have h : (match br k s with
      | some t => bif r.all (fun k => match br k s with
          | some t' => eqS t t'
          | none => false) then some t else none
      | none => none) = some s' := h
    split at h
    · next t ht =>
      cases hc : r.all (fun k => match br k s with
          | some t' => eqS t t'
          | none => false) with
      | false => rw [hc] at h; cases h
      | true =>
        rw [hc] at h
        cases h
        intro k' hk'
        rcases List.mem_cons.1 hk' with rfl | hk'
        · exact ht
        · have := List.all_eq_true.1 hc k' hk'
          cases hb : br k' s with
          | none => rw [hb] at this; cases this
          | some t' =>
            rw [hb] at this
            rw [he _ _ this]
    · cases h
/-- What the blocks 'U' hold. -/
def TU (θ : Vl) (h : Heap) (U : List Nat) (w : World) : Prop := ∀ id ∈ U, ∀ b, h.get id = some b → (itA θ id b).A w
theorem addU_ok {h : Heap} : ∀ {U : List Nat} {hb hb' : Heap}, addU h U hb = some hb' → Inv hb h → Inv hb' h ∧ Inv hb hb' ∧ (∀ id ∈ U, ∀ b, h.get id = some b → hb'.get id = some b) ∧ ∀ id ∈ U, (h.get id).isSome = true
  | [], hb, hb', he, hi => by cases he; exact ⟨hi, fun _ _ h => h, (fun _ h => by cases h), (fun _ h => by cases h)⟩
  | id :: r, hb, hb', he, hi => by
    unfold addU at he
    split at he
    · next b hb0 =>
      split at he
      · next hb1 h1 =>
        have hg := Tr.set_get h1
        have i1 : Inv hb1 h := fun k c hk => by
          rw [hg] at hk
          by_cases e : k = id
          · rw [if_pos e] at hk; cases hk; rw [e]; exact hb0
          · rw [if_neg e] at hk; exact hi k c hk
        obtain ⟨q1, q2, q3, q4⟩ := addU_ok he i1
        refine ⟨q1, fun k c hk => q2 k c ?_, fun k hk c hc => ?_, fun k hk => ?_⟩
        · rw [hg]
          by_cases e : k = id
          · rw [if_pos e]
            have := hi k c hk
            rw [e, hb0] at this
            exact this
          · rw [if_neg e]; exact hk
        · rcases List.mem_cons.1 hk with rfl | hk
          · exact q2 k c (by rw [hg, if_pos rfl, ← hc, hb0])
          · exact q3 k hk c hc
        · rcases List.mem_cons.1 hk with rfl | hk
          · rw [hb0]; rfl
          · exact q4 k hk
      · cases he
    · cases he
/-- What is told stays so. -/
theorem TU.keep {θ θ' : Vl} {h h' hb : Heap} {U : List Nat} {w : World} (hx : Ext θ h θ' h') (hi : Inv hb h') (hU : ∀ id ∈ U, ∀ b, h.get id = some b → hb.get id = some b) (hmw : ∀ id b, h.get id = some b → ∀ x ∈ b.vals, x.Wf (AH θ h)) (hm : Mem θ' h' w) : TU θ h U w := fun id hid b hb0 => by
  have := hm.ok id b (hi id b (hU id hid b hb0))
  rw [itA_ext hx.th ((hx.e id (by rw [hb0]; rfl)).1) (hmw id b hb0)] at this
  exact this
theorem evQ_sub {C : Mch} {L : List Oper} {h : Heap} : ∀ {l : List Nat} {env env' : EnvT} {U U' : List Nat}, evQ C nt L h l env U = some (env', U') → ∀ id ∈ U, id ∈ U'
  | [], env, env', U, U', he => by cases he; exact fun _ h => h
  | i :: r, env, env', U, U', he => by
    have he : (match stepQ C nt L i env h U with
      | some (env, U) => evQ C nt L h r env U
      | none => none) = some (env', U') := he
    split at he
    · next e1 U1 hst =>
      have ih := evQ_sub he
      intro id hid
      refine ih id ?_
      unfold stepQ at hst
      split at hst
      · split at hst
        · split at hst
          · split at hst
            · cases hst; exact hid
            · cases hst
          · split at hst
            · split at hst
              · split at hst
                · split at hst
                  · cases hst; exact List.mem_cons_of_mem _ hid
                  · cases hst
                · cases hst
              · cases hst
            · cases hst
        · split at hst
          · cases hst; exact hid
          · cases hst
        · cases hst
      · cases hst
    · cases he
theorem evQ_ok {ef bk tq Uf : List Nat} {h : Heap} {Z : Sq} {nx : Nat} : ∀ (l : List Nat) (env env' : EnvT) (U : List Nat) (a : Act), evQ C nt L h l env U = some (env', Uf) → (∀ i ∈ l, tq.contains i = true ∨ True) → Snd θ nt hb a ⟨env, h, nx⟩ →
    (∀ a', Snd θ nt hb a' ⟨env', h, nx⟩ → RW C.P L.toArray ef bk tq (TU θ h Uf) Q Z a' (ClA w0 S hb θ h)) → RW C.P L.toArray ef bk tq (TU θ h Uf) Q (Sq.behind l Z) a (ClA w0 S hb θ h)
  | [], env, env', U, a, he, _, hs, hR => by cases he; exact hR a hs
  | i :: r, env, env', U, a, he, ht, hs, hR => by
    have he : (match stepQ C nt L i env h U with
      | some (env, U) => evQ C nt L h r env U
      | none => none) = some (env', Uf) := he
    split at he
    · next e1 U1 hst =>
      have hsub := evQ_sub he
      show stepRW C.P L.toArray ef bk tq (TU θ h Uf) i (fun a C' => RW C.P L.toArray ef bk tq (TU θ h Uf) Q (Sq.behind r Z) a C') a (ClA w0 S hb θ h)
      have quiet : ∀ (o : Oper) v env2, v.Wf (AH θ h) → putA nt o.dst v env = some env2 → e1 = env2 → RW C.P L.toArray ef bk tq (TU θ h Uf) Q (Sq.behind r Z) (a.put o.dst (v.dec θ)) (ClA w0 S hb θ h) := by
        intro o v env2 hw hp he2
        subst he2
        exact evQ_ok r e1 env' U1 _ he (fun _ _ => .inr trivial) (put_ok (nx := nx) hs (.refl θ h) hs.inv hs.mw hw hp) hR
      unfold stepQ at hst
      split at hst
      · next o ho =>
        rw [nth_eq] at ho
        refine ⟨o, by simpa using ho, ?_⟩
        split at hst
        · next hwt =>
          have hwt := wantA_ok hs.ag hwt
          refine .inr ⟨hwt, .inl ?_⟩
          split at hst
          · next v hv =>
            split at hst
            · next env2 hp =>
              cases hst
              refine ⟨v.dec θ, fun w _ => ?_, quiet o v e1 (evP_wf hs.wf AH.le hv) hp rfl⟩
              have := ex_evP hs.ag hs.wf AH.cap hv o.dst o.type o.pos o.after o.guard w
              unfold does
              rw [this]
              exact ⟨rfl, Keeps.refl _ _⟩
            · cases hst
          · split at hst
            · next t x hop =>
              split at hst
              · next id off hx =>
                split at hst
                · next v hv =>
                  split at hst
                  · next env2 hp =>
                    cases hst
                    refine ⟨v.dec θ, fun w hw => ?_, quiet o v e1 (loadA_wf hs.mw hv) hp rfl⟩
                    have hA : ∀ b, h.get id = some b → (itA θ id b).A w := by
                      rcases hw with hw | hw | hw
                      · rw [hop] at hw; cases hw
                      · exact hw.2 id (hsub id (List.mem_cons_self ..))
                      · exact fun b hb0 => hw.m.ok id b hb0
                    have hx := hs.ag.ev hx
                    simp only [AV.dec] at hx
                    have hl := loadA_at hA hv
                    unfold does
                    have : (execOp a.eval o).run C.P w = .ok (.value (v.dec θ)) w := by
                      unfold execOp
                      rw [hop]
                      simp [hx, Instr.loadAt, Instr.sureAddr, hl]
                    rw [this]
                    exact ⟨rfl, Keeps.refl _ _⟩
                  · cases hst
                · cases hst
              · cases hst
            · cases hst
        · next hwt =>
          split at hst
          · next env2 hp =>
            cases hst
            exact .inl ⟨wantA_ok hs.ag hwt, quiet o (.val undef) e1 trivial hp rfl⟩
          · cases hst
        · cases hst
      · cases hst
    · cases he
theorem Snd.nx {s s' : St} (h : Snd θ nt hb a s) (h1 : s'.env = s.env) (h2 : s'.h = s.h) : Snd θ nt hb a s' := by
  obtain ⟨e, hh, n⟩ := s
  obtain ⟨e', hh', n'⟩ := s'
  cases h1; cases h2
  exact ⟨h.ag, h.wf, h.inv, h.mw⟩
theorem evD_ok (hc : CallOk C.P call) (he : ∀ s t, eqS s t = true → s = t) {T : World → Prop} {θ0 : Vl} {h0 : Heap} (hT : ∀ θ' h' w, Ext θ0 h0 θ' h' → Inv hb h' → Mem θ' h' w → T w) : ∀ (l : Sq) (s : St) (θ : Vl) (a : Act), evD C call nt eqS hb R L l s = some s' → Ext θ0 h0 θ s.h → Snd θ nt hb a s → (∀ θ' a' w', Ext θ s.h θ' s'.h → Snd θ' nt hb a' s' → ClA w0 S hb θ' s'.h w' → Q .normal a' w') →
    RW C.P L.toArray R.ef R.bk R.tq T Q l a (ClA w0 S hb θ s.h)
  | .nil, s, θ, a, h, hx0, hs, hQ => by
    cases h
    exact fun w hw => hQ θ a w (.refl _ _) hs hw
  | .cons i l, s, θ, a, h, hx0, hs, hQ => by
    have h : (match stepD C call nt hb R L i (s.nx + i * R.K) s with
      | some s1 => evD C call nt eqS hb R L l (nextN R s s1)
      | none => none) = some s' := h
    split at h
    · next s1 hst =>
      exact stepD_ok hc hst (fun θ' h' w hx hi hm => hT θ' h' w (hx0.trans hx) hi hm) hs fun θ' a' hx hs' => evD_ok hc he hT l (nextN R s s1) θ' a' h (hx0.trans hx) (hs'.nx rfl rfl) fun θ2 a2 w2 hx2 hs2 hw2 => hQ θ2 a2 w2 (hx.trans hx2) hs2 hw2
    · cases h
  | .fork ks f, s, θ, a, h, hx0, hs, hQ => by
    intro k hk
    have h := forkA_all he (show forkA eqS _ ks s = some s' from h) k hk
    split at h
    · next s1 hst =>
      exact stepD_ok hc hst (fun θ' h' w hx hi hm => hT θ' h' w (hx0.trans hx) hi hm) hs fun θ' a' hx hs' => evD_ok hc he hT (f k) (nextN R s s1) θ' a' h (hx0.trans hx) (hs'.nx rfl rfl) fun θ2 a2 w2 hx2 hs2 hw2 => hQ θ2 a2 w2 (hx.trans hx2) hs2 hw2
    · cases h
theorem ClA.big {hb' h : Heap} {w : World} (hi : Inv hb hb') (hc : ClA w0 S hb θ h w) : ClA w0 S hb' θ h w := ⟨hc.k, hc.m, fun x ⟨id, b, h1, h2, h3⟩ => hc.o x ⟨id, b, (by
  cases h0 : hb.get id with
  | none => rfl
  | some c => rw [hi id c h0] at h1; cases h1), h2, h3⟩⟩
theorem ClA.small {θ' : Vl} {hb' h h' : Heap} {w1 w : World} (hi : Inv hb' h') (hx : Ext θ h θ' h') (hu : Inv hb' h) (hc0 : ClA w0 S hb θ h w1) (hc : ClA w0 S hb' θ' h' w) : ClA w0 S hb θ' h' w := ⟨hc.k, hc.m, fun x ⟨id, b, h1, h2, h3⟩ hlt => by
  cases h0 : hb'.get id with
  | none => exact hc.o x ⟨id, b, h0, h2, h3⟩ hlt
  | some c =>
    have e1 := hi id c h0
    rw [h2] at e1
    cases e1
    have e2 := hu id b h0
    rw [itA_ext hx.th ((hx.e id (by rw [e2]; rfl)).1) (hc0.m.wf id b e2)] at h3
    exact hc0.o x ⟨id, b, h1, e2, h3⟩ hlt⟩
theorem drOk (hm : C.P.follows .mixedOrders = true) (he : ∀ s t, eqS s t = true → s = t) (hc : CallOk C.P call) : DrOk C call eqS := by
  intro θ0 h0 hb nt fn w0 S id ops s r h
  cases hR : C.an fn id with
  | none =>
    unfold evRg at h
    rw [hR] at h
    cases h
  | some R =>
    unfold evRg at h
    rw [hR] at h
    have h : (bif chk ops (Sq.behind R.pre R.s) R.ef R.bk R.tq then fun s => (match evQ C nt ops.toList s.h R.pre s.env [] with
        | some (env, U) => match addU s.h U hb with
          | some hb' => match evD C call nt eqS hb' R ops.toList R.s ⟨env, s.h, s.nx⟩ with
            | some s' => some (Xt.nrm ⟨s'.env, s'.h, s'.nx + ops.size * R.K⟩)
            | none => none
          | none => none
        | none => none)
      else fun _ => none : St → Option Xt) s = some r := h
    cases hch : chk ops (Sq.behind R.pre R.s) R.ef R.bk R.tq with
    | false => rw [hch] at h; cases h
    | true =>
      rw [hch] at h
      have h : (match evQ C nt ops.toList s.h R.pre s.env [] with
        | some (env, U) => match addU s.h U hb with
          | some hb' => match evD C call nt eqS hb' R ops.toList R.s ⟨env, s.h, s.nx⟩ with
            | some s' => some (Xt.nrm ⟨s'.env, s'.h, s'.nx + ops.size * R.K⟩)
            | none => none
          | none => none
        | none => none) = some r := h
      split at h
      · next env U hq =>
        split at h
        · next hb' hadd =>
          split at h
          · next s1 hev =>
            cases h
            intro θ a w hx hs hw
            obtain ⟨u1, u2, u3, -⟩ := addU_ok hadd hs.inv
            have hs' : Snd θ nt hb' a ⟨s.env, s.h, s.nx⟩ := ⟨hs.ag, hs.wf, u1, hs.mw⟩
            have hT : ∀ θ' h' w, Ext θ s.h θ' h' → Inv hb' h' → Mem θ' h' w → TU θ s.h U w := fun θ' h' w hx hi hm => TU.keep hx hi u3 hs.mw hm
            have hw' := ClA.open w0 S hb θ s.h _ _ hw (Keeps.drew _ _ _ (Nat.le_succ _))
            have r := evQ_ok (w0 := w0) (S := S) (Q := Out θ0 h0 nt hb w0 S (.nrm ⟨s1.env, s1.h, s1.nx + ops.size * R.K⟩)) (ef := R.ef) (bk := R.bk) (tq := R.tq) (Z := R.s) R.pre s.env env [] a hq (fun _ _ => .inr trivial) hs' fun a' hs2 =>
              evD_ok hc he hT R.s ⟨env, s.h, s.nx⟩ θ a' hev (.refl _ _) hs2 fun θ' a2 w2 hx2 hs3 hw2 => ⟨θ', hx.trans hx2, ⟨hs3.ag, hs3.wf, fun k c hk => hs3.inv k c (u2 k c hk), hs3.mw⟩, ClA.small hs3.inv hx2 u1 hw hw2⟩
            exact wpIn_region_any hm (RW.any hch ⟨ClA.open w0 S hb' θ s.h, fun w hw => hT θ s.h w (.refl _ _) u1 hw.m⟩ r (hw'.big u2))
          · cases h
        · cases h
      · cases h
end
end Go.PK
