/-
  EX, part 5: a walk cut in two: a state that was found, written down as far as it is still of use.
-/
import Derived.Test.YthgjgeapfndeeaaGreatDoorEX
set_option linter.unusedVariables false
set_option linter.unusedSimpArgs false
namespace Go.PK
mutual
/-- The blocks that a value names are there. -/
def AV.idsB (h : Heap) : AV → Bool
  | .val _ => true
  | .ptr id _ => (h.get id).isSome
  | .sl id _ _ _ _ => (h.get id).isSome
  | .map id => (h.get id).isSome
  | .stamp id => (h.get id).isSome
  | .tail id _ _ _ _ => (h.get id).isSome
  | .fn _ a b => AV.idsBL h a && AV.idsBL h b
  | .agg l => AV.idsBL h l
  | .tup l => AV.idsBL h l
def AV.idsBL (h : Heap) : List AV → Bool
  | [] => true
  | x :: r => x.idsB h && AV.idsBL h r
end
mutual
theorem AV.idsB_wf {θ : Vl} {h h' : Heap} : ∀ {v : AV}, v.idsB h = true → v.Wf (AH θ h') → v.Wf (AH θ h)
  | .val _, _, _ => trivial
  | .ptr _ _, hv, hw => ⟨hv, hw.2⟩
  | .sl _ _ _ _ _, hv, hw => ⟨hv, hw.2⟩
  | .map _, hv, hw => ⟨hv, hw.2⟩
  | .stamp _, hv, hw => ⟨hv, hw.2⟩
  | .tail _ _ _ _ _, hv, hw => ⟨hv, hw.2⟩
  | .fn _ _ _, hv, hw => by
    simp only [AV.idsB, Bool.and_eq_true] at hv
    exact ⟨AV.idsBL_wf hv.1 hw.1, AV.idsBL_wf hv.2 hw.2⟩
  | .agg l, hv, hw => AV.idsBL_wf (l := l) hv hw
  | .tup l, hv, hw => AV.idsBL_wf (l := l) hv hw
theorem AV.idsBL_wf {θ : Vl} {h h' : Heap} : ∀ {l : List AV}, AV.idsBL h l = true → AV.WfL (AH θ h') l → AV.WfL (AH θ h) l
  | [], _, _ => trivial
  | _ :: _, hv, hw => by
    simp only [AV.idsBL, Bool.and_eq_true] at hv
    exact ⟨AV.idsB_wf hv.1 hw.1, AV.idsBL_wf hv.2 hw.2⟩
end
noncomputable def optA {α : Type} (f : α → Bool) (x : Option α) : Bool := Option.rec (motive := fun _ => Bool) true f x
noncomputable def trA {α : Type} (f : α → Bool) (s : Tr α) : Bool := Tr.rec (motive := fun _ => Bool) true (fun _ v _ il ir => bo (optA f v) (bo il ir false) false) s
noncomputable def n8A {α : Type} (f : α → Bool) (x : N8 α) : Bool := N8.eqB (fun a _ => f a) x x
theorem trA_ok {α : Type} {f : α → Bool} : ∀ {s : Tr α}, trA f s = true → ∀ k v, s.get k = some v → f v = true
  | .e, _, k, v, hk => by rw [Tr.get_e] at hk; cases hk
  | .n l u r, h, k, v, hk => by
    rcases bo_cases (show bo (optA f u) (bo (trA f l) (trA f r) false) false = true from h) with ⟨h1, h2⟩ | ⟨_, h2⟩
    · rcases bo_cases h2 with ⟨h3, h4⟩ | ⟨_, h4⟩
      · rcases Tr.ways k with rfl | ⟨-, j1, -⟩ | ⟨j0, j1, -⟩
        · rw [Tr.get_z] at hk; subst hk; exact h1
        · rw [Tr.get_o j1] at hk; exact trA_ok h3 _ _ hk
        · rw [Tr.get_p j0 j1] at hk; exact trA_ok h4 _ _ hk
      · cases h4
    · cases h2
theorem envA_ok {f : AV → Bool} {e : EnvT} (h : n8A (n8A (n8A (optA f))) e = true) (k : Nat) (v : AV) (hk : e.get k = some v) : f v = true := by
  unfold EnvT.get at hk
  cases hb : Nat.blt k 512 with
  | false => rw [hb] at hk; cases hk
  | true =>
    rw [hb] at hk
    have h1 : n8A (n8A (optA f)) ((N8.sel (k / 64)).f e) = true := selB (f := fun a _ => n8A (n8A (optA f)) a) h (k / 64)
    have h2 : n8A (optA f) ((N8.sel (k / 8 % 8)).f ((N8.sel (k / 64)).f e)) = true := selB (f := fun a _ => n8A (optA f) a) h1 (k / 8 % 8)
    have h3 : optA f ((N8.sel (k % 8)).f ((N8.sel (k / 8 % 8)).f ((N8.sel (k / 64)).f e))) = true := selB (f := fun a _ => optA f a) h2 (k % 8)
    have hk : (N8.sel (k % 8)).f ((N8.sel (k / 8 % 8)).f ((N8.sel (k / 64)).f e)) = some v := hk
    rw [hk] at h3
    exact h3
/-- A state that names only what it has. -/
noncomputable def litOk (s : St) : Bool := bo (n8A (n8A (n8A (optA fun v => v.idsB s.h))) s.env) (trA (fun b => b.vals.all fun v => v.idsB s.h) s.h) false
/-- A part of another state. -/
noncomputable def stS (s t : St) : Bool := bo (envS s.env t.env) (trS blkE s.h t.h) false
section
variable {P : Program} {θ θ0 : Vl} {nt : Nat} {a : Act} {s s1 lit : St} {w w0 : World} {S : Nat → Prop} {x y : Code} {r : Xt}
theorem Snd.cut (hs : Snd θ nt .e a s1) (he : envS lit.env s1.env = true) (hh : trS blkE lit.h s1.h = true) (hl : litOk lit = true) : Snd θ nt .e a lit := by
  have hg := envS_ok he
  have hi : ∀ k b, lit.h.get k = some b → s1.h.get k = some b := trS_ok (fun _ _ => blkE_eq) hh
  rcases bo_cases (show bo (n8A (n8A (n8A (optA fun v => v.idsB lit.h))) lit.env) (trA (fun b => b.vals.all fun v => v.idsB lit.h) lit.h) false = true from hl) with ⟨h1, h2⟩ | ⟨_, h2⟩
  · refine ⟨⟨hs.ag.d, hs.ag.n, fun k v hk => hs.ag.t k v (hg k v hk)⟩, fun k v hk => AV.idsB_wf (envA_ok h1 k v hk) (hs.wf k v (hg k v hk)), fun id b hb => (by rw [Tr.get_e] at hb; cases hb), fun id b hb v hv => ?_⟩
    exact AV.idsB_wf (List.all_eq_true.1 (trA_ok h2 id b hb) v hv) (hs.mw id b (hi id b hb) v hv)
  · cases h2
theorem ClA.cut (hc : ClA w0 S .e θ s1.h w) (hs : Snd θ nt .e a lit) (hh : trS blkE lit.h s1.h = true) : ClA w0 S .e θ lit.h w := by
  have hi : ∀ k b, lit.h.get k = some b → s1.h.get k = some b := trS_ok (fun _ _ => blkE_eq) hh
  exact ⟨hc.k, ⟨fun id b hb => hc.m.ok id b (hi id b hb), hs.mw, fun id b id' b' hb hb' hne => hc.m.dj id b id' b' (hi id b hb) (hi id' b' hb') hne⟩, fun x ⟨id, b, h1, h2, h3⟩ => hc.o x ⟨id, b, h1, hi id b h2, h3⟩⟩
/-- Behind the first part what was found is known as far as it is written down. -/
theorem Does.cut (h1 : Does P θ0 .e nt .e w0 S x s (.nrm s1)) (hst : stS lit s1 = true) (hl : litOk lit = true) (h2 : Does P θ0 .e nt .e w0 S y lit r) : Does P θ0 .e nt .e w0 S (.seq x y) s r := fun θ a w hx hs hw => by
  rcases bo_cases (show bo (envS lit.env s1.env) (trS blkE lit.h s1.h) false = true from hst) with ⟨he, hh⟩ | ⟨_, hh⟩
  · refine wpIn_seq (wpIn_mono (h1 θ a w hx hs hw) ?_)
    intro e a' w' hq
    cases e with
    | normal =>
      obtain ⟨θ', -, q2, q3⟩ := hq
      have hsn := q2.cut he hh hl
      exact h2 θ' a' w' ⟨fun id hi => by rw [Tr.get_e] at hi; cases hi⟩ hsn (q3.cut hsn hh)
    | _ => exact hq.elim
  · cases hh
end
/-! ### Parts of a sequence -/
section
variable (C : Mch) (nt : Nat) (eqS : St → St → Bool) (fn : Nat)
/-- The first parts of a sequence, one behind the other. -/
noncomputable def spN : Nat → Code → Cl (CallT → St → Option St)
  | 0, _ => ⟨fun _ s => some s⟩
  | n + 1, .seq x y => ⟨fun call s => ob ((spF C nt eqS fn x).f call .e s.env s.h s.nx) fun r => Xt.rec (motive := fun _ => Option St) (fun s => (spN n y).f call s) (fun _ _ => none) (fun _ _ => none) (fun _ => none) r⟩
  | _ + 1, _ => ⟨fun _ _ => none⟩
def restN : Nat → Code → Code
  | 0, c => c
  | n + 1, .seq _ y => restN n y
  | _ + 1, c => c
end
section
variable {C : Mch} {call : CallT} {nt fn : Nat} {eqS : St → St → Bool} {θ0 : Vl} {w0 : World} {S : Nat → Prop} {lit : St} {r : Xt}
theorem seg_ok (hc : CallOk C.P call) (hD : DrOk C call eqS) (hl : litOk lit = true) : ∀ (n : Nat) (cd : Code) (s s1 : St), (spN C nt eqS fn (n + 1) cd).f call s = some s1 → stS lit s1 = true → Does C.P θ0 .e nt .e w0 S (restN (n + 1) cd) lit r → Does C.P θ0 .e nt .e w0 S cd s r
  | n, .seq x y, s, s1, h, hst, h2 => by
    obtain ⟨r1, h3, h4⟩ := ob_inv (show ob ((spF C nt eqS fn x).f call .e s.env s.h s.nx) _ = some s1 from h)
    have d1 := spF_ok hc hD x s.env s.h s.nx r1 h3 θ0 .e w0 S
    cases r1 with
    | nrm s2 =>
      have h4 : (spN C nt eqS fn n y).f call s2 = some s1 := h4
      cases n with
      | zero =>
        have h4 : some s2 = some s1 := h4
        cases h4
        exact d1.cut hst hl h2
      | succ n => exact d1.seq (fun s3 he => by cases he; exact seg_ok hc hD hl n y s2 s1 h4 hst h2) (fun hh => absurd rfl (hh s2))
    | _ => cases h4
  | _, .skip, _, _, h, _, _ => by cases h
  | _, .label _, _, _, h, _, _ => by cases h
  | _, .region _ _ _, _, _, h, _, _ => by cases h
  | _, .cond _ _ _, _, _, h, _, _ => by cases h
  | _, .block _ _, _, _, h, _, _ => by cases h
  | _, .loop _, _, _, h, _, _ => by cases h
  | _, .exit _, _, _, h, _, _ => by cases h
  | _, .goto _, _, _, h, _, _ => by cases h
  | _, .scope _, _, _, h, _, _ => by cases h
  | _, .ret, _, _, h, _, _ => by cases h
  | _, .rangeFunc _ _ _ _, _, _, h, _, _ => by cases h
  | _, .refuse _, _, _, h, _, _ => by cases h
end
end Go.PK
