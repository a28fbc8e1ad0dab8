/-
  An entry more in a recorder: the head, by its contract.
-/
import Derived.Test.YthgjgeapfndeeaaGreatDoorTA
import Derived.Test.YthgjgeapfndeeaaGreatDoorEH
set_option linter.unusedVariables false
set_option linter.unusedSimpArgs false
namespace Go.Proofs.YthgjgeapfndeeaaGreatDoor
open Go.PK
noncomputable def hkNx (a : List AV) : Option AV := match a with
  | [k, .agg [.val (.int .i64 t), .val (.int .i64 d), .val (.int .i64 s), .val (.int .i64 e)]] => ob (key32 k) fun K => bo (Ent.ok ⟨t, d, s, e⟩) (some (.tup [.agg (by32 (shaN ivN 0 46 (Nat.add (Nat.mul K 5192296858534827628530496329220096) (num (Ent.be ⟨t, d, s, e⟩))))), .val (.int .i64 0)])) none
  | _ => none
noncomputable def hkNext36 : Hk := fun _ h nx a => ob (hkNx a) fun v => some (v, h, nx)
theorem hkNext36_ok {f : Nat} (hO : okF Tryz.prog f = true) (hS : ∀ (h : List B8), h.length = 32 → ∀ x : Ent, Spc Tryz.prog f #[.agg (bytes h).toArray, .agg x.cells.toArray] [] [] (Is (nextV h x)))
    {hb h h' : Heap} {nx nx' : Nat} {args : List AV} {v : AV} (he : hkNext36 hb h nx args = some (v, h', nx')) : FOk Tryz.prog f args h hb v h' := by
  obtain ⟨u, hz, h0⟩ := ob_inv (show ob (hkNx args) _ = some (v, h', nx') from he)
  cases h0
  clear he
  unfold hkNx at hz
  split at hz
  · next k t d s e =>
    obtain ⟨K, h1, h2⟩ := ob_inv hz
    obtain ⟨bs, hl, rfl, rfl⟩ := key32_ok h1
    obtain ⟨hok, h2⟩ := bo_inv h2
    generalize hx : (⟨t, d, s, e⟩ : Ent) = x at hok h2
    have h3 : by32 (shaN ivN 0 46 (Nat.add (Nat.mul (num bs) 5192296858534827628530496329220096) (num x.be))) = (nextD bs x).map avB := by
      have h4 : (bs ++ x.be).length = 46 := by rw [List.length_append, hl, Ent.be_length]
      have h5 := sha_num (bs ++ x.be) (by rw [h4]; decide)
      rw [h4, num_append, Ent.be_length, show (256 : Nat) ^ 14 = 5192296858534827628530496329220096 by kernel_rfl] at h5
      rw [show (nextD bs x).map avB = by32 (num (sha (bs ++ x.be))) from (by32_eq _ (nextD_length bs x)).symm, h5]
      rfl
    rw [h3] at h2
    cases h2
    refine .quiet hO (fun A => ⟨avB_wf A _, trivial, trivial⟩) fun θ w hm hwa => ⟨[], (fun _ h => by cases h), ?_⟩
    have S := hS bs hl x
    rw [next_yes hok] at S
    have e1 : (AV.agg [.val (.int .i64 t), .val (.int .i64 d), .val (.int .i64 s), .val (.int .i64 e)]).dec θ = .agg x.cells.toArray := by subst hx; simp [AV.dec, AV.decL, Ent.cells]
    have e2 : (AV.tup [.agg ((nextD bs x).map avB), .val (.int .i64 0)]).dec θ = .tuple #[.agg (bytes (nextD bs x)).toArray, .int .i64 0] := by
      have := key_dec θ (nextD bs x)
      simp only [AV.dec, AV.decL] at this ⊢
      rw [this]
    rw [e2, List.map_cons, List.map_cons, List.map_nil, e1, key_dec]
    exact S
  · cases hz
end Go.Proofs.YthgjgeapfndeeaaGreatDoor
