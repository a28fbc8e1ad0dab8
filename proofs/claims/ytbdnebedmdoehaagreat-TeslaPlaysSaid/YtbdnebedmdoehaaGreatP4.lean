import Derived.Test.YtbdnebedmdoehaaGreatQA
namespace Go.Proofs.YtbdnebedmdoehaaGreat
open Go.PK
theorem qputE_16 {l : List Pq} {p : Pq} (h : l.length = 16) : qputE l p ≠ 0 := by
  unfold qputE
  repeat' split
  all_goals first | decide | omega
theorem PutO.zero {c : Bq} {p : Pq} {f : Fr} {e : Int} {c' : Bq} {I' : List It} (hO : PutO c p f e c' I') (h : qputE (keysQ c) p = 0) : ∃ x : FrO, x.f = f ∧ e = 0 ∧ c' = c ++ [(p, x)] ∧ I' = [bodyO x] := by
  cases hO with
  | no h1 h0 => exact absurd (h1.symm.trans h) h0
  | yes x hf _ => exact ⟨x, hf, rfl, rfl, rfl⟩
def fr5 : Fr := { fr0 with kd := 5 }
theorem fr5_ok : fr5.Ok := ⟨by decide, by decide, by decide⟩
theorem lend_nil {I F : List It} : Lend I F [sls none 1 0 (bytes [])] := .of (fun _ _ => ⟨rfl, rfl⟩) (fun b hb => by simp [sls] at hb) .nil
theorem own_rd2 {I H : List It} {b cap n sz i j : Nat} {T : TypeId} {α : Type} {f : α → List Value} {R : List α} {x : α} {v : Value} (hm : own (some b) cap T sz n (R.flatMap f) ∈ H) (hx : R[i]? = some x) (hf : ∀ y ∈ R, (f y).length = sz) (hv : (f x)[j]? = some v) : Rd I H ⟨b, 0 + i * sz + j, none⟩ v := by
  have := (own_rds (I := I) hm hx hf).rd hv
  rwa [add_none] at this
theorem take_two {x1 x2 : FrO} {T c' : Bq} (h : TakeO ([] ++ [((5, 1), x1)] ++ [((4, 2), x2)]) 5 T c') : T = [((4, 2), x2), ((5, 1), x1)] ∧ c' = [] := by
  have hc : c' = [] := by
    cases c' with
    | nil => rfl
    | cons y r =>
      have h1 := h.gt y (by simp)
      have h2 := h.p.mem_iff.1 (List.mem_append_right _ (List.mem_cons_self (a := y) (l := r)))
      simp at h2
      rcases h2 with rfl | rfl <;> simp at h1
  subst hc
  refine ⟨?_, rfl⟩
  have hp : T.Perm [((4, 2), x2), ((5, 1), x1)] := by
    have := h.p
    rw [List.append_nil] at this
    exact this.trans (List.Perm.swap _ _ _)
  have hs : T.Pairwise fun x y => ltQ x.1 y.1 := List.pairwise_map.1 h.s
  refine hp.eq_of_pairwise (fun x y _ _ h1 h2 => ?_) hs (by simp [ltQ])
  simp only [ltQ] at h1 h2; omega
end Go.Proofs.YtbdnebedmdoehaaGreat
