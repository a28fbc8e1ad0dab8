import Derived.Test.YtbdnebedmdoehaaGreatP5
namespace Go.Proofs.YtbdnebedmdoehaaGreat
open Go.PK
instance (a b : Pq) : Decidable (ltQ a b) := inferInstanceAs (Decidable (_ ∨ _))
theorem ahead_any (a b : Pq) : Spc Tryz.prog 94 #[.agg #[.int .u32 a.1, .int .u8 a.2], .agg #[.int .u32 b.1, .int .u8 b.2]] [] [] (Is (.bool (decide (ltQ a b)))) := by
  refine Spc.enter Tryz.func94 rfl rfl rfl (fun w0 hw0 => ?_)
  refine CW.seq (CW.region (ef := [0, 1]) (bk := []) (RL.box rfl rfl rfl rfl rfl rfl ?_))
  intro b1
  refine RL.box rfl rfl rfl rfl rfl rfl ?_
  intro b2
  refine RL.p rfl (RL.nil (NQ.seq (CW.seq (CW.rg (RL.fieldAddr fa_118_0 rfl rfl rfl rfl (RL.loadq Tryz.isAgg24 rfl rfl rfl rfl ?_))))))
  refine RL.fieldAddr fa_118_0 rfl rfl rfl rfl (RL.loadq Tryz.isAgg24 rfl rfl rfl rfl ?_)
  refine RL.p rfl (RL.p rfl ?_)
  apply RL.orB (d := 10) (dp := 23) (l' := (Sq.of [19])) rfl (sK [4] rfl)
  ·
    intro hb6 K6
    refine RL.fieldAddr fa_118_0 rfl rfl rfl rfl (RL.loadq Tryz.isAgg24 rfl rfl rfl rfl ?_)
    refine RL.fieldAddr fa_118_0 rfl rfl rfl rfl (RL.loadq Tryz.isAgg24 rfl rfl rfl rfl ?_)
    refine RL.p rfl (RL.p rfl ?_)
    apply RL.andB (d := 16) (dp := 22) (l' := (Sq.of [18, 19])) rfl (sK [4, 10] rfl)
    ·
      intro hb12 K12
      refine RL.fieldAddr fa_118_1 rfl rfl rfl rfl (RL.loadq Tryz.isAgg5 rfl rfl rfl rfl ?_)
      refine RL.fieldAddr fa_118_1 rfl rfl rfl rfl (RL.loadq Tryz.isAgg5 rfl rfl rfl rfl ?_)
      refine RL.p rfl (RL.p rfl ?_)
      exact K12 _ (.cons rfl (sK [4, 10] rfl))
    ·
      intro hb12 K12
      refine RL.p rfl (RL.p rfl (RL.p rfl (RL.p rfl (RL.p rfl (RL.p rfl ?_)))))
      exact K12 _ (.cons rfl (sK [4, 10] rfl))
    refine RL.p rfl ?_
    exact K6 _ (.cons rfl (sK [4] rfl))
  ·
    intro hb6 K6
    refine RL.p rfl (RL.p rfl (RL.p rfl (RL.p rfl (RL.p rfl (RL.p rfl (RL.p rfl (RL.p rfl (RL.p rfl (RL.p rfl (RL.p rfl (RL.p rfl (RL.p rfl ?_))))))))))))
    exact K6 _ (.cons rfl (sK [4] rfl))
  refine RL.p rfl (RL.nil (NQ.seq (CW.ret ?_)))
  refine RQ.post (res1 rfl rfl) (Split.none _) ⟨?_, rfl, rfl⟩
  congr 1
  rw [Bool.eq_iff_iff, decide_eq_true_iff]
  simp [ltQ]
theorem Rds.take2 {I H : List It} {p : Addr} {x : Pq × FrO} (h : Rds I H p (itc x)) : Rds I H p [.int .u32 x.1.1, .int .u8 x.1.2] := fun w hw j v hj => h w hw j v (by
  match j, hj with
  | 0, hj => exact hj
  | 1, hj => exact hj
  | j + 2, hj => simp at hj)
theorem TakeO.lens {c : Bq} {iv : Int} {T c' : Bq} (h : TakeO c iv T c') : T.length + c'.length = c.length := by
  have := h.p.length_eq
  rwa [List.length_append] at this
theorem TakeO.ok {c : Bq} {iv : Int} {T c' : Bq} (h : TakeO c iv T c') {q : Pq × FrO → Prop} (hc : ∀ x ∈ c, q x) : (∀ x ∈ T, q x) ∧ ∀ x ∈ c', q x :=
  ⟨fun x hx => hc x (h.p.mem_iff.1 (List.mem_append_left _ hx)), fun x hx => hc x (h.p.mem_iff.1 (List.mem_append_right _ hx))⟩
theorem DropO.lens {c : Bq} {iv : Int} {n : Nat} {c' : Bq} (h : DropO c iv n c') : n + c'.length = c.length := by
  cases h with
  | no => omega
  | yes _ ht => exact ht.lens
theorem DropO.ok {c : Bq} {iv : Int} {n : Nat} {c' : Bq} (h : DropO c iv n c') {q : Pq × FrO → Prop} (hc : ∀ x ∈ c, q x) : ∀ x ∈ c', q x := by
  cases h with
  | no => exact hc
  | yes _ ht => exact (ht.ok hc).2
end Go.Proofs.YtbdnebedmdoehaaGreat
