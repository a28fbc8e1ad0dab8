import Derived.Test.YtggmnhogmjglmaaP3
namespace Go.Proofs.Ytggmnhogmjglmaa
open Go.PK
theorem putE_16 {l : List Pq} {p : Pq} (h : l.length = 16) : putE l p ≠ 0 := by
  unfold putE
  repeat' split
  all_goals first | decide | omega
theorem PutO.zero {c : Bq} {p : Pq} {f : Fr} {e : Int} {c' : Bq} {I' : List It} (hO : PutO c p f e c' I') (h : putE (keysQ c) p = 0) : ∃ x : FrO, x.f = f ∧ e = 0 ∧ c' = c ++ [(p, x)] ∧ I' = [bodyO x] := by
  cases hO with
  | no h1 h0 => exact absurd (h1.symm.trans h) h0
  | yes x hf _ => exact ⟨x, hf, rfl, rfl, rfl⟩
def fr5 : Fr := { fr0 with kd := 5 }
theorem fr5_ok : fr5.Ok := ⟨by decide, by decide, by decide⟩
theorem lend_nil {I F : List It} : Lend I F [sls none 1 0 (bytes [])] := .of (fun _ _ => ⟨rfl, rfl⟩) (fun b hb => by simp [sls] at hb) .nil
theorem own_rd2 {I H : List It} {b cap n sz i j : Nat} {T : TypeId} {α : Type} {f : α → List Value} {R : List α} {x : α} {v : Value} (hm : own (some b) cap T sz n (R.flatMap f) ∈ H) (hx : R[i]? = some x) (hf : ∀ y ∈ R, (f y).length = sz) (hv : (f x)[j]? = some v) : Rd I H ⟨b, 0 + i * sz + j, none⟩ v := by
  have := (own_rds (I := I) hm hx hf).rd hv
  rwa [add_none] at this
theorem take_two {x1 x2 : FrO} {T c' : Bq} (h : TakeO ([] ++ [((5, 1), x1)] ++ [((4, 2), x2)]) 5 T c') : T = [((4, 2), x2), ((5, 1), x1)] ∧ c' = [] := by
  have hc : c' = [] := by
    cases c' with
    | nil => rfl
    | cons y r =>
      have h1 := h.gt y (by simp)
      have h2 := h.p.mem_iff.1 (List.mem_append_right _ (List.mem_cons_self (a := y) (l := r)))
      simp at h2
      rcases h2 with rfl | rfl <;> simp at h1
  subst hc
  refine ⟨?_, rfl⟩
  have hp : T.Perm [((4, 2), x2), ((5, 1), x1)] := by
    have := h.p
    rw [List.append_nil] at this
    exact this.trans (List.Perm.swap _ _ _)
  have hs : T.Pairwise fun x y => ltQ x.1 y.1 := List.pairwise_map.1 h.s
  refine hp.eq_of_pairwise (fun x y _ _ h1 h2 => ?_) hs (by simp [ltQ])
  simp only [ltQ] at h1 h2; omega
theorem works20 : Spc Try.prog 8 #[] [] [] (Is (.bool true)) := by
  refine Spc.enter Try.func8 rfl rfl rfl (fun w0 hw0 => ?_)
  refine CW.seq ?_
  refine CW.region (ef := []) (bk := []) ?_
  refine RL.assign rfl rfl rfl rfl ?_
  refine RL.nil ?_
  refine NQ.seq ?_
  refine CW.seq ?_
  refine CW.region (ef := [0]) (bk := []) ?_
  refine RL.callq (qnew_any) Try.call9 rfl rfl rfl rfl rfl (.inl rfl) ?_
  rintro _ _ _ ⟨b, r, rfl, rfl, rfl⟩
  refine RL.assign rfl rfl rfl rfl ?_
  refine RL.nil ?_
  refine NQ.seq ?_
  refine CW.seq ?_
  refine CW.region (ef := [3]) (bk := [3]) ?_
  refine RL.move rfl rfl rfl rfl ?_
  refine RL.buildS [_, _] Try.zeroValue28 pl_28 rfl rfl rfl rfl rfl ?_
  refine RL.buildS (fr5.cells (.slice none 0 0)) Try.zeroValue34 pl_34 rfl rfl rfl rfl rfl ?_
  refine RL.call (qput_any b r [] (5, 1) fr5 none 0 0 fr5_ok rfl (by decide) (by simp)) Try.call15 rfl rfl rfl rfl rfl (by repeat (first | exact Pick.nil | apply Pick.take | apply Pick.leave)) lend_nil (.inr rfl) ?_
  rintro _ _ _ ⟨e, c1, rfl, hO, rfl⟩
  obtain ⟨x1, hx1, rfl, rfl, rfl⟩ := hO.zero (by decide)
  have ok1 : x1.Ok := ⟨by rw [hx1]; exact fr5_ok, by rw [hx1]; decide⟩
  refine RL.assign rfl rfl rfl rfl ?_
  refine RL.nil ?_
  refine NQ.seq ?_
  refine CW.only (.cons (k := 1) rfl (.cons (k := 2) rfl .nil)) ?_
  refine CW.seq ?_
  refine CW.region (ef := [3]) (bk := [3]) ?_
  refine RL.move rfl rfl rfl rfl ?_
  refine RL.buildS [_, _] Try.zeroValue28 pl_28 rfl rfl rfl rfl rfl ?_
  refine RL.buildS (fr5.cells (.slice none 0 0)) Try.zeroValue34 pl_34 rfl rfl rfl rfl rfl ?_
  refine RL.call (qput_any b r ([] ++ [((5, 1), x1)]) (4, 2) fr5 none 0 0 fr5_ok rfl (by decide) (by simpa using ok1)) Try.call15 rfl rfl rfl rfl rfl (by repeat (first | exact Pick.nil | apply Pick.take | apply Pick.leave)) lend_nil (.inr rfl) ?_
  rintro _ _ _ ⟨e, c2, rfl, hO2, rfl⟩
  obtain ⟨x2, hx2, rfl, rfl, rfl⟩ := hO2.zero (by simp [keysQ, putE])
  have ok2 : x2.Ok := ⟨by rw [hx2]; exact fr5_ok, by rw [hx2]; decide⟩
  have okc : ∀ x ∈ [] ++ [((5, 1), x1)] ++ [(((4 : Int), (2 : Int)), x2)], x.2.Ok := by
    intro x hx
    simp at hx
    rcases hx with rfl | rfl
    · exact ok1
    · exact ok2
  refine RL.assign rfl rfl rfl rfl ?_
  refine RL.nil ?_
  refine NQ.seq ?_
  refine CW.seq ?_
  refine CW.region (ef := [1]) (bk := [1]) ?_
  refine RL.move rfl rfl rfl rfl ?_
  refine RL.callq (qtake_any b r _ 5 okc (by simp)) Try.call11 rfl rfl rfl rfl rfl (.inr rfl) ?_
  rintro _ _ _ ⟨ob, cp, T, c', hT, rfl, rfl, rfl⟩
  obtain ⟨rfl, rfl⟩ := take_two hT
  refine RL.assign rfl rfl rfl rfl ?_
  refine RL.nil ?_
  refine NQ.seq ?_
  refine CW.only (.cons (k := 1) rfl (.cons (k := 2) rfl (.cons (k := 3) rfl (.cons (k := 4) rfl .nil)))) ?_
  refine CW.seq ?_
  refine CW.fact (p := ob ≠ none) (fun w hC e => by subst e; have := own_none (hC.s.h _ (List.Mem.head _)); simp at this) (fun hob => ?_)
  obtain ⟨ob, rfl⟩ : ∃ q, ob = some q := by
    cases ob with
    | none => exact absurd rfl hob
    | some q => exact ⟨q, rfl⟩
  have hlen : ∀ y ∈ [(((4 : Int), (2 : Int)), x2), (((5 : Int), (1 : Int)), x1)], (itc y).length = 23 := by
    intro y hy
    simp at hy
    rcases hy with rfl | rfl
    · exact itc_len ok2
    · exact itc_len ok1
  refine CW.region (ef := []) (bk := []) ?_
  refine RL.move rfl rfl rfl rfl ?_
  refine RL.bin rfl rfl rfl rfl rfl rfl ?_
  refine RL.move rfl rfl rfl rfl ?_
  apply RL.andB (d := 18) (dp := 21) (l' := (Sq.of [6, 7, 8, 9, 10, 11, 12, 13, 14, 15, 16, 17, 18, 19, 20, 21, 22, 23, 24, 25, 26, 27, 28, 29, 30, 31, 32, 33, 34, 35, 36, 37, 38, 39, 40])) rfl (.cons (k := 1) rfl (.cons (k := 4) rfl .nil))
  ·
    intro hb3 K3
    refine RL.move rfl rfl rfl rfl ?_
    refine RL.bin rfl rfl rfl rfl rfl rfl ?_
    refine RL.pickT rfl rfl rfl rfl rfl ?_
    exact K3 _ (.cons rfl (.cons (k := 1) rfl (.cons (k := 4) rfl .nil)))
  ·
    intro hb3 K3
    refine RL.skip rfl rfl rfl rfl ?_
    refine RL.skip rfl rfl rfl rfl ?_
    refine RL.pickF rfl rfl rfl rfl rfl ?_
    exact K3 _ (.cons rfl (.cons (k := 1) rfl (.cons (k := 4) rfl .nil)))
  refine RL.move rfl rfl rfl rfl ?_
  apply RL.andB (d := 22) (dp := 26) (l' := (Sq.of [11, 12, 13, 14, 15, 16, 17, 18, 19, 20, 21, 22, 23, 24, 25, 26, 27, 28, 29, 30, 31, 32, 33, 34, 35, 36, 37, 38, 39, 40])) rfl (.cons (k := 1) rfl (.cons (k := 4) rfl .nil))
  ·
    intro hb7 K7
    refine RL.move rfl rfl rfl rfl ?_
    refine RL.lenS Try.runUnderlying38 rfl rfl rfl rfl ?_
    refine RL.bin rfl rfl rfl rfl rfl rfl ?_
    refine RL.pickT rfl rfl rfl rfl rfl ?_
    exact K7 _ (.cons rfl (.cons (k := 1) rfl (.cons (k := 4) rfl .nil)))
  ·
    intro hb7 K7
    refine RL.skip rfl rfl rfl rfl ?_
    refine RL.skip rfl rfl rfl rfl ?_
    refine RL.skip rfl rfl rfl rfl ?_
    refine RL.pickF rfl rfl rfl rfl rfl ?_
    exact K7 _ (.cons rfl (.cons (k := 1) rfl (.cons (k := 4) rfl .nil)))
  refine RL.move rfl rfl rfl rfl ?_
  apply RL.andB (d := 27) (dp := 34) (l' := (Sq.of [19, 20, 21, 22, 23, 24, 25, 26, 27, 28, 29, 30, 31, 32, 33, 34, 35, 36, 37, 38, 39, 40])) rfl (.cons (k := 1) rfl (.cons (k := 4) rfl .nil))
  ·
    intro hb12 K12
    refine RL.move rfl rfl rfl rfl ?_
    refine RL.idxAt (j := 0) Try.runUnderlying38 Try.sizeOf41 rfl rfl rfl rfl rfl rfl (by simp) ?_
    refine RL.fieldAddr fa_41_0 rfl rfl rfl rfl ?_
    refine RL.fieldAddr fa_28_0 rfl rfl rfl rfl ?_
    refine RL.load (v := .int .u32 4) Try.isAgg26 rfl rfl rfl rfl (own_rd2 (i := 0) (j := 0) (List.Mem.head _) rfl hlen rfl) ?_
    refine RL.bin rfl rfl rfl rfl rfl rfl ?_
    refine RL.pickT rfl rfl rfl rfl rfl ?_
    exact K12 _ (.cons rfl (.cons (k := 1) rfl (.cons (k := 4) rfl .nil)))
  ·
    intro hb12 K12
    refine RL.skip rfl rfl rfl rfl ?_
    refine RL.skip rfl rfl rfl rfl ?_
    refine RL.skip rfl rfl rfl rfl ?_
    refine RL.skip rfl rfl rfl rfl ?_
    refine RL.skip rfl rfl rfl rfl ?_
    refine RL.skip rfl rfl rfl rfl ?_
    refine RL.pickF rfl rfl rfl rfl rfl ?_
    exact K12 _ (.cons rfl (.cons (k := 1) rfl (.cons (k := 4) rfl .nil)))
  refine RL.move rfl rfl rfl rfl ?_
  apply RL.andB (d := 35) (dp := 42) (l' := (Sq.of [27, 28, 29, 30, 31, 32, 33, 34, 35, 36, 37, 38, 39, 40])) rfl (.cons (k := 1) rfl (.cons (k := 4) rfl .nil))
  ·
    intro hb20 K20
    refine RL.move rfl rfl rfl rfl ?_
    refine RL.idxAt (j := 0) Try.runUnderlying38 Try.sizeOf41 rfl rfl rfl rfl rfl rfl (by simp) ?_
    refine RL.fieldAddr fa_41_0 rfl rfl rfl rfl ?_
    refine RL.fieldAddr fa_28_1 rfl rfl rfl rfl ?_
    refine RL.load (v := .int .u8 2) Try.isAgg5 rfl rfl rfl rfl (own_rd2 (i := 0) (j := 1) (List.Mem.head _) rfl hlen rfl) ?_
    refine RL.bin rfl rfl rfl rfl rfl rfl ?_
    refine RL.pickT rfl rfl rfl rfl rfl ?_
    exact K20 _ (.cons rfl (.cons (k := 1) rfl (.cons (k := 4) rfl .nil)))
  ·
    intro hb20 K20
    refine RL.skip rfl rfl rfl rfl ?_
    refine RL.skip rfl rfl rfl rfl ?_
    refine RL.skip rfl rfl rfl rfl ?_
    refine RL.skip rfl rfl rfl rfl ?_
    refine RL.skip rfl rfl rfl rfl ?_
    refine RL.skip rfl rfl rfl rfl ?_
    refine RL.pickF rfl rfl rfl rfl rfl ?_
    exact K20 _ (.cons rfl (.cons (k := 1) rfl (.cons (k := 4) rfl .nil)))
  refine RL.move rfl rfl rfl rfl ?_
  apply RL.andB (d := 43) (dp := 50) (l' := (Sq.of [35, 36, 37, 38, 39, 40])) rfl (.cons (k := 1) rfl .nil)
  ·
    intro hb28 K28
    refine RL.move rfl rfl rfl rfl ?_
    refine RL.idxAt (j := 1) Try.runUnderlying38 Try.sizeOf41 rfl rfl rfl rfl rfl rfl (by simp) ?_
    refine RL.fieldAddr fa_41_0 rfl rfl rfl rfl ?_
    refine RL.fieldAddr fa_28_0 rfl rfl rfl rfl ?_
    refine RL.load (v := .int .u32 5) Try.isAgg26 rfl rfl rfl rfl (own_rd2 (i := 1) (j := 0) (List.Mem.head _) rfl hlen rfl) ?_
    refine RL.bin rfl rfl rfl rfl rfl rfl ?_
    refine RL.pickT rfl rfl rfl rfl rfl ?_
    exact K28 _ (.cons rfl (.cons (k := 1) rfl .nil))
  ·
    intro hb28 K28
    refine RL.skip rfl rfl rfl rfl ?_
    refine RL.skip rfl rfl rfl rfl ?_
    refine RL.skip rfl rfl rfl rfl ?_
    refine RL.skip rfl rfl rfl rfl ?_
    refine RL.skip rfl rfl rfl rfl ?_
    refine RL.skip rfl rfl rfl rfl ?_
    refine RL.pickF rfl rfl rfl rfl rfl ?_
    exact K28 _ (.cons rfl (.cons (k := 1) rfl .nil))
  refine RL.move rfl rfl rfl rfl ?_
  apply RL.andB (d := 51) (dp := 55) (l' := (Sq.of [40])) rfl .nil
  ·
    intro hb36 K36
    refine RL.move rfl rfl rfl rfl ?_
    refine RL.callvq (qlen_any b r []) Try.call17 rfl rfl rfl rfl ?_
    refine RL.bin rfl rfl rfl rfl rfl rfl ?_
    refine RL.pickT rfl rfl rfl rfl rfl ?_
    exact K36 _ (.cons rfl .nil)
  ·
    intro hb36 K36
    refine RL.skip rfl rfl rfl rfl ?_
    refine RL.skip rfl rfl rfl rfl ?_
    refine RL.skip rfl rfl rfl rfl ?_
    refine RL.pickF rfl rfl rfl rfl rfl ?_
    exact K36 _ (.cons rfl .nil)
  refine RL.assign rfl rfl rfl rfl ?_
  refine RL.nil ?_
  refine NQ.seq ?_
  refine CW.ret ?_
  exact RQ.post (res1 rfl rfl) (Split.none _) ⟨rfl, rfl, rfl⟩
end Go.Proofs.Ytggmnhogmjglmaa
