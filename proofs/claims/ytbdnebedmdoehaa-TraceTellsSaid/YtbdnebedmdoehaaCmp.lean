import Derived.Test.YtbdnebedmdoehaaFacts
namespace Go.Proofs.Ytbdnebedmdoehaa
open Go.PK
def cmpI (x y : Int) : Int := if x < y then -1 else if y < x then 1 else 0
theorem nan_int (x : Int) : Spc Try.prog 98 #[.int .i64 x] [] [] (Is (.bool false)) := by
  refine Spc.enter Try.func98 rfl rfl rfl (fun w0 hw0 => ?_)
  refine CW.seq (CW.rg (RL.p rfl (RL.nil (NQ.seq (CW.seq (CW.rg (RL.p rfl (RL.p rfl (RL.p rfl (RL.p rfl (RL.nil (NQ.seq (CW.ret ?_)))))))))))))
  exact RQ.post (res1 rfl rfl) (Split.none _) ⟨by simp, rfl, rfl⟩
theorem cmp_int (x y : Int) : Spc Try.prog 66 #[.int .i64 x, .int .i64 y] [] [] (Is (.int .i64 (cmpI x y))) := by
  refine Spc.enter Try.func66 rfl rfl rfl (fun w0 hw0 => ?_)
  refine CW.seq (CW.rg (RL.p rfl (RL.nil (NQ.seq (CW.seq (CW.rg (RL.p rfl (RL.callvq (nan_int _) Try.call98 rfl rfl rfl rfl ?_))))))))
  refine RL.p rfl (RL.nil (NQ.seq (CW.seq (CW.rg (RL.p rfl (RL.callvq (nan_int _) Try.call98 rfl rfl rfl rfl ?_))))))
  refine RL.p rfl (RL.nil (NQ.seq (CW.seq (CW.seq (CW.rg (RL.p rfl (RL.nil (NQ.seq (CW.condF rfl (rfl) (CW.skip (NQ.seq (CW.ok [0, 1, 6] rfl (CW.seq ?_)))))))))))))
  refine CW.seq (CW.rg (RL.p rfl (RL.nil (NQ.seq (CW.condF rfl (rfl) (CW.skip (NQ.seq (CW.seq (CW.seq (CW.rg (RL.p rfl (RL.p rfl (RL.p rfl ?_)))))))))))))
  refine RL.nil (NQ.seq ?_)
  refine CW.cond rfl (fun h1 => ?_) (fun h1 => ?_)
  ·
    refine CW.seq (CW.rg (RL.p rfl (RL.nil (NQ.seq (CW.ret (RQ.seq ?_))))))
    simp only [decide_eq_true_eq] at h1
    exact RQ.post (res1 rfl rfl) (Split.none _) ⟨by rw [cmpI, if_pos h1], rfl, rfl⟩
  ·
    refine CW.skip (NQ.seq (CW.seq (CW.seq (CW.rg (RL.p rfl (RL.p rfl (RL.p rfl (RL.nil (NQ.seq (CW.ok [19] rfl ?_))))))))))
    simp only [decide_eq_false_iff_not] at h1
    refine CW.cond rfl (fun h2 => ?_) (fun h2 => ?_)
    ·
      refine CW.seq (CW.rg (RL.p rfl (RL.nil (NQ.seq (CW.ret (RQ.seq ?_))))))
      simp only [decide_eq_true_eq] at h2
      exact RQ.post (res1 rfl rfl) (Split.none _) ⟨by rw [cmpI, if_neg h1, if_pos h2], rfl, rfl⟩
    ·
      refine CW.skip (NQ.seq (CW.seq (CW.rg (RL.p rfl (RL.nil (NQ.seq (CW.ret ?_)))))))
      simp only [decide_eq_false_iff_not] at h2
      exact RQ.post (res1 rfl rfl) (Split.none _) ⟨by rw [cmpI, if_neg h1, if_neg h2], rfl, rfl⟩
def orL : List Int → Int
  | [] => 0
  | x :: r => if x = 0 then orL r else x
theorem or_any (p : Option Addr) (n c : Nat) (l : List Int) (hn : l.length = n) (hb : n ≤ 1000000) : Spc Try.prog 65 #[.slice p n c] [sls p 1 n (l.map (Value.int .i64))] [] (Is (.int .i64 (orL l))) := by
  subst hn
  refine Spc.enter Try.func65 rfl rfl rfl (fun w0 hw0 => ?_)
  refine CW.seq (CW.rg (RL.p rfl (RL.nil (NQ.seq (CW.seq (CW.rg (RL.p rfl (RL.nil (NQ.seq (CW.seq (CW.seq (CW.rg (RL.p rfl ?_)))))))))))))
  refine RL.lenS Try.runUnderlying22 rfl rfl rfl rfl (RL.p rfl (RL.nil (NQ.seq (CW.block ?_))))
  refine CW.fact (p := p = none → l.length = 0) (fun w hC e => sls_nil (hC.s.i _ (List.Mem.head _)) e) (fun hpp => ?_)
  refine CW.loop (γ := Nat) (fun i => i ≤ l.length ∧ orL (l.drop i) = orL l) (fun i => [(3, .int .i64 0), (6, .slice p l.length c), (7, .int .i64 (l.length : Int)), (8, .int .i64 (i : Int))]) (fun _ => [sls p 1 l.length (l.map (Value.int .i64))])
    (fun _ => []) (fun i => l.length - i) 0 ⟨by omega, rfl⟩ (.cons rfl (.cons rfl (.cons rfl (.cons rfl .nil)))) (fun w h => h) ?_
  rintro i ⟨hi, he⟩
  refine CW.seq (CW.rg (RL.p rfl (RL.nil (NQ.seq (CW.seq ?_)))))
  refine CW.cond rfl (fun hlt => ?_) (fun hlt => ?_)
  ·
    have hlt : i < l.length := by simp at hlt; omega
    obtain ⟨a, rfl⟩ : ∃ a, p = some a := by
      cases p with
      | none => exact absurd (hpp rfl) (by omega)
      | some a => exact ⟨a, rfl⟩
    rw [List.drop_eq_getElem_cons hlt, orL] at he
    have hg : (l.map (Value.int .i64))[i * 1]? = some (.int .i64 l[i]) := by rw [Nat.mul_one, List.getElem?_map, List.getElem?_eq_getElem hlt]; rfl
    refine CW.skip (NQ.seq (CW.seq (CW.block (CW.seq (CW.rg (RL.idx (j := i) Try.runUnderlying22 Try.sizeOf3 rfl rfl rfl rfl rfl rfl hlt (RL.load Try.isAgg3 rfl rfl rfl rfl (Rd.getS (List.Mem.head _) hg) (RL.p rfl (RL.nil (NQ.seq (CW.seq (CW.rg (RL.p rfl ?_)))))))))))))
    refine RL.p rfl (RL.p rfl (RL.nil (NQ.seq ?_)))
    refine CW.cond rfl (fun h0 => ?_) (fun h0 => ?_)
    ·
      refine CW.seq (CW.rg (RL.p rfl (RL.p rfl (RL.nil (NQ.seq (CW.ok [2, 3, 6, 7, 8] rfl (CW.ret (RQ.block (RQ.seq (RQ.seq (RQ.block (RQ.seq ?_))))))))))))
      rw [if_neg (by simpa using h0)] at he
      exact RQ.post (res1 rfl rfl) (Split.none _) ⟨by rw [← he], rfl, rfl⟩
    ·
      refine CW.skip (NQ.block (NQ.seq (CW.ok [3, 6, 7, 8] rfl (CW.rg (RL.bx rfl (wrapV_i64 (by omega) (by omega)) ?_)))))
      refine RL.p rfl (RL.nil ?_)
      rw [if_pos (by simpa using h0)] at he
      refine NQ.round (g := i) (i + 1) ⟨hlt, he⟩ (by show l.length - (i + 1) < l.length - i; omega) (.cons rfl (.cons rfl (.cons rfl (.cons rfl .nil)))) (fun w h => h)
  ·
    have hin : i = l.length := by simp at hlt; omega
    subst hin
    rw [List.drop_length] at he
    refine CW.exit (XQ.seq (XQ.seq (XQ.hit (NQ.seq (CW.seq (CW.rg (RL.p rfl (RL.p rfl (RL.nil (NQ.seq (CW.ok [2] rfl (CW.ret ?_))))))))))))
    exact RQ.post (res1 rfl rfl) (Split.none _) ⟨by rw [← he]; rfl, rfl, rfl⟩
/-- Two numbers, one behind the other. -/
def cmp2 (a b c d : Int) : Int := if cmpI a b = 0 then cmpI c d else cmpI a b
theorem or2 (a b c d : Int) : orL [cmpI a b, cmpI c d] = cmp2 a b c d := by
  simp only [orL, cmp2]
  split
  · split
    · next h => exact h.symm
    · rfl
  · rfl
theorem cmp2_neg (a b c d : Int) : cmp2 a b c d < 0 ↔ a < b ∨ a = b ∧ c < d := by
  simp only [cmp2, cmpI]
  split <;> split <;> (try split) <;> (try split) <;> omega
end Go.Proofs.Ytbdnebedmdoehaa
