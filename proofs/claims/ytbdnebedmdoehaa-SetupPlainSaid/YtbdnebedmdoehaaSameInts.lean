import Derived.Test.YtbdnebedmdoehaaBase0
import Derived.Test.YtbdnebedmdoehaaWide
namespace Go.Proofs.Ytbdnebedmdoehaa
open Go.PK

theorem RdI.sls {I : List It} {a : Addr} {n j : Nat} {l : List Int} {x : Int} (hm : sls (some a) 1 n (ints l) ∈ I) (h : l[j]? = some x) : RdI I (a.add (j * 1)) (.int .i64 x) := ⟨fun _ => by
  rw [Nat.mul_one]
  exact Rds.rd (Rds.sls hm) (by rw [List.getElem?_map, h]; rfl)⟩
theorem sameInts_any (p q : Option Addr) (c1 c2 : Nat) (a b : List Int) (ha : a.length ≤ maxLen) : Spc Try.prog 24 #[.slice p a.length c1, .slice q b.length c2] [sls p 1 a.length (ints a), sls q 1 b.length (ints b)] [] (Is (.bool (a == b))) := by
  have ha : a.length ≤ 9223372036854775807 := ha
  refine Spc.enter Try.func24 rfl rfl rfl (fun w0 hw0 => ?_)
  refine CW.seq (CW.rg (RL.p rfl (RL.nil (NQ.seq (CW.seq (CW.seq (CW.rg (RL.p rfl (RL.lenS Try.runUnderlying22 rfl rfl rfl rfl (RL.p rfl (RL.lenS Try.runUnderlying22 rfl rfl rfl rfl (RL.p rfl (RL.nil ?_)))))))))))))
  refine NQ.seq ?_
  refine CW.cond rfl (fun hl => ?_) (fun hl => ?_)
  ·
    refine CW.seq (CW.rg (RL.p rfl (RL.nil (NQ.seq (CW.ret (RQ.seq ?_))))))
    have hl : a.length ≠ b.length := by simp at hl; omega
    have hne : (a == b) = false := by simp; intro h; exact hl (by rw [h])
    exact RQ.post (res1 rfl rfl) (Split.none _) ⟨by rw [hne], rfl, rfl⟩
  ·
    refine CW.skip (NQ.seq (CW.ok [0, 1] rfl (CW.seq (CW.seq (CW.rg (RL.p rfl (RL.nil (NQ.seq (CW.block ?_)))))))))
    have hl : a.length = b.length := by simp at hl; omega
    refine CW.loop (γ := Nat) (fun i => i ≤ a.length ∧ a.take i = b.take i) (fun i => [(0, .slice p a.length c1), (1, .slice q b.length c2), (5, .int .i64 (i : Int))]) (fun _ => [sls p 1 a.length (ints a), sls q 1 b.length (ints b)]) (fun _ => []) (fun i => a.length - i) 0 ⟨by omega, by simp⟩ (.cons rfl (.cons rfl (.cons rfl .nil))) (fun w h => h) ?_
    rintro i ⟨hi, ht⟩
    refine CW.fact (p := (p = none → a.length = 0) ∧ (q = none → b.length = 0)) (fun w hC => ⟨fun e => sls_nil (hC.s.i (sls p 1 a.length (ints a)) (by repeat (first | exact List.Mem.head _ | apply List.Mem.tail))) e, fun e => sls_nil (hC.s.i (sls q 1 b.length (ints b)) (by repeat (first | exact List.Mem.head _ | apply List.Mem.tail))) e⟩) (fun ⟨hp, hq⟩ => ?_)
    refine CW.seq (CW.seq (CW.rg (RL.p rfl (RL.p rfl (RL.lenS Try.runUnderlying22 rfl rfl rfl rfl (RL.p rfl (RL.nil (NQ.seq ?_))))))))
    refine CW.cond rfl (fun hlt => ?_) (fun hlt => ?_)
    ·
      have hlt : i < a.length := by simp at hlt; omega
      have hlb : i < b.length := by omega
      cases p with
      | none => exact absurd (hp rfl) (by omega)
      | some a' =>
      cases q with
      | none => exact absurd (hq rfl) (by omega)
      | some b' =>
      have f1 := RdI.sls (I := [sls (some a') 1 a.length (ints a), sls (some b') 1 b.length (ints b)]) (List.Mem.head _) (List.getElem?_eq_getElem hlt)
      have f2 := RdI.sls (I := [sls (some a') 1 a.length (ints a), sls (some b') 1 b.length (ints b)]) (List.Mem.tail _ (List.Mem.head _)) (List.getElem?_eq_getElem hlb)
      refine CW.skip (NQ.seq (CW.seq (CW.block (CW.seq (CW.regionD (Sq.of [0, 1, 2, 3, 4, 5, 6, 7, 8]) [] [] [0, 1, 2, 3, 4, 5, 6, 7, 8] mixed (by kernel_rfl) ?_)))))
      refine RL.p rfl (RL.p rfl ?_)
      first | refine RL.idxAt (j := i) Try.runUnderlying22 Try.sizeOf3 rfl rfl rfl rfl rfl rfl (by omega) ?_ | refine RL.idx (j := i) Try.runUnderlying22 Try.sizeOf3 rfl rfl rfl rfl rfl rfl (by omega) ?_
      refine RL.loadTq Try.isAgg3 rfl rfl rfl rfl ?_
      refine RL.p rfl (RL.p rfl ?_)
      first | refine RL.idxAt (j := i) Try.runUnderlying22 Try.sizeOf3 rfl rfl rfl rfl rfl rfl (by omega) ?_ | refine RL.idx (j := i) Try.runUnderlying22 Try.sizeOf3 rfl rfl rfl rfl rfl rfl (by omega) ?_
      refine RL.loadTq Try.isAgg3 rfl rfl rfl rfl ?_
      refine RL.p rfl (RL.nil (NQ.seq (CW.ok [0, 1, 5, 25] rfl ?_)))
      refine CW.cond rfl (fun hx => ?_) (fun hx => ?_)
      ·
        refine CW.seq (CW.rg (RL.p rfl (RL.nil (NQ.seq (CW.ret (RQ.block (RQ.seq (RQ.seq (RQ.block (RQ.seq ?_))))))))))
        have hx : a[i] ≠ b[i] := by simpa using hx
        have hne : (a == b) = false := by
          simp only [beq_eq_false_iff_ne]; intro h; subst h; exact hx rfl
        exact RQ.post (res1 rfl rfl) (Split.none _) ⟨by rw [hne], rfl, rfl⟩
      ·
        refine CW.skip (NQ.block (NQ.seq (CW.rg (RL.p rfl (RL.bx rfl (wrapV_i64 (by omega) (by omega)) ?_)))))
        refine RL.p rfl (RL.nil ?_)
        have hx : a[i] = b[i] := by simpa using hx
        refine NQ.round (g := i) (i + 1) ⟨hlt, ?_⟩ (by omega) (.cons rfl (.cons rfl (.cons rfl .nil))) (fun w h => h)
        rw [List.take_succ_eq_append_getElem hlt, List.take_succ_eq_append_getElem hlb, ht, hx]
    ·
      refine CW.exit (XQ.seq (XQ.seq (XQ.hit (NQ.seq (CW.ok [] rfl (CW.seq (CW.rg (RL.p rfl (RL.nil (NQ.seq (CW.ret ?_)))))))))))
      have hin : i = a.length := by simp at hlt; omega
      have he : a = b := by
        rw [hin, List.take_length] at ht
        rw [ht, List.take_of_length_le (by omega)]
      exact RQ.post (res1 rfl rfl) (Split.none _) ⟨by rw [he]; simp, rfl, rfl⟩
end Go.Proofs.Ytbdnebedmdoehaa
