import Derived.Test.YthgjgeapfndeeaaGreatDoorHA
import Derived.Test.YthgjgeapfndeeaaGreatDoorPC
set_option linter.unusedVariables false
set_option linter.unusedSimpArgs false
namespace Go.Proofs.YthgjgeapfndeeaaGreatDoor
open Go.PK

theorem ws_get (m : List B8) {n j : Nat} (h : j < n) : (words (ws m n))[j * 1]? = some (U32 ((ws m n).getD j 0)) := by
  have : j < (ws m n).length := by rw [ws_length]; exact h
  rw [Nat.mul_one]; simp [this]
theorem ws_more (m : List B8) (n : Nat) {x : B32} (h : word m (ws m n) n = x) : words (ws m n) ++ [U32 x] = words (ws m (n + 1)) := by
  rw [ws, h]; simp

set_option maxHeartbeats 4000000 in
theorem block_any (s : S8) (m : List B8) (p : Addr) (cap : Nat) (hm : m.length = 64) : Spc Tryz.prog 354 #[.agg s.cells.toArray, .slice (some p) 64 cap] [sls (some p) 1 64 (bytes m)] [] (Is (.agg (comp s m).cells.toArray)) := by
  refine Spc.enter Tryz.func354 rfl rfl rfl (fun w0 hw0 => ?_)
  refine CW.seq (CW.region (ef := [0, 1]) (bk := []) (RL.box rfl rfl rfl rfl rfl rfl ?_))
  intro b1
  refine RL.alloc Tryz.zeroValue545 rfl rfl rfl rfl rfl ?_
  intro b2
  refine RL.nil (NQ.seq (CW.seq (CW.region (ef := [0]) (bk := []) (RL.buildSlice [] Tryz.runUnderlying669 Tryz.sizeOf90 Tryz.zeroValue90 rfl rfl (by decide) (by decide) rfl rfl rfl rfl rfl rfl ?_))))
  intro b3
  refine RL.p rfl (RL.nil (NQ.seq (CW.seq (CW.seq (CW.rg (RL.p rfl (RL.nil (NQ.seq (CW.block ?_)))))))))
  refine CW.loop (γ := Nat × Nat × Nat) (fun g => g.1 ≤ 16) (fun g => [(1, .slice (some p) 64 cap), (2, .pointer (some ⟨b1, 0, none⟩)), (4, .pointer (some ⟨b2, 0, none⟩)), (5, slO (some g.2.1) g.1 g.2.2), (6, .int .i64 (g.1 : Int))])
    (fun _ => [sls (some p) 1 64 (bytes m)]) (fun g => [own (some g.2.1) g.2.2 90 1 g.1 (words (ws m g.1)), cel b2 (List.replicate 8 (U32 0#32)) 545, cel b1 s.cells 545]) (fun g => 16 - g.1) (0, b3, 0) (by simp) (.cons rfl (.cons rfl (.cons rfl (.cons rfl (.cons rfl .nil)))))
    (fun _ h => h.conv .here rfl (fun hA => own_of_cel hA (Nat.le_refl 0) (Nat.zero_le _) rfl)) ?_
  rintro ⟨n, b, c⟩ hn
  dsimp only at hn ⊢
  refine CW.seq (CW.seq (CW.rg (RL.p rfl (RL.p rfl (RL.nil (NQ.seq ?_))))))
  refine CW.cond rfl (fun hlt => ?_) (fun hlt => ?_)
  ·
    refine CW.skip (NQ.seq (CW.seq (CW.block (CW.regionD (Sq.of [0, 1, 2, 3, 4, 5, 6, 7, 8, 9, 10, 11, 12, 13, 14, 15, 16, 17, 18, 19, 20, 21, 22, 23, 24, 25, 26, 27, 28, 29, 30, 31, 32, 33, 34, 35, 36]) [34, 35] [35] [0, 1, 2, 3, 4, 6, 7, 8, 9, 10, 11, 12, 14, 15, 16, 17, 18, 19, 20, 21, 23, 24, 25, 26, 27, 28, 29, 30, 32, 33, 36] mixed (by kernel_rfl) ?_))))
    refine RL.p rfl (RL.p rfl (RL.p rfl (RL.bx rfl (wrapV_i64 (by omega) (by omega)) ?_)))
    have hlt : n < 16 := by simp at hlt; omega
    have g0 := bytes_get (m := m) (j := (4 * n) * 1) (by omega)
    have g1 := bytes_get (m := m) (j := (4 * n + 1) * 1) (by omega)
    have g2 := bytes_get (m := m) (j := (4 * n + 2) * 1) (by omega)
    have g3 := bytes_get (m := m) (j := (4 * n + 3) * 1) (by omega)
    refine RL.idx (j := 4 * n) Tryz.runUnderlying22 Tryz.sizeOf5 rfl rfl rfl rfl rfl (by omega) (by omega) ?_
    refine RL.loadq Tryz.isAgg5 rfl rfl rfl rfl ?_
    refine RL.widen Tryz.runUnderlying5 Tryz.runUnderlying90 rfl rfl rfl rfl (RL.bv32 (a := 16777216#32) (b := _) mul32 rfl rfl rfl rfl rfl ?_)
    refine RL.p rfl (RL.p rfl (RL.bx rfl (wrapV_i64 (by omega) (by omega)) ?_))
    refine RL.bx rfl (wrapV_i64 (by omega) (by omega)) ?_
    refine RL.idx (j := 4 * n + 1) Tryz.runUnderlying22 Tryz.sizeOf5 rfl rfl rfl rfl rfl (by omega) (by omega) ?_
    refine RL.loadq Tryz.isAgg5 rfl rfl rfl rfl ?_
    refine RL.widen Tryz.runUnderlying5 Tryz.runUnderlying90 rfl rfl rfl rfl (RL.bv32 (a := 65536#32) (b := _) mul32 rfl rfl rfl rfl rfl ?_)
    refine RL.bv32 (a := _) (b := _) add32 rfl rfl rfl rfl rfl ?_
    refine RL.p rfl (RL.p rfl (RL.bx rfl (wrapV_i64 (by omega) (by omega)) ?_))
    refine RL.bx rfl (wrapV_i64 (by omega) (by omega)) ?_
    refine RL.idx (j := 4 * n + 2) Tryz.runUnderlying22 Tryz.sizeOf5 rfl rfl rfl rfl rfl (by omega) (by omega) ?_
    refine RL.loadq Tryz.isAgg5 rfl rfl rfl rfl ?_
    refine RL.widen Tryz.runUnderlying5 Tryz.runUnderlying90 rfl rfl rfl rfl (RL.bv32 (a := 256#32) (b := _) mul32 rfl rfl rfl rfl rfl ?_)
    refine RL.bv32 (a := _) (b := _) add32 rfl rfl rfl rfl rfl ?_
    refine RL.p rfl (RL.p rfl (RL.bx rfl (wrapV_i64 (by omega) (by omega)) ?_))
    refine RL.bx rfl (wrapV_i64 (by omega) (by omega)) ?_
    refine RL.idx (j := 4 * n + 3) Tryz.runUnderlying22 Tryz.sizeOf5 rfl rfl rfl rfl rfl (by omega) (by omega) ?_
    refine RL.loadq Tryz.isAgg5 rfl rfl rfl rfl ?_
    refine RL.widen Tryz.runUnderlying5 Tryz.runUnderlying90 rfl rfl rfl rfl (RL.bv32 (a := _) (b := _) add32 rfl rfl rfl rfl rfl ?_)
    refine RL.buildSlice [_] Tryz.runUnderlying669 Tryz.sizeOf90 Tryz.zeroValue90 rfl rfl (by decide) (by decide) rfl rfl rfl rfl rfl rfl ?_
    intro b4
    refine RL.append el_669 rfl rfl rfl rfl rfl rfl rfl (Src.cel (mm := 1) (by repeat (first | exact List.Mem.head _ | apply List.Mem.tail)) rfl) (by simp [U32, Value.oneCell']) (by simp [maxLen]; omega) (by omega) (by repeat (first | exact Pick.nil | apply Pick.take | apply Pick.leave)) ?_
    rintro ob' c' hs
    obtain ⟨b', rfl⟩ : ∃ b', ob' = some b' := by
      cases ob' with
      | none => simp at hs
      | some b' => exact ⟨b', rfl⟩
    refine RL.p rfl (RL.nil (NQ.block (NQ.seq (CW.ok [1, 2, 4, 5, 6] rfl (CW.rg (RL.p rfl (RL.bx rfl (wrapV_i64 (by omega) (by omega)) ?_)))))))
    refine RL.p rfl (RL.nil ?_)
    have hwd : word m (ws m n) n = 16777216#32 * (m.getD ((4 * n) * 1) 0).setWidth 32 + 65536#32 * (m.getD ((4 * n + 1) * 1) 0).setWidth 32 + 256#32 * (m.getD ((4 * n + 2) * 1) 0).setWidth 32 + (m.getD ((4 * n + 3) * 1) 0).setWidth 32 := by
      rw [word, if_pos hlt, be_eq]; simp
    refine NQ.round (g := (n, b, c)) (n + 1, b', c') (by simp; omega) (by simp; omega) (.cons rfl (.cons rfl (.cons rfl (.cons rfl (.cons rfl .nil))))) (fun _ h => ?_)
    dsimp only
    rw [← ws_more m n hwd]
    exact h.rea (fun _ h => h) (by repeat (first | exact Rea.nil | (apply Rea.cons; (solve | (repeat (first | exact Del.here | apply Del.there))))))
  ·
    refine CW.exit (XQ.seq (XQ.seq (XQ.hit (NQ.seq (CW.seq (CW.seq (CW.rg (RL.p rfl (RL.nil (NQ.seq (CW.block ?_)))))))))))
    have hn16 : n = 16 := by simp at hlt; omega
    subst hn16
    refine CW.loop (γ := Nat × Nat × Nat) (fun g => 16 ≤ g.1 ∧ g.1 ≤ 64) (fun g => [(2, .pointer (some ⟨b1, 0, none⟩)), (4, .pointer (some ⟨b2, 0, none⟩)), (5, slO (some g.2.1) g.1 g.2.2), (7, .int .i64 (g.1 : Int))])
      (fun _ => [sls (some p) 1 64 (bytes m)]) (fun g => [own (some g.2.1) g.2.2 90 1 g.1 (words (ws m g.1)), cel b2 (List.replicate 8 (U32 0#32)) 545, cel b1 s.cells 545]) (fun g => 64 - g.1) (16, b, c) (by simp) (.cons rfl (.cons rfl (.cons rfl (.cons rfl .nil))))
      (fun _ h => h) ?_
    clear hlt hn b c
    rintro ⟨n, b, c⟩ hn
    dsimp only at hn ⊢
    refine CW.seq (CW.seq (CW.rg (RL.p rfl (RL.p rfl (RL.nil (NQ.seq ?_))))))
    refine CW.cond rfl (fun hlt => ?_) (fun hlt => ?_)
    ·
      refine CW.skip (NQ.seq (CW.seq (CW.block (CW.seq (CW.regionD (Sq.of [0, 1, 2, 3, 4, 5, 6, 7, 8, 9, 10, 11]) [] [] [0, 1, 2, 3, 5, 6, 7, 8, 10, 11] mixed (by kernel_rfl) ?_)))))
      refine RL.p rfl (RL.p rfl (RL.bx rfl (wrapV_i64 (by omega) (by omega)) ?_))
      have hlt : n < 64 := by simp at hlt; omega
      have g2 := ws_get m (n := n) (j := n - 2) (by omega)
      have g7 := ws_get m (n := n) (j := n - 7) (by omega)
      have g15 := ws_get m (n := n) (j := n - 15) (by omega)
      have g16 := ws_get m (n := n) (j := n - 16) (by omega)
      refine RL.idx (j := n - 15) Tryz.runUnderlying669 Tryz.sizeOf90 rfl rfl rfl rfl rfl (by omega) (by omega) ?_
      refine RL.loadq Tryz.isAgg90 rfl rfl rfl rfl ?_
      refine RL.p rfl (RL.p rfl (RL.bx rfl (wrapV_i64 (by omega) (by omega)) ?_))
      refine RL.idx (j := n - 2) Tryz.runUnderlying669 Tryz.sizeOf90 rfl rfl rfl rfl rfl (by omega) (by omega) ?_
      refine RL.loadq Tryz.isAgg90 rfl rfl rfl rfl ?_
      refine RL.p rfl (RL.p rfl (RL.nil (NQ.seq (CW.ok [2, 4, 5, 7, 8, 9] rfl (CW.seq (CW.rg (RL.p rfl (RL.callvq (rright_any _ _ (by decide)) Tryz.call421 rfl rfl rfl rfl ?_))))))))
      refine RL.p rfl (RL.callvq (rright_any _ _ (by decide)) Tryz.call421 rfl rfl rfl rfl ?_)
      refine RL.bv32 (a := _) (b := _) xor32 rfl rfl rfl rfl rfl ?_
      refine RL.p rfl (RL.callvq (rdown_any _ _ (by decide)) Tryz.call422 rfl rfl rfl rfl ?_)
      refine RL.bv32 (a := _) (b := _) xor32 rfl rfl rfl rfl rfl ?_
      refine RL.p rfl (RL.nil (NQ.seq (CW.ok [2, 4, 5, 7, 9, 10] rfl (CW.seq (CW.rg (RL.p rfl (RL.callvq (rright_any _ _ (by decide)) Tryz.call421 rfl rfl rfl rfl ?_)))))))
      refine RL.p rfl (RL.callvq (rright_any _ _ (by decide)) Tryz.call421 rfl rfl rfl rfl ?_)
      refine RL.bv32 (a := _) (b := _) xor32 rfl rfl rfl rfl rfl ?_
      refine RL.p rfl (RL.callvq (rdown_any _ _ (by decide)) Tryz.call422 rfl rfl rfl rfl ?_)
      refine RL.bv32 (a := _) (b := _) xor32 rfl rfl rfl rfl rfl ?_
      refine RL.p rfl (RL.nil (NQ.seq (CW.ok [2, 4, 5, 7, 10, 11] rfl (CW.regionD (Sq.of [0, 1, 2, 3, 4, 5, 6, 7, 8, 9, 10, 11, 12, 13, 14, 15, 16, 17, 18]) [16, 17] [17] [0, 1, 2, 3, 4, 5, 7, 8, 9, 10, 11, 12, 13, 15, 18] mixed (by kernel_rfl) ?_))))
      refine RL.p rfl (RL.p rfl (RL.p rfl (RL.p rfl (RL.bx rfl (wrapV_i64 (by omega) (by omega)) ?_))))
      refine RL.idx (j := n - 7) Tryz.runUnderlying669 Tryz.sizeOf90 rfl rfl rfl rfl rfl (by omega) (by omega) ?_
      refine RL.loadq Tryz.isAgg90 rfl rfl rfl rfl ?_
      refine RL.bv32 (a := _) (b := _) add32 rfl rfl rfl rfl rfl ?_
      refine RL.p rfl (RL.bv32 (a := _) (b := _) add32 rfl rfl rfl rfl rfl ?_)
      refine RL.p rfl (RL.p rfl (RL.bx rfl (wrapV_i64 (by omega) (by omega)) ?_))
      refine RL.idx (j := n - 16) Tryz.runUnderlying669 Tryz.sizeOf90 rfl rfl rfl rfl rfl (by omega) (by omega) ?_
      refine RL.loadq Tryz.isAgg90 rfl rfl rfl rfl ?_
      refine RL.bv32 (a := _) (b := _) add32 rfl rfl rfl rfl rfl ?_
      refine RL.buildSlice [_] Tryz.runUnderlying669 Tryz.sizeOf90 Tryz.zeroValue90 rfl rfl (by decide) (by decide) rfl rfl rfl rfl rfl rfl ?_
      intro b4
      refine RL.append el_669 rfl rfl rfl rfl rfl rfl rfl (Src.cel (mm := 1) (by repeat (first | exact List.Mem.head _ | apply List.Mem.tail)) rfl) (by simp [U32, Value.oneCell']) (by simp [maxLen]; omega) (by omega) (by repeat (first | exact Pick.nil | apply Pick.take | apply Pick.leave)) ?_
      rintro ob' c' hs
      obtain ⟨b', rfl⟩ : ∃ b', ob' = some b' := by
        cases ob' with
        | none => simp at hs
        | some b' => exact ⟨b', rfl⟩
      refine RL.p rfl (RL.nil (NQ.block (NQ.seq (CW.ok [2, 4, 5, 7] rfl (CW.rg (RL.p rfl (RL.bx rfl (wrapV_i64 (by omega) (by omega)) ?_)))))))
      refine RL.p rfl (RL.nil ?_)
      refine NQ.round (g := (n, b, c)) (n + 1, b', c') (by simp; omega) (by simp; omega) (.cons rfl (.cons rfl (.cons rfl (.cons rfl .nil)))) (fun _ h => ?_)
      dsimp only
      rw [← ws_more m n (by rw [word, if_neg (by omega)])]
      exact h.rea (fun _ h => h) (by repeat (first | exact Rea.nil | (apply Rea.cons; (solve | (repeat (first | exact Del.here | apply Del.there))))))
    ·
      have hn64 : n = 64 := by simp at hlt; omega
      subst hn64
      refine CW.exit (XQ.seq (XQ.seq (XQ.hit (NQ.seq (CW.seq (CW.region (ef := [0]) (bk := []) (RL.callq (rtable_any) Tryz.call423 rfl rfl rfl rfl rfl (.inl rfl) ?_)))))))
      rintro _ _ _ ⟨bk, rfl, rfl, rfl⟩
      refine RL.p rfl (RL.nil (NQ.seq (CW.seq (CW.regionD (Sq.of [0, 1, 2, 3, 4, 5, 6, 7, 8, 9, 10, 11, 12, 13, 14, 15, 16, 17, 18, 19, 20, 21, 22, 23]) [] [] [0, 2, 4, 6, 8, 10, 12, 14, 16, 17, 18, 19, 20, 21, 22, 23] mixed (by kernel_rfl) ?_))))
      refine RL.idxAAt (j := 0) Tryz.runUnderlying545 Tryz.sizeOf90 rfl rfl rfl rfl rfl rfl (by decide) ?_
      refine RL.loadq Tryz.isAgg90 rfl rfl rfl rfl ?_
      refine RL.idxAAt (j := 1) Tryz.runUnderlying545 Tryz.sizeOf90 rfl rfl rfl rfl rfl rfl (by decide) ?_
      refine RL.loadq Tryz.isAgg90 rfl rfl rfl rfl ?_
      refine RL.idxAAt (j := 2) Tryz.runUnderlying545 Tryz.sizeOf90 rfl rfl rfl rfl rfl rfl (by decide) ?_
      refine RL.loadq Tryz.isAgg90 rfl rfl rfl rfl ?_
      refine RL.idxAAt (j := 3) Tryz.runUnderlying545 Tryz.sizeOf90 rfl rfl rfl rfl rfl rfl (by decide) ?_
      refine RL.loadq Tryz.isAgg90 rfl rfl rfl rfl ?_
      refine RL.idxAAt (j := 4) Tryz.runUnderlying545 Tryz.sizeOf90 rfl rfl rfl rfl rfl rfl (by decide) ?_
      refine RL.loadq Tryz.isAgg90 rfl rfl rfl rfl ?_
      refine RL.idxAAt (j := 5) Tryz.runUnderlying545 Tryz.sizeOf90 rfl rfl rfl rfl rfl rfl (by decide) ?_
      refine RL.loadq Tryz.isAgg90 rfl rfl rfl rfl ?_
      refine RL.idxAAt (j := 6) Tryz.runUnderlying545 Tryz.sizeOf90 rfl rfl rfl rfl rfl rfl (by decide) ?_
      refine RL.loadq Tryz.isAgg90 rfl rfl rfl rfl ?_
      refine RL.idxAAt (j := 7) Tryz.runUnderlying545 Tryz.sizeOf90 rfl rfl rfl rfl rfl rfl (by decide) ?_
      refine RL.loadq Tryz.isAgg90 rfl rfl rfl rfl ?_
      refine RL.p rfl (RL.p rfl (RL.p rfl (RL.p rfl (RL.p rfl (RL.p rfl (RL.p rfl (RL.p rfl (RL.nil (NQ.seq (CW.ok [2, 4, 5, 12, 13, 14, 15, 16, 17, 18, 19, 20] rfl (CW.seq (CW.seq (CW.rg ?_)))))))))))))
      refine RL.p rfl (RL.nil (NQ.seq (CW.block ?_)))
      refine CW.loop (γ := Nat) (fun n => n ≤ 64) (fun n => [(2, .pointer (some ⟨b1, 0, none⟩)), (4, .pointer (some ⟨b2, 0, none⟩)), (5, slO (some b) 64 c), (12, .slice (some ⟨bk, 0, none⟩) 64 64), (13, U32 (rounds s (ws m 64) n).a), (14, U32 (rounds s (ws m 64) n).b), (15, U32 (rounds s (ws m 64) n).c), (16, U32 (rounds s (ws m 64) n).d), (17, U32 (rounds s (ws m 64) n).e), (18, U32 (rounds s (ws m 64) n).f), (19, U32 (rounds s (ws m 64) n).g), (20, U32 (rounds s (ws m 64) n).h), (21, .int .i64 (n : Int))])
        (fun _ => [sls (some p) 1 64 (bytes m)]) (fun _ => [cel bk (words K) 90, own (some b) c 90 1 64 (words (ws m 64)), cel b2 (List.replicate 8 (U32 0#32)) 545, cel b1 s.cells 545]) (fun n => 64 - n) 0 (by simp)
        (.cons rfl (.cons rfl (.cons rfl (.cons rfl (.cons rfl (.cons rfl (.cons rfl (.cons rfl (.cons rfl (.cons rfl (.cons rfl (.cons rfl (.cons rfl .nil))))))))))))) (fun _ h => h) ?_
      clear hlt hn
      intro n hn
      generalize hX : rounds s (ws m 64) n = X
      refine CW.seq (CW.seq (CW.rg (RL.p rfl (RL.p rfl (RL.nil (NQ.seq ?_))))))
      refine CW.cond rfl (fun hlt => ?_) (fun hlt => ?_)
      ·
        refine CW.skip (NQ.seq (CW.seq (CW.block (CW.seq (CW.regionD (Sq.of [0, 1, 2, 3, 4, 5, 6, 7, 8, 9, 10, 11, 12, 13, 14, 15, 16, 17, 18, 19, 20, 21, 22, 23, 24, 25, 26, 27, 28, 29]) [] [] [0, 1, 3, 5, 6, 8, 9, 10, 11, 12, 13, 14, 15, 16, 17, 18, 19, 20, 21, 23, 24, 25, 26, 28, 29] mixed (by kernel_rfl) ?_)))))
        refine RL.p rfl (RL.p rfl (RL.callvq (rright_any _ _ (by decide)) Tryz.call421 rfl rfl rfl rfl ?_))
        refine RL.p rfl (RL.callvq (rright_any _ _ (by decide)) Tryz.call421 rfl rfl rfl rfl ?_)
        refine RL.bv32 (a := _) (b := _) xor32 rfl rfl rfl rfl rfl ?_
        refine RL.p rfl (RL.callvq (rright_any _ _ (by decide)) Tryz.call421 rfl rfl rfl rfl ?_)
        refine RL.bv32 (a := _) (b := _) xor32 rfl rfl rfl rfl rfl ?_
        refine RL.bv32 (a := _) (b := _) add32 rfl rfl rfl rfl rfl ?_
        refine RL.p rfl (RL.p rfl (RL.bv32 (a := _) (b := _) and32 rfl rfl rfl rfl rfl ?_))
        refine RL.p rfl (RL.inv32 rfl rfl rfl rfl (RL.p rfl (RL.bv32 (a := _) (b := _) and32 rfl rfl rfl rfl rfl ?_)))
        refine RL.bv32 (a := _) (b := _) xor32 rfl rfl rfl rfl rfl ?_
        refine RL.bv32 (a := _) (b := _) add32 rfl rfl rfl rfl rfl ?_
        refine RL.p rfl (RL.p rfl ?_)
        have hlt : n < 64 := by simp at hlt; omega
        have gk := K_get hlt
        refine RL.idxAt (j := n) Tryz.runUnderlying669 Tryz.sizeOf90 rfl rfl rfl rfl rfl rfl (by omega) ?_
        refine RL.loadq Tryz.isAgg90 rfl rfl rfl rfl ?_
        refine RL.bv32 (a := _) (b := _) add32 rfl rfl rfl rfl rfl ?_
        refine RL.p rfl (RL.p rfl ?_)
        clear gk
        have gw := ws_get m hlt
        refine RL.idx (j := n) Tryz.runUnderlying669 Tryz.sizeOf90 rfl rfl rfl rfl rfl rfl (by omega) ?_
        refine RL.load Tryz.isAgg90 rfl rfl rfl rfl (Rd.getO (by repeat (first | exact List.Mem.head _ | apply List.Mem.tail)) gw) ?_
        clear gw
        refine RL.bv32 (a := _) (b := _) add32 rfl rfl rfl rfl rfl ?_
        refine RL.p rfl (RL.nil (NQ.seq (CW.ok [2, 4, 5, 12, 13, 14, 15, 16, 17, 18, 19, 21, 22] rfl (CW.seq (CW.rg (RL.p rfl (RL.callvq (rright_any _ _ (by decide)) Tryz.call421 rfl rfl rfl rfl ?_)))))))
        refine RL.p rfl (RL.callvq (rright_any _ _ (by decide)) Tryz.call421 rfl rfl rfl rfl ?_)
        refine RL.bv32 (a := _) (b := _) xor32 rfl rfl rfl rfl rfl ?_
        refine RL.p rfl (RL.callvq (rright_any _ _ (by decide)) Tryz.call421 rfl rfl rfl rfl ?_)
        refine RL.bv32 (a := _) (b := _) xor32 rfl rfl rfl rfl rfl ?_
        refine RL.p rfl (RL.p rfl (RL.bv32 (a := _) (b := _) and32 rfl rfl rfl rfl rfl ?_))
        refine RL.p rfl (RL.p rfl (RL.bv32 (a := _) (b := _) and32 rfl rfl rfl rfl rfl ?_))
        refine RL.bv32 (a := _) (b := _) xor32 rfl rfl rfl rfl rfl ?_
        refine RL.p rfl (RL.p rfl (RL.bv32 (a := _) (b := _) and32 rfl rfl rfl rfl rfl ?_))
        refine RL.bv32 (a := _) (b := _) xor32 rfl rfl rfl rfl rfl ?_
        refine RL.bv32 (a := _) (b := _) add32 rfl rfl rfl rfl rfl ?_
        refine RL.p rfl (RL.nil (NQ.seq (CW.ok [2, 4, 5, 12, 13, 14, 15, 16, 17, 18, 19, 21, 22, 23] rfl (CW.rg (RL.p rfl (RL.p rfl (RL.p rfl (RL.p rfl (RL.p rfl (RL.bv32 (a := _) (b := _) add32 rfl rfl rfl rfl rfl ?_))))))))))
        refine RL.p rfl (RL.p rfl (RL.p rfl (RL.p rfl (RL.p rfl (RL.bv32 (a := _) (b := _) add32 rfl rfl rfl rfl rfl ?_)))))
        refine RL.p rfl (RL.p rfl (RL.p rfl (RL.p rfl (RL.p rfl (RL.p rfl (RL.p rfl (RL.p rfl (RL.nil (NQ.block (NQ.seq (CW.ok [2, 4, 5, 12, 13, 14, 15, 16, 17, 18, 19, 20, 21] rfl (CW.rg (RL.p rfl ?_)))))))))))))
        refine RL.bx rfl (wrapV_i64 (by omega) (by omega)) ?_
        refine RL.p rfl (RL.nil ?_)
        have hR : rounds s (ws m 64) (n + 1) = rnd X (K.getD n 0) ((ws m 64).getD n 0) := by rw [rounds, hX]
        refine NQ.round (g := n) (n + 1) (by omega) (by omega) ?_ (fun _ h => h)
        rw [hR]
        exact (.cons rfl (.cons rfl (.cons rfl (.cons rfl (.cons rfl (.cons rfl (.cons rfl (.cons rfl (.cons rfl (.cons rfl (.cons rfl (.cons rfl (.cons rfl .nil)))))))))))))
      ·
        have hn64 : n = 64 := by simp at hlt; omega
        subst hn64
        refine CW.exit (XQ.seq (XQ.seq (XQ.hit (NQ.seq (CW.seq (CW.region (ef := [33]) (bk := [33]) (RL.idxAAt (j := 0) Tryz.runUnderlying545 Tryz.sizeOf90 rfl rfl rfl rfl rfl rfl (by decide) ?_)))))))
        refine RL.loadq Tryz.isAgg90 rfl rfl rfl rfl ?_
        refine RL.p rfl (RL.bv32 (a := _) (b := _) add32 rfl rfl rfl rfl rfl ?_)
        refine RL.idxAAt (j := 1) Tryz.runUnderlying545 Tryz.sizeOf90 rfl rfl rfl rfl rfl rfl (by decide) ?_
        refine RL.loadq Tryz.isAgg90 rfl rfl rfl rfl ?_
        refine RL.p rfl (RL.bv32 (a := _) (b := _) add32 rfl rfl rfl rfl rfl ?_)
        refine RL.idxAAt (j := 2) Tryz.runUnderlying545 Tryz.sizeOf90 rfl rfl rfl rfl rfl rfl (by decide) ?_
        refine RL.loadq Tryz.isAgg90 rfl rfl rfl rfl ?_
        refine RL.p rfl (RL.bv32 (a := _) (b := _) add32 rfl rfl rfl rfl rfl ?_)
        refine RL.idxAAt (j := 3) Tryz.runUnderlying545 Tryz.sizeOf90 rfl rfl rfl rfl rfl rfl (by decide) ?_
        refine RL.loadq Tryz.isAgg90 rfl rfl rfl rfl ?_
        refine RL.p rfl (RL.bv32 (a := _) (b := _) add32 rfl rfl rfl rfl rfl ?_)
        refine RL.idxAAt (j := 4) Tryz.runUnderlying545 Tryz.sizeOf90 rfl rfl rfl rfl rfl rfl (by decide) ?_
        refine RL.loadq Tryz.isAgg90 rfl rfl rfl rfl ?_
        refine RL.p rfl (RL.bv32 (a := _) (b := _) add32 rfl rfl rfl rfl rfl ?_)
        refine RL.idxAAt (j := 5) Tryz.runUnderlying545 Tryz.sizeOf90 rfl rfl rfl rfl rfl rfl (by decide) ?_
        refine RL.loadq Tryz.isAgg90 rfl rfl rfl rfl ?_
        refine RL.p rfl (RL.bv32 (a := _) (b := _) add32 rfl rfl rfl rfl rfl ?_)
        refine RL.idxAAt (j := 6) Tryz.runUnderlying545 Tryz.sizeOf90 rfl rfl rfl rfl rfl rfl (by decide) ?_
        refine RL.loadq Tryz.isAgg90 rfl rfl rfl rfl ?_
        refine RL.p rfl (RL.bv32 (a := _) (b := _) add32 rfl rfl rfl rfl rfl ?_)
        refine RL.idxAAt (j := 7) Tryz.runUnderlying545 Tryz.sizeOf90 rfl rfl rfl rfl rfl rfl (by decide) ?_
        refine RL.loadq Tryz.isAgg90 rfl rfl rfl rfl ?_
        refine RL.p rfl (RL.bv32 (a := _) (b := _) add32 rfl rfl rfl rfl rfl ?_)
        refine RL.buildA [_, _, _, _, _, _, _, _] Tryz.zeroValue545 Tryz.runUnderlying545 Tryz.sizeOf90 rfl rfl rfl rfl rfl (RL.store (vs := [_, _, _, _, _, _, _, _]) Tryz.sizeOf545 rfl rfl rfl rfl rfl rfl rfl rfl rfl (by repeat (first | exact Upd.here | apply Upd.there)) ?_)
        refine RL.nil (NQ.seq (CW.ok [4] rfl (CW.ret ?_)))
        exact RQ.post (resC rfl rfl Tryz.isAgg545 (vs := [_, _, _, _, _, _, _, _]) Tryz.sizeOf545 (by first | (apply Rds.cel; (solve | (repeat (first | exact List.Mem.head _ | apply List.Mem.tail))); exact at_spec ⟨rfl, rfl, rfl, rfl, rfl, rfl, rfl, rfl, trivial⟩) | (apply Rds.celI; (solve | (repeat (first | exact List.Mem.head _ | apply List.Mem.tail))); exact at_spec ⟨rfl, rfl, rfl, rfl, rfl, rfl, rfl, rfl, trivial⟩) | assumption | (apply RdsI.rds; assumption))) (Split.none _) ⟨by rw [comp, hX]; rfl, rfl, rfl⟩
end Go.Proofs.YthgjgeapfndeeaaGreatDoor

/-
  A hasher's state in plain Lean: what it has taken, block by block; padding; the digest.
-/
namespace Go.Proofs.YthgjgeapfndeeaaGreatDoor
open Go.PK

/-- All whole blocks taken in. -/
def absorb (s : S8) (l : List B8) : S8 × List B8 :=
  if _h : 64 ≤ l.length then absorb (comp s (l.take 64)) (l.drop 64) else (s, l)
termination_by l.length
decreasing_by rw [List.length_drop]; omega

theorem absorb_ge {s : S8} {l : List B8} (h : 64 ≤ l.length) : absorb s l = absorb (comp s (l.take 64)) (l.drop 64) := by
  rw [absorb, dif_pos h]
theorem absorb_lt {s : S8} {l : List B8} (h : l.length < 64) : absorb s l = (s, l) := by
  rw [absorb, dif_neg (by omega)]

theorem absorb_append : ∀ (n : Nat) (s : S8) (l m : List B8), l.length ≤ n → absorb (absorb s l).1 ((absorb s l).2 ++ m) = absorb s (l ++ m)
  | n, s, l, m, hn => by
    by_cases h : 64 ≤ l.length
    · cases n with
      | zero => omega
      | succ n =>
        have ih := absorb_append n (comp s (l.take 64)) (l.drop 64) m (by rw [List.length_drop]; omega)
        rw [absorb_ge h, ih, absorb_ge (s := s) (l := l ++ m) (by simp; omega)]
        rw [List.take_append_of_le_length h, List.drop_append_of_le_length h]
    · rw [absorb_lt (s := s) (l := l) (by omega)]

theorem absorb_rest : ∀ (n : Nat) (s : S8) (l : List B8), l.length ≤ n → (absorb s l).2.length < 64 ∧ (absorb s l).2.length ≤ l.length ∧ (absorb s l).2.length % 64 = l.length % 64
  | n, s, l, hn => by
    by_cases h : 64 ≤ l.length
    · cases n with
      | zero => omega
      | succ n =>
        have ih := absorb_rest n (comp s (l.take 64)) (l.drop 64) (by rw [List.length_drop]; omega)
        rw [absorb_ge h]
        rw [List.length_drop] at ih
        omega
    · rw [absorb_lt (by omega)]; exact ⟨by show l.length < 64; omega, Nat.le_refl _, rfl⟩

/-- What a hasher is behind these bytes. -/
def after (m : List B8) : S8 × List B8 := absorb iv m
theorem after_append (l m : List B8) : absorb (after l).1 ((after l).2 ++ m) = after (l ++ m) := absorb_append l.length iv l m (Nat.le_refl _)
theorem after_nil : after [] = (iv, []) := absorb_lt (by simp)
theorem after_rest (l : List B8) : (after l).2.length < 64 ∧ (after l).2.length ≤ l.length ∧ (after l).2.length % 64 = l.length % 64 := absorb_rest l.length iv l (Nat.le_refl _)

/-- A number's eight bytes. -/
def be8 (n : Nat) : List B8 := [BitVec.ofNat 8 (n / 256 ^ 7), BitVec.ofNat 8 (n / 256 ^ 6), BitVec.ofNat 8 (n / 256 ^ 5), BitVec.ofNat 8 (n / 256 ^ 4), BitVec.ofNat 8 (n / 256 ^ 3), BitVec.ofNat 8 (n / 256 ^ 2), BitVec.ofNat 8 (n / 256 ^ 1), BitVec.ofNat 8 (n / 256 ^ 0)]
/-- What stands behind 'k' bytes that are left, of 'n' in all. -/
def padEnd (k : Nat) : Nat := if 64 < k + 9 then 128 else 64
def padding (k n : Nat) : List B8 := 128#8 :: List.replicate (padEnd k - k - 9) 0#8 ++ be8 (n * 8)
theorem be8_length (n : Nat) : (be8 n).length = 8 := rfl
theorem padding_length {k n : Nat} (h : k < 64) : (padding k n).length = padEnd k - k := by
  simp only [padding, List.length_append, List.length_cons, List.length_replicate, be8_length, padEnd]
  split <;> omega
def fin (s : S8) (r : List B8) (n : Nat) : S8 := (absorb s (r ++ padding r.length n)).1
def dbyte (s : S8) (i : Nat) : B8 := (sget s (i / 4) >>> (8 * (3 - i % 4))).setWidth 8
def dig (s : S8) : List B8 := (List.range 32).map (dbyte s)
/-- SHA-256. -/
def sha (m : List B8) : List B8 := dig (fin (after m).1 (after m).2 m.length)
theorem dig_length (s : S8) : (dig s).length = 32 := by simp [dig]
theorem sha_length (m : List B8) : (sha m).length = 32 := dig_length _
end Go.Proofs.YthgjgeapfndeeaaGreatDoor
