import Derived.Test.YthgjgeapfndeeaaGreatDoorFacts
import Derived.Test.YthgjgeapfndeeaaGreatDoorSha
import Derived.Test.YthgjgeapfndeeaaGreatDoorBase0
set_option linter.unusedVariables false
set_option linter.unusedSimpArgs false
namespace Go.Proofs.YthgjgeapfndeeaaGreatDoor
open Go.PK

theorem neg31 : ∀ n : Nat, n < 32 → 0 < n → IntKind.u64.wrap (BitVec.ofInt IntKind.u64.bits (IntKind.u64.wrap (IntKind.i64.wrap (0 - (n : Int)))) &&& BitVec.ofInt IntKind.u64.bits 31).toNat = (32 - n : Nat) := by decide
theorem sub32 : ∀ n : Nat, n < 32 → 0 < n → IntKind.u64.wrap (32 - ((32 - n : Nat) : Int)) = (n : Int) := by decide

theorem rot_any (x : B32) (n : Nat) (h0 : 0 < n) (h : n < 32) : Spc Tryz.prog 451 #[U32 x, .int .i64 (IntKind.i64.wrap (0 - (n : Int)))] [] [] (Is (U32 (rotr x n))) := by
  refine Spc.enter Tryz.func451 rfl rfl rfl (fun w0 hw0 => ?_)
  refine CW.seq (CW.rg (RL.p rfl (RL.nil (NQ.seq (CW.seq (CW.rg (RL.p rfl (RL.conv Tryz.runUnderlying3 Tryz.runUnderlying297 rfl rfl rfl rfl (RL.p rfl (RL.p rfl (RL.nil (NQ.seq (CW.seq ?_)))))))))))))
  refine CW.rg (RL.p rfl (RL.p rfl (RL.shl32 (32 - n) rfl rfl rfl rfl rfl (neg31 n h h0) (by omega) ?_)))
  refine RL.p rfl (RL.p rfl (RL.p rfl (RL.shr32 n rfl rfl rfl rfl rfl (by rw [neg31 n h h0]; exact sub32 n h h0) (by omega) ?_)))
  refine RL.bv32 (a := _) (b := _) or32 rfl rfl rfl rfl rfl ?_
  refine RL.p rfl (RL.nil (NQ.seq (CW.ok [4] rfl (CW.ret ?_))))
  exact RQ.post (res1 rfl rfl) (Split.none _) ⟨rfl, rfl, rfl⟩

theorem hright_any (x : B32) (n : Nat) (h0 : 0 < n) (h : n < 32) : Spc Tryz.prog 392 #[U32 x, .int .i64 (n : Int)] [] [] (Is (U32 (rotr x n))) := by
  refine Spc.enter Tryz.func392 rfl rfl rfl (fun w0 hw0 => ?_)
  refine CW.seq (CW.rg (RL.p rfl (RL.nil (NQ.seq (CW.seq (CW.rg (RL.p rfl (RL.p rfl (RL.neg rfl rfl rfl rfl (RL.callvq (rot_any x n h0 h) Tryz.call451 rfl rfl rfl rfl ?_))))))))))
  refine RL.p rfl (RL.nil (NQ.seq (CW.ok [4] rfl (CW.ret ?_))))
  exact RQ.post (res1 rfl rfl) (Split.none _) ⟨rfl, rfl, rfl⟩

theorem hfirst_any : Spc Tryz.prog 303 #[] [] [] (Is (.agg iv.cells.toArray)) := by
  refine Spc.enter Tryz.func303 rfl rfl rfl (fun w0 hw0 => ?_)
  refine CW.seq (CW.region (ef := [0]) (bk := []) (RL.alloc Tryz.zeroValue546 rfl rfl rfl rfl rfl ?_))
  intro b1
  refine RL.nil (NQ.seq (CW.seq (CW.region (ef := [1]) (bk := [1]) (RL.buildA [_, _, _, _, _, _, _, _] Tryz.zeroValue546 Tryz.runUnderlying546 Tryz.sizeOf90 rfl rfl rfl rfl rfl (RL.store (vs := [_, _, _, _, _, _, _, _]) Tryz.sizeOf546 rfl rfl rfl rfl rfl rfl rfl rfl rfl (by repeat (first | exact Upd.here | apply Upd.there)) ?_)))))
  refine RL.nil (NQ.seq (CW.ret ?_))
  exact RQ.post (resC rfl rfl Tryz.isAgg546 (vs := [_, _, _, _, _, _, _, _]) Tryz.sizeOf546 (by first | (apply Rds.cel; (solve | (repeat (first | exact List.Mem.head _ | apply List.Mem.tail))); exact at_spec ⟨rfl, rfl, rfl, rfl, rfl, rfl, rfl, rfl, trivial⟩) | (apply Rds.celI; (solve | (repeat (first | exact List.Mem.head _ | apply List.Mem.tail))); exact at_spec ⟨rfl, rfl, rfl, rfl, rfl, rfl, rfl, rfl, trivial⟩) | assumption | (apply RdsI.rds; assumption))) (Split.none _) ⟨rfl, rfl, rfl⟩

theorem rfirst_any : Spc Tryz.prog 353 #[] [] [] (Is (.agg iv.cells.toArray)) := by
  refine Spc.enter Tryz.func353 rfl rfl rfl (fun w0 hw0 => ?_)
  refine CW.seq (CW.region (ef := [0]) (bk := []) (RL.alloc Tryz.zeroValue545 rfl rfl rfl rfl rfl ?_))
  intro b1
  refine RL.nil (NQ.seq (CW.seq (CW.region (ef := [1]) (bk := [1]) (RL.buildA [_, _, _, _, _, _, _, _] Tryz.zeroValue545 Tryz.runUnderlying545 Tryz.sizeOf90 rfl rfl rfl rfl rfl (RL.store (vs := [_, _, _, _, _, _, _, _]) Tryz.sizeOf545 rfl rfl rfl rfl rfl rfl rfl rfl rfl (by repeat (first | exact Upd.here | apply Upd.there)) ?_)))))
  refine RL.nil (NQ.seq (CW.ret ?_))
  exact RQ.post (resC rfl rfl Tryz.isAgg545 (vs := [_, _, _, _, _, _, _, _]) Tryz.sizeOf545 (by first | (apply Rds.cel; (solve | (repeat (first | exact List.Mem.head _ | apply List.Mem.tail))); exact at_spec ⟨rfl, rfl, rfl, rfl, rfl, rfl, rfl, rfl, trivial⟩) | (apply Rds.celI; (solve | (repeat (first | exact List.Mem.head _ | apply List.Mem.tail))); exact at_spec ⟨rfl, rfl, rfl, rfl, rfl, rfl, rfl, rfl, trivial⟩) | assumption | (apply RdsI.rds; assumption))) (Split.none _) ⟨rfl, rfl, rfl⟩
end Go.Proofs.YthgjgeapfndeeaaGreatDoor

namespace Go.Proofs.YthgjgeapfndeeaaGreatDoor
open Go.PK


theorem htable_any : Spc Tryz.prog 391 #[] [] [] (Is (.agg (words K).toArray)) := by
  refine Spc.enter Tryz.func391 rfl rfl rfl (fun w0 hw0 => ?_)
  refine CW.seq (CW.region (ef := [0]) (bk := []) (RL.alloc Tryz.zeroValue665 rfl rfl rfl rfl rfl ?_))
  intro b1
  refine RL.nil (NQ.seq (CW.seq (CW.region (ef := [1]) (bk := [1]) (RL.buildA (words K) Tryz.zeroValue665 Tryz.runUnderlying665 Tryz.sizeOf90 rfl rfl rfl rfl (by kernel_rfl) ?_))))
  refine RL.storeX (cs' := words K) (vs := words K) (by kernel_rfl) Tryz.sizeOf665 rfl rfl rfl rfl rfl rfl rfl (ones_map one32 K) (by repeat (first | exact Upd.here | apply Upd.there)) (by decide) ?_
  refine RL.nil (NQ.seq (CW.ret ?_))
  exact RQ.post (resC rfl rfl Tryz.isAgg665 (vs := words K) Tryz.sizeOf665 (Rds.all (by repeat (first | exact List.Mem.head _ | apply List.Mem.tail)))) (Split.none _) ⟨rfl, rfl, rfl⟩

def wcells (m : List B8) (n : Nat) : List Value := words (ws m n) ++ List.replicate (64 - n) (U32 0#32)
theorem wcells_length (m : List B8) {n : Nat} (h : n ≤ 64) : (wcells m n).length = 64 := by simp [wcells, ws_length]; omega
theorem wcells_store (m : List B8) {n : Nat} (h : n < 64) : spl (wcells m n) (0 + n * 1) [U32 (word m (ws m n) n)] = wcells m (n + 1) := by
  have e : 64 - n = (64 - (n + 1)) + 1 := by omega
  have h2 := spl_snoc (z := U32 0#32) (v := U32 (word m (ws m n) n)) (k := 64 - (n + 1)) (words (ws m n))
  rw [List.length_map, ws_length] at h2
  rw [wcells, e, Nat.zero_add, Nat.mul_one, h2, wcells, ws, words, words, List.map_append]
  rfl
theorem wcells_get (m : List B8) {n j : Nat} (h : j < n) : (wcells m n)[0 + j * 1]? = some (U32 ((ws m n).getD j 0)) := by
  have : j < (ws m n).length := by rw [ws_length]; exact h
  rw [Nat.zero_add, Nat.mul_one, wcells, List.getElem?_append_left (by simpa using this)]
  simp [this]
theorem wcells_all (m : List B8) : wcells m 64 = words (ws m 64) := by simp [wcells]
theorem bytes_get {m : List B8} {j : Nat} (h : j < m.length) : (bytes m)[j]? = some (U8 (m.getD j 0)) := by simp [h]

theorem spread_any (m : List B8) (p : Addr) (cap : Nat) (hm : m.length = 64) (hc : 64 ≤ cap) : Spc Tryz.prog 390 #[.slice (some p) 64 cap] [sls (some p) 1 64 (bytes m)] [] (Is (.agg (words (ws m 64)).toArray)) := by
  refine Spc.enter Tryz.func390 rfl rfl rfl (fun w0 hw0 => ?_)
  refine CW.seq (CW.region (ef := [0]) (bk := []) (RL.alloc Tryz.zeroValue665 rfl rfl rfl rfl rfl ?_))
  intro b1
  refine RL.nil (NQ.seq (CW.seq (CW.region (ef := [0]) (bk := []) (RL.alloc Tryz.zeroValue665 rfl rfl rfl rfl rfl ?_))))
  intro b2
  refine RL.nil (NQ.seq (CW.seq (CW.seq (CW.rg (RL.p rfl (RL.nil (NQ.seq (CW.block ?_))))))))
  refine CW.loop (γ := Nat) (fun n => n ≤ 16) (fun n => [(0, .slice (some p) 64 cap), (2, .pointer (some ⟨b1, 0, none⟩)), (3, .pointer (some ⟨b2, 0, none⟩)), (11, .int .i64 n)])
    (fun _ => [sls (some p) 1 64 (bytes m)]) (fun n => [cel b2 (wcells m n) 665, cel b1 (List.replicate 64 (U32 0#32)) 665]) (fun n => 16 - n) 0 (by omega) (.cons rfl (.cons rfl (.cons rfl (.cons rfl .nil)))) (fun _ h => h) ?_
  intro n hn
  refine CW.seq (CW.rg (RL.p rfl (RL.nil (NQ.seq (CW.seq ?_)))))
  refine CW.cond rfl (fun hlt => ?_) (fun hlt => ?_)
  ·
    refine CW.skip (NQ.seq (CW.seq (CW.block (CW.seq (CW.rg (RL.p rfl (RL.p rfl (RL.nil (NQ.seq (CW.seq (CW.rg (RL.p rfl (RL.p rfl ?_)))))))))))))
    refine RL.bx rfl (wrapV_i64 (by omega) (by omega)) ?_
    have hlt : n < 16 := by simp at hlt; omega
    refine RL.sliceP (lo := 4 * n) (hi := 64) Tryz.runUnderlying22 Tryz.sizeOf5 rfl rfl rfl rfl (congrArg some (by omega)) rfl (by omega) hc (by omega) ?_
    refine RL.p rfl (RL.nil (NQ.seq (CW.ok [0, 2, 3, 4, 5, 11] rfl (CW.regionD (Sq.of [0, 1, 2, 3, 4, 5, 6, 7, 8, 9, 10, 11, 12, 13, 14, 15, 16, 17, 18, 19, 20, 21, 22, 23, 24]) [24] [24] [0, 1, 2, 4, 5, 6, 7, 9, 10, 11, 12, 13, 15, 16, 17, 18, 19, 21, 22, 23] mixed (by kernel_rfl) ?_))))
    refine RL.p rfl (RL.p rfl ?_)
    have g0 := bytes_get (m := m) (j := 4 * n * 1 + 0 * 1) (by omega)
    have g1 := bytes_get (m := m) (j := 4 * n * 1 + 1 * 1) (by omega)
    have g2 := bytes_get (m := m) (j := 4 * n * 1 + 2 * 1) (by omega)
    have g3 := bytes_get (m := m) (j := 4 * n * 1 + 3 * 1) (by omega)
    refine RL.idxS (j := 0) Tryz.runUnderlying22 Tryz.sizeOf5 rfl rfl rfl rfl rfl rfl (by omega) ?_
    refine RL.loadq Tryz.isAgg5 rfl rfl rfl rfl ?_
    refine RL.widen Tryz.runUnderlying5 Tryz.runUnderlying90 rfl rfl rfl rfl (RL.shl32 24 rfl rfl rfl rfl rfl rfl (by decide) ?_)
    refine RL.p rfl (RL.idxS (j := 1) Tryz.runUnderlying22 Tryz.sizeOf5 rfl rfl rfl rfl rfl rfl (by omega) ?_)
    refine RL.loadq Tryz.isAgg5 rfl rfl rfl rfl ?_
    refine RL.widen Tryz.runUnderlying5 Tryz.runUnderlying90 rfl rfl rfl rfl (RL.shl32 16 rfl rfl rfl rfl rfl rfl (by decide) ?_)
    refine RL.bv32 (a := _) (b := _) or32 rfl rfl rfl rfl rfl ?_
    refine RL.p rfl (RL.idxS (j := 2) Tryz.runUnderlying22 Tryz.sizeOf5 rfl rfl rfl rfl rfl rfl (by omega) ?_)
    refine RL.loadq Tryz.isAgg5 rfl rfl rfl rfl ?_
    refine RL.widen Tryz.runUnderlying5 Tryz.runUnderlying90 rfl rfl rfl rfl (RL.shl32 8 rfl rfl rfl rfl rfl rfl (by decide) ?_)
    refine RL.bv32 (a := _) (b := _) or32 rfl rfl rfl rfl rfl ?_
    refine RL.p rfl (RL.idxS (j := 3) Tryz.runUnderlying22 Tryz.sizeOf5 rfl rfl rfl rfl rfl rfl (by omega) ?_)
    refine RL.loadq Tryz.isAgg5 rfl rfl rfl rfl ?_
    refine RL.widen Tryz.runUnderlying5 Tryz.runUnderlying90 rfl rfl rfl rfl (RL.bv32 (a := _) (b := _) or32 rfl rfl rfl rfl rfl ?_)
    refine RL.idxAAt (j := n) Tryz.runUnderlying665 Tryz.sizeOf90 rfl rfl rfl rfl rfl rfl (by omega) ?_
    have hwd : word m (ws m n) n = be (m.getD (4 * n * 1 + 0 * 1) 0) (m.getD (4 * n * 1 + 1 * 1) 0) (m.getD (4 * n * 1 + 2 * 1) 0) (m.getD (4 * n * 1 + 3 * 1) 0) := by
      rw [word, if_pos hlt]; simp
    refine RL.storeX (cs' := wcells m (n + 1)) (vs := [_]) (by rw [← wcells_store m (by omega), hwd]; rfl) Tryz.sizeOf90 rfl rfl rfl rfl rfl rfl rfl rfl (by repeat (first | exact Upd.here | apply Upd.there)) (by rw [wcells_length m (by omega)]; show _ ≤ 64; simp; omega) ?_
    refine RL.nil (NQ.block (NQ.seq (CW.ok [0, 2, 3, 11] rfl (CW.rg (RL.bx rfl (wrapV_i64 (by omega) (by omega)) ?_)))))
    refine RL.p rfl (RL.nil ?_)
    exact NQ.round (g := n) (n + 1) (by omega) (by omega) (.cons rfl (.cons rfl (.cons rfl (.cons rfl .nil)))) (fun _ h => h)
  ·
    refine CW.exit (XQ.seq (XQ.seq (XQ.hit (NQ.seq (CW.seq (CW.seq (CW.rg (RL.p rfl (RL.nil (NQ.seq (CW.block ?_)))))))))))
    have hn16 : n = 16 := by simp at hlt; omega
    subst hn16
    refine CW.loop (γ := Nat) (fun n => 16 ≤ n ∧ n ≤ 64) (fun n => [(2, .pointer (some ⟨b1, 0, none⟩)), (3, .pointer (some ⟨b2, 0, none⟩)), (6, .int .i64 n)])
      (fun _ => [sls (some p) 1 64 (bytes m)]) (fun n => [cel b2 (wcells m n) 665, cel b1 (List.replicate 64 (U32 0#32)) 665]) (fun n => 64 - n) 16 (by omega) (.cons rfl (.cons rfl (.cons rfl .nil))) (fun _ h => h) ?_
    intro n hn
    refine CW.seq (CW.seq (CW.rg (RL.p rfl (RL.p rfl (RL.nil (NQ.seq ?_))))))
    refine CW.cond rfl (fun hlt => ?_) (fun hlt => ?_)
    ·
      refine CW.skip (NQ.seq (CW.seq (CW.block (CW.seq (CW.regionD (Sq.of [0, 1, 2, 3, 4, 5, 6, 7, 8, 9]) [] [] [0, 1, 2, 4, 5, 6, 8, 9] mixed (by kernel_rfl) ?_)))))
      refine RL.p rfl (RL.bx rfl (wrapV_i64 (by omega) (by omega)) ?_)
      have hlt : n < 64 := by simp at hlt; omega
      have g2 := wcells_get m (n := n) (j := n - 2) (by omega)
      have g7 := wcells_get m (n := n) (j := n - 7) (by omega)
      have g15 := wcells_get m (n := n) (j := n - 15) (by omega)
      have g16 := wcells_get m (n := n) (j := n - 16) (by omega)
      refine RL.idxAAt (j := n - 15) Tryz.runUnderlying665 Tryz.sizeOf90 rfl rfl rfl rfl rfl (by omega) (by omega) ?_
      refine RL.loadq Tryz.isAgg90 rfl rfl rfl rfl ?_
      refine RL.p rfl (RL.bx rfl (wrapV_i64 (by omega) (by omega)) ?_)
      refine RL.idxAAt (j := n - 2) Tryz.runUnderlying665 Tryz.sizeOf90 rfl rfl rfl rfl rfl (by omega) (by omega) ?_
      refine RL.loadq Tryz.isAgg90 rfl rfl rfl rfl ?_
      refine RL.p rfl (RL.p rfl (RL.nil (NQ.seq (CW.ok [2, 3, 6, 7, 8] rfl (CW.seq (CW.rg (RL.p rfl (RL.callvq (hright_any _ _ (by decide) (by decide)) Tryz.call392 rfl rfl rfl rfl ?_))))))))
      refine RL.p rfl (RL.callvq (hright_any _ _ (by decide) (by decide)) Tryz.call392 rfl rfl rfl rfl ?_)
      refine RL.bv32 (a := _) (b := _) xor32 rfl rfl rfl rfl rfl ?_
      refine RL.p rfl (RL.shr32 3 rfl rfl rfl rfl rfl rfl (by decide) ?_)
      refine RL.bv32 (a := _) (b := _) xor32 rfl rfl rfl rfl rfl ?_
      refine RL.p rfl (RL.nil (NQ.seq (CW.ok [2, 3, 6, 8, 9] rfl (CW.seq (CW.rg (RL.p rfl (RL.callvq (hright_any _ _ (by decide) (by decide)) Tryz.call392 rfl rfl rfl rfl ?_)))))))
      refine RL.p rfl (RL.callvq (hright_any _ _ (by decide) (by decide)) Tryz.call392 rfl rfl rfl rfl ?_)
      refine RL.bv32 (a := _) (b := _) xor32 rfl rfl rfl rfl rfl ?_
      refine RL.p rfl (RL.shr32 10 rfl rfl rfl rfl rfl rfl (by decide) ?_)
      refine RL.bv32 (a := _) (b := _) xor32 rfl rfl rfl rfl rfl ?_
      refine RL.p rfl (RL.nil (NQ.seq (CW.ok [2, 3, 6, 9, 10] rfl (CW.regionD (Sq.of [0, 1, 2, 3, 4, 5, 6, 7, 8, 9, 10, 11, 12, 13, 14, 15]) [15] [15] [0, 1, 2, 3, 4, 6, 7, 8, 9, 10, 11, 13, 14] mixed (by kernel_rfl) ?_))))
      refine RL.p rfl (RL.p rfl (RL.p rfl (RL.bx rfl (wrapV_i64 (by omega) (by omega)) ?_)))
      refine RL.idxAAt (j := n - 7) Tryz.runUnderlying665 Tryz.sizeOf90 rfl rfl rfl rfl rfl (by omega) (by omega) ?_
      refine RL.loadq Tryz.isAgg90 rfl rfl rfl rfl ?_
      refine RL.bv32 (a := _) (b := _) add32 rfl rfl rfl rfl rfl ?_
      refine RL.p rfl (RL.bv32 (a := _) (b := _) add32 rfl rfl rfl rfl rfl ?_)
      refine RL.p rfl (RL.bx rfl (wrapV_i64 (by omega) (by omega)) ?_)
      refine RL.idxAAt (j := n - 16) Tryz.runUnderlying665 Tryz.sizeOf90 rfl rfl rfl rfl rfl (by omega) (by omega) ?_
      refine RL.loadq Tryz.isAgg90 rfl rfl rfl rfl ?_
      refine RL.bv32 (a := _) (b := _) add32 rfl rfl rfl rfl rfl ?_
      refine RL.idxAAt (j := n) Tryz.runUnderlying665 Tryz.sizeOf90 rfl rfl rfl rfl rfl (by omega) (by omega) ?_
      refine RL.storeX (cs' := wcells m (n + 1)) (vs := [_]) (by rw [← wcells_store m (by omega), word, if_neg (by omega)]; rfl) Tryz.sizeOf90 rfl rfl rfl rfl rfl rfl rfl rfl (by repeat (first | exact Upd.here | apply Upd.there)) (by rw [wcells_length m hn.2]; show _ ≤ 64; simp; omega) ?_
      refine RL.nil (NQ.block (NQ.seq (CW.ok [2, 3, 6] rfl (CW.rg (RL.p rfl (RL.bx rfl (wrapV_i64 (by omega) (by omega)) ?_))))))
      refine RL.p rfl (RL.nil ?_)
      exact NQ.round (g := n) (n + 1) (by omega) (by omega) (.cons rfl (.cons rfl (.cons rfl .nil))) (fun _ h => h)
    ·
      refine CW.exit (XQ.seq (XQ.seq (XQ.hit (NQ.seq (CW.seq (CW.region (ef := [1]) (bk := [1]) ?_))))))
      have hn64 : n = 64 := by simp at hlt; omega
      subst hn64
      refine RL.loadN (vs := words (ws m 64)) Tryz.isAgg665 (by rw [List.length_map, ws_length]; exact Tryz.sizeOf665) rfl rfl rfl rfl (Rds.all (by rw [← wcells_all]; exact List.Mem.head _)) ?_
      refine RL.storeX (cs := List.replicate 64 (U32 0#32)) (cs' := words (ws m 64)) (vs := words (ws m 64)) (spl_all (by simp [ws_length])) (by rw [List.length_map, ws_length]; exact Tryz.sizeOf665) rfl rfl rfl rfl rfl rfl rfl (ones_map one32 _) (by repeat (first | exact Upd.here | apply Upd.there)) (by simp [ws_length]) ?_
      refine RL.nil (NQ.seq (CW.ret ?_))
      exact RQ.post (resC rfl rfl Tryz.isAgg665 (vs := words (ws m 64)) (by rw [List.length_map, ws_length]; exact Tryz.sizeOf665) (Rds.all (by repeat (first | exact List.Mem.head _ | apply List.Mem.tail)))) (Split.none _) ⟨rfl, rfl, rfl⟩
end Go.Proofs.YthgjgeapfndeeaaGreatDoor

namespace Go.Proofs.YthgjgeapfndeeaaGreatDoor
open Go.PK

theorem K_get {n : Nat} (h : n < 64) : (words K)[0 + n * 1]? = some (U32 (K.getD n 0)) := by
  have : n < K.length := h
  rw [Nat.zero_add, Nat.mul_one]; simp [this]
theorem W_get (m : List B8) {n : Nat} (h : n < 64) : (words (ws m 64))[0 + n * 1]? = some (U32 ((ws m 64).getD n 0)) := by
  have : n < (ws m 64).length := by rw [ws_length]; exact h
  rw [Nat.zero_add, Nat.mul_one]; simp [this]

set_option maxHeartbeats 4000000 in
theorem turned_any (s : S8) (m : List B8) (p : Addr) (cap : Nat) (hm : m.length = 64) (hc : 64 ≤ cap) : Spc Tryz.prog 305 #[.agg s.cells.toArray, .slice (some p) 64 cap] [sls (some p) 1 64 (bytes m)] [] (Is (.agg (comp s m).cells.toArray)) := by
  refine Spc.enter Tryz.func305 rfl rfl rfl (fun w0 hw0 => ?_)
  refine CW.seq (CW.region (ef := [0, 1]) (bk := []) (RL.box rfl rfl rfl rfl rfl rfl ?_))
  intro b1
  refine RL.alloc Tryz.zeroValue546 rfl rfl rfl rfl rfl ?_
  intro b2
  refine RL.nil (NQ.seq (CW.seq (CW.region (ef := [3, 4, 5, 6]) (bk := [5, 6]) (RL.p rfl (RL.callvq (spread_any m p cap hm hc) Tryz.call390 rfl rfl rfl rfl ?_)))))
  refine RL.callvq (htable_any) Tryz.call391 rfl rfl rfl rfl ?_
  refine RL.alloc Tryz.zeroValue665 rfl rfl rfl rfl rfl ?_
  intro b3
  refine RL.alloc Tryz.zeroValue665 rfl rfl rfl rfl rfl ?_
  intro b4
  refine RL.storeX (cs := List.replicate 64 (U32 0#32)) (cs' := words (ws m 64)) (vs := words (ws m 64)) (spl_all (by simp [ws_length])) (by rw [List.length_map, ws_length]; exact Tryz.sizeOf665) rfl rfl rfl rfl rfl rfl rfl (ones_map one32 _) (by repeat (first | exact Upd.here | apply Upd.there)) (by simp [ws_length]) ?_
  refine RL.storeX (cs := List.replicate 64 (U32 0#32)) (cs' := words K) (vs := words K) (spl_all rfl) Tryz.sizeOf665 rfl rfl rfl rfl rfl rfl rfl (ones_map one32 _) (by repeat (first | exact Upd.here | apply Upd.there)) (by decide) ?_
  refine RL.nil (NQ.seq (CW.seq (CW.region (ef := [1, 2]) (bk := [2]) (RL.loadN (vs := [_, _, _, _, _, _, _, _]) Tryz.isAgg546 Tryz.sizeOf546 rfl rfl rfl rfl (by first | (apply Rds.cel; (solve | (repeat (first | exact List.Mem.head _ | apply List.Mem.tail))); exact at_spec ⟨rfl, rfl, rfl, rfl, rfl, rfl, rfl, rfl, trivial⟩) | (apply Rds.celI; (solve | (repeat (first | exact List.Mem.head _ | apply List.Mem.tail))); exact at_spec ⟨rfl, rfl, rfl, rfl, rfl, rfl, rfl, rfl, trivial⟩) | assumption | (apply RdsI.rds; assumption)) ?_))))
  refine RL.alloc Tryz.zeroValue546 rfl rfl rfl rfl rfl ?_
  intro b5
  refine RL.store (vs := [_, _, _, _, _, _, _, _]) Tryz.sizeOf546 rfl rfl rfl rfl rfl rfl rfl rfl rfl (by repeat (first | exact Upd.here | apply Upd.there)) ?_
  refine RL.nil (NQ.seq (CW.ok [2, 4, 5, 6, 7] rfl (CW.seq (CW.seq (CW.rg (RL.p rfl (RL.nil (NQ.seq (CW.block ?_)))))))))
  refine CW.loop (γ := Nat) (fun n => n ≤ 64) (fun n => [(2, .pointer (some ⟨b1, 0, none⟩)), (4, .pointer (some ⟨b2, 0, none⟩)), (5, .pointer (some ⟨b3, 0, none⟩)), (6, .pointer (some ⟨b4, 0, none⟩)), (7, .pointer (some ⟨b5, 0, none⟩)), (18, .int .i64 n)])
    (fun _ => [sls (some p) 1 64 (bytes m)]) (fun n => [cel b5 (rounds s (ws m 64) n).cells 546, cel b4 (words K) 665, cel b3 (words (ws m 64)) 665, cel b2 (List.replicate 8 (U32 0#32)) 546, cel b1 s.cells 546])
    (fun n => 64 - n) 0 (by omega) (.cons rfl (.cons rfl (.cons rfl (.cons rfl (.cons rfl (.cons rfl .nil)))))) (fun _ h => h) ?_
  intro n hn
  generalize hX : rounds s (ws m 64) n = X
  refine CW.seq (CW.rg (RL.p rfl (RL.nil (NQ.seq (CW.seq ?_)))))
  refine CW.cond rfl (fun hlt => ?_) (fun hlt => ?_)
  ·
    refine CW.skip (NQ.seq (CW.seq (CW.block (CW.seq (CW.rg (RL.p rfl (RL.p rfl (RL.nil (NQ.seq (CW.seq (CW.regionD (Sq.of [0, 1, 2, 3, 4, 5]) [] [] [0, 2, 4, 5] mixed (by kernel_rfl) ?_)))))))))))
    refine RL.idxAAt (j := 4) Tryz.runUnderlying546 Tryz.sizeOf90 rfl rfl rfl rfl rfl rfl (by decide) ?_
    refine RL.loadq Tryz.isAgg90 rfl rfl rfl rfl ?_
    refine RL.idxAAt (j := 0) Tryz.runUnderlying546 Tryz.sizeOf90 rfl rfl rfl rfl rfl rfl (by decide) ?_
    refine RL.loadq Tryz.isAgg90 rfl rfl rfl rfl ?_
    refine RL.p rfl (RL.p rfl (RL.nil (NQ.seq (CW.ok [2, 4, 5, 6, 7, 8, 9, 10, 18] rfl (CW.seq (CW.regionD (Sq.of [0, 1, 2, 3, 4, 5, 6, 7, 8, 9, 10, 11, 12, 13, 14, 15, 16, 17, 18, 19, 20, 21, 22, 23, 24, 25, 26, 27, 28, 29, 30]) [] [] [0, 2, 4, 6, 7, 9, 10, 11, 12, 14, 15, 16, 17, 19, 20, 21, 22, 23, 25, 26, 27, 29, 30] mixed (by kernel_rfl) ?_))))))
    refine RL.idxAAt (j := 7) Tryz.runUnderlying546 Tryz.sizeOf90 rfl rfl rfl rfl rfl rfl (by decide) ?_
    refine RL.loadq Tryz.isAgg90 rfl rfl rfl rfl ?_
    refine RL.p rfl (RL.callvq (hright_any _ _ (by decide) (by decide)) Tryz.call392 rfl rfl rfl rfl ?_)
    refine RL.p rfl (RL.callvq (hright_any _ _ (by decide) (by decide)) Tryz.call392 rfl rfl rfl rfl ?_)
    refine RL.bv32 (a := _) (b := _) xor32 rfl rfl rfl rfl rfl ?_
    refine RL.p rfl (RL.callvq (hright_any _ _ (by decide) (by decide)) Tryz.call392 rfl rfl rfl rfl ?_)
    refine RL.bv32 (a := _) (b := _) xor32 rfl rfl rfl rfl rfl ?_
    refine RL.bv32 (a := _) (b := _) add32 rfl rfl rfl rfl rfl ?_
    refine RL.p rfl (RL.idxAAt (j := 5) Tryz.runUnderlying546 Tryz.sizeOf90 rfl rfl rfl rfl rfl rfl (by decide) ?_)
    refine RL.loadq Tryz.isAgg90 rfl rfl rfl rfl ?_
    refine RL.bv32 (a := _) (b := _) and32 rfl rfl rfl rfl rfl ?_
    refine RL.p rfl (RL.inv32 rfl rfl rfl rfl (RL.idxAAt (j := 6) Tryz.runUnderlying546 Tryz.sizeOf90 rfl rfl rfl rfl rfl rfl (by decide) ?_))
    refine RL.loadq Tryz.isAgg90 rfl rfl rfl rfl ?_
    refine RL.bv32 (a := _) (b := _) and32 rfl rfl rfl rfl rfl ?_
    refine RL.bv32 (a := _) (b := _) xor32 rfl rfl rfl rfl rfl ?_
    refine RL.bv32 (a := _) (b := _) add32 rfl rfl rfl rfl rfl ?_
    refine RL.p rfl ?_
    have hlt : n < 64 := by simp at hlt; omega
    have gk := K_get hlt
    refine RL.idxAAt (j := n) Tryz.runUnderlying665 Tryz.sizeOf90 rfl rfl rfl rfl rfl rfl (by omega) ?_
    refine RL.loadq Tryz.isAgg90 rfl rfl rfl rfl ?_
    refine RL.bv32 (a := _) (b := _) add32 rfl rfl rfl rfl rfl ?_
    refine RL.p rfl ?_
    clear gk
    have gw := W_get m hlt
    refine RL.idxAAt (j := n) Tryz.runUnderlying665 Tryz.sizeOf90 rfl rfl rfl rfl rfl rfl (by omega) ?_
    refine RL.load Tryz.isAgg90 rfl rfl rfl rfl (Rd.get (by repeat (first | exact List.Mem.head _ | apply List.Mem.tail)) gw) ?_
    clear gw
    refine RL.bv32 (a := _) (b := _) add32 rfl rfl rfl rfl rfl ?_
    refine RL.p rfl (RL.nil (NQ.seq (CW.ok [2, 4, 5, 6, 7, 10, 11, 18] rfl (CW.seq (CW.regionD (Sq.of [0, 1, 2, 3, 4, 5, 6, 7, 8, 9, 10, 11, 12, 13, 14, 15, 16, 17, 18, 19, 20, 21, 22, 23, 24]) [] [] [0, 2, 4, 5, 7, 8, 9, 11, 12, 13, 15, 16, 17, 19, 21, 22, 23, 24] mixed (by kernel_rfl) ?_)))))
    refine RL.p rfl (RL.callvq (hright_any _ _ (by decide) (by decide)) Tryz.call392 rfl rfl rfl rfl ?_)
    refine RL.p rfl (RL.callvq (hright_any _ _ (by decide) (by decide)) Tryz.call392 rfl rfl rfl rfl ?_)
    refine RL.bv32 (a := _) (b := _) xor32 rfl rfl rfl rfl rfl ?_
    refine RL.p rfl (RL.callvq (hright_any _ _ (by decide) (by decide)) Tryz.call392 rfl rfl rfl rfl ?_)
    refine RL.bv32 (a := _) (b := _) xor32 rfl rfl rfl rfl rfl ?_
    refine RL.p rfl (RL.idxAAt (j := 1) Tryz.runUnderlying546 Tryz.sizeOf90 rfl rfl rfl rfl rfl rfl (by decide) ?_)
    refine RL.loadq Tryz.isAgg90 rfl rfl rfl rfl ?_
    refine RL.bv32 (a := _) (b := _) and32 rfl rfl rfl rfl rfl ?_
    refine RL.p rfl (RL.idxAAt (j := 2) Tryz.runUnderlying546 Tryz.sizeOf90 rfl rfl rfl rfl rfl rfl (by decide) ?_)
    refine RL.loadq Tryz.isAgg90 rfl rfl rfl rfl ?_
    refine RL.bv32 (a := _) (b := _) and32 rfl rfl rfl rfl rfl ?_
    refine RL.bv32 (a := _) (b := _) xor32 rfl rfl rfl rfl rfl ?_
    refine RL.idxAAt (j := 1) Tryz.runUnderlying546 Tryz.sizeOf90 rfl rfl rfl rfl rfl rfl (by decide) ?_
    refine RL.loadq Tryz.isAgg90 rfl rfl rfl rfl ?_
    refine RL.idxAAt (j := 2) Tryz.runUnderlying546 Tryz.sizeOf90 rfl rfl rfl rfl rfl rfl (by decide) ?_
    refine RL.loadq Tryz.isAgg90 rfl rfl rfl rfl ?_
    refine RL.bv32 (a := _) (b := _) and32 rfl rfl rfl rfl rfl ?_
    refine RL.bv32 (a := _) (b := _) xor32 rfl rfl rfl rfl rfl ?_
    refine RL.bv32 (a := _) (b := _) add32 rfl rfl rfl rfl rfl ?_
    refine RL.p rfl (RL.nil (NQ.seq (CW.ok [2, 4, 5, 6, 7, 11, 12, 18] rfl (CW.seq (CW.regionD (Sq.of [0, 1, 2]) [2] [2] [0, 1] mixed (by kernel_rfl) ?_)))))
    refine RL.sliceA (lo := 1) (hi := 8) Tryz.runUnderlying546 Tryz.sizeOf90 rfl rfl rfl rfl rfl rfl (by decide) (by decide) (by decide) ?_
    refine RL.sliceA (lo := 0) (hi := 7) Tryz.runUnderlying546 Tryz.sizeOf90 rfl rfl rfl rfl rfl rfl (by decide) (by decide) (by decide) ?_
    refine RL.copy Tryz.runUnderlying669 Tryz.sizeOf90 rfl rfl rfl rfl rfl rfl rfl (Src.celAt (cs := X.cells) (by repeat (first | exact List.Mem.head _ | apply List.Mem.tail)) (by show 7 ≤ 8; decide)) (by intro u hu; simp [S8.cells] at hu; rcases hu with rfl | rfl | rfl | rfl | rfl | rfl | rfl <;> rfl) (by repeat (first | exact Upd.here | apply Upd.there)) (by show 8 ≤ 8; decide) ?_
    refine RL.nil (NQ.seq (CW.seq (CW.region (ef := [5]) (bk := [5]) (RL.idxAAt (j := 4) Tryz.runUnderlying546 Tryz.sizeOf90 rfl rfl rfl rfl rfl rfl (by decide) ?_))))
    refine RL.loadq Tryz.isAgg90 rfl rfl rfl rfl ?_
    refine RL.p rfl (RL.bv32 (a := _) (b := _) add32 rfl rfl rfl rfl rfl ?_)
    refine RL.idxAAt (j := 4) Tryz.runUnderlying546 Tryz.sizeOf90 rfl rfl rfl rfl rfl rfl (by decide) ?_
    refine RL.store (vs := [_]) Tryz.sizeOf90 rfl rfl rfl rfl rfl rfl rfl rfl rfl (by repeat (first | exact Upd.here | apply Upd.there)) ?_
    refine RL.nil (NQ.seq (CW.ok [2, 4, 5, 6, 7, 11, 12, 18] rfl (CW.region (ef := [4]) (bk := [4]) (RL.p rfl (RL.p rfl (RL.bv32 (a := _) (b := _) add32 rfl rfl rfl rfl rfl ?_))))))
    refine RL.idxAAt (j := 0) Tryz.runUnderlying546 Tryz.sizeOf90 rfl rfl rfl rfl rfl rfl (by decide) ?_
    refine RL.store (vs := [_]) Tryz.sizeOf90 rfl rfl rfl rfl rfl rfl rfl rfl rfl (by repeat (first | exact Upd.here | apply Upd.there)) ?_
    refine RL.nil (NQ.block (NQ.seq (CW.ok [2, 4, 5, 6, 7, 18] rfl (CW.rg (RL.bx rfl (wrapV_i64 (by omega) (by omega)) ?_)))))
    refine RL.p rfl (RL.nil ?_)
    refine NQ.round (g := n) (n + 1) (by omega) (by omega) (.cons rfl (.cons rfl (.cons rfl (.cons rfl (.cons rfl (.cons rfl .nil)))))) (fun _ h => ?_)
    have hR : rounds s (ws m 64) (n + 1) = rnd X (K.getD n 0) ((ws m 64).getD n 0) := by rw [rounds, hX]
    rw [hR]
    exact h
  ·
    refine CW.exit (XQ.seq (XQ.seq (XQ.hit (NQ.seq (CW.seq (CW.seq (CW.rg (RL.p rfl (RL.nil (NQ.seq (CW.block ?_)))))))))))
    have hn64 : n = 64 := by simp at hlt; omega
    subst hn64
    refine CW.loop (γ := Nat) (fun n => n ≤ 8) (fun n => [(2, .pointer (some ⟨b1, 0, none⟩)), (4, .pointer (some ⟨b2, 0, none⟩)), (7, .pointer (some ⟨b5, 0, none⟩)), (92, .int .i64 n)])
      (fun _ => [sls (some p) 1 64 (bytes m)]) (fun n => [cel b5 X.cells 546, cel b2 (List.replicate 8 (U32 0#32)) 546, cel b1 ((addS s X).cells.take n ++ s.cells.drop n) 546])
      (fun n => 8 - n) 0 (by omega) (.cons rfl (.cons rfl (.cons rfl (.cons rfl .nil)))) (fun _ h => h.rea (fun _ h => h) (by repeat (first | exact Rea.nil | (apply Rea.cons; (solve | (repeat (first | exact Del.here | apply Del.there))))))) ?_
    intro n hn
    refine CW.seq (CW.rg (RL.p rfl (RL.nil (NQ.seq (CW.seq ?_)))))
    refine CW.cond rfl (fun hlt => ?_) (fun hlt => ?_)
    ·
      refine CW.skip (NQ.seq (CW.seq (CW.block (CW.seq (CW.rg (RL.p rfl (RL.p rfl (RL.nil (NQ.seq (CW.regionD (Sq.of [0, 1, 2, 3, 4, 5, 6, 7, 8]) [8] [8] [0, 1, 3, 4, 6, 7] mixed (by kernel_rfl) ?_))))))))))
      refine RL.p rfl ?_
      have hlt : n < 8 := by simp at hlt; omega
      have h1 : ((addS s X).cells.take n ++ s.cells.drop n)[0 + n * 1]? = some (U32 (sget s n)) := by rw [get_mix hlt, sget_cells s n hlt]
      refine RL.idxAAt (j := n) Tryz.runUnderlying546 Tryz.sizeOf90 rfl rfl rfl rfl rfl rfl (by omega) ?_
      refine RL.loadq Tryz.isAgg90 rfl rfl rfl rfl ?_
      refine RL.p rfl ?_
      have h2 : X.cells[0 + n * 1]? = some (U32 (sget X n)) := by rw [Nat.zero_add, Nat.mul_one, sget_cells X n hlt]
      clear h1
      refine RL.idxAAt (j := n) Tryz.runUnderlying546 Tryz.sizeOf90 rfl rfl rfl rfl rfl rfl (by omega) ?_
      refine RL.loadq Tryz.isAgg90 rfl rfl rfl rfl ?_
      refine RL.bv32 (a := _) (b := _) add32 rfl rfl rfl rfl rfl ?_
      clear h2
      refine RL.idxAAt (j := n) Tryz.runUnderlying546 Tryz.sizeOf90 rfl rfl rfl rfl rfl rfl (by omega) ?_
      refine RL.storeX (cs' := (addS s X).cells.take (n + 1) ++ s.cells.drop (n + 1)) (vs := [_]) (spl_mix (l1 := s.cells) (l2 := (addS s X).cells) rfl (by rw [sget_cells _ n hlt, sget_add s X n hlt])) Tryz.sizeOf90 rfl rfl rfl rfl rfl rfl rfl rfl (by repeat (first | exact Upd.here | apply Upd.there)) (by simp; omega) ?_
      refine RL.nil (NQ.block (NQ.seq (CW.ok [2, 4, 7, 92] rfl (CW.rg (RL.bx rfl (wrapV_i64 (by omega) (by omega)) ?_)))))
      refine RL.p rfl (RL.nil ?_)
      exact NQ.round (g := n) (n + 1) (by omega) (by omega) (.cons rfl (.cons rfl (.cons rfl (.cons rfl .nil)))) (fun _ h => h)
    ·
      have hn8 : n = 8 := by simp at hlt; omega
      subst hn8
      refine CW.exit (XQ.seq (XQ.seq (XQ.hit (NQ.seq (CW.seq (CW.region (ef := [1]) (bk := [1]) (RL.loadN (vs := [_, _, _, _, _, _, _, _]) Tryz.isAgg546 Tryz.sizeOf546 rfl rfl rfl rfl (by first | (apply Rds.cel; (solve | (repeat (first | exact List.Mem.head _ | apply List.Mem.tail))); exact at_spec ⟨rfl, rfl, rfl, rfl, rfl, rfl, rfl, rfl, trivial⟩) | (apply Rds.celI; (solve | (repeat (first | exact List.Mem.head _ | apply List.Mem.tail))); exact at_spec ⟨rfl, rfl, rfl, rfl, rfl, rfl, rfl, rfl, trivial⟩) | assumption | (apply RdsI.rds; assumption)) ?_)))))))
      refine RL.store (vs := [_, _, _, _, _, _, _, _]) Tryz.sizeOf546 rfl rfl rfl rfl rfl rfl rfl rfl rfl (by repeat (first | exact Upd.here | apply Upd.there)) ?_
      refine RL.nil (NQ.seq (CW.ret ?_))
      exact RQ.post (resC rfl rfl Tryz.isAgg546 (vs := [_, _, _, _, _, _, _, _]) Tryz.sizeOf546 (by first | (apply Rds.cel; (solve | (repeat (first | exact List.Mem.head _ | apply List.Mem.tail))); exact at_spec ⟨rfl, rfl, rfl, rfl, rfl, rfl, rfl, rfl, trivial⟩) | (apply Rds.celI; (solve | (repeat (first | exact List.Mem.head _ | apply List.Mem.tail))); exact at_spec ⟨rfl, rfl, rfl, rfl, rfl, rfl, rfl, rfl, trivial⟩) | assumption | (apply RdsI.rds; assumption))) (Split.none _) ⟨by rw [comp, hX], rfl, rfl⟩
end Go.Proofs.YthgjgeapfndeeaaGreatDoor

namespace Go.Proofs.YthgjgeapfndeeaaGreatDoor
open Go.PK

theorem rright_any (x : B32) (n : Nat) (h : n ≤ 32) : Spc Tryz.prog 421 #[U32 x, .int .i64 (n : Int)] [] [] (Is (U32 (rotr x n))) := by
  rw [← rightN_eq x n h]
  refine Spc.enter Tryz.func421 rfl rfl rfl (fun w0 hw0 => ?_)
  refine CW.seq (CW.rg (RL.p rfl (RL.nil (NQ.seq (CW.seq (CW.seq (CW.rg (RL.p rfl (RL.nil (NQ.seq (CW.block (CW.loop (γ := Nat) (fun k => k ≤ n) (fun k => [(0, U32 (rightN x k)), (1, .int .i64 (n : Int)), (5, .int .i64 (k : Int))]) (fun _ => []) (fun _ => []) (fun k => n - k) 0 (by omega) (.cons rfl (.cons rfl (.cons rfl .nil))) (fun _ h => h) ?_))))))))))))
  intro k hk
  refine CW.seq (CW.seq (CW.rg (RL.p rfl (RL.p rfl (RL.p rfl (RL.nil (NQ.seq ?_)))))))
  refine CW.cond rfl (fun hlt => ?_) (fun hlt => ?_)
  ·
    refine CW.skip (NQ.seq (CW.seq (CW.block (CW.rg (RL.p rfl (RL.quo32 (2#32) rfl rfl rfl rfl rfl (by decide) ?_))))))
    refine RL.p rfl (RL.rem32 (2#32) rfl rfl rfl rfl rfl (by decide) ?_)
    refine RL.bv32 (a := _) (b := 2147483648#32) mul32 rfl rfl rfl rfl rfl ?_
    refine RL.bv32 (a := _) (b := _) add32 rfl rfl rfl rfl rfl ?_
    refine RL.p rfl (RL.nil (NQ.block (NQ.seq (CW.ok [0, 1, 5] rfl (CW.rg (RL.p rfl (RL.bx rfl (wrapV_i64 (by omega) (by omega)) ?_)))))))
    refine RL.p rfl (RL.nil ?_)
    have hlt : k < n := by simp at hlt; omega
    exact NQ.round (g := k) (k + 1) (by omega) (by omega) (.cons rfl (.cons rfl (.cons rfl .nil))) (fun _ h => h)
  ·
    refine CW.exit (XQ.seq (XQ.seq (XQ.hit (NQ.seq (CW.seq (CW.rg (RL.p rfl (RL.p rfl (RL.nil (NQ.seq (CW.ok [4] rfl (CW.ret ?_))))))))))))
    have hkn : k = n := by simp at hlt; omega
    subst hkn
    exact RQ.post (res1 rfl rfl) (Split.none _) ⟨rfl, rfl, rfl⟩

theorem rdown_any (x : B32) (n : Nat) (h : n ≤ 32) : Spc Tryz.prog 422 #[U32 x, .int .i64 (n : Int)] [] [] (Is (U32 (x >>> n))) := by
  rw [← downN_eq x n]
  refine Spc.enter Tryz.func422 rfl rfl rfl (fun w0 hw0 => ?_)
  refine CW.seq (CW.rg (RL.p rfl (RL.nil (NQ.seq (CW.seq (CW.seq (CW.rg (RL.p rfl (RL.nil (NQ.seq (CW.block (CW.loop (γ := Nat) (fun k => k ≤ n) (fun k => [(0, U32 (downN x k)), (1, .int .i64 (n : Int)), (5, .int .i64 (k : Int))]) (fun _ => []) (fun _ => []) (fun k => n - k) 0 (by omega) (.cons rfl (.cons rfl (.cons rfl .nil))) (fun _ h => h) ?_))))))))))))
  intro k hk
  refine CW.seq (CW.seq (CW.rg (RL.p rfl (RL.p rfl (RL.p rfl (RL.nil (NQ.seq ?_)))))))
  refine CW.cond rfl (fun hlt => ?_) (fun hlt => ?_)
  ·
    refine CW.skip (NQ.seq (CW.seq (CW.block (CW.rg (RL.p rfl (RL.quo32 (2#32) rfl rfl rfl rfl rfl (by decide) ?_))))))
    refine RL.p rfl (RL.nil (NQ.block (NQ.seq (CW.rg (RL.p rfl (RL.bx rfl (wrapV_i64 (by omega) (by omega)) ?_))))))
    refine RL.p rfl (RL.nil ?_)
    have hlt : k < n := by simp at hlt; omega
    exact NQ.round (g := k) (k + 1) (by omega) (by omega) (.cons rfl (.cons rfl (.cons rfl .nil))) (fun _ h => h)
  ·
    refine CW.exit (XQ.seq (XQ.seq (XQ.hit (NQ.seq (CW.seq (CW.rg (RL.p rfl (RL.p rfl (RL.nil (NQ.seq (CW.ok [4] rfl (CW.ret ?_))))))))))))
    have hkn : k = n := by simp at hlt; omega
    subst hkn
    exact RQ.post (res1 rfl rfl) (Split.none _) ⟨rfl, rfl, rfl⟩

theorem rtable_any : Spc Tryz.prog 423 #[] [] [] (fun v I' H' => ∃ b, v = .slice (some ⟨b, 0, none⟩) 64 64 ∧ I' = [] ∧ H' = [cel b (words K) 90]) := by
  refine Spc.enter Tryz.func423 rfl rfl rfl (fun w0 hw0 => ?_)
  refine CW.seq (CW.rg (RL.p rfl (RL.nil (NQ.seq (CW.seq (CW.region (ef := [0]) (bk := []) (RL.buildSlice (words K) Tryz.runUnderlying669 Tryz.sizeOf90 Tryz.zeroValue90 rfl rfl (by decide) (by decide) rfl rfl rfl rfl rfl (by kernel_rfl) ?_)))))))
  intro b1
  refine RL.p rfl (RL.nil (NQ.seq (CW.ret ?_)))
  exact RQ.post (res1 rfl rfl) (.keep .nil) ⟨b1, rfl, rfl, rfl⟩
end Go.Proofs.YthgjgeapfndeeaaGreatDoor
