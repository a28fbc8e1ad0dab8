import Derived.Test.YtkkfdoippibfkaaKA
import Derived.Test.YtkkfdoippibfkaaKFacts
namespace Go.Proofs.Ytkkfdoippibfkaa
open Go.PK

theorem key_eq (l1 l2 : List B8) (h1 : l1.length = 32) (h2 : l2.length = 32) (x y : Operand) (w : World) : (do eqGuard .eql 35 x y (.agg (bytes l1).toArray) (.agg (bytes l2).toArray); binOp .eql 35 (.agg (bytes l1).toArray) (.agg (bytes l2).toArray) : Sem Value).run Try.prog w = .ok (.bool (l1 == l2)) w :=
  eql_arr8 (e := 5) (by kernel_rfl) (ii := Try.t5) (by kernel_rfl) (by kernel_rfl) Try.isAgg5 Try.runUnderlying5 (by kernel_rfl) l1 l2 h1 h2 w
theorem key_ne (l1 l2 : List B8) (h1 : l1.length = 32) (h2 : l2.length = 32) (x y : Operand) (w : World) : (do eqGuard .neq 35 x y (.agg (bytes l1).toArray) (.agg (bytes l2).toArray); binOp .neq 35 (.agg (bytes l1).toArray) (.agg (bytes l2).toArray) : Sem Value).run Try.prog w = .ok (.bool (!(l1 == l2))) w :=
  neq_arr8 (e := 5) (by kernel_rfl) (ii := Try.t5) (by kernel_rfl) (by kernel_rfl) Try.isAgg5 Try.runUnderlying5 (by kernel_rfl) l1 l2 h1 h2 w
theorem ex_put (b : Nat) : putT [] 0 keyOne b = [⟨0, keyOne, 1, -1, b⟩] ∧ putE [] 0 = 0 := by simp [putT, putE, mayB, atO]
theorem ex_roll (b : Nat) : rollT [⟨0, keyOne, 1, -1, b⟩] 0 2 10 5 = [⟨0, keyOne, 2, 15, b⟩] ∧ rollE [⟨0, keyOne, 1, -1, b⟩] 0 2 10 5 = 0 := by
  simp [rollT, rollE, rightR, tickB, mayB, atO, setT]
theorem ex_ok1 (b : Nat) : TOk [⟨0, keyOne, 1, -1, b⟩] := ⟨by simp [keyOne], by simp, by simp, by simp, by simp, by simp⟩
theorem ex_ok2 (b : Nat) : TOk [⟨0, keyOne, 2, 15, b⟩] := ⟨by simp [keyOne], by simp, by simp, by simp, by simp, by simp⟩
theorem ex_keys (b : Nat) : keyM [⟨0, keyOne, 2, 15, b⟩] 0 1 15 = (deriveK keyOne epochL 1, 0) ∧ keyM [⟨0, keyOne, 2, 15, b⟩] 0 1 16 = (zeros, 160) ∧ keyM [⟨0, keyOne, 2, 15, b⟩] 0 2 16 = (deriveK keyOne epochL 2, 0) ∧ epochM [⟨0, keyOne, 2, 15, b⟩] 0 = 2 := by
  simp [keyM, epochM, tickB, mayB, atO, goesB, hasE]
end Go.Proofs.Ytkkfdoippibfkaa

namespace Go.Proofs.Ytkkfdoippibfkaa
open Go.PK
theorem works16 : Spc Try.prog 11 #[] [] [] (Is (.bool true)) := by
  have hk1 := derive_len keyOne epochL 1
  have hk2 := derive_len keyOne epochL 2
  refine Spc.enter Try.func11 rfl rfl rfl (fun w0 hw0 => ?_)
  refine CW.seq ?_
  refine CW.region (ef := []) (bk := []) ?_
  refine RL.assign rfl rfl rfl rfl ?_
  refine RL.nil ?_
  refine NQ.seq ?_
  refine CW.seq ?_
  refine CW.region (ef := [0]) (bk := []) ?_
  refine RL.call (new_keys) Try.call12 rfl rfl rfl rfl rfl (by repeat (first | exact Pick.nil | apply Pick.take | apply Pick.leave)) (by repeat (first | exact Lend.nil | (refine Lend.inI ?_ ?_; (solve | (repeat (first | exact List.Mem.head _ | apply List.Mem.tail)))) | (refine Lend.inH ?_ ?_; (solve | (repeat (first | exact List.Mem.head _ | apply List.Mem.tail)))))) (.inl rfl) ?_
  -- STOP: called; op 1: d=1 ["assign", ["t", 10]] guard=None (law.go:13)
  rintro _ _ _ ⟨r, m1, m2, rfl, rfl, rfl⟩
  refine RL.assign rfl rfl rfl rfl ?_
  refine RL.nil ?_
  refine NQ.seq ?_
  refine CW.seq ?_
  refine CW.region (ef := [2]) (bk := [2]) ?_
  refine RL.move rfl rfl rfl rfl ?_
  -- STOP: op; op 1: d=12 ["build", 35, [[0, ["c", ["int", "Go.IntKind.u8", 1]]]]] guard=None (law.go:14)
  refine RL.buildA (bytes keyOne) Try.zeroValue35 Try.runUnderlying35 Try.sizeOf5 rfl rfl rfl rfl rfl ?_
  refine RL.call (put_any r m1 m2 [] [] 0 keyOne (by simp [keyOne]) tok_nil kok_nil) Try.call14 rfl rfl rfl rfl rfl (by repeat (first | exact Pick.nil | apply Pick.take | apply Pick.leave)) (by repeat (first | exact Lend.nil | (refine Lend.inI ?_ ?_; (solve | (repeat (first | exact List.Mem.head _ | apply List.Mem.tail)))) | (refine Lend.inH ?_ ?_; (solve | (repeat (first | exact List.Mem.head _ | apply List.Mem.tail)))))) (.inr rfl) ?_
  -- STOP: called; op 3: d=2 ["assign", ["t", 13]] guard=None (law.go:14)
  rintro _ _ _ ⟨rfl, rfl, b, c1', hk, rfl⟩
  rw [(ex_put b).1] at hk ⊢
  rw [(ex_put b).2]
  refine RL.assign rfl rfl rfl rfl ?_
  refine RL.nil ?_
  refine NQ.seq ?_
  refine CW.seq ?_
  refine CW.region (ef := [1]) (bk := [1]) ?_
  refine RL.move rfl rfl rfl rfl ?_
  refine RL.call (roll_any r m1 m2 [⟨0, keyOne, 1, -1, b⟩] c1' 0 2 10 5 (ex_ok1 b) hk (by decide)) Try.call49 rfl rfl rfl rfl rfl (by repeat (first | exact Pick.nil | apply Pick.take | apply Pick.leave)) (by repeat (first | exact Lend.nil | (refine Lend.inI ?_ ?_; (solve | (repeat (first | exact List.Mem.head _ | apply List.Mem.tail)))) | (refine Lend.inH ?_ ?_; (solve | (repeat (first | exact List.Mem.head _ | apply List.Mem.tail)))))) (.inr rfl) ?_
  -- STOP: called; op 2: d=3 ["assign", ["t", 15]] guard=None (law.go:15)
  rintro _ _ _ ⟨rfl, rfl, c2', hk', rfl⟩
  rw [(ex_roll b).1] at hk' ⊢
  rw [(ex_roll b).2]
  refine RL.assign rfl rfl rfl rfl ?_
  refine RL.nil ?_
  refine NQ.seq ?_
  refine CW.only (.cons (k := 1) rfl (.cons (k := 2) rfl (.cons (k := 3) rfl .nil))) ?_
  refine CW.seq ?_
  refine CW.region (ef := [5, 6]) (bk := [6]) ?_
  refine RL.move rfl rfl rfl rfl ?_
  refine RL.callv (key_any r m1 m2 [⟨0, keyOne, 2, 15, b⟩] c2' 0 1 15 (ex_ok2 b) hk' (by decide)) Try.call18 rfl rfl rfl rfl (by repeat (first | exact Lend.nil | (refine Lend.inI ?_ ?_; (solve | (repeat (first | exact List.Mem.head _ | apply List.Mem.tail)))) | (refine Lend.inH ?_ ?_; (solve | (repeat (first | exact List.Mem.head _ | apply List.Mem.tail)))))) ?_
  refine RL.move rfl rfl rfl rfl ?_
  refine RL.extract rfl rfl rfl rfl rfl ?_
  refine RL.extract rfl rfl rfl rfl rfl ?_
  refine RL.alloc Try.zeroValue35 rfl rfl rfl rfl rfl ?_
  intro b1
  -- STOP: op; op 6: d=None ["store", 35, ["t", 4], ["t", 19]] guard=None (law.go:16)
  rw [(ex_keys b).1]
  refine RL.storeW Try.sizeOf35 rfl rfl rfl rfl rfl rfl rfl (ones_map one8 _) (by repeat (first | exact Upd.here | apply Upd.there)) (by first | rfl | assumption | (simp only [List.length_map]; assumption) | (simp only [List.length_map, List.length_replicate, hk1, hk2]; done) | (simp; done)) rfl ?_
  refine RL.assign rfl rfl rfl rfl ?_
  refine RL.nil ?_
  refine NQ.seq ?_
  refine CW.only (.cons (k := 1) rfl (.cons (k := 2) rfl (.cons (k := 3) rfl (.cons (k := 5) rfl .nil)))) ?_
  refine CW.seq ?_
  refine CW.region (ef := [5, 6]) (bk := [6]) ?_
  refine RL.move rfl rfl rfl rfl ?_
  refine RL.callv (key_any r m1 m2 [⟨0, keyOne, 2, 15, b⟩] c2' 0 1 16 (ex_ok2 b) hk' (by decide)) Try.call18 rfl rfl rfl rfl (by repeat (first | exact Lend.nil | (refine Lend.inI ?_ ?_; (solve | (repeat (first | exact List.Mem.head _ | apply List.Mem.tail)))) | (refine Lend.inH ?_ ?_; (solve | (repeat (first | exact List.Mem.head _ | apply List.Mem.tail)))))) ?_
  refine RL.move rfl rfl rfl rfl ?_
  refine RL.extract rfl rfl rfl rfl rfl ?_
  refine RL.extract rfl rfl rfl rfl rfl ?_
  refine RL.alloc Try.zeroValue35 rfl rfl rfl rfl rfl ?_
  intro b2
  -- STOP: op; op 6: d=None ["store", 35, ["t", 6], ["t", 24]] guard=None (law.go:17)
  rw [(ex_keys b).2.1]
  refine RL.storeW Try.sizeOf35 rfl rfl rfl rfl rfl rfl rfl (ones_map one8 _) (by repeat (first | exact Upd.here | apply Upd.there)) (by first | rfl | assumption | (simp only [List.length_map]; assumption) | (simp only [List.length_map, List.length_replicate, hk1, hk2]; done) | (simp; done)) rfl ?_
  refine RL.assign rfl rfl rfl rfl ?_
  refine RL.nil ?_
  refine NQ.seq ?_
  refine CW.only (.cons (k := 1) rfl (.cons (k := 2) rfl (.cons (k := 3) rfl (.cons (k := 5) rfl (.cons (k := 7) rfl .nil))))) ?_
  refine CW.seq ?_
  refine CW.region (ef := [5, 6]) (bk := [6]) ?_
  refine RL.move rfl rfl rfl rfl ?_
  refine RL.callv (key_any r m1 m2 [⟨0, keyOne, 2, 15, b⟩] c2' 0 2 16 (ex_ok2 b) hk' (by decide)) Try.call18 rfl rfl rfl rfl (by repeat (first | exact Lend.nil | (refine Lend.inI ?_ ?_; (solve | (repeat (first | exact List.Mem.head _ | apply List.Mem.tail)))) | (refine Lend.inH ?_ ?_; (solve | (repeat (first | exact List.Mem.head _ | apply List.Mem.tail)))))) ?_
  refine RL.move rfl rfl rfl rfl ?_
  refine RL.extract rfl rfl rfl rfl rfl ?_
  refine RL.extract rfl rfl rfl rfl rfl ?_
  refine RL.alloc Try.zeroValue35 rfl rfl rfl rfl rfl ?_
  intro b3
  -- STOP: op; op 6: d=None ["store", 35, ["t", 8], ["t", 29]] guard=None (law.go:18)
  rw [(ex_keys b).2.2.1]
  refine RL.storeW Try.sizeOf35 rfl rfl rfl rfl rfl rfl rfl (ones_map one8 _) (by repeat (first | exact Upd.here | apply Upd.there)) (by first | rfl | assumption | (simp only [List.length_map]; assumption) | (simp only [List.length_map, List.length_replicate, hk1, hk2]; done) | (simp; done)) rfl ?_
  refine RL.assign rfl rfl rfl rfl ?_
  refine RL.nil ?_
  refine NQ.seq ?_
  refine CW.seq ?_
  refine CW.region (ef := []) (bk := []) ?_
  refine RL.move rfl rfl rfl rfl ?_
  refine RL.bin rfl rfl rfl rfl rfl rfl ?_
  refine RL.move rfl rfl rfl rfl ?_
  apply RL.andB (d := 33) (dp := 36) (l' := (Sq.of [6, 7, 8, 9, 10, 11, 12, 13, 14, 15, 16, 17, 18, 19, 20, 21, 22, 23, 24, 25, 26, 27, 28])) rfl (.cons (k := 1) rfl (.cons (k := 5) rfl (.cons (k := 7) rfl (.cons (k := 8) rfl (.cons (k := 9) rfl .nil)))))
  ·
    intro hb3 K3
    refine RL.move rfl rfl rfl rfl ?_
    refine RL.bin rfl rfl rfl rfl rfl rfl ?_
    refine RL.pickT rfl rfl rfl rfl rfl ?_
    exact K3 _ (.cons rfl (.cons (k := 1) rfl (.cons (k := 5) rfl (.cons (k := 7) rfl (.cons (k := 8) rfl (.cons (k := 9) rfl .nil))))))
  ·
    intro hb3 K3
    refine RL.skip rfl rfl rfl rfl ?_
    refine RL.skip rfl rfl rfl rfl ?_
    refine RL.pickF rfl rfl rfl rfl rfl ?_
    exact K3 _ (.cons rfl (.cons (k := 1) rfl (.cons (k := 5) rfl (.cons (k := 7) rfl (.cons (k := 8) rfl (.cons (k := 9) rfl .nil))))))
  refine RL.move rfl rfl rfl rfl ?_
  apply RL.andB (d := 37) (dp := 40) (l' := (Sq.of [10, 11, 12, 13, 14, 15, 16, 17, 18, 19, 20, 21, 22, 23, 24, 25, 26, 27, 28])) rfl (.cons (k := 1) rfl (.cons (k := 7) rfl (.cons (k := 8) rfl (.cons (k := 9) rfl .nil))))
  ·
    intro hb7 K7
    refine RL.move rfl rfl rfl rfl ?_
    refine RL.bin rfl rfl rfl rfl rfl rfl ?_
    refine RL.pickT rfl rfl rfl rfl rfl ?_
    exact K7 _ (.cons rfl (.cons (k := 1) rfl (.cons (k := 7) rfl (.cons (k := 8) rfl (.cons (k := 9) rfl .nil)))))
  ·
    intro hb7 K7
    refine RL.skip rfl rfl rfl rfl ?_
    refine RL.skip rfl rfl rfl rfl ?_
    refine RL.pickF rfl rfl rfl rfl rfl ?_
    exact K7 _ (.cons rfl (.cons (k := 1) rfl (.cons (k := 7) rfl (.cons (k := 8) rfl (.cons (k := 9) rfl .nil)))))
  refine RL.move rfl rfl rfl rfl ?_
  apply RL.andB (d := 41) (dp := 44) (l' := (Sq.of [14, 15, 16, 17, 18, 19, 20, 21, 22, 23, 24, 25, 26, 27, 28])) rfl (.cons (k := 1) rfl (.cons (k := 8) rfl (.cons (k := 9) rfl .nil)))
  ·
    intro hb11 K11
    refine RL.move rfl rfl rfl rfl ?_
    refine RL.bin rfl rfl rfl rfl rfl rfl ?_
    refine RL.pickT rfl rfl rfl rfl rfl ?_
    exact K11 _ (.cons rfl (.cons (k := 1) rfl (.cons (k := 8) rfl (.cons (k := 9) rfl .nil))))
  ·
    intro hb11 K11
    refine RL.skip rfl rfl rfl rfl ?_
    refine RL.skip rfl rfl rfl rfl ?_
    refine RL.pickF rfl rfl rfl rfl rfl ?_
    exact K11 _ (.cons rfl (.cons (k := 1) rfl (.cons (k := 8) rfl (.cons (k := 9) rfl .nil))))
  refine RL.move rfl rfl rfl rfl ?_
  apply RL.andB (d := 45) (dp := 48) (l' := (Sq.of [18, 19, 20, 21, 22, 23, 24, 25, 26, 27, 28])) rfl (.cons (k := 1) rfl (.cons (k := 8) rfl .nil))
  ·
    intro hb15 K15
    refine RL.move rfl rfl rfl rfl ?_
    refine RL.bin rfl rfl rfl rfl rfl rfl ?_
    refine RL.pickT rfl rfl rfl rfl rfl ?_
    exact K15 _ (.cons rfl (.cons (k := 1) rfl (.cons (k := 8) rfl .nil)))
  ·
    intro hb15 K15
    refine RL.skip rfl rfl rfl rfl ?_
    refine RL.skip rfl rfl rfl rfl ?_
    refine RL.pickF rfl rfl rfl rfl rfl ?_
    exact K15 _ (.cons rfl (.cons (k := 1) rfl (.cons (k := 8) rfl .nil)))
  refine RL.move rfl rfl rfl rfl ?_
  -- STOP: part 49; op 19: d=50 ["load", 35, ["t", 8]] guard=[18, True] (law.go:19)
  refine RL.cast (d := 49) (v' := .bool true) rfl ((by simp)) ?_
  -- STOP: op; op 19: d=50 ["load", 35, ["t", 8]] guard=[18, True] (law.go:19)
  refine RL.loadW Try.isAgg35 Try.sizeOf35 rfl rfl rfl rfl (by repeat (first | exact List.Mem.head _ | apply List.Mem.tail)) (by first | rfl | assumption | (simp only [List.length_map]; assumption) | (simp only [List.length_map, List.length_replicate, hk1, hk2]; done) | (simp; done)) ?_
  refine RL.buildA _ Try.zeroValue35 Try.runUnderlying35 Try.sizeOf5 rfl rfl rfl rfl rfl ?_
  -- STOP: op; op 21: d=52 ["binOp", "Go.BinOp.neq", 35, ["t", 50], ["t", 51], 35] guard=[18, True] (law.go:19)
  refine RL.cmp rfl rfl rfl rfl rfl (key_ne (deriveK keyOne epochL 2) zeros hk2 rfl _ _) ?_
  refine RL.pickT rfl rfl rfl rfl rfl ?_
  refine RL.move rfl rfl rfl rfl ?_
  apply RL.andB (d := 54) (dp := 58) (l' := (Sq.of [28])) rfl .nil
  ·
    intro hb24 K24
    refine RL.move rfl rfl rfl rfl ?_
    refine RL.callv (epoch_any r m1 m2 [⟨0, keyOne, 2, 15, b⟩] c2' 0 (ex_ok2 b)) Try.call17 rfl rfl rfl rfl (by repeat (first | exact Lend.nil | (refine Lend.inI ?_ ?_; (solve | (repeat (first | exact List.Mem.head _ | apply List.Mem.tail)))) | (refine Lend.inH ?_ ?_; (solve | (repeat (first | exact List.Mem.head _ | apply List.Mem.tail)))))) ?_
    refine RL.bin rfl rfl rfl rfl rfl rfl ?_
    refine RL.pickT rfl rfl rfl rfl rfl ?_
    exact K24 _ (.cons rfl .nil)
  ·
    intro hb24 K24
    refine RL.skip rfl rfl rfl rfl ?_
    refine RL.skip rfl rfl rfl rfl ?_
    refine RL.skip rfl rfl rfl rfl ?_
    refine RL.pickF rfl rfl rfl rfl rfl ?_
    exact K24 _ (.cons rfl .nil)
  refine RL.assign rfl rfl rfl rfl ?_
  refine RL.nil ?_
  refine NQ.seq ?_
  refine CW.ret ?_
  -- STOP: ret; end
  exact RQ.post (res1 rfl rfl) (Split.none _) ⟨by rw [(ex_keys b).2.2.2]; simp [kf_ne], rfl, rfl⟩
end Go.Proofs.Ytkkfdoippibfkaa
