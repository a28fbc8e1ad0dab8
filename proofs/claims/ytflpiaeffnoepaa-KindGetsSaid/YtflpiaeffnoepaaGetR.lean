import Derived.Test.YtflpiaeffnoepaaRdg
namespace Go.Proofs.Ytflpiaeffnoepaa
open Go.PK
set_option linter.unusedSimpArgs false


theorem rget_1 (d br : Nat) (p : Option Addr) (c : Nat) (l : List B8) (hl : l.length = 24) (hc : l.length ≤ c) : Spc Try.prog 84 #[.pointer (some ⟨d, 0, none⟩), .pointer (some ⟨br, 0, none⟩)] [sls p 1 l.length (bytes l)] [rdr d p l.length c, cel br (Rdg.cells (rz 1)) 33]
    (fun _ I' H' => I' = [] ∧ ∃ x, H' = [x, cel br (Rdg.cells (getR 1 l)) 33]) := by
  have hl0 := Lies.refl (sls p 1 l.length (bytes l))
  refine Spc.enter Try.func84 rfl rfl rfl (fun w0 hw0 => ?_)
  refine CW.seq ?_
  refine CW.region (ef := []) (bk := []) ?_
  refine RL.move rfl rfl rfl rfl ?_
  refine RL.nilCheck rfl rfl rfl rfl ?_
  refine RL.fieldAddr fa_33_0 rfl rfl rfl rfl ?_
  refine RL.load Try.isAgg3 rfl rfl rfl rfl (by first | assumption | (apply Rd.get; (solve | (repeat (first | exact List.Mem.head _ | apply List.Mem.tail))); assumption) | (apply Rd.getS; (solve | (repeat (first | exact List.Mem.head _ | apply List.Mem.tail))); assumption) | (apply Rd.getO; (solve | (repeat (first | exact List.Mem.head _ | apply List.Mem.tail))); assumption) | (apply Rd.getI; (solve | (repeat (first | exact List.Mem.head _ | apply List.Mem.tail))); assumption) | (apply Rd.cel; (solve | (repeat (first | exact List.Mem.head _ | apply List.Mem.tail))); exact rfl) | (apply Rd.celI; (solve | (repeat (first | exact List.Mem.head _ | apply List.Mem.tail))); exact rfl)) ?_
  refine RL.nil ?_
  refine NQ.seq ?_
  refine CW.block ?_
  refine CW.seq ?_
  refine CW.block ?_
  refine CW.seq ?_
  refine CW.block ?_
  refine CW.seq ?_
  refine CW.block ?_
  refine CW.seq ?_
  refine CW.block ?_
  refine CW.seq ?_
  refine CW.block ?_
  refine CW.seq ?_
  refine CW.block ?_
  refine CW.seq ?_
  refine CW.block ?_
  refine CW.seq ?_
  refine CW.block ?_
  refine CW.seq ?_
  refine CW.block ?_
  refine CW.seq ?_
  refine CW.block ?_
  refine CW.seq ?_
  refine CW.block ?_
  refine CW.seq ?_
  refine CW.block ?_
  refine CW.seq ?_
  refine CW.seq ?_
  refine CW.seq ?_
  refine CW.region (ef := []) (bk := []) ?_
  refine RL.bin rfl rfl rfl rfl rfl rfl ?_
  refine RL.assign rfl rfl rfl rfl ?_
  refine RL.nil ?_
  refine NQ.seq ?_
  -- STOP: if; todo top: ["code", ["cond", ["t", 8], ["exit", 1], ["skip"]]]
  refine CW.condT rfl (rfl) ?_
  refine CW.exit ?_
  refine XQ.seq ?_
  refine XQ.seq ?_
  refine XQ.hit ?_
  refine NQ.seq ?_
  refine CW.only (.cons (k := 0) rfl (.cons (k := 1) rfl .nil)) ?_
  refine CW.seq ?_
  refine CW.seq ?_
  refine CW.region (ef := [2, 5]) (bk := [2, 5]) ?_
  refine RL.move rfl rfl rfl rfl ?_
  refine RL.move rfl rfl rfl rfl ?_
  refine RL.call (rthree_any d p c l (by omega) hc) Try.call136 rfl rfl rfl rfl rfl (by repeat (first | exact Pick.nil | apply Pick.take | apply Pick.leave)) (Lend.sub hl0 (by repeat (first | exact List.Mem.head _ | apply List.Mem.tail)) .nil) (.inr rfl) ?_
  -- STOP: called; op 3: d=35 ["nilCheck", ["t", 32]] guard=None (kind.go:188)
  rintro _ _ _ ⟨rfl, rfl, q1, k1, rfl, hc1, hk1⟩
  rw [show 4 * 3 = 12 from rfl] at hc1 hk1 ⊢
  have hl1 := hl0.trans hk1
  refine RL.nilCheck rfl rfl rfl rfl ?_
  refine RL.fieldAddr fa_33_1 rfl rfl rfl rfl ?_
  -- STOP: op; op 5: d=None ["store", 23, ["t", 36], ["t", 34]] guard=None (kind.go:188)
  refine RL.storeX (cs' := spl _ (0 + 1) [f32 l 0, f32 l 1, f32 l 2]) (vs := [f32 l 0, f32 l 1, f32 l 2]) rfl Try.sizeOf23 rfl rfl rfl rfl rfl rfl rfl rfl (by repeat (first | exact Upd.here | apply Upd.there)) (Nat.le_of_ble_eq_true rfl) ?_
  refine RL.nil ?_
  refine NQ.seq ?_
  refine CW.region (ef := [2, 5]) (bk := [2, 5]) ?_
  refine RL.move rfl rfl rfl rfl ?_
  refine RL.move rfl rfl rfl rfl ?_
  refine RL.call (rthree_any d q1 k1 (l.drop 12) (by rw [List.length_drop]; omega) hc1) Try.call136 rfl rfl rfl rfl rfl (by repeat (first | exact Pick.nil | apply Pick.take | apply Pick.leave)) (Lend.sub hl1 (by repeat (first | exact List.Mem.head _ | apply List.Mem.tail)) .nil) (.inr rfl) ?_
  -- STOP: called; op 3: d=40 ["nilCheck", ["t", 37]] guard=None (kind.go:189)
  rintro _ _ _ ⟨rfl, rfl, q2, k2, rfl, hc2, hk2⟩
  rw [List.drop_drop] at hc2 hk2 ⊢
  rw [show 4 * 3 = 12 from rfl] at hc2 hk2 ⊢
  rw [show 12 + 12 = 24 from rfl] at hc2 hk2 ⊢
  have hl2 := hl1.trans hk2
  refine RL.nilCheck rfl rfl rfl rfl ?_
  refine RL.fieldAddr fa_33_2 rfl rfl rfl rfl ?_
  -- STOP: op; op 5: d=None ["store", 23, ["t", 41], ["t", 39]] guard=None (kind.go:189)
  refine RL.storeX (cs' := spl _ (0 + 4) [f32 (l.drop 12) 0, f32 (l.drop 12) 1, f32 (l.drop 12) 2]) (vs := [f32 (l.drop 12) 0, f32 (l.drop 12) 1, f32 (l.drop 12) 2]) rfl Try.sizeOf23 rfl rfl rfl rfl rfl rfl rfl rfl (by repeat (first | exact Upd.here | apply Upd.there)) (Nat.le_of_ble_eq_true rfl) ?_
  refine RL.nil ?_
  refine NQ.seq ?_
  refine CW.only (.cons (k := 0) rfl (.cons (k := 1) rfl .nil)) ?_
  refine CW.exit ?_
  refine XQ.miss rfl ?_
  refine XQ.seq ?_
  refine XQ.miss rfl ?_
  refine XQ.seq ?_
  refine XQ.miss rfl ?_
  refine XQ.seq ?_
  refine XQ.miss rfl ?_
  refine XQ.seq ?_
  refine XQ.miss rfl ?_
  refine XQ.seq ?_
  refine XQ.miss rfl ?_
  refine XQ.seq ?_
  refine XQ.miss rfl ?_
  refine XQ.seq ?_
  refine XQ.miss rfl ?_
  refine XQ.seq ?_
  refine XQ.miss rfl ?_
  refine XQ.seq ?_
  refine XQ.miss rfl ?_
  refine XQ.seq ?_
  refine XQ.miss rfl ?_
  refine XQ.seq ?_
  refine XQ.hit ?_
  -- STOP: end; todo top: ["N"]
  refine NQ.post (res0 rfl) (.keep (.keep .nil)) ⟨rfl, _, congrArg (fun z => [_, cel br z _]) ?_⟩
  simp only [f32, f64, List.drop_drop, Nat.reduceMul, Nat.reduceAdd, u32_nat, u32_nat0, u16_nat, ofInt_nat8, ofNat_nat8]
  rfl
theorem rget_2 (d br : Nat) (p : Option Addr) (c : Nat) (l : List B8) (hl : l.length = 8) (hc : l.length ≤ c) : Spc Try.prog 84 #[.pointer (some ⟨d, 0, none⟩), .pointer (some ⟨br, 0, none⟩)] [sls p 1 l.length (bytes l)] [rdr d p l.length c, cel br (Rdg.cells (rz 2)) 33]
    (fun _ I' H' => I' = [] ∧ ∃ x, H' = [x, cel br (Rdg.cells (getR 2 l)) 33]) := by
  have hl0 := Lies.refl (sls p 1 l.length (bytes l))
  refine Spc.enter Try.func84 rfl rfl rfl (fun w0 hw0 => ?_)
  refine CW.seq ?_
  refine CW.region (ef := []) (bk := []) ?_
  refine RL.move rfl rfl rfl rfl ?_
  refine RL.nilCheck rfl rfl rfl rfl ?_
  refine RL.fieldAddr fa_33_0 rfl rfl rfl rfl ?_
  refine RL.load Try.isAgg3 rfl rfl rfl rfl (by first | assumption | (apply Rd.get; (solve | (repeat (first | exact List.Mem.head _ | apply List.Mem.tail))); assumption) | (apply Rd.getS; (solve | (repeat (first | exact List.Mem.head _ | apply List.Mem.tail))); assumption) | (apply Rd.getO; (solve | (repeat (first | exact List.Mem.head _ | apply List.Mem.tail))); assumption) | (apply Rd.getI; (solve | (repeat (first | exact List.Mem.head _ | apply List.Mem.tail))); assumption) | (apply Rd.cel; (solve | (repeat (first | exact List.Mem.head _ | apply List.Mem.tail))); exact rfl) | (apply Rd.celI; (solve | (repeat (first | exact List.Mem.head _ | apply List.Mem.tail))); exact rfl)) ?_
  refine RL.nil ?_
  refine NQ.seq ?_
  refine CW.block ?_
  refine CW.seq ?_
  refine CW.block ?_
  refine CW.seq ?_
  refine CW.block ?_
  refine CW.seq ?_
  refine CW.block ?_
  refine CW.seq ?_
  refine CW.block ?_
  refine CW.seq ?_
  refine CW.block ?_
  refine CW.seq ?_
  refine CW.block ?_
  refine CW.seq ?_
  refine CW.block ?_
  refine CW.seq ?_
  refine CW.block ?_
  refine CW.seq ?_
  refine CW.block ?_
  refine CW.seq ?_
  refine CW.block ?_
  refine CW.seq ?_
  refine CW.block ?_
  refine CW.seq ?_
  refine CW.block ?_
  refine CW.seq ?_
  refine CW.seq ?_
  refine CW.seq ?_
  refine CW.region (ef := []) (bk := []) ?_
  refine RL.bin rfl rfl rfl rfl rfl rfl ?_
  refine RL.assign rfl rfl rfl rfl ?_
  refine RL.nil ?_
  refine NQ.seq ?_
  -- STOP: if; todo top: ["code", ["cond", ["t", 8], ["exit", 1], ["skip"]]]
  refine CW.condF rfl (rfl) ?_
  refine CW.skip ?_
  refine NQ.seq ?_
  refine CW.seq ?_
  refine CW.seq ?_
  refine CW.region (ef := []) (bk := []) ?_
  refine RL.bin rfl rfl rfl rfl rfl rfl ?_
  refine RL.assign rfl rfl rfl rfl ?_
  refine RL.nil ?_
  refine NQ.seq ?_
  refine CW.only (.cons (k := 0) rfl (.cons (k := 1) rfl (.cons (k := 7) rfl (.cons (k := 10) rfl .nil)))) ?_
  -- STOP: if; todo top: ["code", ["cond", ["t", 10], ["exit", 2], ["skip"]]]
  refine CW.condT rfl (rfl) ?_
  refine CW.exit ?_
  refine XQ.seq ?_
  refine XQ.seq ?_
  refine XQ.miss rfl ?_
  refine XQ.seq ?_
  refine XQ.hit ?_
  refine NQ.seq ?_
  refine CW.seq ?_
  refine CW.region (ef := [2, 5]) (bk := [2, 5]) ?_
  refine RL.move rfl rfl rfl rfl ?_
  refine RL.move rfl rfl rfl rfl ?_
  refine RL.call (rfix_any d p c l (by omega) hc) Try.call137 rfl rfl rfl rfl rfl (by repeat (first | exact Pick.nil | apply Pick.take | apply Pick.leave)) (Lend.sub hl0 (by repeat (first | exact List.Mem.head _ | apply List.Mem.tail)) .nil) (.inr rfl) ?_
  -- STOP: called; op 3: d=45 ["nilCheck", ["t", 42]] guard=None (kind.go:191)
  rintro _ _ _ ⟨rfl, rfl, q1, k1, rfl, hc1, hk1⟩
  have hl1 := hl0.trans hk1
  refine RL.nilCheck rfl rfl rfl rfl ?_
  refine RL.fieldAddr fa_33_3 rfl rfl rfl rfl ?_
  refine RL.store (vs := [_]) Try.sizeOf24 rfl rfl rfl rfl rfl rfl rfl rfl rfl (by repeat (first | exact Upd.here | apply Upd.there)) ?_
  refine RL.nil ?_
  refine NQ.seq ?_
  refine CW.only (.cons (k := 0) rfl (.cons (k := 1) rfl .nil)) ?_
  refine CW.exit ?_
  refine XQ.miss rfl ?_
  refine XQ.seq ?_
  refine XQ.miss rfl ?_
  refine XQ.seq ?_
  refine XQ.miss rfl ?_
  refine XQ.seq ?_
  refine XQ.miss rfl ?_
  refine XQ.seq ?_
  refine XQ.miss rfl ?_
  refine XQ.seq ?_
  refine XQ.miss rfl ?_
  refine XQ.seq ?_
  refine XQ.miss rfl ?_
  refine XQ.seq ?_
  refine XQ.miss rfl ?_
  refine XQ.seq ?_
  refine XQ.miss rfl ?_
  refine XQ.seq ?_
  refine XQ.miss rfl ?_
  refine XQ.seq ?_
  refine XQ.hit ?_
  -- STOP: end; todo top: ["N"]
  refine NQ.post (res0 rfl) (.keep (.keep .nil)) ⟨rfl, _, congrArg (fun z => [_, cel br z _]) ?_⟩
  simp only [f32, f64, List.drop_drop, Nat.reduceMul, Nat.reduceAdd, u32_nat, u32_nat0, u16_nat, ofInt_nat8, ofNat_nat8]
  rfl
theorem rget_3 (d br : Nat) (p : Option Addr) (c : Nat) (l : List B8) (hl : l.length = 4) (hc : l.length ≤ c) : Spc Try.prog 84 #[.pointer (some ⟨d, 0, none⟩), .pointer (some ⟨br, 0, none⟩)] [sls p 1 l.length (bytes l)] [rdr d p l.length c, cel br (Rdg.cells (rz 3)) 33]
    (fun _ I' H' => I' = [] ∧ ∃ x, H' = [x, cel br (Rdg.cells (getR 3 l)) 33]) := by
  have hl0 := Lies.refl (sls p 1 l.length (bytes l))
  refine Spc.enter Try.func84 rfl rfl rfl (fun w0 hw0 => ?_)
  refine CW.seq ?_
  refine CW.region (ef := []) (bk := []) ?_
  refine RL.move rfl rfl rfl rfl ?_
  refine RL.nilCheck rfl rfl rfl rfl ?_
  refine RL.fieldAddr fa_33_0 rfl rfl rfl rfl ?_
  refine RL.load Try.isAgg3 rfl rfl rfl rfl (by first | assumption | (apply Rd.get; (solve | (repeat (first | exact List.Mem.head _ | apply List.Mem.tail))); assumption) | (apply Rd.getS; (solve | (repeat (first | exact List.Mem.head _ | apply List.Mem.tail))); assumption) | (apply Rd.getO; (solve | (repeat (first | exact List.Mem.head _ | apply List.Mem.tail))); assumption) | (apply Rd.getI; (solve | (repeat (first | exact List.Mem.head _ | apply List.Mem.tail))); assumption) | (apply Rd.cel; (solve | (repeat (first | exact List.Mem.head _ | apply List.Mem.tail))); exact rfl) | (apply Rd.celI; (solve | (repeat (first | exact List.Mem.head _ | apply List.Mem.tail))); exact rfl)) ?_
  refine RL.nil ?_
  refine NQ.seq ?_
  refine CW.block ?_
  refine CW.seq ?_
  refine CW.block ?_
  refine CW.seq ?_
  refine CW.block ?_
  refine CW.seq ?_
  refine CW.block ?_
  refine CW.seq ?_
  refine CW.block ?_
  refine CW.seq ?_
  refine CW.block ?_
  refine CW.seq ?_
  refine CW.block ?_
  refine CW.seq ?_
  refine CW.block ?_
  refine CW.seq ?_
  refine CW.block ?_
  refine CW.seq ?_
  refine CW.block ?_
  refine CW.seq ?_
  refine CW.block ?_
  refine CW.seq ?_
  refine CW.block ?_
  refine CW.seq ?_
  refine CW.block ?_
  refine CW.seq ?_
  refine CW.seq ?_
  refine CW.seq ?_
  refine CW.region (ef := []) (bk := []) ?_
  refine RL.bin rfl rfl rfl rfl rfl rfl ?_
  refine RL.assign rfl rfl rfl rfl ?_
  refine RL.nil ?_
  refine NQ.seq ?_
  -- STOP: if; todo top: ["code", ["cond", ["t", 8], ["exit", 1], ["skip"]]]
  refine CW.condF rfl (rfl) ?_
  refine CW.skip ?_
  refine NQ.seq ?_
  refine CW.seq ?_
  refine CW.seq ?_
  refine CW.region (ef := []) (bk := []) ?_
  refine RL.bin rfl rfl rfl rfl rfl rfl ?_
  refine RL.assign rfl rfl rfl rfl ?_
  refine RL.nil ?_
  refine NQ.seq ?_
  refine CW.only (.cons (k := 0) rfl (.cons (k := 1) rfl (.cons (k := 7) rfl (.cons (k := 10) rfl .nil)))) ?_
  -- STOP: if; todo top: ["code", ["cond", ["t", 10], ["exit", 2], ["skip"]]]
  refine CW.condF rfl (rfl) ?_
  refine CW.skip ?_
  refine NQ.seq ?_
  refine CW.seq ?_
  refine CW.seq ?_
  refine CW.region (ef := []) (bk := []) ?_
  refine RL.bin rfl rfl rfl rfl rfl rfl ?_
  refine RL.assign rfl rfl rfl rfl ?_
  refine RL.nil ?_
  refine NQ.seq ?_
  -- STOP: if; todo top: ["code", ["cond", ["t", 12], ["exit", 3], ["skip"]]]
  refine CW.condT rfl (rfl) ?_
  refine CW.exit ?_
  refine XQ.seq ?_
  refine XQ.seq ?_
  refine XQ.miss rfl ?_
  refine XQ.seq ?_
  refine XQ.miss rfl ?_
  refine XQ.seq ?_
  refine XQ.hit ?_
  refine NQ.seq ?_
  refine CW.seq ?_
  refine CW.region (ef := [2, 6]) (bk := [2, 6]) ?_
  refine RL.move rfl rfl rfl rfl ?_
  refine RL.move rfl rfl rfl rfl ?_
  refine RL.call (rnum_any d p 4 c l (by omega) hc (by decide)) Try.call138 rfl rfl rfl rfl rfl (by repeat (first | exact Pick.nil | apply Pick.take | apply Pick.leave)) (Lend.sub hl0 (by repeat (first | exact List.Mem.head _ | apply List.Mem.tail)) .nil) (.inr rfl) ?_
  -- STOP: called; op 3: d=50 ["convert", 30, 25, ["t", 49]] guard=None (kind.go:193)
  rintro _ _ _ ⟨rfl, rfl, q1, k1, rfl, hc1, hk1⟩
  have hl1 := hl0.trans hk1
  refine RL.conv Try.runUnderlying30 Try.runUnderlying25 rfl rfl rfl rfl ?_
  refine RL.nilCheck rfl rfl rfl rfl ?_
  refine RL.fieldAddr fa_33_4 rfl rfl rfl rfl ?_
  refine RL.store (vs := [_]) Try.sizeOf25 rfl rfl rfl rfl rfl rfl rfl rfl rfl (by repeat (first | exact Upd.here | apply Upd.there)) ?_
  refine RL.nil ?_
  refine NQ.seq ?_
  refine CW.only (.cons (k := 0) rfl (.cons (k := 1) rfl .nil)) ?_
  refine CW.exit ?_
  refine XQ.miss rfl ?_
  refine XQ.seq ?_
  refine XQ.miss rfl ?_
  refine XQ.seq ?_
  refine XQ.miss rfl ?_
  refine XQ.seq ?_
  refine XQ.miss rfl ?_
  refine XQ.seq ?_
  refine XQ.miss rfl ?_
  refine XQ.seq ?_
  refine XQ.miss rfl ?_
  refine XQ.seq ?_
  refine XQ.miss rfl ?_
  refine XQ.seq ?_
  refine XQ.miss rfl ?_
  refine XQ.seq ?_
  refine XQ.miss rfl ?_
  refine XQ.seq ?_
  refine XQ.hit ?_
  -- STOP: end; todo top: ["N"]
  refine NQ.post (res0 rfl) (.keep (.keep .nil)) ⟨rfl, _, congrArg (fun z => [_, cel br z _]) ?_⟩
  simp only [f32, f64, List.drop_drop, Nat.reduceMul, Nat.reduceAdd, u32_nat, u32_nat0, u16_nat, ofInt_nat8, ofNat_nat8]
  rfl
theorem rget_4 (d br : Nat) (p : Option Addr) (c : Nat) (l : List B8) (hl : l.length = 8) (hc : l.length ≤ c) : Spc Try.prog 84 #[.pointer (some ⟨d, 0, none⟩), .pointer (some ⟨br, 0, none⟩)] [sls p 1 l.length (bytes l)] [rdr d p l.length c, cel br (Rdg.cells (rz 4)) 33]
    (fun _ I' H' => I' = [] ∧ ∃ x, H' = [x, cel br (Rdg.cells (getR 4 l)) 33]) := by
  have hl0 := Lies.refl (sls p 1 l.length (bytes l))
  refine Spc.enter Try.func84 rfl rfl rfl (fun w0 hw0 => ?_)
  refine CW.seq ?_
  refine CW.region (ef := []) (bk := []) ?_
  refine RL.move rfl rfl rfl rfl ?_
  refine RL.nilCheck rfl rfl rfl rfl ?_
  refine RL.fieldAddr fa_33_0 rfl rfl rfl rfl ?_
  refine RL.load Try.isAgg3 rfl rfl rfl rfl (by first | assumption | (apply Rd.get; (solve | (repeat (first | exact List.Mem.head _ | apply List.Mem.tail))); assumption) | (apply Rd.getS; (solve | (repeat (first | exact List.Mem.head _ | apply List.Mem.tail))); assumption) | (apply Rd.getO; (solve | (repeat (first | exact List.Mem.head _ | apply List.Mem.tail))); assumption) | (apply Rd.getI; (solve | (repeat (first | exact List.Mem.head _ | apply List.Mem.tail))); assumption) | (apply Rd.cel; (solve | (repeat (first | exact List.Mem.head _ | apply List.Mem.tail))); exact rfl) | (apply Rd.celI; (solve | (repeat (first | exact List.Mem.head _ | apply List.Mem.tail))); exact rfl)) ?_
  refine RL.nil ?_
  refine NQ.seq ?_
  refine CW.block ?_
  refine CW.seq ?_
  refine CW.block ?_
  refine CW.seq ?_
  refine CW.block ?_
  refine CW.seq ?_
  refine CW.block ?_
  refine CW.seq ?_
  refine CW.block ?_
  refine CW.seq ?_
  refine CW.block ?_
  refine CW.seq ?_
  refine CW.block ?_
  refine CW.seq ?_
  refine CW.block ?_
  refine CW.seq ?_
  refine CW.block ?_
  refine CW.seq ?_
  refine CW.block ?_
  refine CW.seq ?_
  refine CW.block ?_
  refine CW.seq ?_
  refine CW.block ?_
  refine CW.seq ?_
  refine CW.block ?_
  refine CW.seq ?_
  refine CW.seq ?_
  refine CW.seq ?_
  refine CW.region (ef := []) (bk := []) ?_
  refine RL.bin rfl rfl rfl rfl rfl rfl ?_
  refine RL.assign rfl rfl rfl rfl ?_
  refine RL.nil ?_
  refine NQ.seq ?_
  -- STOP: if; todo top: ["code", ["cond", ["t", 8], ["exit", 1], ["skip"]]]
  refine CW.condF rfl (rfl) ?_
  refine CW.skip ?_
  refine NQ.seq ?_
  refine CW.seq ?_
  refine CW.seq ?_
  refine CW.region (ef := []) (bk := []) ?_
  refine RL.bin rfl rfl rfl rfl rfl rfl ?_
  refine RL.assign rfl rfl rfl rfl ?_
  refine RL.nil ?_
  refine NQ.seq ?_
  refine CW.only (.cons (k := 0) rfl (.cons (k := 1) rfl (.cons (k := 7) rfl (.cons (k := 10) rfl .nil)))) ?_
  -- STOP: if; todo top: ["code", ["cond", ["t", 10], ["exit", 2], ["skip"]]]
  refine CW.condF rfl (rfl) ?_
  refine CW.skip ?_
  refine NQ.seq ?_
  refine CW.seq ?_
  refine CW.seq ?_
  refine CW.region (ef := []) (bk := []) ?_
  refine RL.bin rfl rfl rfl rfl rfl rfl ?_
  refine RL.assign rfl rfl rfl rfl ?_
  refine RL.nil ?_
  refine NQ.seq ?_
  -- STOP: if; todo top: ["code", ["cond", ["t", 12], ["exit", 3], ["skip"]]]
  refine CW.condF rfl (rfl) ?_
  refine CW.skip ?_
  refine NQ.seq ?_
  refine CW.seq ?_
  refine CW.seq ?_
  refine CW.region (ef := []) (bk := []) ?_
  refine RL.bin rfl rfl rfl rfl rfl rfl ?_
  refine RL.assign rfl rfl rfl rfl ?_
  refine RL.nil ?_
  refine NQ.seq ?_
  -- STOP: if; todo top: ["code", ["cond", ["t", 14], ["exit", 4], ["skip"]]]
  refine CW.condT rfl (rfl) ?_
  refine CW.exit ?_
  refine XQ.seq ?_
  refine XQ.seq ?_
  refine XQ.miss rfl ?_
  refine XQ.seq ?_
  refine XQ.miss rfl ?_
  refine XQ.seq ?_
  refine XQ.miss rfl ?_
  refine XQ.seq ?_
  refine XQ.hit ?_
  refine NQ.seq ?_
  refine CW.only (.cons (k := 0) rfl (.cons (k := 1) rfl .nil)) ?_
  refine CW.seq ?_
  refine CW.seq ?_
  refine CW.region (ef := [2, 5]) (bk := [2, 5]) ?_
  refine RL.move rfl rfl rfl rfl ?_
  refine RL.move rfl rfl rfl rfl ?_
  refine RL.call (rshort_any d p c l (by omega) hc) Try.call139 rfl rfl rfl rfl rfl (by repeat (first | exact Pick.nil | apply Pick.take | apply Pick.leave)) (Lend.sub hl0 (by repeat (first | exact List.Mem.head _ | apply List.Mem.tail)) .nil) (.inr rfl) ?_
  -- STOP: called; op 3: d=56 ["nilCheck", ["t", 53]] guard=None (kind.go:195)
  rintro _ _ _ ⟨rfl, rfl, q1, k1, rfl, hc1, hk1⟩
  have hl1 := hl0.trans hk1
  refine RL.nilCheck rfl rfl rfl rfl ?_
  refine RL.fieldAddr fa_33_5 rfl rfl rfl rfl ?_
  refine RL.store (vs := [_]) Try.sizeOf22 rfl rfl rfl rfl rfl rfl rfl rfl rfl (by repeat (first | exact Upd.here | apply Upd.there)) ?_
  refine RL.nil ?_
  refine NQ.seq ?_
  refine CW.region (ef := [2, 6]) (bk := [2, 6]) ?_
  refine RL.move rfl rfl rfl rfl ?_
  refine RL.move rfl rfl rfl rfl ?_
  refine RL.call (rnum_any d q1 4 k1 (l.drop 4) (by rw [List.length_drop]; omega) hc1 (by decide)) Try.call138 rfl rfl rfl rfl rfl (by repeat (first | exact Pick.nil | apply Pick.take | apply Pick.leave)) (Lend.sub hl1 (by repeat (first | exact List.Mem.head _ | apply List.Mem.tail)) .nil) (.inr rfl) ?_
  -- STOP: called; op 3: d=61 ["convert", 30, 25, ["t", 60]] guard=None (kind.go:196)
  rintro _ _ _ ⟨rfl, rfl, q2, k2, rfl, hc2, hk2⟩
  rw [List.drop_drop] at hc2 hk2 ⊢
  rw [show 4 + 4 = 8 from rfl] at hc2 hk2 ⊢
  have hl2 := hl1.trans hk2
  refine RL.conv Try.runUnderlying30 Try.runUnderlying25 rfl rfl rfl rfl ?_
  refine RL.nilCheck rfl rfl rfl rfl ?_
  refine RL.fieldAddr fa_33_6 rfl rfl rfl rfl ?_
  refine RL.store (vs := [_]) Try.sizeOf25 rfl rfl rfl rfl rfl rfl rfl rfl rfl (by repeat (first | exact Upd.here | apply Upd.there)) ?_
  refine RL.nil ?_
  refine NQ.seq ?_
  refine CW.only (.cons (k := 0) rfl (.cons (k := 1) rfl .nil)) ?_
  refine CW.exit ?_
  refine XQ.miss rfl ?_
  refine XQ.seq ?_
  refine XQ.miss rfl ?_
  refine XQ.seq ?_
  refine XQ.miss rfl ?_
  refine XQ.seq ?_
  refine XQ.miss rfl ?_
  refine XQ.seq ?_
  refine XQ.miss rfl ?_
  refine XQ.seq ?_
  refine XQ.miss rfl ?_
  refine XQ.seq ?_
  refine XQ.miss rfl ?_
  refine XQ.seq ?_
  refine XQ.miss rfl ?_
  refine XQ.seq ?_
  refine XQ.hit ?_
  -- STOP: end; todo top: ["N"]
  refine NQ.post (res0 rfl) (.keep (.keep .nil)) ⟨rfl, _, congrArg (fun z => [_, cel br z _]) ?_⟩
  simp only [f32, f64, List.drop_drop, Nat.reduceMul, Nat.reduceAdd, u32_nat, u32_nat0, u16_nat, ofInt_nat8, ofNat_nat8]
  rfl
theorem rget_5 (d br : Nat) (p : Option Addr) (c : Nat) (l : List B8) (hl : l.length = 29) (hc : l.length ≤ c) : Spc Try.prog 84 #[.pointer (some ⟨d, 0, none⟩), .pointer (some ⟨br, 0, none⟩)] [sls p 1 l.length (bytes l)] [rdr d p l.length c, cel br (Rdg.cells (rz 5)) 33]
    (fun _ I' H' => I' = [] ∧ ∃ x, H' = [x, cel br (Rdg.cells (getR 5 l)) 33]) := by
  have hl0 := Lies.refl (sls p 1 l.length (bytes l))
  refine Spc.enter Try.func84 rfl rfl rfl (fun w0 hw0 => ?_)
  refine CW.seq ?_
  refine CW.region (ef := []) (bk := []) ?_
  refine RL.move rfl rfl rfl rfl ?_
  refine RL.nilCheck rfl rfl rfl rfl ?_
  refine RL.fieldAddr fa_33_0 rfl rfl rfl rfl ?_
  refine RL.load Try.isAgg3 rfl rfl rfl rfl (by first | assumption | (apply Rd.get; (solve | (repeat (first | exact List.Mem.head _ | apply List.Mem.tail))); assumption) | (apply Rd.getS; (solve | (repeat (first | exact List.Mem.head _ | apply List.Mem.tail))); assumption) | (apply Rd.getO; (solve | (repeat (first | exact List.Mem.head _ | apply List.Mem.tail))); assumption) | (apply Rd.getI; (solve | (repeat (first | exact List.Mem.head _ | apply List.Mem.tail))); assumption) | (apply Rd.cel; (solve | (repeat (first | exact List.Mem.head _ | apply List.Mem.tail))); exact rfl) | (apply Rd.celI; (solve | (repeat (first | exact List.Mem.head _ | apply List.Mem.tail))); exact rfl)) ?_
  refine RL.nil ?_
  refine NQ.seq ?_
  refine CW.block ?_
  refine CW.seq ?_
  refine CW.block ?_
  refine CW.seq ?_
  refine CW.block ?_
  refine CW.seq ?_
  refine CW.block ?_
  refine CW.seq ?_
  refine CW.block ?_
  refine CW.seq ?_
  refine CW.block ?_
  refine CW.seq ?_
  refine CW.block ?_
  refine CW.seq ?_
  refine CW.block ?_
  refine CW.seq ?_
  refine CW.block ?_
  refine CW.seq ?_
  refine CW.block ?_
  refine CW.seq ?_
  refine CW.block ?_
  refine CW.seq ?_
  refine CW.block ?_
  refine CW.seq ?_
  refine CW.block ?_
  refine CW.seq ?_
  refine CW.seq ?_
  refine CW.seq ?_
  refine CW.region (ef := []) (bk := []) ?_
  refine RL.bin rfl rfl rfl rfl rfl rfl ?_
  refine RL.assign rfl rfl rfl rfl ?_
  refine RL.nil ?_
  refine NQ.seq ?_
  -- STOP: if; todo top: ["code", ["cond", ["t", 8], ["exit", 1], ["skip"]]]
  refine CW.condF rfl (rfl) ?_
  refine CW.skip ?_
  refine NQ.seq ?_
  refine CW.seq ?_
  refine CW.seq ?_
  refine CW.region (ef := []) (bk := []) ?_
  refine RL.bin rfl rfl rfl rfl rfl rfl ?_
  refine RL.assign rfl rfl rfl rfl ?_
  refine RL.nil ?_
  refine NQ.seq ?_
  refine CW.only (.cons (k := 0) rfl (.cons (k := 1) rfl (.cons (k := 7) rfl (.cons (k := 10) rfl .nil)))) ?_
  -- STOP: if; todo top: ["code", ["cond", ["t", 10], ["exit", 2], ["skip"]]]
  refine CW.condF rfl (rfl) ?_
  refine CW.skip ?_
  refine NQ.seq ?_
  refine CW.seq ?_
  refine CW.seq ?_
  refine CW.region (ef := []) (bk := []) ?_
  refine RL.bin rfl rfl rfl rfl rfl rfl ?_
  refine RL.assign rfl rfl rfl rfl ?_
  refine RL.nil ?_
  refine NQ.seq ?_
  -- STOP: if; todo top: ["code", ["cond", ["t", 12], ["exit", 3], ["skip"]]]
  refine CW.condF rfl (rfl) ?_
  refine CW.skip ?_
  refine NQ.seq ?_
  refine CW.seq ?_
  refine CW.seq ?_
  refine CW.region (ef := []) (bk := []) ?_
  refine RL.bin rfl rfl rfl rfl rfl rfl ?_
  refine RL.assign rfl rfl rfl rfl ?_
  refine RL.nil ?_
  refine NQ.seq ?_
  -- STOP: if; todo top: ["code", ["cond", ["t", 14], ["exit", 4], ["skip"]]]
  refine CW.condF rfl (rfl) ?_
  refine CW.skip ?_
  refine NQ.seq ?_
  refine CW.seq ?_
  refine CW.seq ?_
  refine CW.region (ef := []) (bk := []) ?_
  refine RL.bin rfl rfl rfl rfl rfl rfl ?_
  refine RL.assign rfl rfl rfl rfl ?_
  refine RL.nil ?_
  refine NQ.seq ?_
  refine CW.only (.cons (k := 0) rfl (.cons (k := 1) rfl (.cons (k := 7) rfl (.cons (k := 16) rfl .nil)))) ?_
  -- STOP: if; todo top: ["code", ["cond", ["t", 16], ["exit", 5], ["skip"]]]
  refine CW.condT rfl (rfl) ?_
  refine CW.exit ?_
  refine XQ.seq ?_
  refine XQ.seq ?_
  refine XQ.miss rfl ?_
  refine XQ.seq ?_
  refine XQ.miss rfl ?_
  refine XQ.seq ?_
  refine XQ.miss rfl ?_
  refine XQ.seq ?_
  refine XQ.miss rfl ?_
  refine XQ.seq ?_
  refine XQ.hit ?_
  refine NQ.seq ?_
  refine CW.seq ?_
  refine CW.seq ?_
  refine CW.region (ef := [2, 6]) (bk := [2, 6]) ?_
  refine RL.move rfl rfl rfl rfl ?_
  refine RL.move rfl rfl rfl rfl ?_
  refine RL.call (rnum_any d p 4 c l (by omega) hc (by decide)) Try.call138 rfl rfl rfl rfl rfl (by repeat (first | exact Pick.nil | apply Pick.take | apply Pick.leave)) (Lend.sub hl0 (by repeat (first | exact List.Mem.head _ | apply List.Mem.tail)) .nil) (.inr rfl) ?_
  -- STOP: called; op 3: d=67 ["convert", 30, 25, ["t", 66]] guard=None (kind.go:198)
  rintro _ _ _ ⟨rfl, rfl, q1, k1, rfl, hc1, hk1⟩
  have hl1 := hl0.trans hk1
  refine RL.conv Try.runUnderlying30 Try.runUnderlying25 rfl rfl rfl rfl ?_
  refine RL.nilCheck rfl rfl rfl rfl ?_
  refine RL.fieldAddr fa_33_7 rfl rfl rfl rfl ?_
  refine RL.store (vs := [_]) Try.sizeOf25 rfl rfl rfl rfl rfl rfl rfl rfl rfl (by repeat (first | exact Upd.here | apply Upd.there)) ?_
  refine RL.nil ?_
  refine NQ.seq ?_
  refine CW.only (.cons (k := 0) rfl (.cons (k := 1) rfl .nil)) ?_
  refine CW.seq ?_
  refine CW.region (ef := [2, 6]) (bk := [2, 6]) ?_
  refine RL.move rfl rfl rfl rfl ?_
  refine RL.move rfl rfl rfl rfl ?_
  refine RL.call (rnum_any d q1 1 k1 (l.drop 4) (by rw [List.length_drop]; omega) hc1 (by decide)) Try.call138 rfl rfl rfl rfl rfl (by repeat (first | exact Pick.nil | apply Pick.take | apply Pick.leave)) (Lend.sub hl1 (by repeat (first | exact List.Mem.head _ | apply List.Mem.tail)) .nil) (.inr rfl) ?_
  -- STOP: called; op 3: d=73 ["convert", 30, 5, ["t", 72]] guard=None (kind.go:199)
  rintro _ _ _ ⟨rfl, rfl, q2, k2, rfl, hc2, hk2⟩
  rw [List.drop_drop] at hc2 hk2 ⊢
  rw [show 4 + 1 = 5 from rfl] at hc2 hk2 ⊢
  have hl2 := hl1.trans hk2
  refine RL.lowest Try.runUnderlying30 Try.runUnderlying5 rfl rfl rfl rfl ?_
  refine RL.nilCheck rfl rfl rfl rfl ?_
  refine RL.fieldAddr fa_33_8 rfl rfl rfl rfl ?_
  refine RL.store (vs := [_]) Try.sizeOf5 rfl rfl rfl rfl rfl rfl rfl rfl rfl (by repeat (first | exact Upd.here | apply Upd.there)) ?_
  refine RL.nil ?_
  refine NQ.seq ?_
  refine CW.only (.cons (k := 0) rfl (.cons (k := 1) rfl .nil)) ?_
  refine CW.region (ef := [2, 5]) (bk := [2, 5]) ?_
  refine RL.move rfl rfl rfl rfl ?_
  refine RL.move rfl rfl rfl rfl ?_
  refine RL.call (rvec_any d q2 k2 (l.drop 5) (by rw [List.length_drop]; omega) hc2) Try.call140 rfl rfl rfl rfl rfl (by repeat (first | exact Pick.nil | apply Pick.take | apply Pick.leave)) (Lend.sub hl2 (by repeat (first | exact List.Mem.head _ | apply List.Mem.tail)) .nil) (.inr rfl) ?_
  -- STOP: called; op 3: d=79 ["nilCheck", ["t", 76]] guard=None (kind.go:200)
  rintro _ _ _ ⟨rfl, rfl, q3, k3, rfl, hc3, hk3⟩
  rw [List.drop_drop] at hc3 hk3 ⊢
  rw [show 8 * 3 = 24 from rfl] at hc3 hk3 ⊢
  rw [show 5 + 24 = 29 from rfl] at hc3 hk3 ⊢
  have hl3 := hl2.trans hk3
  refine RL.nilCheck rfl rfl rfl rfl ?_
  refine RL.fieldAddr fa_33_9 rfl rfl rfl rfl ?_
  -- STOP: op; op 5: d=None ["store", 27, ["t", 80], ["t", 78]] guard=None (kind.go:200)
  refine RL.storeX (cs' := spl _ (0 + 13) [f64 (l.drop 5) 0, f64 (l.drop 5) 1, f64 (l.drop 5) 2]) (vs := [f64 (l.drop 5) 0, f64 (l.drop 5) 1, f64 (l.drop 5) 2]) rfl Try.sizeOf27 rfl rfl rfl rfl rfl rfl rfl rfl (by repeat (first | exact Upd.here | apply Upd.there)) (Nat.le_of_ble_eq_true rfl) ?_
  refine RL.nil ?_
  refine NQ.seq ?_
  refine CW.exit ?_
  refine XQ.miss rfl ?_
  refine XQ.seq ?_
  refine XQ.miss rfl ?_
  refine XQ.seq ?_
  refine XQ.miss rfl ?_
  refine XQ.seq ?_
  refine XQ.miss rfl ?_
  refine XQ.seq ?_
  refine XQ.miss rfl ?_
  refine XQ.seq ?_
  refine XQ.miss rfl ?_
  refine XQ.seq ?_
  refine XQ.miss rfl ?_
  refine XQ.seq ?_
  refine XQ.hit ?_
  -- STOP: end; todo top: ["N"]
  refine NQ.post (res0 rfl) (.keep (.keep .nil)) ⟨rfl, _, congrArg (fun z => [_, cel br z _]) ?_⟩
  simp only [f32, f64, List.drop_drop, Nat.reduceMul, Nat.reduceAdd, u32_nat, u32_nat0, u16_nat, bat_nat l 4 (by omega), ofInt_nat8, ofNat_nat8]
  rfl
theorem rget_6 (d br : Nat) (p : Option Addr) (c : Nat) (l : List B8) (hl : l.length = 36) (hc : l.length ≤ c) : Spc Try.prog 84 #[.pointer (some ⟨d, 0, none⟩), .pointer (some ⟨br, 0, none⟩)] [sls p 1 l.length (bytes l)] [rdr d p l.length c, cel br (Rdg.cells (rz 6)) 33]
    (fun _ I' H' => I' = [] ∧ ∃ x, H' = [x, cel br (Rdg.cells (getR 6 l)) 33]) := by
  have hl0 := Lies.refl (sls p 1 l.length (bytes l))
  refine Spc.enter Try.func84 rfl rfl rfl (fun w0 hw0 => ?_)
  refine CW.seq ?_
  refine CW.region (ef := []) (bk := []) ?_
  refine RL.move rfl rfl rfl rfl ?_
  refine RL.nilCheck rfl rfl rfl rfl ?_
  refine RL.fieldAddr fa_33_0 rfl rfl rfl rfl ?_
  refine RL.load Try.isAgg3 rfl rfl rfl rfl (by first | assumption | (apply Rd.get; (solve | (repeat (first | exact List.Mem.head _ | apply List.Mem.tail))); assumption) | (apply Rd.getS; (solve | (repeat (first | exact List.Mem.head _ | apply List.Mem.tail))); assumption) | (apply Rd.getO; (solve | (repeat (first | exact List.Mem.head _ | apply List.Mem.tail))); assumption) | (apply Rd.getI; (solve | (repeat (first | exact List.Mem.head _ | apply List.Mem.tail))); assumption) | (apply Rd.cel; (solve | (repeat (first | exact List.Mem.head _ | apply List.Mem.tail))); exact rfl) | (apply Rd.celI; (solve | (repeat (first | exact List.Mem.head _ | apply List.Mem.tail))); exact rfl)) ?_
  refine RL.nil ?_
  refine NQ.seq ?_
  refine CW.block ?_
  refine CW.seq ?_
  refine CW.block ?_
  refine CW.seq ?_
  refine CW.block ?_
  refine CW.seq ?_
  refine CW.block ?_
  refine CW.seq ?_
  refine CW.block ?_
  refine CW.seq ?_
  refine CW.block ?_
  refine CW.seq ?_
  refine CW.block ?_
  refine CW.seq ?_
  refine CW.block ?_
  refine CW.seq ?_
  refine CW.block ?_
  refine CW.seq ?_
  refine CW.block ?_
  refine CW.seq ?_
  refine CW.block ?_
  refine CW.seq ?_
  refine CW.block ?_
  refine CW.seq ?_
  refine CW.block ?_
  refine CW.seq ?_
  refine CW.seq ?_
  refine CW.seq ?_
  refine CW.region (ef := []) (bk := []) ?_
  refine RL.bin rfl rfl rfl rfl rfl rfl ?_
  refine RL.assign rfl rfl rfl rfl ?_
  refine RL.nil ?_
  refine NQ.seq ?_
  -- STOP: if; todo top: ["code", ["cond", ["t", 8], ["exit", 1], ["skip"]]]
  refine CW.condF rfl (rfl) ?_
  refine CW.skip ?_
  refine NQ.seq ?_
  refine CW.seq ?_
  refine CW.seq ?_
  refine CW.region (ef := []) (bk := []) ?_
  refine RL.bin rfl rfl rfl rfl rfl rfl ?_
  refine RL.assign rfl rfl rfl rfl ?_
  refine RL.nil ?_
  refine NQ.seq ?_
  refine CW.only (.cons (k := 0) rfl (.cons (k := 1) rfl (.cons (k := 7) rfl (.cons (k := 10) rfl .nil)))) ?_
  -- STOP: if; todo top: ["code", ["cond", ["t", 10], ["exit", 2], ["skip"]]]
  refine CW.condF rfl (rfl) ?_
  refine CW.skip ?_
  refine NQ.seq ?_
  refine CW.seq ?_
  refine CW.seq ?_
  refine CW.region (ef := []) (bk := []) ?_
  refine RL.bin rfl rfl rfl rfl rfl rfl ?_
  refine RL.assign rfl rfl rfl rfl ?_
  refine RL.nil ?_
  refine NQ.seq ?_
  -- STOP: if; todo top: ["code", ["cond", ["t", 12], ["exit", 3], ["skip"]]]
  refine CW.condF rfl (rfl) ?_
  refine CW.skip ?_
  refine NQ.seq ?_
  refine CW.seq ?_
  refine CW.seq ?_
  refine CW.region (ef := []) (bk := []) ?_
  refine RL.bin rfl rfl rfl rfl rfl rfl ?_
  refine RL.assign rfl rfl rfl rfl ?_
  refine RL.nil ?_
  refine NQ.seq ?_
  -- STOP: if; todo top: ["code", ["cond", ["t", 14], ["exit", 4], ["skip"]]]
  refine CW.condF rfl (rfl) ?_
  refine CW.skip ?_
  refine NQ.seq ?_
  refine CW.seq ?_
  refine CW.seq ?_
  refine CW.region (ef := []) (bk := []) ?_
  refine RL.bin rfl rfl rfl rfl rfl rfl ?_
  refine RL.assign rfl rfl rfl rfl ?_
  refine RL.nil ?_
  refine NQ.seq ?_
  refine CW.only (.cons (k := 0) rfl (.cons (k := 1) rfl (.cons (k := 7) rfl (.cons (k := 16) rfl .nil)))) ?_
  -- STOP: if; todo top: ["code", ["cond", ["t", 16], ["exit", 5], ["skip"]]]
  refine CW.condF rfl (rfl) ?_
  refine CW.skip ?_
  refine NQ.seq ?_
  refine CW.seq ?_
  refine CW.seq ?_
  refine CW.region (ef := []) (bk := []) ?_
  refine RL.bin rfl rfl rfl rfl rfl rfl ?_
  refine RL.assign rfl rfl rfl rfl ?_
  refine RL.nil ?_
  refine NQ.seq ?_
  -- STOP: if; todo top: ["code", ["cond", ["t", 18], ["exit", 6], ["skip"]]]
  refine CW.condT rfl (rfl) ?_
  refine CW.exit ?_
  refine XQ.seq ?_
  refine XQ.seq ?_
  refine XQ.miss rfl ?_
  refine XQ.seq ?_
  refine XQ.miss rfl ?_
  refine XQ.seq ?_
  refine XQ.miss rfl ?_
  refine XQ.seq ?_
  refine XQ.miss rfl ?_
  refine XQ.seq ?_
  refine XQ.miss rfl ?_
  refine XQ.seq ?_
  refine XQ.hit ?_
  refine NQ.seq ?_
  refine CW.seq ?_
  refine CW.seq ?_
  refine CW.region (ef := [2, 6]) (bk := [2, 6]) ?_
  refine RL.move rfl rfl rfl rfl ?_
  refine RL.move rfl rfl rfl rfl ?_
  refine RL.call (rnum_any d p 4 c l (by omega) hc (by decide)) Try.call138 rfl rfl rfl rfl rfl (by repeat (first | exact Pick.nil | apply Pick.take | apply Pick.leave)) (Lend.sub hl0 (by repeat (first | exact List.Mem.head _ | apply List.Mem.tail)) .nil) (.inr rfl) ?_
  -- STOP: called; op 3: d=84 ["convert", 30, 25, ["t", 83]] guard=None (kind.go:202)
  rintro _ _ _ ⟨rfl, rfl, q1, k1, rfl, hc1, hk1⟩
  have hl1 := hl0.trans hk1
  refine RL.conv Try.runUnderlying30 Try.runUnderlying25 rfl rfl rfl rfl ?_
  refine RL.nilCheck rfl rfl rfl rfl ?_
  refine RL.fieldAddr fa_33_7 rfl rfl rfl rfl ?_
  refine RL.store (vs := [_]) Try.sizeOf25 rfl rfl rfl rfl rfl rfl rfl rfl rfl (by repeat (first | exact Upd.here | apply Upd.there)) ?_
  refine RL.nil ?_
  refine NQ.seq ?_
  refine CW.only (.cons (k := 0) rfl (.cons (k := 1) rfl .nil)) ?_
  -- STOP: region; todo top: ["code", ["region", 23, [{"d": 87, "op": ["move", ["t", 1]], "ty": 184, "pos": "kind.go:203", "after": [], "guard": null}, {"d": 88, "op": ["move", ["t", 0]], "ty": 181, "pos": "kind.go:203", "after":
  refine CW.sub hl1 (by repeat (first | exact List.Mem.head _ | apply List.Mem.tail)) ?_
  refine CW.fact (p := q1 = none → (l.drop 4).length = 0) (fun w hC e => sls_nil (hC.s.i _ (List.Mem.head _)) e) (fun hpp => ?_)
  obtain ⟨q, rfl⟩ : ∃ a, q1 = some a := by
    cases q1 with
    | none => exact absurd (hpp rfl) (by rw [List.length_drop]; omega)
    | some a => exact ⟨a, rfl⟩
  refine CW.region (ef := [2, 7]) (bk := [2, 7]) ?_
  refine RL.move rfl rfl rfl rfl ?_
  refine RL.move rfl rfl rfl rfl ?_
  refine RL.call (take_any d (some q) 32 (l.drop 4).length k1 (by rw [List.length_drop]; omega) hc1) Try.call141 rfl rfl rfl rfl rfl (by repeat (first | exact Pick.nil | apply Pick.take | apply Pick.leave)) (by repeat (first | exact Lend.nil | (refine Lend.inI ?_ ?_; (solve | (repeat (first | exact List.Mem.head _ | apply List.Mem.tail)))) | (refine Lend.inH ?_ ?_; (solve | (repeat (first | exact List.Mem.head _ | apply List.Mem.tail)))))) (.inr rfl) ?_
  -- STOP: called; op 3: d=90 ["sliceToArrayPointer", 29, ["t", 89]] guard=None (kind.go:203)
  rintro _ _ _ ⟨rfl, rfl, rfl⟩
  rw [if_neg (show ¬ k1 = 0 by rw [List.length_drop] at hc1; omega)]
  refine RL.toArr Try.runUnderlying29 rfl rfl rfl rfl (by first | decide | omega) ?_
  -- STOP: op; op 4: d=91 ["load", 29, ["t", 90]] guard=None (kind.go:203)
  refine RL.loadN (vs := keyV (fun j => bat l (4 + j))) Try.isAgg29 Try.sizeOf29 rfl rfl rfl rfl ((Rds.sls (by repeat (first | exact List.Mem.head _ | apply List.Mem.tail))).part (pre32 (by omega))) ?_
  refine RL.nilCheck rfl rfl rfl rfl ?_
  refine RL.fieldAddr fa_33_10 rfl rfl rfl rfl ?_
  -- STOP: op; op 7: d=None ["store", 29, ["t", 93], ["t", 91]] guard=None (kind.go:203)
  refine RL.storeX (cs' := spl _ (0 + 16) (keyV (fun j => bat l (4 + j)))) (vs := keyV (fun j => bat l (4 + j))) rfl Try.sizeOf29 rfl rfl rfl rfl rfl rfl rfl rfl (by repeat (first | exact Upd.here | apply Upd.there)) (Nat.le_of_ble_eq_true rfl) ?_
  refine RL.nil ?_
  refine NQ.seq ?_
  refine CW.only (.cons (k := 0) rfl (.cons (k := 1) rfl .nil)) ?_
  refine CW.exit ?_
  refine XQ.miss rfl ?_
  refine XQ.seq ?_
  refine XQ.miss rfl ?_
  refine XQ.seq ?_
  refine XQ.miss rfl ?_
  refine XQ.seq ?_
  refine XQ.miss rfl ?_
  refine XQ.seq ?_
  refine XQ.miss rfl ?_
  refine XQ.seq ?_
  refine XQ.miss rfl ?_
  refine XQ.seq ?_
  refine XQ.hit ?_
  -- STOP: end; todo top: ["N"]
  refine NQ.post (res0 rfl) (.keep (.keep .nil)) ⟨rfl, _, congrArg (fun z => [_, cel br z _]) ?_⟩
  simp only [f32, f64, List.drop_drop, Nat.reduceMul, Nat.reduceAdd, u32_nat, u32_nat0, u16_nat, ofInt_nat8, ofNat_nat8]
  rfl
theorem rget_7 (d br : Nat) (p : Option Addr) (c : Nat) (l : List B8) (hl : l.length = 8) (hc : l.length ≤ c) : Spc Try.prog 84 #[.pointer (some ⟨d, 0, none⟩), .pointer (some ⟨br, 0, none⟩)] [sls p 1 l.length (bytes l)] [rdr d p l.length c, cel br (Rdg.cells (rz 7)) 33]
    (fun _ I' H' => I' = [] ∧ ∃ x, H' = [x, cel br (Rdg.cells (getR 7 l)) 33]) := by
  have hl0 := Lies.refl (sls p 1 l.length (bytes l))
  refine Spc.enter Try.func84 rfl rfl rfl (fun w0 hw0 => ?_)
  refine CW.seq ?_
  refine CW.region (ef := []) (bk := []) ?_
  refine RL.move rfl rfl rfl rfl ?_
  refine RL.nilCheck rfl rfl rfl rfl ?_
  refine RL.fieldAddr fa_33_0 rfl rfl rfl rfl ?_
  refine RL.load Try.isAgg3 rfl rfl rfl rfl (by first | assumption | (apply Rd.get; (solve | (repeat (first | exact List.Mem.head _ | apply List.Mem.tail))); assumption) | (apply Rd.getS; (solve | (repeat (first | exact List.Mem.head _ | apply List.Mem.tail))); assumption) | (apply Rd.getO; (solve | (repeat (first | exact List.Mem.head _ | apply List.Mem.tail))); assumption) | (apply Rd.getI; (solve | (repeat (first | exact List.Mem.head _ | apply List.Mem.tail))); assumption) | (apply Rd.cel; (solve | (repeat (first | exact List.Mem.head _ | apply List.Mem.tail))); exact rfl) | (apply Rd.celI; (solve | (repeat (first | exact List.Mem.head _ | apply List.Mem.tail))); exact rfl)) ?_
  refine RL.nil ?_
  refine NQ.seq ?_
  refine CW.block ?_
  refine CW.seq ?_
  refine CW.block ?_
  refine CW.seq ?_
  refine CW.block ?_
  refine CW.seq ?_
  refine CW.block ?_
  refine CW.seq ?_
  refine CW.block ?_
  refine CW.seq ?_
  refine CW.block ?_
  refine CW.seq ?_
  refine CW.block ?_
  refine CW.seq ?_
  refine CW.block ?_
  refine CW.seq ?_
  refine CW.block ?_
  refine CW.seq ?_
  refine CW.block ?_
  refine CW.seq ?_
  refine CW.block ?_
  refine CW.seq ?_
  refine CW.block ?_
  refine CW.seq ?_
  refine CW.block ?_
  refine CW.seq ?_
  refine CW.seq ?_
  refine CW.seq ?_
  refine CW.region (ef := []) (bk := []) ?_
  refine RL.bin rfl rfl rfl rfl rfl rfl ?_
  refine RL.assign rfl rfl rfl rfl ?_
  refine RL.nil ?_
  refine NQ.seq ?_
  -- STOP: if; todo top: ["code", ["cond", ["t", 8], ["exit", 1], ["skip"]]]
  refine CW.condF rfl (rfl) ?_
  refine CW.skip ?_
  refine NQ.seq ?_
  refine CW.seq ?_
  refine CW.seq ?_
  refine CW.region (ef := []) (bk := []) ?_
  refine RL.bin rfl rfl rfl rfl rfl rfl ?_
  refine RL.assign rfl rfl rfl rfl ?_
  refine RL.nil ?_
  refine NQ.seq ?_
  refine CW.only (.cons (k := 0) rfl (.cons (k := 1) rfl (.cons (k := 7) rfl (.cons (k := 10) rfl .nil)))) ?_
  -- STOP: if; todo top: ["code", ["cond", ["t", 10], ["exit", 2], ["skip"]]]
  refine CW.condF rfl (rfl) ?_
  refine CW.skip ?_
  refine NQ.seq ?_
  refine CW.seq ?_
  refine CW.seq ?_
  refine CW.region (ef := []) (bk := []) ?_
  refine RL.bin rfl rfl rfl rfl rfl rfl ?_
  refine RL.assign rfl rfl rfl rfl ?_
  refine RL.nil ?_
  refine NQ.seq ?_
  -- STOP: if; todo top: ["code", ["cond", ["t", 12], ["exit", 3], ["skip"]]]
  refine CW.condF rfl (rfl) ?_
  refine CW.skip ?_
  refine NQ.seq ?_
  refine CW.seq ?_
  refine CW.seq ?_
  refine CW.region (ef := []) (bk := []) ?_
  refine RL.bin rfl rfl rfl rfl rfl rfl ?_
  refine RL.assign rfl rfl rfl rfl ?_
  refine RL.nil ?_
  refine NQ.seq ?_
  -- STOP: if; todo top: ["code", ["cond", ["t", 14], ["exit", 4], ["skip"]]]
  refine CW.condF rfl (rfl) ?_
  refine CW.skip ?_
  refine NQ.seq ?_
  refine CW.seq ?_
  refine CW.seq ?_
  refine CW.region (ef := []) (bk := []) ?_
  refine RL.bin rfl rfl rfl rfl rfl rfl ?_
  refine RL.assign rfl rfl rfl rfl ?_
  refine RL.nil ?_
  refine NQ.seq ?_
  refine CW.only (.cons (k := 0) rfl (.cons (k := 1) rfl (.cons (k := 7) rfl (.cons (k := 16) rfl .nil)))) ?_
  -- STOP: if; todo top: ["code", ["cond", ["t", 16], ["exit", 5], ["skip"]]]
  refine CW.condF rfl (rfl) ?_
  refine CW.skip ?_
  refine NQ.seq ?_
  refine CW.seq ?_
  refine CW.seq ?_
  refine CW.region (ef := []) (bk := []) ?_
  refine RL.bin rfl rfl rfl rfl rfl rfl ?_
  refine RL.assign rfl rfl rfl rfl ?_
  refine RL.nil ?_
  refine NQ.seq ?_
  -- STOP: if; todo top: ["code", ["cond", ["t", 18], ["exit", 6], ["skip"]]]
  refine CW.condF rfl (rfl) ?_
  refine CW.skip ?_
  refine NQ.seq ?_
  refine CW.seq ?_
  refine CW.seq ?_
  refine CW.region (ef := []) (bk := []) ?_
  refine RL.bin rfl rfl rfl rfl rfl rfl ?_
  refine RL.assign rfl rfl rfl rfl ?_
  refine RL.nil ?_
  refine NQ.seq ?_
  -- STOP: if; todo top: ["code", ["cond", ["t", 20], ["exit", 7], ["skip"]]]
  refine CW.condT rfl (rfl) ?_
  refine CW.exit ?_
  refine XQ.seq ?_
  refine XQ.seq ?_
  refine XQ.miss rfl ?_
  refine XQ.seq ?_
  refine XQ.miss rfl ?_
  refine XQ.seq ?_
  refine XQ.miss rfl ?_
  refine XQ.seq ?_
  refine XQ.miss rfl ?_
  refine XQ.seq ?_
  refine XQ.miss rfl ?_
  refine XQ.seq ?_
  refine XQ.miss rfl ?_
  refine XQ.seq ?_
  refine XQ.hit ?_
  refine NQ.seq ?_
  refine CW.only (.cons (k := 0) rfl (.cons (k := 1) rfl .nil)) ?_
  refine CW.seq ?_
  refine CW.region (ef := [2, 5]) (bk := [2, 5]) ?_
  refine RL.move rfl rfl rfl rfl ?_
  refine RL.move rfl rfl rfl rfl ?_
  refine RL.call (rnum_any d p 8 c l (by omega) hc (by decide)) Try.call138 rfl rfl rfl rfl rfl (by repeat (first | exact Pick.nil | apply Pick.take | apply Pick.leave)) (Lend.sub hl0 (by repeat (first | exact List.Mem.head _ | apply List.Mem.tail)) .nil) (.inr rfl) ?_
  -- STOP: called; op 3: d=97 ["nilCheck", ["t", 94]] guard=None (kind.go:205)
  rintro _ _ _ ⟨rfl, rfl, q1, k1, rfl, hc1, hk1⟩
  have hl1 := hl0.trans hk1
  refine RL.nilCheck rfl rfl rfl rfl ?_
  refine RL.fieldAddr fa_33_11 rfl rfl rfl rfl ?_
  refine RL.store (vs := [_]) Try.sizeOf30 rfl rfl rfl rfl rfl rfl rfl rfl rfl (by repeat (first | exact Upd.here | apply Upd.there)) ?_
  refine RL.nil ?_
  refine NQ.seq ?_
  refine CW.exit ?_
  refine XQ.miss rfl ?_
  refine XQ.seq ?_
  refine XQ.miss rfl ?_
  refine XQ.seq ?_
  refine XQ.miss rfl ?_
  refine XQ.seq ?_
  refine XQ.miss rfl ?_
  refine XQ.seq ?_
  refine XQ.miss rfl ?_
  refine XQ.seq ?_
  refine XQ.hit ?_
  -- STOP: end; todo top: ["N"]
  refine NQ.post (res0 rfl) (.keep (.keep .nil)) ⟨rfl, _, congrArg (fun z => [_, cel br z _]) ?_⟩
  simp only [f32, f64, List.drop_drop, Nat.reduceMul, Nat.reduceAdd, u32_nat, u32_nat0, u16_nat, ofInt_nat8, ofNat_nat8]
  rfl
theorem rget_8 (d br : Nat) (p : Option Addr) (c : Nat) (l : List B8) (hl : l.length = 1) (hc : l.length ≤ c) : Spc Try.prog 84 #[.pointer (some ⟨d, 0, none⟩), .pointer (some ⟨br, 0, none⟩)] [sls p 1 l.length (bytes l)] [rdr d p l.length c, cel br (Rdg.cells (rz 8)) 33]
    (fun _ I' H' => I' = [] ∧ ∃ x, H' = [x, cel br (Rdg.cells (getR 8 l)) 33]) := by
  have hl0 := Lies.refl (sls p 1 l.length (bytes l))
  refine Spc.enter Try.func84 rfl rfl rfl (fun w0 hw0 => ?_)
  refine CW.seq ?_
  refine CW.region (ef := []) (bk := []) ?_
  refine RL.move rfl rfl rfl rfl ?_
  refine RL.nilCheck rfl rfl rfl rfl ?_
  refine RL.fieldAddr fa_33_0 rfl rfl rfl rfl ?_
  refine RL.load Try.isAgg3 rfl rfl rfl rfl (by first | assumption | (apply Rd.get; (solve | (repeat (first | exact List.Mem.head _ | apply List.Mem.tail))); assumption) | (apply Rd.getS; (solve | (repeat (first | exact List.Mem.head _ | apply List.Mem.tail))); assumption) | (apply Rd.getO; (solve | (repeat (first | exact List.Mem.head _ | apply List.Mem.tail))); assumption) | (apply Rd.getI; (solve | (repeat (first | exact List.Mem.head _ | apply List.Mem.tail))); assumption) | (apply Rd.cel; (solve | (repeat (first | exact List.Mem.head _ | apply List.Mem.tail))); exact rfl) | (apply Rd.celI; (solve | (repeat (first | exact List.Mem.head _ | apply List.Mem.tail))); exact rfl)) ?_
  refine RL.nil ?_
  refine NQ.seq ?_
  refine CW.block ?_
  refine CW.seq ?_
  refine CW.block ?_
  refine CW.seq ?_
  refine CW.block ?_
  refine CW.seq ?_
  refine CW.block ?_
  refine CW.seq ?_
  refine CW.block ?_
  refine CW.seq ?_
  refine CW.block ?_
  refine CW.seq ?_
  refine CW.block ?_
  refine CW.seq ?_
  refine CW.block ?_
  refine CW.seq ?_
  refine CW.block ?_
  refine CW.seq ?_
  refine CW.block ?_
  refine CW.seq ?_
  refine CW.block ?_
  refine CW.seq ?_
  refine CW.block ?_
  refine CW.seq ?_
  refine CW.block ?_
  refine CW.seq ?_
  refine CW.seq ?_
  refine CW.seq ?_
  refine CW.region (ef := []) (bk := []) ?_
  refine RL.bin rfl rfl rfl rfl rfl rfl ?_
  refine RL.assign rfl rfl rfl rfl ?_
  refine RL.nil ?_
  refine NQ.seq ?_
  -- STOP: if; todo top: ["code", ["cond", ["t", 8], ["exit", 1], ["skip"]]]
  refine CW.condF rfl (rfl) ?_
  refine CW.skip ?_
  refine NQ.seq ?_
  refine CW.seq ?_
  refine CW.seq ?_
  refine CW.region (ef := []) (bk := []) ?_
  refine RL.bin rfl rfl rfl rfl rfl rfl ?_
  refine RL.assign rfl rfl rfl rfl ?_
  refine RL.nil ?_
  refine NQ.seq ?_
  refine CW.only (.cons (k := 0) rfl (.cons (k := 1) rfl (.cons (k := 7) rfl (.cons (k := 10) rfl .nil)))) ?_
  -- STOP: if; todo top: ["code", ["cond", ["t", 10], ["exit", 2], ["skip"]]]
  refine CW.condF rfl (rfl) ?_
  refine CW.skip ?_
  refine NQ.seq ?_
  refine CW.seq ?_
  refine CW.seq ?_
  refine CW.region (ef := []) (bk := []) ?_
  refine RL.bin rfl rfl rfl rfl rfl rfl ?_
  refine RL.assign rfl rfl rfl rfl ?_
  refine RL.nil ?_
  refine NQ.seq ?_
  -- STOP: if; todo top: ["code", ["cond", ["t", 12], ["exit", 3], ["skip"]]]
  refine CW.condF rfl (rfl) ?_
  refine CW.skip ?_
  refine NQ.seq ?_
  refine CW.seq ?_
  refine CW.seq ?_
  refine CW.region (ef := []) (bk := []) ?_
  refine RL.bin rfl rfl rfl rfl rfl rfl ?_
  refine RL.assign rfl rfl rfl rfl ?_
  refine RL.nil ?_
  refine NQ.seq ?_
  -- STOP: if; todo top: ["code", ["cond", ["t", 14], ["exit", 4], ["skip"]]]
  refine CW.condF rfl (rfl) ?_
  refine CW.skip ?_
  refine NQ.seq ?_
  refine CW.seq ?_
  refine CW.seq ?_
  refine CW.region (ef := []) (bk := []) ?_
  refine RL.bin rfl rfl rfl rfl rfl rfl ?_
  refine RL.assign rfl rfl rfl rfl ?_
  refine RL.nil ?_
  refine NQ.seq ?_
  refine CW.only (.cons (k := 0) rfl (.cons (k := 1) rfl (.cons (k := 7) rfl (.cons (k := 16) rfl .nil)))) ?_
  -- STOP: if; todo top: ["code", ["cond", ["t", 16], ["exit", 5], ["skip"]]]
  refine CW.condF rfl (rfl) ?_
  refine CW.skip ?_
  refine NQ.seq ?_
  refine CW.seq ?_
  refine CW.seq ?_
  refine CW.region (ef := []) (bk := []) ?_
  refine RL.bin rfl rfl rfl rfl rfl rfl ?_
  refine RL.assign rfl rfl rfl rfl ?_
  refine RL.nil ?_
  refine NQ.seq ?_
  -- STOP: if; todo top: ["code", ["cond", ["t", 18], ["exit", 6], ["skip"]]]
  refine CW.condF rfl (rfl) ?_
  refine CW.skip ?_
  refine NQ.seq ?_
  refine CW.seq ?_
  refine CW.seq ?_
  refine CW.region (ef := []) (bk := []) ?_
  refine RL.bin rfl rfl rfl rfl rfl rfl ?_
  refine RL.assign rfl rfl rfl rfl ?_
  refine RL.nil ?_
  refine NQ.seq ?_
  -- STOP: if; todo top: ["code", ["cond", ["t", 20], ["exit", 7], ["skip"]]]
  refine CW.condF rfl (rfl) ?_
  refine CW.skip ?_
  refine NQ.seq ?_
  refine CW.seq ?_
  refine CW.seq ?_
  refine CW.region (ef := []) (bk := []) ?_
  refine RL.bin rfl rfl rfl rfl rfl rfl ?_
  refine RL.assign rfl rfl rfl rfl ?_
  refine RL.nil ?_
  refine NQ.seq ?_
  refine CW.only (.cons (k := 0) rfl (.cons (k := 1) rfl (.cons (k := 7) rfl (.cons (k := 22) rfl .nil)))) ?_
  -- STOP: if; todo top: ["code", ["cond", ["t", 22], ["exit", 8], ["skip"]]]
  refine CW.condT rfl (rfl) ?_
  refine CW.exit ?_
  refine XQ.seq ?_
  refine XQ.seq ?_
  refine XQ.miss rfl ?_
  refine XQ.seq ?_
  refine XQ.miss rfl ?_
  refine XQ.seq ?_
  refine XQ.miss rfl ?_
  refine XQ.seq ?_
  refine XQ.miss rfl ?_
  refine XQ.seq ?_
  refine XQ.miss rfl ?_
  refine XQ.seq ?_
  refine XQ.miss rfl ?_
  refine XQ.seq ?_
  refine XQ.miss rfl ?_
  refine XQ.seq ?_
  refine XQ.hit ?_
  refine NQ.seq ?_
  refine CW.seq ?_
  refine CW.region (ef := [2, 6]) (bk := [2, 6]) ?_
  refine RL.move rfl rfl rfl rfl ?_
  refine RL.move rfl rfl rfl rfl ?_
  refine RL.call (rnum_any d p 1 c l (by omega) hc (by decide)) Try.call138 rfl rfl rfl rfl rfl (by repeat (first | exact Pick.nil | apply Pick.take | apply Pick.leave)) (Lend.sub hl0 (by repeat (first | exact List.Mem.head _ | apply List.Mem.tail)) .nil) (.inr rfl) ?_
  -- STOP: called; op 3: d=102 ["convert", 30, 5, ["t", 101]] guard=None (kind.go:207)
  rintro _ _ _ ⟨rfl, rfl, q1, k1, rfl, hc1, hk1⟩
  have hl1 := hl0.trans hk1
  refine RL.lowest Try.runUnderlying30 Try.runUnderlying5 rfl rfl rfl rfl ?_
  refine RL.nilCheck rfl rfl rfl rfl ?_
  refine RL.fieldAddr fa_33_12 rfl rfl rfl rfl ?_
  refine RL.store (vs := [_]) Try.sizeOf5 rfl rfl rfl rfl rfl rfl rfl rfl rfl (by repeat (first | exact Upd.here | apply Upd.there)) ?_
  refine RL.nil ?_
  refine NQ.seq ?_
  refine CW.only (.cons (k := 0) rfl (.cons (k := 1) rfl .nil)) ?_
  refine CW.exit ?_
  refine XQ.miss rfl ?_
  refine XQ.seq ?_
  refine XQ.miss rfl ?_
  refine XQ.seq ?_
  refine XQ.miss rfl ?_
  refine XQ.seq ?_
  refine XQ.miss rfl ?_
  refine XQ.seq ?_
  refine XQ.hit ?_
  -- STOP: end; todo top: ["N"]
  refine NQ.post (res0 rfl) (.keep (.keep .nil)) ⟨rfl, _, congrArg (fun z => [_, cel br z _]) ?_⟩
  simp only [f32, f64, List.drop_drop, Nat.reduceMul, Nat.reduceAdd, u32_nat, u32_nat0, u16_nat, bat_nat0 l (by omega), ofInt_nat8, ofNat_nat8]
  rfl
theorem rget_9 (d br : Nat) (p : Option Addr) (c : Nat) (l : List B8) (hl : l.length = 0) (hc : l.length ≤ c) : Spc Try.prog 84 #[.pointer (some ⟨d, 0, none⟩), .pointer (some ⟨br, 0, none⟩)] [sls p 1 l.length (bytes l)] [rdr d p l.length c, cel br (Rdg.cells (rz 9)) 33]
    (fun _ I' H' => I' = [] ∧ ∃ x, H' = [x, cel br (Rdg.cells (getR 9 l)) 33]) := by
  refine Spc.enter Try.func84 rfl rfl rfl (fun w0 hw0 => ?_)
  refine CW.seq ?_
  refine CW.region (ef := []) (bk := []) ?_
  refine RL.move rfl rfl rfl rfl ?_
  refine RL.nilCheck rfl rfl rfl rfl ?_
  refine RL.fieldAddr fa_33_0 rfl rfl rfl rfl ?_
  refine RL.load Try.isAgg3 rfl rfl rfl rfl (by first | assumption | (apply Rd.get; (solve | (repeat (first | exact List.Mem.head _ | apply List.Mem.tail))); assumption) | (apply Rd.getS; (solve | (repeat (first | exact List.Mem.head _ | apply List.Mem.tail))); assumption) | (apply Rd.getO; (solve | (repeat (first | exact List.Mem.head _ | apply List.Mem.tail))); assumption) | (apply Rd.getI; (solve | (repeat (first | exact List.Mem.head _ | apply List.Mem.tail))); assumption) | (apply Rd.cel; (solve | (repeat (first | exact List.Mem.head _ | apply List.Mem.tail))); exact rfl) | (apply Rd.celI; (solve | (repeat (first | exact List.Mem.head _ | apply List.Mem.tail))); exact rfl)) ?_
  refine RL.nil ?_
  refine NQ.seq ?_
  refine CW.block ?_
  refine CW.seq ?_
  refine CW.block ?_
  refine CW.seq ?_
  refine CW.block ?_
  refine CW.seq ?_
  refine CW.block ?_
  refine CW.seq ?_
  refine CW.block ?_
  refine CW.seq ?_
  refine CW.block ?_
  refine CW.seq ?_
  refine CW.block ?_
  refine CW.seq ?_
  refine CW.block ?_
  refine CW.seq ?_
  refine CW.block ?_
  refine CW.seq ?_
  refine CW.block ?_
  refine CW.seq ?_
  refine CW.block ?_
  refine CW.seq ?_
  refine CW.block ?_
  refine CW.seq ?_
  refine CW.block ?_
  refine CW.seq ?_
  refine CW.seq ?_
  refine CW.seq ?_
  refine CW.region (ef := []) (bk := []) ?_
  refine RL.bin rfl rfl rfl rfl rfl rfl ?_
  refine RL.assign rfl rfl rfl rfl ?_
  refine RL.nil ?_
  refine NQ.seq ?_
  -- STOP: if; todo top: ["code", ["cond", ["t", 8], ["exit", 1], ["skip"]]]
  refine CW.condF rfl (rfl) ?_
  refine CW.skip ?_
  refine NQ.seq ?_
  refine CW.seq ?_
  refine CW.seq ?_
  refine CW.region (ef := []) (bk := []) ?_
  refine RL.bin rfl rfl rfl rfl rfl rfl ?_
  refine RL.assign rfl rfl rfl rfl ?_
  refine RL.nil ?_
  refine NQ.seq ?_
  refine CW.only (.cons (k := 0) rfl (.cons (k := 1) rfl (.cons (k := 7) rfl (.cons (k := 10) rfl .nil)))) ?_
  -- STOP: if; todo top: ["code", ["cond", ["t", 10], ["exit", 2], ["skip"]]]
  refine CW.condF rfl (rfl) ?_
  refine CW.skip ?_
  refine NQ.seq ?_
  refine CW.seq ?_
  refine CW.seq ?_
  refine CW.region (ef := []) (bk := []) ?_
  refine RL.bin rfl rfl rfl rfl rfl rfl ?_
  refine RL.assign rfl rfl rfl rfl ?_
  refine RL.nil ?_
  refine NQ.seq ?_
  -- STOP: if; todo top: ["code", ["cond", ["t", 12], ["exit", 3], ["skip"]]]
  refine CW.condF rfl (rfl) ?_
  refine CW.skip ?_
  refine NQ.seq ?_
  refine CW.seq ?_
  refine CW.seq ?_
  refine CW.region (ef := []) (bk := []) ?_
  refine RL.bin rfl rfl rfl rfl rfl rfl ?_
  refine RL.assign rfl rfl rfl rfl ?_
  refine RL.nil ?_
  refine NQ.seq ?_
  -- STOP: if; todo top: ["code", ["cond", ["t", 14], ["exit", 4], ["skip"]]]
  refine CW.condF rfl (rfl) ?_
  refine CW.skip ?_
  refine NQ.seq ?_
  refine CW.seq ?_
  refine CW.seq ?_
  refine CW.region (ef := []) (bk := []) ?_
  refine RL.bin rfl rfl rfl rfl rfl rfl ?_
  refine RL.assign rfl rfl rfl rfl ?_
  refine RL.nil ?_
  refine NQ.seq ?_
  refine CW.only (.cons (k := 0) rfl (.cons (k := 1) rfl (.cons (k := 7) rfl (.cons (k := 16) rfl .nil)))) ?_
  -- STOP: if; todo top: ["code", ["cond", ["t", 16], ["exit", 5], ["skip"]]]
  refine CW.condF rfl (rfl) ?_
  refine CW.skip ?_
  refine NQ.seq ?_
  refine CW.seq ?_
  refine CW.seq ?_
  refine CW.region (ef := []) (bk := []) ?_
  refine RL.bin rfl rfl rfl rfl rfl rfl ?_
  refine RL.assign rfl rfl rfl rfl ?_
  refine RL.nil ?_
  refine NQ.seq ?_
  -- STOP: if; todo top: ["code", ["cond", ["t", 18], ["exit", 6], ["skip"]]]
  refine CW.condF rfl (rfl) ?_
  refine CW.skip ?_
  refine NQ.seq ?_
  refine CW.seq ?_
  refine CW.seq ?_
  refine CW.region (ef := []) (bk := []) ?_
  refine RL.bin rfl rfl rfl rfl rfl rfl ?_
  refine RL.assign rfl rfl rfl rfl ?_
  refine RL.nil ?_
  refine NQ.seq ?_
  -- STOP: if; todo top: ["code", ["cond", ["t", 20], ["exit", 7], ["skip"]]]
  refine CW.condF rfl (rfl) ?_
  refine CW.skip ?_
  refine NQ.seq ?_
  refine CW.seq ?_
  refine CW.seq ?_
  refine CW.region (ef := []) (bk := []) ?_
  refine RL.bin rfl rfl rfl rfl rfl rfl ?_
  refine RL.assign rfl rfl rfl rfl ?_
  refine RL.nil ?_
  refine NQ.seq ?_
  refine CW.only (.cons (k := 0) rfl (.cons (k := 1) rfl (.cons (k := 7) rfl (.cons (k := 22) rfl .nil)))) ?_
  -- STOP: if; todo top: ["code", ["cond", ["t", 22], ["exit", 8], ["skip"]]]
  refine CW.condF rfl (rfl) ?_
  refine CW.skip ?_
  refine NQ.seq ?_
  refine CW.seq ?_
  refine CW.seq ?_
  refine CW.region (ef := []) (bk := []) ?_
  refine RL.bin rfl rfl rfl rfl rfl rfl ?_
  refine RL.assign rfl rfl rfl rfl ?_
  refine RL.nil ?_
  refine NQ.seq ?_
  -- STOP: if; todo top: ["code", ["cond", ["t", 24], ["exit", 9], ["skip"]]]
  refine CW.condF rfl (rfl) ?_
  refine CW.skip ?_
  refine NQ.seq ?_
  refine CW.seq ?_
  refine CW.seq ?_
  refine CW.region (ef := []) (bk := []) ?_
  refine RL.bin rfl rfl rfl rfl rfl rfl ?_
  refine RL.assign rfl rfl rfl rfl ?_
  refine RL.nil ?_
  refine NQ.seq ?_
  -- STOP: if; todo top: ["code", ["cond", ["t", 26], ["exit", 10], ["skip"]]]
  refine CW.condF rfl (rfl) ?_
  refine CW.skip ?_
  refine NQ.seq ?_
  refine CW.seq ?_
  refine CW.seq ?_
  refine CW.region (ef := []) (bk := []) ?_
  refine RL.bin rfl rfl rfl rfl rfl rfl ?_
  refine RL.assign rfl rfl rfl rfl ?_
  refine RL.nil ?_
  refine NQ.seq ?_
  refine CW.only (.cons (k := 0) rfl (.cons (k := 1) rfl (.cons (k := 7) rfl (.cons (k := 28) rfl .nil)))) ?_
  -- STOP: if; todo top: ["code", ["cond", ["t", 28], ["exit", 11], ["skip"]]]
  refine CW.condF rfl (rfl) ?_
  refine CW.skip ?_
  refine NQ.seq ?_
  refine CW.seq ?_
  refine CW.region (ef := []) (bk := []) ?_
  refine RL.bin rfl rfl rfl rfl rfl rfl ?_
  refine RL.assign rfl rfl rfl rfl ?_
  refine RL.nil ?_
  refine NQ.seq ?_
  -- STOP: if; todo top: ["code", ["cond", ["t", 30], ["exit", 12], ["skip"]]]
  refine CW.condF rfl (rfl) ?_
  refine CW.skip ?_
  refine NQ.seq ?_
  refine CW.exit ?_
  refine XQ.miss rfl ?_
  refine XQ.seq ?_
  refine XQ.miss rfl ?_
  refine XQ.seq ?_
  refine XQ.miss rfl ?_
  refine XQ.seq ?_
  refine XQ.miss rfl ?_
  refine XQ.seq ?_
  refine XQ.miss rfl ?_
  refine XQ.seq ?_
  refine XQ.miss rfl ?_
  refine XQ.seq ?_
  refine XQ.miss rfl ?_
  refine XQ.seq ?_
  refine XQ.miss rfl ?_
  refine XQ.seq ?_
  refine XQ.miss rfl ?_
  refine XQ.seq ?_
  refine XQ.miss rfl ?_
  refine XQ.seq ?_
  refine XQ.miss rfl ?_
  refine XQ.seq ?_
  refine XQ.miss rfl ?_
  refine XQ.seq ?_
  refine XQ.hit ?_
  -- STOP: end; todo top: ["N"]
  exact NQ.post (res0 rfl) (.keep (.keep .nil)) ⟨rfl, _, rfl⟩
theorem rget_10 (d br : Nat) (p : Option Addr) (c : Nat) (l : List B8) (hl : l.length = 4) (hc : l.length ≤ c) : Spc Try.prog 84 #[.pointer (some ⟨d, 0, none⟩), .pointer (some ⟨br, 0, none⟩)] [sls p 1 l.length (bytes l)] [rdr d p l.length c, cel br (Rdg.cells (rz 10)) 33]
    (fun _ I' H' => I' = [] ∧ ∃ x, H' = [x, cel br (Rdg.cells (getR 10 l)) 33]) := by
  have hl0 := Lies.refl (sls p 1 l.length (bytes l))
  refine Spc.enter Try.func84 rfl rfl rfl (fun w0 hw0 => ?_)
  refine CW.seq ?_
  refine CW.region (ef := []) (bk := []) ?_
  refine RL.move rfl rfl rfl rfl ?_
  refine RL.nilCheck rfl rfl rfl rfl ?_
  refine RL.fieldAddr fa_33_0 rfl rfl rfl rfl ?_
  refine RL.load Try.isAgg3 rfl rfl rfl rfl (by first | assumption | (apply Rd.get; (solve | (repeat (first | exact List.Mem.head _ | apply List.Mem.tail))); assumption) | (apply Rd.getS; (solve | (repeat (first | exact List.Mem.head _ | apply List.Mem.tail))); assumption) | (apply Rd.getO; (solve | (repeat (first | exact List.Mem.head _ | apply List.Mem.tail))); assumption) | (apply Rd.getI; (solve | (repeat (first | exact List.Mem.head _ | apply List.Mem.tail))); assumption) | (apply Rd.cel; (solve | (repeat (first | exact List.Mem.head _ | apply List.Mem.tail))); exact rfl) | (apply Rd.celI; (solve | (repeat (first | exact List.Mem.head _ | apply List.Mem.tail))); exact rfl)) ?_
  refine RL.nil ?_
  refine NQ.seq ?_
  refine CW.block ?_
  refine CW.seq ?_
  refine CW.block ?_
  refine CW.seq ?_
  refine CW.block ?_
  refine CW.seq ?_
  refine CW.block ?_
  refine CW.seq ?_
  refine CW.block ?_
  refine CW.seq ?_
  refine CW.block ?_
  refine CW.seq ?_
  refine CW.block ?_
  refine CW.seq ?_
  refine CW.block ?_
  refine CW.seq ?_
  refine CW.block ?_
  refine CW.seq ?_
  refine CW.block ?_
  refine CW.seq ?_
  refine CW.block ?_
  refine CW.seq ?_
  refine CW.block ?_
  refine CW.seq ?_
  refine CW.block ?_
  refine CW.seq ?_
  refine CW.seq ?_
  refine CW.seq ?_
  refine CW.region (ef := []) (bk := []) ?_
  refine RL.bin rfl rfl rfl rfl rfl rfl ?_
  refine RL.assign rfl rfl rfl rfl ?_
  refine RL.nil ?_
  refine NQ.seq ?_
  -- STOP: if; todo top: ["code", ["cond", ["t", 8], ["exit", 1], ["skip"]]]
  refine CW.condF rfl (rfl) ?_
  refine CW.skip ?_
  refine NQ.seq ?_
  refine CW.seq ?_
  refine CW.seq ?_
  refine CW.region (ef := []) (bk := []) ?_
  refine RL.bin rfl rfl rfl rfl rfl rfl ?_
  refine RL.assign rfl rfl rfl rfl ?_
  refine RL.nil ?_
  refine NQ.seq ?_
  refine CW.only (.cons (k := 0) rfl (.cons (k := 1) rfl (.cons (k := 7) rfl (.cons (k := 10) rfl .nil)))) ?_
  -- STOP: if; todo top: ["code", ["cond", ["t", 10], ["exit", 2], ["skip"]]]
  refine CW.condF rfl (rfl) ?_
  refine CW.skip ?_
  refine NQ.seq ?_
  refine CW.seq ?_
  refine CW.seq ?_
  refine CW.region (ef := []) (bk := []) ?_
  refine RL.bin rfl rfl rfl rfl rfl rfl ?_
  refine RL.assign rfl rfl rfl rfl ?_
  refine RL.nil ?_
  refine NQ.seq ?_
  -- STOP: if; todo top: ["code", ["cond", ["t", 12], ["exit", 3], ["skip"]]]
  refine CW.condF rfl (rfl) ?_
  refine CW.skip ?_
  refine NQ.seq ?_
  refine CW.seq ?_
  refine CW.seq ?_
  refine CW.region (ef := []) (bk := []) ?_
  refine RL.bin rfl rfl rfl rfl rfl rfl ?_
  refine RL.assign rfl rfl rfl rfl ?_
  refine RL.nil ?_
  refine NQ.seq ?_
  -- STOP: if; todo top: ["code", ["cond", ["t", 14], ["exit", 4], ["skip"]]]
  refine CW.condF rfl (rfl) ?_
  refine CW.skip ?_
  refine NQ.seq ?_
  refine CW.seq ?_
  refine CW.seq ?_
  refine CW.region (ef := []) (bk := []) ?_
  refine RL.bin rfl rfl rfl rfl rfl rfl ?_
  refine RL.assign rfl rfl rfl rfl ?_
  refine RL.nil ?_
  refine NQ.seq ?_
  refine CW.only (.cons (k := 0) rfl (.cons (k := 1) rfl (.cons (k := 7) rfl (.cons (k := 16) rfl .nil)))) ?_
  -- STOP: if; todo top: ["code", ["cond", ["t", 16], ["exit", 5], ["skip"]]]
  refine CW.condF rfl (rfl) ?_
  refine CW.skip ?_
  refine NQ.seq ?_
  refine CW.seq ?_
  refine CW.seq ?_
  refine CW.region (ef := []) (bk := []) ?_
  refine RL.bin rfl rfl rfl rfl rfl rfl ?_
  refine RL.assign rfl rfl rfl rfl ?_
  refine RL.nil ?_
  refine NQ.seq ?_
  -- STOP: if; todo top: ["code", ["cond", ["t", 18], ["exit", 6], ["skip"]]]
  refine CW.condF rfl (rfl) ?_
  refine CW.skip ?_
  refine NQ.seq ?_
  refine CW.seq ?_
  refine CW.seq ?_
  refine CW.region (ef := []) (bk := []) ?_
  refine RL.bin rfl rfl rfl rfl rfl rfl ?_
  refine RL.assign rfl rfl rfl rfl ?_
  refine RL.nil ?_
  refine NQ.seq ?_
  -- STOP: if; todo top: ["code", ["cond", ["t", 20], ["exit", 7], ["skip"]]]
  refine CW.condF rfl (rfl) ?_
  refine CW.skip ?_
  refine NQ.seq ?_
  refine CW.seq ?_
  refine CW.seq ?_
  refine CW.region (ef := []) (bk := []) ?_
  refine RL.bin rfl rfl rfl rfl rfl rfl ?_
  refine RL.assign rfl rfl rfl rfl ?_
  refine RL.nil ?_
  refine NQ.seq ?_
  refine CW.only (.cons (k := 0) rfl (.cons (k := 1) rfl (.cons (k := 7) rfl (.cons (k := 22) rfl .nil)))) ?_
  -- STOP: if; todo top: ["code", ["cond", ["t", 22], ["exit", 8], ["skip"]]]
  refine CW.condF rfl (rfl) ?_
  refine CW.skip ?_
  refine NQ.seq ?_
  refine CW.seq ?_
  refine CW.seq ?_
  refine CW.region (ef := []) (bk := []) ?_
  refine RL.bin rfl rfl rfl rfl rfl rfl ?_
  refine RL.assign rfl rfl rfl rfl ?_
  refine RL.nil ?_
  refine NQ.seq ?_
  -- STOP: if; todo top: ["code", ["cond", ["t", 24], ["exit", 9], ["skip"]]]
  refine CW.condF rfl (rfl) ?_
  refine CW.skip ?_
  refine NQ.seq ?_
  refine CW.seq ?_
  refine CW.seq ?_
  refine CW.region (ef := []) (bk := []) ?_
  refine RL.bin rfl rfl rfl rfl rfl rfl ?_
  refine RL.assign rfl rfl rfl rfl ?_
  refine RL.nil ?_
  refine NQ.seq ?_
  -- STOP: if; todo top: ["code", ["cond", ["t", 26], ["exit", 10], ["skip"]]]
  refine CW.condF rfl (rfl) ?_
  refine CW.skip ?_
  refine NQ.seq ?_
  refine CW.seq ?_
  refine CW.seq ?_
  refine CW.region (ef := []) (bk := []) ?_
  refine RL.bin rfl rfl rfl rfl rfl rfl ?_
  refine RL.assign rfl rfl rfl rfl ?_
  refine RL.nil ?_
  refine NQ.seq ?_
  refine CW.only (.cons (k := 0) rfl (.cons (k := 1) rfl (.cons (k := 7) rfl (.cons (k := 28) rfl .nil)))) ?_
  -- STOP: if; todo top: ["code", ["cond", ["t", 28], ["exit", 11], ["skip"]]]
  refine CW.condF rfl (rfl) ?_
  refine CW.skip ?_
  refine NQ.seq ?_
  refine CW.seq ?_
  refine CW.region (ef := []) (bk := []) ?_
  refine RL.bin rfl rfl rfl rfl rfl rfl ?_
  refine RL.assign rfl rfl rfl rfl ?_
  refine RL.nil ?_
  refine NQ.seq ?_
  -- STOP: if; todo top: ["code", ["cond", ["t", 30], ["exit", 12], ["skip"]]]
  refine CW.condT rfl (rfl) ?_
  refine CW.exit ?_
  refine XQ.seq ?_
  refine XQ.miss rfl ?_
  refine XQ.seq ?_
  refine XQ.miss rfl ?_
  refine XQ.seq ?_
  refine XQ.miss rfl ?_
  refine XQ.seq ?_
  refine XQ.miss rfl ?_
  refine XQ.seq ?_
  refine XQ.miss rfl ?_
  refine XQ.seq ?_
  refine XQ.miss rfl ?_
  refine XQ.seq ?_
  refine XQ.miss rfl ?_
  refine XQ.seq ?_
  refine XQ.miss rfl ?_
  refine XQ.seq ?_
  refine XQ.miss rfl ?_
  refine XQ.seq ?_
  refine XQ.miss rfl ?_
  refine XQ.seq ?_
  refine XQ.miss rfl ?_
  refine XQ.seq ?_
  refine XQ.hit ?_
  refine NQ.seq ?_
  refine CW.seq ?_
  refine CW.region (ef := [2, 6]) (bk := [2, 6]) ?_
  refine RL.move rfl rfl rfl rfl ?_
  refine RL.move rfl rfl rfl rfl ?_
  refine RL.call (rnum_any d p 4 c l (by omega) hc (by decide)) Try.call138 rfl rfl rfl rfl rfl (by repeat (first | exact Pick.nil | apply Pick.take | apply Pick.leave)) (Lend.sub hl0 (by repeat (first | exact List.Mem.head _ | apply List.Mem.tail)) .nil) (.inr rfl) ?_
  -- STOP: called; op 3: d=159 ["convert", 30, 25, ["t", 158]] guard=None (kind.go:222)
  rintro _ _ _ ⟨rfl, rfl, q1, k1, rfl, hc1, hk1⟩
  have hl1 := hl0.trans hk1
  refine RL.conv Try.runUnderlying30 Try.runUnderlying25 rfl rfl rfl rfl ?_
  refine RL.nilCheck rfl rfl rfl rfl ?_
  refine RL.fieldAddr fa_33_13 rfl rfl rfl rfl ?_
  refine RL.store (vs := [_]) Try.sizeOf25 rfl rfl rfl rfl rfl rfl rfl rfl rfl (by repeat (first | exact Upd.here | apply Upd.there)) ?_
  refine RL.nil ?_
  refine NQ.seq ?_
  refine CW.only .nil ?_
  refine CW.exit ?_
  refine XQ.hit ?_
  -- STOP: end; todo top: ["N"]
  refine NQ.post (res0 rfl) (.keep (.keep .nil)) ⟨rfl, _, congrArg (fun z => [_, cel br z _]) ?_⟩
  simp only [f32, f64, List.drop_drop, Nat.reduceMul, Nat.reduceAdd, u32_nat, u32_nat0, u16_nat, ofInt_nat8, ofNat_nat8]
  rfl
theorem rget_11 (d br : Nat) (p : Option Addr) (c : Nat) (l : List B8) (hl : l.length = 0) (hc : l.length ≤ c) : Spc Try.prog 84 #[.pointer (some ⟨d, 0, none⟩), .pointer (some ⟨br, 0, none⟩)] [sls p 1 l.length (bytes l)] [rdr d p l.length c, cel br (Rdg.cells (rz 11)) 33]
    (fun _ I' H' => I' = [] ∧ ∃ x, H' = [x, cel br (Rdg.cells (getR 11 l)) 33]) := by
  refine Spc.enter Try.func84 rfl rfl rfl (fun w0 hw0 => ?_)
  refine CW.seq ?_
  refine CW.region (ef := []) (bk := []) ?_
  refine RL.move rfl rfl rfl rfl ?_
  refine RL.nilCheck rfl rfl rfl rfl ?_
  refine RL.fieldAddr fa_33_0 rfl rfl rfl rfl ?_
  refine RL.load Try.isAgg3 rfl rfl rfl rfl (by first | assumption | (apply Rd.get; (solve | (repeat (first | exact List.Mem.head _ | apply List.Mem.tail))); assumption) | (apply Rd.getS; (solve | (repeat (first | exact List.Mem.head _ | apply List.Mem.tail))); assumption) | (apply Rd.getO; (solve | (repeat (first | exact List.Mem.head _ | apply List.Mem.tail))); assumption) | (apply Rd.getI; (solve | (repeat (first | exact List.Mem.head _ | apply List.Mem.tail))); assumption) | (apply Rd.cel; (solve | (repeat (first | exact List.Mem.head _ | apply List.Mem.tail))); exact rfl) | (apply Rd.celI; (solve | (repeat (first | exact List.Mem.head _ | apply List.Mem.tail))); exact rfl)) ?_
  refine RL.nil ?_
  refine NQ.seq ?_
  refine CW.block ?_
  refine CW.seq ?_
  refine CW.block ?_
  refine CW.seq ?_
  refine CW.block ?_
  refine CW.seq ?_
  refine CW.block ?_
  refine CW.seq ?_
  refine CW.block ?_
  refine CW.seq ?_
  refine CW.block ?_
  refine CW.seq ?_
  refine CW.block ?_
  refine CW.seq ?_
  refine CW.block ?_
  refine CW.seq ?_
  refine CW.block ?_
  refine CW.seq ?_
  refine CW.block ?_
  refine CW.seq ?_
  refine CW.block ?_
  refine CW.seq ?_
  refine CW.block ?_
  refine CW.seq ?_
  refine CW.block ?_
  refine CW.seq ?_
  refine CW.seq ?_
  refine CW.seq ?_
  refine CW.region (ef := []) (bk := []) ?_
  refine RL.bin rfl rfl rfl rfl rfl rfl ?_
  refine RL.assign rfl rfl rfl rfl ?_
  refine RL.nil ?_
  refine NQ.seq ?_
  -- STOP: if; todo top: ["code", ["cond", ["t", 8], ["exit", 1], ["skip"]]]
  refine CW.condF rfl (rfl) ?_
  refine CW.skip ?_
  refine NQ.seq ?_
  refine CW.seq ?_
  refine CW.seq ?_
  refine CW.region (ef := []) (bk := []) ?_
  refine RL.bin rfl rfl rfl rfl rfl rfl ?_
  refine RL.assign rfl rfl rfl rfl ?_
  refine RL.nil ?_
  refine NQ.seq ?_
  refine CW.only (.cons (k := 0) rfl (.cons (k := 1) rfl (.cons (k := 7) rfl (.cons (k := 10) rfl .nil)))) ?_
  -- STOP: if; todo top: ["code", ["cond", ["t", 10], ["exit", 2], ["skip"]]]
  refine CW.condF rfl (rfl) ?_
  refine CW.skip ?_
  refine NQ.seq ?_
  refine CW.seq ?_
  refine CW.seq ?_
  refine CW.region (ef := []) (bk := []) ?_
  refine RL.bin rfl rfl rfl rfl rfl rfl ?_
  refine RL.assign rfl rfl rfl rfl ?_
  refine RL.nil ?_
  refine NQ.seq ?_
  -- STOP: if; todo top: ["code", ["cond", ["t", 12], ["exit", 3], ["skip"]]]
  refine CW.condF rfl (rfl) ?_
  refine CW.skip ?_
  refine NQ.seq ?_
  refine CW.seq ?_
  refine CW.seq ?_
  refine CW.region (ef := []) (bk := []) ?_
  refine RL.bin rfl rfl rfl rfl rfl rfl ?_
  refine RL.assign rfl rfl rfl rfl ?_
  refine RL.nil ?_
  refine NQ.seq ?_
  -- STOP: if; todo top: ["code", ["cond", ["t", 14], ["exit", 4], ["skip"]]]
  refine CW.condF rfl (rfl) ?_
  refine CW.skip ?_
  refine NQ.seq ?_
  refine CW.seq ?_
  refine CW.seq ?_
  refine CW.region (ef := []) (bk := []) ?_
  refine RL.bin rfl rfl rfl rfl rfl rfl ?_
  refine RL.assign rfl rfl rfl rfl ?_
  refine RL.nil ?_
  refine NQ.seq ?_
  refine CW.only (.cons (k := 0) rfl (.cons (k := 1) rfl (.cons (k := 7) rfl (.cons (k := 16) rfl .nil)))) ?_
  -- STOP: if; todo top: ["code", ["cond", ["t", 16], ["exit", 5], ["skip"]]]
  refine CW.condF rfl (rfl) ?_
  refine CW.skip ?_
  refine NQ.seq ?_
  refine CW.seq ?_
  refine CW.seq ?_
  refine CW.region (ef := []) (bk := []) ?_
  refine RL.bin rfl rfl rfl rfl rfl rfl ?_
  refine RL.assign rfl rfl rfl rfl ?_
  refine RL.nil ?_
  refine NQ.seq ?_
  -- STOP: if; todo top: ["code", ["cond", ["t", 18], ["exit", 6], ["skip"]]]
  refine CW.condF rfl (rfl) ?_
  refine CW.skip ?_
  refine NQ.seq ?_
  refine CW.seq ?_
  refine CW.seq ?_
  refine CW.region (ef := []) (bk := []) ?_
  refine RL.bin rfl rfl rfl rfl rfl rfl ?_
  refine RL.assign rfl rfl rfl rfl ?_
  refine RL.nil ?_
  refine NQ.seq ?_
  -- STOP: if; todo top: ["code", ["cond", ["t", 20], ["exit", 7], ["skip"]]]
  refine CW.condF rfl (rfl) ?_
  refine CW.skip ?_
  refine NQ.seq ?_
  refine CW.seq ?_
  refine CW.seq ?_
  refine CW.region (ef := []) (bk := []) ?_
  refine RL.bin rfl rfl rfl rfl rfl rfl ?_
  refine RL.assign rfl rfl rfl rfl ?_
  refine RL.nil ?_
  refine NQ.seq ?_
  refine CW.only (.cons (k := 0) rfl (.cons (k := 1) rfl (.cons (k := 7) rfl (.cons (k := 22) rfl .nil)))) ?_
  -- STOP: if; todo top: ["code", ["cond", ["t", 22], ["exit", 8], ["skip"]]]
  refine CW.condF rfl (rfl) ?_
  refine CW.skip ?_
  refine NQ.seq ?_
  refine CW.seq ?_
  refine CW.seq ?_
  refine CW.region (ef := []) (bk := []) ?_
  refine RL.bin rfl rfl rfl rfl rfl rfl ?_
  refine RL.assign rfl rfl rfl rfl ?_
  refine RL.nil ?_
  refine NQ.seq ?_
  -- STOP: if; todo top: ["code", ["cond", ["t", 24], ["exit", 9], ["skip"]]]
  refine CW.condF rfl (rfl) ?_
  refine CW.skip ?_
  refine NQ.seq ?_
  refine CW.seq ?_
  refine CW.seq ?_
  refine CW.region (ef := []) (bk := []) ?_
  refine RL.bin rfl rfl rfl rfl rfl rfl ?_
  refine RL.assign rfl rfl rfl rfl ?_
  refine RL.nil ?_
  refine NQ.seq ?_
  -- STOP: if; todo top: ["code", ["cond", ["t", 26], ["exit", 10], ["skip"]]]
  refine CW.condF rfl (rfl) ?_
  refine CW.skip ?_
  refine NQ.seq ?_
  refine CW.seq ?_
  refine CW.seq ?_
  refine CW.region (ef := []) (bk := []) ?_
  refine RL.bin rfl rfl rfl rfl rfl rfl ?_
  refine RL.assign rfl rfl rfl rfl ?_
  refine RL.nil ?_
  refine NQ.seq ?_
  refine CW.only (.cons (k := 0) rfl (.cons (k := 1) rfl (.cons (k := 7) rfl (.cons (k := 28) rfl .nil)))) ?_
  -- STOP: if; todo top: ["code", ["cond", ["t", 28], ["exit", 11], ["skip"]]]
  refine CW.condF rfl (rfl) ?_
  refine CW.skip ?_
  refine NQ.seq ?_
  refine CW.seq ?_
  refine CW.region (ef := []) (bk := []) ?_
  refine RL.bin rfl rfl rfl rfl rfl rfl ?_
  refine RL.assign rfl rfl rfl rfl ?_
  refine RL.nil ?_
  refine NQ.seq ?_
  -- STOP: if; todo top: ["code", ["cond", ["t", 30], ["exit", 12], ["skip"]]]
  refine CW.condF rfl (rfl) ?_
  refine CW.skip ?_
  refine NQ.seq ?_
  refine CW.exit ?_
  refine XQ.miss rfl ?_
  refine XQ.seq ?_
  refine XQ.miss rfl ?_
  refine XQ.seq ?_
  refine XQ.miss rfl ?_
  refine XQ.seq ?_
  refine XQ.miss rfl ?_
  refine XQ.seq ?_
  refine XQ.miss rfl ?_
  refine XQ.seq ?_
  refine XQ.miss rfl ?_
  refine XQ.seq ?_
  refine XQ.miss rfl ?_
  refine XQ.seq ?_
  refine XQ.miss rfl ?_
  refine XQ.seq ?_
  refine XQ.miss rfl ?_
  refine XQ.seq ?_
  refine XQ.miss rfl ?_
  refine XQ.seq ?_
  refine XQ.miss rfl ?_
  refine XQ.seq ?_
  refine XQ.miss rfl ?_
  refine XQ.seq ?_
  refine XQ.hit ?_
  -- STOP: end; todo top: ["N"]
  exact NQ.post (res0 rfl) (.keep (.keep .nil)) ⟨rfl, _, rfl⟩
theorem rget_12 (d br : Nat) (p : Option Addr) (c : Nat) (l : List B8) (hl : l.length = 1) (hc : l.length ≤ c) : Spc Try.prog 84 #[.pointer (some ⟨d, 0, none⟩), .pointer (some ⟨br, 0, none⟩)] [sls p 1 l.length (bytes l)] [rdr d p l.length c, cel br (Rdg.cells (rz 12)) 33]
    (fun _ I' H' => I' = [] ∧ ∃ x, H' = [x, cel br (Rdg.cells (getR 12 l)) 33]) := by
  have hl0 := Lies.refl (sls p 1 l.length (bytes l))
  refine Spc.enter Try.func84 rfl rfl rfl (fun w0 hw0 => ?_)
  refine CW.seq ?_
  refine CW.region (ef := []) (bk := []) ?_
  refine RL.move rfl rfl rfl rfl ?_
  refine RL.nilCheck rfl rfl rfl rfl ?_
  refine RL.fieldAddr fa_33_0 rfl rfl rfl rfl ?_
  refine RL.load Try.isAgg3 rfl rfl rfl rfl (by first | assumption | (apply Rd.get; (solve | (repeat (first | exact List.Mem.head _ | apply List.Mem.tail))); assumption) | (apply Rd.getS; (solve | (repeat (first | exact List.Mem.head _ | apply List.Mem.tail))); assumption) | (apply Rd.getO; (solve | (repeat (first | exact List.Mem.head _ | apply List.Mem.tail))); assumption) | (apply Rd.getI; (solve | (repeat (first | exact List.Mem.head _ | apply List.Mem.tail))); assumption) | (apply Rd.cel; (solve | (repeat (first | exact List.Mem.head _ | apply List.Mem.tail))); exact rfl) | (apply Rd.celI; (solve | (repeat (first | exact List.Mem.head _ | apply List.Mem.tail))); exact rfl)) ?_
  refine RL.nil ?_
  refine NQ.seq ?_
  refine CW.block ?_
  refine CW.seq ?_
  refine CW.block ?_
  refine CW.seq ?_
  refine CW.block ?_
  refine CW.seq ?_
  refine CW.block ?_
  refine CW.seq ?_
  refine CW.block ?_
  refine CW.seq ?_
  refine CW.block ?_
  refine CW.seq ?_
  refine CW.block ?_
  refine CW.seq ?_
  refine CW.block ?_
  refine CW.seq ?_
  refine CW.block ?_
  refine CW.seq ?_
  refine CW.block ?_
  refine CW.seq ?_
  refine CW.block ?_
  refine CW.seq ?_
  refine CW.block ?_
  refine CW.seq ?_
  refine CW.block ?_
  refine CW.seq ?_
  refine CW.seq ?_
  refine CW.seq ?_
  refine CW.region (ef := []) (bk := []) ?_
  refine RL.bin rfl rfl rfl rfl rfl rfl ?_
  refine RL.assign rfl rfl rfl rfl ?_
  refine RL.nil ?_
  refine NQ.seq ?_
  -- STOP: if; todo top: ["code", ["cond", ["t", 8], ["exit", 1], ["skip"]]]
  refine CW.condF rfl (rfl) ?_
  refine CW.skip ?_
  refine NQ.seq ?_
  refine CW.seq ?_
  refine CW.seq ?_
  refine CW.region (ef := []) (bk := []) ?_
  refine RL.bin rfl rfl rfl rfl rfl rfl ?_
  refine RL.assign rfl rfl rfl rfl ?_
  refine RL.nil ?_
  refine NQ.seq ?_
  refine CW.only (.cons (k := 0) rfl (.cons (k := 1) rfl (.cons (k := 7) rfl (.cons (k := 10) rfl .nil)))) ?_
  -- STOP: if; todo top: ["code", ["cond", ["t", 10], ["exit", 2], ["skip"]]]
  refine CW.condF rfl (rfl) ?_
  refine CW.skip ?_
  refine NQ.seq ?_
  refine CW.seq ?_
  refine CW.seq ?_
  refine CW.region (ef := []) (bk := []) ?_
  refine RL.bin rfl rfl rfl rfl rfl rfl ?_
  refine RL.assign rfl rfl rfl rfl ?_
  refine RL.nil ?_
  refine NQ.seq ?_
  -- STOP: if; todo top: ["code", ["cond", ["t", 12], ["exit", 3], ["skip"]]]
  refine CW.condF rfl (rfl) ?_
  refine CW.skip ?_
  refine NQ.seq ?_
  refine CW.seq ?_
  refine CW.seq ?_
  refine CW.region (ef := []) (bk := []) ?_
  refine RL.bin rfl rfl rfl rfl rfl rfl ?_
  refine RL.assign rfl rfl rfl rfl ?_
  refine RL.nil ?_
  refine NQ.seq ?_
  -- STOP: if; todo top: ["code", ["cond", ["t", 14], ["exit", 4], ["skip"]]]
  refine CW.condF rfl (rfl) ?_
  refine CW.skip ?_
  refine NQ.seq ?_
  refine CW.seq ?_
  refine CW.seq ?_
  refine CW.region (ef := []) (bk := []) ?_
  refine RL.bin rfl rfl rfl rfl rfl rfl ?_
  refine RL.assign rfl rfl rfl rfl ?_
  refine RL.nil ?_
  refine NQ.seq ?_
  refine CW.only (.cons (k := 0) rfl (.cons (k := 1) rfl (.cons (k := 7) rfl (.cons (k := 16) rfl .nil)))) ?_
  -- STOP: if; todo top: ["code", ["cond", ["t", 16], ["exit", 5], ["skip"]]]
  refine CW.condF rfl (rfl) ?_
  refine CW.skip ?_
  refine NQ.seq ?_
  refine CW.seq ?_
  refine CW.seq ?_
  refine CW.region (ef := []) (bk := []) ?_
  refine RL.bin rfl rfl rfl rfl rfl rfl ?_
  refine RL.assign rfl rfl rfl rfl ?_
  refine RL.nil ?_
  refine NQ.seq ?_
  -- STOP: if; todo top: ["code", ["cond", ["t", 18], ["exit", 6], ["skip"]]]
  refine CW.condF rfl (rfl) ?_
  refine CW.skip ?_
  refine NQ.seq ?_
  refine CW.seq ?_
  refine CW.seq ?_
  refine CW.region (ef := []) (bk := []) ?_
  refine RL.bin rfl rfl rfl rfl rfl rfl ?_
  refine RL.assign rfl rfl rfl rfl ?_
  refine RL.nil ?_
  refine NQ.seq ?_
  -- STOP: if; todo top: ["code", ["cond", ["t", 20], ["exit", 7], ["skip"]]]
  refine CW.condF rfl (rfl) ?_
  refine CW.skip ?_
  refine NQ.seq ?_
  refine CW.seq ?_
  refine CW.seq ?_
  refine CW.region (ef := []) (bk := []) ?_
  refine RL.bin rfl rfl rfl rfl rfl rfl ?_
  refine RL.assign rfl rfl rfl rfl ?_
  refine RL.nil ?_
  refine NQ.seq ?_
  refine CW.only (.cons (k := 0) rfl (.cons (k := 1) rfl (.cons (k := 7) rfl (.cons (k := 22) rfl .nil)))) ?_
  -- STOP: if; todo top: ["code", ["cond", ["t", 22], ["exit", 8], ["skip"]]]
  refine CW.condF rfl (rfl) ?_
  refine CW.skip ?_
  refine NQ.seq ?_
  refine CW.seq ?_
  refine CW.seq ?_
  refine CW.region (ef := []) (bk := []) ?_
  refine RL.bin rfl rfl rfl rfl rfl rfl ?_
  refine RL.assign rfl rfl rfl rfl ?_
  refine RL.nil ?_
  refine NQ.seq ?_
  -- STOP: if; todo top: ["code", ["cond", ["t", 24], ["exit", 9], ["skip"]]]
  refine CW.condT rfl (rfl) ?_
  refine CW.exit ?_
  refine XQ.seq ?_
  refine XQ.seq ?_
  refine XQ.miss rfl ?_
  refine XQ.seq ?_
  refine XQ.miss rfl ?_
  refine XQ.seq ?_
  refine XQ.miss rfl ?_
  refine XQ.seq ?_
  refine XQ.miss rfl ?_
  refine XQ.seq ?_
  refine XQ.miss rfl ?_
  refine XQ.seq ?_
  refine XQ.miss rfl ?_
  refine XQ.seq ?_
  refine XQ.miss rfl ?_
  refine XQ.seq ?_
  refine XQ.miss rfl ?_
  refine XQ.seq ?_
  refine XQ.hit ?_
  refine NQ.seq ?_
  refine CW.seq ?_
  refine CW.region (ef := [2, 6]) (bk := [2, 6]) ?_
  refine RL.move rfl rfl rfl rfl ?_
  refine RL.move rfl rfl rfl rfl ?_
  refine RL.call (rnum_any d p 1 c l (by omega) hc (by decide)) Try.call138 rfl rfl rfl rfl rfl (by repeat (first | exact Pick.nil | apply Pick.take | apply Pick.leave)) (Lend.sub hl0 (by repeat (first | exact List.Mem.head _ | apply List.Mem.tail)) .nil) (.inr rfl) ?_
  -- STOP: called; op 3: d=108 ["convert", 30, 5, ["t", 107]] guard=None (kind.go:209)
  rintro _ _ _ ⟨rfl, rfl, q1, k1, rfl, hc1, hk1⟩
  have hl1 := hl0.trans hk1
  refine RL.lowest Try.runUnderlying30 Try.runUnderlying5 rfl rfl rfl rfl ?_
  refine RL.nilCheck rfl rfl rfl rfl ?_
  refine RL.fieldAddr fa_33_16 rfl rfl rfl rfl ?_
  refine RL.store (vs := [_]) Try.sizeOf5 rfl rfl rfl rfl rfl rfl rfl rfl rfl (by repeat (first | exact Upd.here | apply Upd.there)) ?_
  refine RL.nil ?_
  refine NQ.seq ?_
  refine CW.only (.cons (k := 0) rfl (.cons (k := 1) rfl .nil)) ?_
  refine CW.exit ?_
  refine XQ.miss rfl ?_
  refine XQ.seq ?_
  refine XQ.miss rfl ?_
  refine XQ.seq ?_
  refine XQ.miss rfl ?_
  refine XQ.seq ?_
  refine XQ.hit ?_
  -- STOP: end; todo top: ["N"]
  refine NQ.post (res0 rfl) (.keep (.keep .nil)) ⟨rfl, _, congrArg (fun z => [_, cel br z _]) ?_⟩
  simp only [f32, f64, List.drop_drop, Nat.reduceMul, Nat.reduceAdd, u32_nat, u32_nat0, u16_nat, bat_nat0 l (by omega), ofInt_nat8, ofNat_nat8]
  rfl
theorem rget_13 (d br : Nat) (p : Option Addr) (c : Nat) (l : List B8) (hl : l.length = 37) (hc : l.length ≤ c) : Spc Try.prog 84 #[.pointer (some ⟨d, 0, none⟩), .pointer (some ⟨br, 0, none⟩)] [sls p 1 l.length (bytes l)] [rdr d p l.length c, cel br (Rdg.cells (rz 13)) 33]
    (fun _ I' H' => I' = [] ∧ ∃ x, H' = [x, cel br (Rdg.cells (getR 13 l)) 33]) := by
  have hl0 := Lies.refl (sls p 1 l.length (bytes l))
  refine Spc.enter Try.func84 rfl rfl rfl (fun w0 hw0 => ?_)
  refine CW.seq ?_
  refine CW.region (ef := []) (bk := []) ?_
  refine RL.move rfl rfl rfl rfl ?_
  refine RL.nilCheck rfl rfl rfl rfl ?_
  refine RL.fieldAddr fa_33_0 rfl rfl rfl rfl ?_
  refine RL.load Try.isAgg3 rfl rfl rfl rfl (by first | assumption | (apply Rd.get; (solve | (repeat (first | exact List.Mem.head _ | apply List.Mem.tail))); assumption) | (apply Rd.getS; (solve | (repeat (first | exact List.Mem.head _ | apply List.Mem.tail))); assumption) | (apply Rd.getO; (solve | (repeat (first | exact List.Mem.head _ | apply List.Mem.tail))); assumption) | (apply Rd.getI; (solve | (repeat (first | exact List.Mem.head _ | apply List.Mem.tail))); assumption) | (apply Rd.cel; (solve | (repeat (first | exact List.Mem.head _ | apply List.Mem.tail))); exact rfl) | (apply Rd.celI; (solve | (repeat (first | exact List.Mem.head _ | apply List.Mem.tail))); exact rfl)) ?_
  refine RL.nil ?_
  refine NQ.seq ?_
  refine CW.block ?_
  refine CW.seq ?_
  refine CW.block ?_
  refine CW.seq ?_
  refine CW.block ?_
  refine CW.seq ?_
  refine CW.block ?_
  refine CW.seq ?_
  refine CW.block ?_
  refine CW.seq ?_
  refine CW.block ?_
  refine CW.seq ?_
  refine CW.block ?_
  refine CW.seq ?_
  refine CW.block ?_
  refine CW.seq ?_
  refine CW.block ?_
  refine CW.seq ?_
  refine CW.block ?_
  refine CW.seq ?_
  refine CW.block ?_
  refine CW.seq ?_
  refine CW.block ?_
  refine CW.seq ?_
  refine CW.block ?_
  refine CW.seq ?_
  refine CW.seq ?_
  refine CW.seq ?_
  refine CW.region (ef := []) (bk := []) ?_
  refine RL.bin rfl rfl rfl rfl rfl rfl ?_
  refine RL.assign rfl rfl rfl rfl ?_
  refine RL.nil ?_
  refine NQ.seq ?_
  -- STOP: if; todo top: ["code", ["cond", ["t", 8], ["exit", 1], ["skip"]]]
  refine CW.condF rfl (rfl) ?_
  refine CW.skip ?_
  refine NQ.seq ?_
  refine CW.seq ?_
  refine CW.seq ?_
  refine CW.region (ef := []) (bk := []) ?_
  refine RL.bin rfl rfl rfl rfl rfl rfl ?_
  refine RL.assign rfl rfl rfl rfl ?_
  refine RL.nil ?_
  refine NQ.seq ?_
  refine CW.only (.cons (k := 0) rfl (.cons (k := 1) rfl (.cons (k := 7) rfl (.cons (k := 10) rfl .nil)))) ?_
  -- STOP: if; todo top: ["code", ["cond", ["t", 10], ["exit", 2], ["skip"]]]
  refine CW.condF rfl (rfl) ?_
  refine CW.skip ?_
  refine NQ.seq ?_
  refine CW.seq ?_
  refine CW.seq ?_
  refine CW.region (ef := []) (bk := []) ?_
  refine RL.bin rfl rfl rfl rfl rfl rfl ?_
  refine RL.assign rfl rfl rfl rfl ?_
  refine RL.nil ?_
  refine NQ.seq ?_
  -- STOP: if; todo top: ["code", ["cond", ["t", 12], ["exit", 3], ["skip"]]]
  refine CW.condF rfl (rfl) ?_
  refine CW.skip ?_
  refine NQ.seq ?_
  refine CW.seq ?_
  refine CW.seq ?_
  refine CW.region (ef := []) (bk := []) ?_
  refine RL.bin rfl rfl rfl rfl rfl rfl ?_
  refine RL.assign rfl rfl rfl rfl ?_
  refine RL.nil ?_
  refine NQ.seq ?_
  -- STOP: if; todo top: ["code", ["cond", ["t", 14], ["exit", 4], ["skip"]]]
  refine CW.condF rfl (rfl) ?_
  refine CW.skip ?_
  refine NQ.seq ?_
  refine CW.seq ?_
  refine CW.seq ?_
  refine CW.region (ef := []) (bk := []) ?_
  refine RL.bin rfl rfl rfl rfl rfl rfl ?_
  refine RL.assign rfl rfl rfl rfl ?_
  refine RL.nil ?_
  refine NQ.seq ?_
  refine CW.only (.cons (k := 0) rfl (.cons (k := 1) rfl (.cons (k := 7) rfl (.cons (k := 16) rfl .nil)))) ?_
  -- STOP: if; todo top: ["code", ["cond", ["t", 16], ["exit", 5], ["skip"]]]
  refine CW.condF rfl (rfl) ?_
  refine CW.skip ?_
  refine NQ.seq ?_
  refine CW.seq ?_
  refine CW.seq ?_
  refine CW.region (ef := []) (bk := []) ?_
  refine RL.bin rfl rfl rfl rfl rfl rfl ?_
  refine RL.assign rfl rfl rfl rfl ?_
  refine RL.nil ?_
  refine NQ.seq ?_
  -- STOP: if; todo top: ["code", ["cond", ["t", 18], ["exit", 6], ["skip"]]]
  refine CW.condF rfl (rfl) ?_
  refine CW.skip ?_
  refine NQ.seq ?_
  refine CW.seq ?_
  refine CW.seq ?_
  refine CW.region (ef := []) (bk := []) ?_
  refine RL.bin rfl rfl rfl rfl rfl rfl ?_
  refine RL.assign rfl rfl rfl rfl ?_
  refine RL.nil ?_
  refine NQ.seq ?_
  -- STOP: if; todo top: ["code", ["cond", ["t", 20], ["exit", 7], ["skip"]]]
  refine CW.condF rfl (rfl) ?_
  refine CW.skip ?_
  refine NQ.seq ?_
  refine CW.seq ?_
  refine CW.seq ?_
  refine CW.region (ef := []) (bk := []) ?_
  refine RL.bin rfl rfl rfl rfl rfl rfl ?_
  refine RL.assign rfl rfl rfl rfl ?_
  refine RL.nil ?_
  refine NQ.seq ?_
  refine CW.only (.cons (k := 0) rfl (.cons (k := 1) rfl (.cons (k := 7) rfl (.cons (k := 22) rfl .nil)))) ?_
  -- STOP: if; todo top: ["code", ["cond", ["t", 22], ["exit", 8], ["skip"]]]
  refine CW.condF rfl (rfl) ?_
  refine CW.skip ?_
  refine NQ.seq ?_
  refine CW.seq ?_
  refine CW.seq ?_
  refine CW.region (ef := []) (bk := []) ?_
  refine RL.bin rfl rfl rfl rfl rfl rfl ?_
  refine RL.assign rfl rfl rfl rfl ?_
  refine RL.nil ?_
  refine NQ.seq ?_
  -- STOP: if; todo top: ["code", ["cond", ["t", 24], ["exit", 9], ["skip"]]]
  refine CW.condF rfl (rfl) ?_
  refine CW.skip ?_
  refine NQ.seq ?_
  refine CW.seq ?_
  refine CW.seq ?_
  refine CW.region (ef := []) (bk := []) ?_
  refine RL.bin rfl rfl rfl rfl rfl rfl ?_
  refine RL.assign rfl rfl rfl rfl ?_
  refine RL.nil ?_
  refine NQ.seq ?_
  -- STOP: if; todo top: ["code", ["cond", ["t", 26], ["exit", 10], ["skip"]]]
  refine CW.condT rfl (rfl) ?_
  refine CW.exit ?_
  refine XQ.seq ?_
  refine XQ.seq ?_
  refine XQ.miss rfl ?_
  refine XQ.seq ?_
  refine XQ.miss rfl ?_
  refine XQ.seq ?_
  refine XQ.miss rfl ?_
  refine XQ.seq ?_
  refine XQ.miss rfl ?_
  refine XQ.seq ?_
  refine XQ.miss rfl ?_
  refine XQ.seq ?_
  refine XQ.miss rfl ?_
  refine XQ.seq ?_
  refine XQ.miss rfl ?_
  refine XQ.seq ?_
  refine XQ.miss rfl ?_
  refine XQ.seq ?_
  refine XQ.miss rfl ?_
  refine XQ.seq ?_
  refine XQ.hit ?_
  refine NQ.seq ?_
  refine CW.only (.cons (k := 0) rfl (.cons (k := 1) rfl .nil)) ?_
  refine CW.seq ?_
  refine CW.seq ?_
  refine CW.region (ef := [2, 6]) (bk := [2, 6]) ?_
  refine RL.move rfl rfl rfl rfl ?_
  refine RL.move rfl rfl rfl rfl ?_
  refine RL.call (rnum_any d p 1 c l (by omega) hc (by decide)) Try.call138 rfl rfl rfl rfl rfl (by repeat (first | exact Pick.nil | apply Pick.take | apply Pick.leave)) (Lend.sub hl0 (by repeat (first | exact List.Mem.head _ | apply List.Mem.tail)) .nil) (.inr rfl) ?_
  -- STOP: called; op 3: d=114 ["convert", 30, 5, ["t", 113]] guard=None (kind.go:211)
  rintro _ _ _ ⟨rfl, rfl, q1, k1, rfl, hc1, hk1⟩
  have hl1 := hl0.trans hk1
  refine RL.lowest Try.runUnderlying30 Try.runUnderlying5 rfl rfl rfl rfl ?_
  refine RL.nilCheck rfl rfl rfl rfl ?_
  refine RL.fieldAddr fa_33_12 rfl rfl rfl rfl ?_
  refine RL.store (vs := [_]) Try.sizeOf5 rfl rfl rfl rfl rfl rfl rfl rfl rfl (by repeat (first | exact Upd.here | apply Upd.there)) ?_
  refine RL.nil ?_
  refine NQ.seq ?_
  refine CW.only (.cons (k := 0) rfl (.cons (k := 1) rfl .nil)) ?_
  refine CW.seq ?_
  refine CW.region (ef := [2, 5]) (bk := [2, 5]) ?_
  refine RL.move rfl rfl rfl rfl ?_
  refine RL.move rfl rfl rfl rfl ?_
  refine RL.call (rvec_any d q1 k1 (l.drop 1) (by rw [List.length_drop]; omega) hc1) Try.call140 rfl rfl rfl rfl rfl (by repeat (first | exact Pick.nil | apply Pick.take | apply Pick.leave)) (Lend.sub hl1 (by repeat (first | exact List.Mem.head _ | apply List.Mem.tail)) .nil) (.inr rfl) ?_
  -- STOP: called; op 3: d=120 ["nilCheck", ["t", 117]] guard=None (kind.go:212)
  rintro _ _ _ ⟨rfl, rfl, q2, k2, rfl, hc2, hk2⟩
  rw [List.drop_drop] at hc2 hk2 ⊢
  rw [show 8 * 3 = 24 from rfl] at hc2 hk2 ⊢
  rw [show 1 + 24 = 25 from rfl] at hc2 hk2 ⊢
  have hl2 := hl1.trans hk2
  refine RL.nilCheck rfl rfl rfl rfl ?_
  refine RL.fieldAddr fa_33_9 rfl rfl rfl rfl ?_
  -- STOP: op; op 5: d=None ["store", 27, ["t", 121], ["t", 119]] guard=None (kind.go:212)
  refine RL.storeX (cs' := spl _ (0 + 13) [f64 (l.drop 1) 0, f64 (l.drop 1) 1, f64 (l.drop 1) 2]) (vs := [f64 (l.drop 1) 0, f64 (l.drop 1) 1, f64 (l.drop 1) 2]) rfl Try.sizeOf27 rfl rfl rfl rfl rfl rfl rfl rfl (by repeat (first | exact Upd.here | apply Upd.there)) (Nat.le_of_ble_eq_true rfl) ?_
  refine RL.nil ?_
  refine NQ.seq ?_
  refine CW.seq ?_
  refine CW.region (ef := [2, 5]) (bk := [2, 5]) ?_
  refine RL.move rfl rfl rfl rfl ?_
  refine RL.move rfl rfl rfl rfl ?_
  refine RL.call (rfix_any d q2 k2 (l.drop 25) (by rw [List.length_drop]; omega) hc2) Try.call137 rfl rfl rfl rfl rfl (by repeat (first | exact Pick.nil | apply Pick.take | apply Pick.leave)) (Lend.sub hl2 (by repeat (first | exact List.Mem.head _ | apply List.Mem.tail)) .nil) (.inr rfl) ?_
  -- STOP: called; op 3: d=125 ["nilCheck", ["t", 122]] guard=None (kind.go:213)
  rintro _ _ _ ⟨rfl, rfl, q3, k3, rfl, hc3, hk3⟩
  rw [List.drop_drop] at hc3 hk3 ⊢
  rw [show 25 + 8 = 33 from rfl] at hc3 hk3 ⊢
  have hl3 := hl2.trans hk3
  refine RL.nilCheck rfl rfl rfl rfl ?_
  refine RL.fieldAddr fa_33_14 rfl rfl rfl rfl ?_
  refine RL.store (vs := [_]) Try.sizeOf24 rfl rfl rfl rfl rfl rfl rfl rfl rfl (by repeat (first | exact Upd.here | apply Upd.there)) ?_
  refine RL.nil ?_
  refine NQ.seq ?_
  refine CW.only (.cons (k := 0) rfl (.cons (k := 1) rfl .nil)) ?_
  refine CW.region (ef := [2, 6]) (bk := [2, 6]) ?_
  refine RL.move rfl rfl rfl rfl ?_
  refine RL.move rfl rfl rfl rfl ?_
  refine RL.call (rnum_any d q3 4 k3 (l.drop 33) (by rw [List.length_drop]; omega) hc3 (by decide)) Try.call138 rfl rfl rfl rfl rfl (by repeat (first | exact Pick.nil | apply Pick.take | apply Pick.leave)) (Lend.sub hl3 (by repeat (first | exact List.Mem.head _ | apply List.Mem.tail)) .nil) (.inr rfl) ?_
  -- STOP: called; op 3: d=130 ["convert", 30, 25, ["t", 129]] guard=None (kind.go:214)
  rintro _ _ _ ⟨rfl, rfl, q4, k4, rfl, hc4, hk4⟩
  rw [List.drop_drop] at hc4 hk4 ⊢
  rw [show 33 + 4 = 37 from rfl] at hc4 hk4 ⊢
  have hl4 := hl3.trans hk4
  refine RL.conv Try.runUnderlying30 Try.runUnderlying25 rfl rfl rfl rfl ?_
  refine RL.nilCheck rfl rfl rfl rfl ?_
  refine RL.fieldAddr fa_33_15 rfl rfl rfl rfl ?_
  refine RL.store (vs := [_]) Try.sizeOf25 rfl rfl rfl rfl rfl rfl rfl rfl rfl (by repeat (first | exact Upd.here | apply Upd.there)) ?_
  refine RL.nil ?_
  refine NQ.seq ?_
  refine CW.only (.cons (k := 0) rfl (.cons (k := 1) rfl .nil)) ?_
  refine CW.exit ?_
  refine XQ.miss rfl ?_
  refine XQ.seq ?_
  refine XQ.miss rfl ?_
  refine XQ.seq ?_
  refine XQ.hit ?_
  -- STOP: end; todo top: ["N"]
  refine NQ.post (res0 rfl) (.keep (.keep .nil)) ⟨rfl, _, congrArg (fun z => [_, cel br z _]) ?_⟩
  simp only [f32, f64, List.drop_drop, Nat.reduceMul, Nat.reduceAdd, u32_nat, u32_nat0, u16_nat, bat_nat0 l (by omega), ofInt_nat8, ofNat_nat8]
  rfl
theorem rget_14 (d br : Nat) (p : Option Addr) (c : Nat) (l : List B8) (hl : l.length = 16) (hc : l.length ≤ c) : Spc Try.prog 84 #[.pointer (some ⟨d, 0, none⟩), .pointer (some ⟨br, 0, none⟩)] [sls p 1 l.length (bytes l)] [rdr d p l.length c, cel br (Rdg.cells (rz 14)) 33]
    (fun _ I' H' => I' = [] ∧ ∃ x, H' = [x, cel br (Rdg.cells (getR 14 l)) 33]) := by
  have hl0 := Lies.refl (sls p 1 l.length (bytes l))
  refine Spc.enter Try.func84 rfl rfl rfl (fun w0 hw0 => ?_)
  refine CW.seq ?_
  refine CW.region (ef := []) (bk := []) ?_
  refine RL.move rfl rfl rfl rfl ?_
  refine RL.nilCheck rfl rfl rfl rfl ?_
  refine RL.fieldAddr fa_33_0 rfl rfl rfl rfl ?_
  refine RL.load Try.isAgg3 rfl rfl rfl rfl (by first | assumption | (apply Rd.get; (solve | (repeat (first | exact List.Mem.head _ | apply List.Mem.tail))); assumption) | (apply Rd.getS; (solve | (repeat (first | exact List.Mem.head _ | apply List.Mem.tail))); assumption) | (apply Rd.getO; (solve | (repeat (first | exact List.Mem.head _ | apply List.Mem.tail))); assumption) | (apply Rd.getI; (solve | (repeat (first | exact List.Mem.head _ | apply List.Mem.tail))); assumption) | (apply Rd.cel; (solve | (repeat (first | exact List.Mem.head _ | apply List.Mem.tail))); exact rfl) | (apply Rd.celI; (solve | (repeat (first | exact List.Mem.head _ | apply List.Mem.tail))); exact rfl)) ?_
  refine RL.nil ?_
  refine NQ.seq ?_
  refine CW.block ?_
  refine CW.seq ?_
  refine CW.block ?_
  refine CW.seq ?_
  refine CW.block ?_
  refine CW.seq ?_
  refine CW.block ?_
  refine CW.seq ?_
  refine CW.block ?_
  refine CW.seq ?_
  refine CW.block ?_
  refine CW.seq ?_
  refine CW.block ?_
  refine CW.seq ?_
  refine CW.block ?_
  refine CW.seq ?_
  refine CW.block ?_
  refine CW.seq ?_
  refine CW.block ?_
  refine CW.seq ?_
  refine CW.block ?_
  refine CW.seq ?_
  refine CW.block ?_
  refine CW.seq ?_
  refine CW.block ?_
  refine CW.seq ?_
  refine CW.seq ?_
  refine CW.seq ?_
  refine CW.region (ef := []) (bk := []) ?_
  refine RL.bin rfl rfl rfl rfl rfl rfl ?_
  refine RL.assign rfl rfl rfl rfl ?_
  refine RL.nil ?_
  refine NQ.seq ?_
  -- STOP: if; todo top: ["code", ["cond", ["t", 8], ["exit", 1], ["skip"]]]
  refine CW.condF rfl (rfl) ?_
  refine CW.skip ?_
  refine NQ.seq ?_
  refine CW.seq ?_
  refine CW.seq ?_
  refine CW.region (ef := []) (bk := []) ?_
  refine RL.bin rfl rfl rfl rfl rfl rfl ?_
  refine RL.assign rfl rfl rfl rfl ?_
  refine RL.nil ?_
  refine NQ.seq ?_
  refine CW.only (.cons (k := 0) rfl (.cons (k := 1) rfl (.cons (k := 7) rfl (.cons (k := 10) rfl .nil)))) ?_
  -- STOP: if; todo top: ["code", ["cond", ["t", 10], ["exit", 2], ["skip"]]]
  refine CW.condF rfl (rfl) ?_
  refine CW.skip ?_
  refine NQ.seq ?_
  refine CW.seq ?_
  refine CW.seq ?_
  refine CW.region (ef := []) (bk := []) ?_
  refine RL.bin rfl rfl rfl rfl rfl rfl ?_
  refine RL.assign rfl rfl rfl rfl ?_
  refine RL.nil ?_
  refine NQ.seq ?_
  -- STOP: if; todo top: ["code", ["cond", ["t", 12], ["exit", 3], ["skip"]]]
  refine CW.condF rfl (rfl) ?_
  refine CW.skip ?_
  refine NQ.seq ?_
  refine CW.seq ?_
  refine CW.seq ?_
  refine CW.region (ef := []) (bk := []) ?_
  refine RL.bin rfl rfl rfl rfl rfl rfl ?_
  refine RL.assign rfl rfl rfl rfl ?_
  refine RL.nil ?_
  refine NQ.seq ?_
  -- STOP: if; todo top: ["code", ["cond", ["t", 14], ["exit", 4], ["skip"]]]
  refine CW.condF rfl (rfl) ?_
  refine CW.skip ?_
  refine NQ.seq ?_
  refine CW.seq ?_
  refine CW.seq ?_
  refine CW.region (ef := []) (bk := []) ?_
  refine RL.bin rfl rfl rfl rfl rfl rfl ?_
  refine RL.assign rfl rfl rfl rfl ?_
  refine RL.nil ?_
  refine NQ.seq ?_
  refine CW.only (.cons (k := 0) rfl (.cons (k := 1) rfl (.cons (k := 7) rfl (.cons (k := 16) rfl .nil)))) ?_
  -- STOP: if; todo top: ["code", ["cond", ["t", 16], ["exit", 5], ["skip"]]]
  refine CW.condF rfl (rfl) ?_
  refine CW.skip ?_
  refine NQ.seq ?_
  refine CW.seq ?_
  refine CW.seq ?_
  refine CW.region (ef := []) (bk := []) ?_
  refine RL.bin rfl rfl rfl rfl rfl rfl ?_
  refine RL.assign rfl rfl rfl rfl ?_
  refine RL.nil ?_
  refine NQ.seq ?_
  -- STOP: if; todo top: ["code", ["cond", ["t", 18], ["exit", 6], ["skip"]]]
  refine CW.condF rfl (rfl) ?_
  refine CW.skip ?_
  refine NQ.seq ?_
  refine CW.seq ?_
  refine CW.seq ?_
  refine CW.region (ef := []) (bk := []) ?_
  refine RL.bin rfl rfl rfl rfl rfl rfl ?_
  refine RL.assign rfl rfl rfl rfl ?_
  refine RL.nil ?_
  refine NQ.seq ?_
  -- STOP: if; todo top: ["code", ["cond", ["t", 20], ["exit", 7], ["skip"]]]
  refine CW.condF rfl (rfl) ?_
  refine CW.skip ?_
  refine NQ.seq ?_
  refine CW.seq ?_
  refine CW.seq ?_
  refine CW.region (ef := []) (bk := []) ?_
  refine RL.bin rfl rfl rfl rfl rfl rfl ?_
  refine RL.assign rfl rfl rfl rfl ?_
  refine RL.nil ?_
  refine NQ.seq ?_
  refine CW.only (.cons (k := 0) rfl (.cons (k := 1) rfl (.cons (k := 7) rfl (.cons (k := 22) rfl .nil)))) ?_
  -- STOP: if; todo top: ["code", ["cond", ["t", 22], ["exit", 8], ["skip"]]]
  refine CW.condF rfl (rfl) ?_
  refine CW.skip ?_
  refine NQ.seq ?_
  refine CW.seq ?_
  refine CW.seq ?_
  refine CW.region (ef := []) (bk := []) ?_
  refine RL.bin rfl rfl rfl rfl rfl rfl ?_
  refine RL.assign rfl rfl rfl rfl ?_
  refine RL.nil ?_
  refine NQ.seq ?_
  -- STOP: if; todo top: ["code", ["cond", ["t", 24], ["exit", 9], ["skip"]]]
  refine CW.condF rfl (rfl) ?_
  refine CW.skip ?_
  refine NQ.seq ?_
  refine CW.seq ?_
  refine CW.seq ?_
  refine CW.region (ef := []) (bk := []) ?_
  refine RL.bin rfl rfl rfl rfl rfl rfl ?_
  refine RL.assign rfl rfl rfl rfl ?_
  refine RL.nil ?_
  refine NQ.seq ?_
  -- STOP: if; todo top: ["code", ["cond", ["t", 26], ["exit", 10], ["skip"]]]
  refine CW.condF rfl (rfl) ?_
  refine CW.skip ?_
  refine NQ.seq ?_
  refine CW.seq ?_
  refine CW.seq ?_
  refine CW.region (ef := []) (bk := []) ?_
  refine RL.bin rfl rfl rfl rfl rfl rfl ?_
  refine RL.assign rfl rfl rfl rfl ?_
  refine RL.nil ?_
  refine NQ.seq ?_
  refine CW.only (.cons (k := 0) rfl (.cons (k := 1) rfl (.cons (k := 7) rfl (.cons (k := 28) rfl .nil)))) ?_
  -- STOP: if; todo top: ["code", ["cond", ["t", 28], ["exit", 11], ["skip"]]]
  refine CW.condT rfl (rfl) ?_
  refine CW.exit ?_
  refine XQ.seq ?_
  refine XQ.seq ?_
  refine XQ.miss rfl ?_
  refine XQ.seq ?_
  refine XQ.miss rfl ?_
  refine XQ.seq ?_
  refine XQ.miss rfl ?_
  refine XQ.seq ?_
  refine XQ.miss rfl ?_
  refine XQ.seq ?_
  refine XQ.miss rfl ?_
  refine XQ.seq ?_
  refine XQ.miss rfl ?_
  refine XQ.seq ?_
  refine XQ.miss rfl ?_
  refine XQ.seq ?_
  refine XQ.miss rfl ?_
  refine XQ.seq ?_
  refine XQ.miss rfl ?_
  refine XQ.seq ?_
  refine XQ.miss rfl ?_
  refine XQ.seq ?_
  refine XQ.hit ?_
  refine NQ.seq ?_
  refine CW.seq ?_
  refine CW.region (ef := [2, 6]) (bk := [2, 6]) ?_
  refine RL.move rfl rfl rfl rfl ?_
  refine RL.move rfl rfl rfl rfl ?_
  refine RL.call (rnum_any d p 1 c l (by omega) hc (by decide)) Try.call138 rfl rfl rfl rfl rfl (by repeat (first | exact Pick.nil | apply Pick.take | apply Pick.leave)) (Lend.sub hl0 (by repeat (first | exact List.Mem.head _ | apply List.Mem.tail)) .nil) (.inr rfl) ?_
  -- STOP: called; op 3: d=136 ["convert", 30, 5, ["t", 135]] guard=None (kind.go:216)
  rintro _ _ _ ⟨rfl, rfl, q1, k1, rfl, hc1, hk1⟩
  have hl1 := hl0.trans hk1
  refine RL.lowest Try.runUnderlying30 Try.runUnderlying5 rfl rfl rfl rfl ?_
  refine RL.nilCheck rfl rfl rfl rfl ?_
  refine RL.fieldAddr fa_33_16 rfl rfl rfl rfl ?_
  refine RL.store (vs := [_]) Try.sizeOf5 rfl rfl rfl rfl rfl rfl rfl rfl rfl (by repeat (first | exact Upd.here | apply Upd.there)) ?_
  refine RL.nil ?_
  refine NQ.seq ?_
  refine CW.only (.cons (k := 0) rfl (.cons (k := 1) rfl .nil)) ?_
  refine CW.seq ?_
  refine CW.region (ef := [2, 6]) (bk := [2, 6]) ?_
  refine RL.move rfl rfl rfl rfl ?_
  refine RL.move rfl rfl rfl rfl ?_
  refine RL.call (rnum_any d q1 1 k1 (l.drop 1) (by rw [List.length_drop]; omega) hc1 (by decide)) Try.call138 rfl rfl rfl rfl rfl (by repeat (first | exact Pick.nil | apply Pick.take | apply Pick.leave)) (Lend.sub hl1 (by repeat (first | exact List.Mem.head _ | apply List.Mem.tail)) .nil) (.inr rfl) ?_
  -- STOP: called; op 3: d=142 ["convert", 30, 5, ["t", 141]] guard=None (kind.go:217)
  rintro _ _ _ ⟨rfl, rfl, q2, k2, rfl, hc2, hk2⟩
  rw [List.drop_drop] at hc2 hk2 ⊢
  rw [show 1 + 1 = 2 from rfl] at hc2 hk2 ⊢
  have hl2 := hl1.trans hk2
  refine RL.lowest Try.runUnderlying30 Try.runUnderlying5 rfl rfl rfl rfl ?_
  refine RL.nilCheck rfl rfl rfl rfl ?_
  refine RL.fieldAddr fa_33_17 rfl rfl rfl rfl ?_
  refine RL.store (vs := [_]) Try.sizeOf5 rfl rfl rfl rfl rfl rfl rfl rfl rfl (by repeat (first | exact Upd.here | apply Upd.there)) ?_
  refine RL.nil ?_
  refine NQ.seq ?_
  refine CW.only (.cons (k := 0) rfl (.cons (k := 1) rfl .nil)) ?_
  refine CW.seq ?_
  refine CW.region (ef := [2, 6]) (bk := [2, 6]) ?_
  refine RL.move rfl rfl rfl rfl ?_
  refine RL.move rfl rfl rfl rfl ?_
  refine RL.call (rnum_any d q2 2 k2 (l.drop 2) (by rw [List.length_drop]; omega) hc2 (by decide)) Try.call138 rfl rfl rfl rfl rfl (by repeat (first | exact Pick.nil | apply Pick.take | apply Pick.leave)) (Lend.sub hl2 (by repeat (first | exact List.Mem.head _ | apply List.Mem.tail)) .nil) (.inr rfl) ?_
  -- STOP: called; op 3: d=148 ["convert", 30, 31, ["t", 147]] guard=None (kind.go:218)
  rintro _ _ _ ⟨rfl, rfl, q3, k3, rfl, hc3, hk3⟩
  rw [List.drop_drop] at hc3 hk3 ⊢
  rw [show 2 + 2 = 4 from rfl] at hc3 hk3 ⊢
  have hl3 := hl2.trans hk3
  refine RL.conv Try.runUnderlying30 Try.runUnderlying31 rfl rfl rfl rfl ?_
  refine RL.nilCheck rfl rfl rfl rfl ?_
  refine RL.fieldAddr fa_33_18 rfl rfl rfl rfl ?_
  refine RL.store (vs := [_]) Try.sizeOf31 rfl rfl rfl rfl rfl rfl rfl rfl rfl (by repeat (first | exact Upd.here | apply Upd.there)) ?_
  refine RL.nil ?_
  refine NQ.seq ?_
  refine CW.only (.cons (k := 0) rfl (.cons (k := 1) rfl .nil)) ?_
  refine CW.region (ef := [2, 5]) (bk := [2, 5]) ?_
  refine RL.move rfl rfl rfl rfl ?_
  refine RL.move rfl rfl rfl rfl ?_
  refine RL.call (rnum_any d q3 8 k3 (l.drop 4) (by rw [List.length_drop]; omega) hc3 (by decide)) Try.call138 rfl rfl rfl rfl rfl (by repeat (first | exact Pick.nil | apply Pick.take | apply Pick.leave)) (Lend.sub hl3 (by repeat (first | exact List.Mem.head _ | apply List.Mem.tail)) .nil) (.inr rfl) ?_
  -- STOP: called; op 3: d=154 ["nilCheck", ["t", 151]] guard=None (kind.go:219)
  rintro _ _ _ ⟨rfl, rfl, q4, k4, rfl, hc4, hk4⟩
  rw [List.drop_drop] at hc4 hk4 ⊢
  rw [show 4 + 8 = 12 from rfl] at hc4 hk4 ⊢
  have hl4 := hl3.trans hk4
  refine RL.nilCheck rfl rfl rfl rfl ?_
  refine RL.fieldAddr fa_33_19 rfl rfl rfl rfl ?_
  refine RL.store (vs := [_]) Try.sizeOf30 rfl rfl rfl rfl rfl rfl rfl rfl rfl (by repeat (first | exact Upd.here | apply Upd.there)) ?_
  refine RL.nil ?_
  refine NQ.block ?_
  refine NQ.seq ?_
  refine CW.seq ?_
  refine CW.region (ef := [2, 6]) (bk := [2, 6]) ?_
  refine RL.move rfl rfl rfl rfl ?_
  refine RL.move rfl rfl rfl rfl ?_
  refine RL.call (rnum_any d q4 4 k4 (l.drop 12) (by rw [List.length_drop]; omega) hc4 (by decide)) Try.call138 rfl rfl rfl rfl rfl (by repeat (first | exact Pick.nil | apply Pick.take | apply Pick.leave)) (Lend.sub hl4 (by repeat (first | exact List.Mem.head _ | apply List.Mem.tail)) .nil) (.inr rfl) ?_
  -- STOP: called; op 3: d=159 ["convert", 30, 25, ["t", 158]] guard=None (kind.go:222)
  rintro _ _ _ ⟨rfl, rfl, q5, k5, rfl, hc5, hk5⟩
  rw [List.drop_drop] at hc5 hk5 ⊢
  rw [show 12 + 4 = 16 from rfl] at hc5 hk5 ⊢
  have hl5 := hl4.trans hk5
  refine RL.conv Try.runUnderlying30 Try.runUnderlying25 rfl rfl rfl rfl ?_
  refine RL.nilCheck rfl rfl rfl rfl ?_
  refine RL.fieldAddr fa_33_13 rfl rfl rfl rfl ?_
  refine RL.store (vs := [_]) Try.sizeOf25 rfl rfl rfl rfl rfl rfl rfl rfl rfl (by repeat (first | exact Upd.here | apply Upd.there)) ?_
  refine RL.nil ?_
  refine NQ.seq ?_
  refine CW.only .nil ?_
  refine CW.exit ?_
  refine XQ.hit ?_
  -- STOP: end; todo top: ["N"]
  refine NQ.post (res0 rfl) (.keep (.keep .nil)) ⟨rfl, _, congrArg (fun z => [_, cel br z _]) ?_⟩
  simp only [f32, f64, List.drop_drop, Nat.reduceMul, Nat.reduceAdd, u32_nat, u32_nat0, u16_nat, bat_nat0 l (by omega), bat_nat l 1 (by omega), ofInt_nat8, ofNat_nat8]
  rfl
end Go.Proofs.Ytflpiaeffnoepaa
