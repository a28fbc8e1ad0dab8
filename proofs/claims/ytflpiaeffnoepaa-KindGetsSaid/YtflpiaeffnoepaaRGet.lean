import Derived.Test.YtflpiaeffnoepaaRNat
import Derived.Test.YtflpiaeffnoepaaGet
namespace Go.Proofs.Ytflpiaeffnoepaa
open Go.PK
set_option linter.unusedSimpArgs false


theorem rgot_1 (p : Option Addr) (n c : Nat) (l : List B8) (hn : l.length = n) (h : n = 24) : Spc Try.prog 25 #[.int .i64 1, .slice p n c] [sls p 1 n (bytes l)] [] (Is (gotV (gotR 1 l))) := by
  subst h
  refine Spc.some' (g := fun p => #[.int .i64 1, .slice p 24 c]) (I := fun p => [sls p 1 24 (bytes l)]) (H := fun _ => []) (R := fun _ => Is _) (List.Mem.head _) (by decide) (fun q _ => ?_)
  refine Spc.enter Try.func25 rfl rfl rfl (fun w0 hw0 => ?_)
  refine CW.seq ?_
  refine CW.region (ef := [0]) (bk := []) ?_
  refine RL.alloc Try.zeroValue33 rfl rfl rfl rfl rfl ?_
  intro b1
  refine RL.assign rfl rfl rfl rfl ?_
  refine RL.nil ?_
  refine NQ.seq ?_
  refine CW.seq ?_
  refine CW.region (ef := []) (bk := []) ?_
  refine RL.move rfl rfl rfl rfl ?_
  refine RL.callv (rsize_any 1) Try.call18 rfl rfl rfl rfl (by repeat (first | exact Lend.nil | (refine Lend.inI ?_ ?_; (solve | (repeat (first | exact List.Mem.head _ | apply List.Mem.tail)))) | (refine Lend.inH ?_ ?_; (solve | (repeat (first | exact List.Mem.head _ | apply List.Mem.tail)))))) ?_
  refine RL.move rfl rfl rfl rfl ?_
  -- STOP: op; op 3: d=14 ["extract", ["t", 11], 0] guard=None (ref.go:83)
  rw [show sizeV 1 = .tuple #[.int .i64 24, .int .i64 0] from rfl]
  refine RL.extract rfl rfl rfl rfl rfl ?_
  refine RL.extract rfl rfl rfl rfl rfl ?_
  refine RL.assign rfl rfl rfl rfl ?_
  refine RL.assign rfl rfl rfl rfl ?_
  refine RL.nil ?_
  refine NQ.seq ?_
  refine CW.only (.cons (k := 0) rfl (.cons (k := 1) rfl (.cons (k := 4) rfl (.cons (k := 6) rfl (.cons (k := 7) rfl .nil))))) ?_
  refine CW.seq ?_
  refine CW.seq ?_
  refine CW.region (ef := []) (bk := []) ?_
  refine RL.move rfl rfl rfl rfl ?_
  refine RL.bin rfl rfl rfl rfl rfl rfl ?_
  refine RL.move rfl rfl rfl rfl ?_
  -- STOP: part 18; op 3: d=19 ["move", ["t", 6]] guard=[2, False] (ref.go:84)
  refine RL.cast (d := 18) (v' := .bool false) rfl (rfl) ?_
  refine RL.move rfl rfl rfl rfl ?_
  refine RL.move rfl rfl rfl rfl ?_
  refine RL.lenS Try.runUnderlying34 rfl rfl rfl rfl ?_
  refine RL.bin rfl rfl rfl rfl rfl rfl ?_
  refine RL.pickF rfl rfl rfl rfl rfl ?_
  refine RL.nil ?_
  refine NQ.seq ?_
  refine CW.only (.cons (k := 0) rfl (.cons (k := 1) rfl (.cons (k := 4) rfl (.cons (k := 23) rfl .nil)))) ?_
  -- STOP: if; todo top: ["code", ["cond", ["t", 23], ["seq", ["region", 3, [{"d": 24, "op": ["build", 33, []], "ty": 33, "pos": "ref.go:85", "after": [], "guard": null}, {"d": null, "op": ["store", 33, ["t", 4], ["t", 24]], 
  refine CW.condF rfl (rfl) ?_
  refine CW.skip ?_
  refine NQ.seq ?_
  refine CW.seq ?_
  refine CW.region (ef := [2, 3]) (bk := [3]) ?_
  refine RL.move rfl rfl rfl rfl ?_
  -- STOP: op; op 1: d=26 ["build", 33, [[0, ["t", 25]]]] guard=None (ref.go:87)
  refine RL.buildS (Rdg.cells (rz 1)) Try.zeroValue33 pl_33 rfl rfl rfl rfl rfl ?_
  refine RL.alloc Try.zeroValue33 rfl rfl rfl rfl rfl ?_
  intro b2
  refine RL.storeW Try.sizeOf33 rfl rfl rfl rfl rfl rfl rfl (by first | rfl | exact ones_map one8 _ | exact ones_map (fun _ => rfl) _) (by repeat (first | exact Upd.here | apply Upd.there)) (by first | rfl | assumption | (simp only [List.length_map]; assumption) | (simp only [List.length_map, List.length_replicate]; done) | (simp; done)) (by first | rfl | assumption | (simp only [List.length_map]; assumption) | (simp only [List.length_map, List.length_replicate]; done) | (simp; done)) ?_
  refine RL.nil ?_
  refine NQ.seq ?_
  refine CW.seq ?_
  refine CW.seq ?_
  refine CW.region (ef := []) (bk := []) ?_
  refine RL.move rfl rfl rfl rfl ?_
  refine RL.nil ?_
  refine NQ.seq ?_
  refine CW.block ?_
  refine CW.seq ?_
  refine CW.region (ef := []) (bk := []) ?_
  refine RL.bin rfl rfl rfl rfl rfl rfl ?_
  refine RL.assign rfl rfl rfl rfl ?_
  refine RL.nil ?_
  refine NQ.seq ?_
  -- STOP: if; todo top: ["code", ["cond", ["t", 28], ["seq", ["region", 7, [{"d": 9, "op": ["assign", ["c", ["int", "Go.IntKind.i64", 0]]], "ty": 3, "pos": "ref.go:90", "after": [], "guard": null}], false], ["block", 1, ["lo
  refine CW.condT rfl (rfl) ?_
  refine CW.seq ?_
  refine CW.region (ef := []) (bk := []) ?_
  refine RL.assign rfl rfl rfl rfl ?_
  refine RL.nil ?_
  refine NQ.seq ?_
  refine CW.only (.cons (k := 0) rfl (.cons (k := 1) rfl (.cons (k := 4) rfl (.cons (k := 8) rfl (.cons (k := 9) rfl .nil))))) ?_
  refine CW.block ?_
  -- STOP: loop; todo top: ["code", ["loop", ["seq", ["seq", ["region", 8, [{"d": 30, "op": ["move", ["t", 9]], "ty": 3, "pos": "ref.go:90", "after": [], "guard": null}, {"d": 31, "op": ["binOp", "Go.BinOp.lss", 3, ["t", 30], [
  refine CW.loop (γ := Nat) (fun j => j ≤ 3) (fun j => [(0, .int .i64 1), (1, .slice (some q) 24 c), (4, .pointer (some ⟨b1, 0, none⟩)), (8, .pointer (some ⟨b2, 0, none⟩)), (9, .int .i64 (j : Int))]) (fun _ => [sls (some q) 1 24 (bytes l)])
    (fun j => [cel b2 (Rdg.cells (r1 l j)) 33, cel b1 (Rdg.cells (rz 0)) 33]) (fun j => 3 - j) 0 (by decide)
    (.cons rfl (.cons rfl (.cons rfl (.cons rfl (.cons rfl .nil))))) (fun w h => h) ?_
  intro j hj
  refine CW.seq ?_
  refine CW.seq ?_
  refine CW.region (ef := []) (bk := []) ?_
  refine RL.move rfl rfl rfl rfl ?_
  refine RL.bin rfl rfl rfl rfl rfl rfl ?_
  refine RL.nil ?_
  refine NQ.seq ?_
  -- STOP: if; todo top: ["code", ["cond", ["t", 31], ["skip"], ["exit", 1]]]
  refine CW.cond rfl (fun hlt => ?_) (fun hlt => ?_)
  ·
    have hlt : j < 3 := by simp at hlt; omega
    refine CW.skip ?_
    refine NQ.seq ?_
    refine CW.seq ?_
    refine CW.block ?_
    refine CW.seq ?_
    refine CW.region (ef := [9]) (bk := [9]) ?_
    refine RL.move rfl rfl rfl rfl ?_
    refine RL.move rfl rfl rfl rfl ?_
    refine RL.move rfl rfl rfl rfl ?_
    refine RL.binX rfl rfl rfl rfl rfl rfl (wrapV_i64 (by omega) (by omega)) ?_
    refine RL.callv (rnat_any (some q) 24 c (4 * j) 4 l hn (by omega) (by decide) (by decide)) Try.call85 rfl rfl rfl rfl (by repeat (first | exact Lend.nil | (refine Lend.inI ?_ ?_; (solve | (repeat (first | exact List.Mem.head _ | apply List.Mem.tail)))) | (refine Lend.inH ?_ ?_; (solve | (repeat (first | exact List.Mem.head _ | apply List.Mem.tail)))))) ?_
    refine RL.conv Try.runUnderlying30 Try.runUnderlying25 rfl rfl rfl rfl ?_
    refine RL.conv Try.runUnderlying25 Try.runUnderlying22 rfl rfl rfl rfl ?_
    refine RL.fieldAddr fa_33_1 rfl rfl rfl rfl ?_
    -- STOP: op; op 8: d=42 ["indexAddr", 23, ["t", 41], ["t", 34]] guard=None (ref.go:91)
    refine RL.idxAAt (j := j) Try.runUnderlying23 Try.sizeOf22 rfl rfl rfl rfl rfl rfl hlt ?_
    -- STOP: op; op 9: d=None ["store", 22, ["t", 42], ["t", 40]] guard=None (ref.go:91)
    refine RL.storeX (cs' := spl (Rdg.cells (r1 l j)) (0 + 1 + j * 1) [.int .i32 (i32at l (4 * j))]) (vs := [_]) (by rw [u32_nt]; rfl) Try.sizeOf22 rfl rfl rfl rfl rfl rfl rfl rfl (by repeat (first | exact Upd.here | apply Upd.there)) (by show 0 + 1 + j * 1 + 1 ≤ 57; omega) ?_
    refine RL.nil ?_
    refine NQ.seq ?_
    refine CW.only (.cons (k := 0) rfl (.cons (k := 1) rfl (.cons (k := 4) rfl (.cons (k := 8) rfl (.cons (k := 9) rfl .nil))))) ?_
    refine CW.region (ef := [10]) (bk := [10]) ?_
    refine RL.move rfl rfl rfl rfl ?_
    refine RL.move rfl rfl rfl rfl ?_
    refine RL.move rfl rfl rfl rfl ?_
    refine RL.binX rfl rfl rfl rfl rfl rfl (wrapV_i64 (by omega) (by omega)) ?_
    refine RL.binX rfl rfl rfl rfl rfl rfl (wrapV_i64 (by omega) (by omega)) ?_
    refine RL.callv (rnat_any (some q) 24 c (12 + 4 * j) 4 l hn (by omega) (by decide) (by decide)) Try.call85 rfl rfl rfl rfl (by repeat (first | exact Lend.nil | (refine Lend.inI ?_ ?_; (solve | (repeat (first | exact List.Mem.head _ | apply List.Mem.tail)))) | (refine Lend.inH ?_ ?_; (solve | (repeat (first | exact List.Mem.head _ | apply List.Mem.tail)))))) ?_
    refine RL.conv Try.runUnderlying30 Try.runUnderlying25 rfl rfl rfl rfl ?_
    refine RL.conv Try.runUnderlying25 Try.runUnderlying22 rfl rfl rfl rfl ?_
    refine RL.fieldAddr fa_33_2 rfl rfl rfl rfl ?_
    -- STOP: op; op 9: d=52 ["indexAddr", 23, ["t", 51], ["t", 43]] guard=None (ref.go:92)
    refine RL.idxAAt (j := j) Try.runUnderlying23 Try.sizeOf22 rfl rfl rfl rfl rfl rfl hlt ?_
    -- STOP: op; op 10: d=None ["store", 22, ["t", 52], ["t", 50]] guard=None (ref.go:92)
    refine RL.storeX (cs' := Rdg.cells (r1 l (j + 1))) (vs := [_]) (by rw [u32_nt]; exact r1_step l hlt) Try.sizeOf22 rfl rfl rfl rfl rfl rfl rfl rfl (by repeat (first | exact Upd.here | apply Upd.there)) (by rw [spl_length57]; show 0 + 4 + j * 1 + 1 ≤ 57; omega) ?_
    refine RL.nil ?_
    refine NQ.block ?_
    refine NQ.seq ?_
    refine CW.only (.cons (k := 0) rfl (.cons (k := 1) rfl (.cons (k := 4) rfl (.cons (k := 8) rfl (.cons (k := 9) rfl .nil))))) ?_
    refine CW.region (ef := []) (bk := []) ?_
    refine RL.move rfl rfl rfl rfl ?_
    refine RL.binX rfl rfl rfl rfl rfl rfl (wrapV_i64 (by omega) (by omega)) ?_
    refine RL.assign rfl rfl rfl rfl ?_
    refine RL.nil ?_
    -- STOP: round; todo top: ["N"]
    exact NQ.round (g := j) (j + 1) hlt (by omega) (.cons rfl (.cons rfl (.cons rfl (.cons rfl (.cons rfl .nil))))) (fun w h => h)
  have hj3 : j = 3 := by simp at hlt; omega
  subst hj3
  refine CW.exit ?_
  refine XQ.seq ?_
  refine XQ.seq ?_
  refine XQ.hit ?_
  refine NQ.block ?_
  refine NQ.seq ?_
  refine CW.seq ?_
  refine CW.seq ?_
  refine CW.region (ef := []) (bk := []) ?_
  refine RL.fieldAddr fa_33_12 rfl rfl rfl rfl ?_
  refine RL.load Try.isAgg5 rfl rfl rfl rfl (by first | assumption | (apply Rd.get; (solve | (repeat (first | exact List.Mem.head _ | apply List.Mem.tail))); assumption) | (apply Rd.getS; (solve | (repeat (first | exact List.Mem.head _ | apply List.Mem.tail))); assumption) | (apply Rd.getO; (solve | (repeat (first | exact List.Mem.head _ | apply List.Mem.tail))); assumption) | (apply Rd.getI; (solve | (repeat (first | exact List.Mem.head _ | apply List.Mem.tail))); assumption) | (apply Rd.cel; (solve | (repeat (first | exact List.Mem.head _ | apply List.Mem.tail))); exact rfl) | (apply Rd.celI; (solve | (repeat (first | exact List.Mem.head _ | apply List.Mem.tail))); exact rfl)) ?_
  refine RL.bin rfl rfl rfl rfl rfl rfl ?_
  refine RL.move rfl rfl rfl rfl ?_
  -- STOP: part 187; op 4: d=188 ["move", ["t", 0]] guard=[3, False] (ref.go:124)
  have hm : (getR 1 l).mode = 0#8 := rfl
  have hq : (getR 1 l).epoch = 0 := rfl
  have hz : sizeR 1 = 24 := rfl
  refine RL.cast (d := 187) (v' := .bool false) rfl (rfl) ?_
  refine RL.move rfl rfl rfl rfl ?_
  refine RL.bin rfl rfl rfl rfl rfl rfl ?_
  refine RL.move rfl rfl rfl rfl ?_
  -- STOP: part 190; op 7: d=191 ["fieldAddr", 33, ["t", 8], 13] guard=[6, True] (ref.go:124)
  refine RL.cast (d := 190) (v' := .bool false) rfl (rfl) ?_
  refine RL.skip rfl rfl rfl rfl ?_
  refine RL.skip rfl rfl rfl rfl ?_
  refine RL.skip rfl rfl rfl rfl ?_
  refine RL.pickF rfl rfl rfl rfl rfl ?_
  refine RL.pickF rfl rfl rfl rfl rfl ?_
  refine RL.nil ?_
  refine NQ.seq ?_
  refine CW.only (.cons (k := 4) rfl (.cons (k := 8) rfl (.cons (k := 195) rfl .nil))) ?_
  refine CW.condF rfl rfl ?_
  refine CW.skip ?_
  refine NQ.seq ?_
  refine CW.seq ?_
  refine CW.region (ef := [1]) (bk := [1]) ?_
  refine RL.loadW Try.isAgg33 Try.sizeOf33 rfl rfl rfl rfl (by repeat (first | exact List.Mem.head _ | apply List.Mem.tail)) (by first | rfl | assumption | (simp only [List.length_map]; assumption) | (simp only [List.length_map, List.length_replicate]; done) | (simp; done)) ?_
  refine RL.storeW Try.sizeOf33 rfl rfl rfl rfl rfl rfl rfl (by first | rfl | exact ones_map one8 _ | exact ones_map (fun _ => rfl) _) (by repeat (first | exact Upd.here | apply Upd.there)) (by first | rfl | assumption | (simp only [List.length_map]; assumption) | (simp only [List.length_map, List.length_replicate]; done) | (simp; done)) (by first | rfl | assumption | (simp only [List.length_map]; assumption) | (simp only [List.length_map, List.length_replicate]; done) | (simp; done)) ?_
  refine RL.assign rfl rfl rfl rfl ?_
  refine RL.nil ?_
  refine NQ.seq ?_
  refine CW.ret ?_
  -- STOP: ret; end
  have hok : 1 ≤ (1 : Int) ∧ (1 : Int) ≤ 14 ∧ l.length = sizeR 1 ∧ (getR 1 l).mode.toNat ≤ 2 ∧ ¬ ((1 : Int) = 10 ∧ (getR 1 l).epoch = 0) := by refine ⟨by decide, by decide, by omega, by rw [hm]; decide, by omega⟩
  exact RQ.post (resWT rfl rfl rfl Try.isAgg33 Try.sizeOf33 (by repeat (first | exact List.Mem.head _ | apply List.Mem.tail)) rfl) (Split.none _) ⟨by rw [gotR, if_pos hok]; (try simp only [u32_nt, u16_nt]); rfl, rfl, rfl⟩
theorem rgot_2 (p : Option Addr) (n c : Nat) (l : List B8) (hn : l.length = n) (h : n = 8) : Spc Try.prog 25 #[.int .i64 2, .slice p n c] [sls p 1 n (bytes l)] [] (Is (gotV (gotR 2 l))) := by
  subst h
  refine Spc.some' (g := fun p => #[.int .i64 2, .slice p 8 c]) (I := fun p => [sls p 1 8 (bytes l)]) (H := fun _ => []) (R := fun _ => Is _) (List.Mem.head _) (by decide) (fun q _ => ?_)
  refine Spc.enter Try.func25 rfl rfl rfl (fun w0 hw0 => ?_)
  refine CW.seq ?_
  refine CW.region (ef := [0]) (bk := []) ?_
  refine RL.alloc Try.zeroValue33 rfl rfl rfl rfl rfl ?_
  intro b1
  refine RL.assign rfl rfl rfl rfl ?_
  refine RL.nil ?_
  refine NQ.seq ?_
  refine CW.seq ?_
  refine CW.region (ef := []) (bk := []) ?_
  refine RL.move rfl rfl rfl rfl ?_
  refine RL.callv (rsize_any 2) Try.call18 rfl rfl rfl rfl (by repeat (first | exact Lend.nil | (refine Lend.inI ?_ ?_; (solve | (repeat (first | exact List.Mem.head _ | apply List.Mem.tail)))) | (refine Lend.inH ?_ ?_; (solve | (repeat (first | exact List.Mem.head _ | apply List.Mem.tail)))))) ?_
  refine RL.move rfl rfl rfl rfl ?_
  -- STOP: op; op 3: d=14 ["extract", ["t", 11], 0] guard=None (ref.go:83)
  rw [show sizeV 2 = .tuple #[.int .i64 8, .int .i64 0] from rfl]
  refine RL.extract rfl rfl rfl rfl rfl ?_
  refine RL.extract rfl rfl rfl rfl rfl ?_
  refine RL.assign rfl rfl rfl rfl ?_
  refine RL.assign rfl rfl rfl rfl ?_
  refine RL.nil ?_
  refine NQ.seq ?_
  refine CW.only (.cons (k := 0) rfl (.cons (k := 1) rfl (.cons (k := 4) rfl (.cons (k := 6) rfl (.cons (k := 7) rfl .nil))))) ?_
  refine CW.seq ?_
  refine CW.seq ?_
  refine CW.region (ef := []) (bk := []) ?_
  refine RL.move rfl rfl rfl rfl ?_
  refine RL.bin rfl rfl rfl rfl rfl rfl ?_
  refine RL.move rfl rfl rfl rfl ?_
  -- STOP: part 18; op 3: d=19 ["move", ["t", 6]] guard=[2, False] (ref.go:84)
  refine RL.cast (d := 18) (v' := .bool false) rfl (rfl) ?_
  refine RL.move rfl rfl rfl rfl ?_
  refine RL.move rfl rfl rfl rfl ?_
  refine RL.lenS Try.runUnderlying34 rfl rfl rfl rfl ?_
  refine RL.bin rfl rfl rfl rfl rfl rfl ?_
  refine RL.pickF rfl rfl rfl rfl rfl ?_
  refine RL.nil ?_
  refine NQ.seq ?_
  refine CW.only (.cons (k := 0) rfl (.cons (k := 1) rfl (.cons (k := 4) rfl (.cons (k := 23) rfl .nil)))) ?_
  -- STOP: if; todo top: ["code", ["cond", ["t", 23], ["seq", ["region", 3, [{"d": 24, "op": ["build", 33, []], "ty": 33, "pos": "ref.go:85", "after": [], "guard": null}, {"d": null, "op": ["store", 33, ["t", 4], ["t", 24]], 
  refine CW.condF rfl (rfl) ?_
  refine CW.skip ?_
  refine NQ.seq ?_
  refine CW.seq ?_
  refine CW.region (ef := [2, 3]) (bk := [3]) ?_
  refine RL.move rfl rfl rfl rfl ?_
  -- STOP: op; op 1: d=26 ["build", 33, [[0, ["t", 25]]]] guard=None (ref.go:87)
  refine RL.buildS (Rdg.cells (rz 2)) Try.zeroValue33 pl_33 rfl rfl rfl rfl rfl ?_
  refine RL.alloc Try.zeroValue33 rfl rfl rfl rfl rfl ?_
  intro b2
  refine RL.storeW Try.sizeOf33 rfl rfl rfl rfl rfl rfl rfl (by first | rfl | exact ones_map one8 _ | exact ones_map (fun _ => rfl) _) (by repeat (first | exact Upd.here | apply Upd.there)) (by first | rfl | assumption | (simp only [List.length_map]; assumption) | (simp only [List.length_map, List.length_replicate]; done) | (simp; done)) (by first | rfl | assumption | (simp only [List.length_map]; assumption) | (simp only [List.length_map, List.length_replicate]; done) | (simp; done)) ?_
  refine RL.nil ?_
  refine NQ.seq ?_
  refine CW.seq ?_
  refine CW.seq ?_
  refine CW.region (ef := []) (bk := []) ?_
  refine RL.move rfl rfl rfl rfl ?_
  refine RL.nil ?_
  refine NQ.seq ?_
  refine CW.block ?_
  refine CW.seq ?_
  refine CW.region (ef := []) (bk := []) ?_
  refine RL.bin rfl rfl rfl rfl rfl rfl ?_
  refine RL.assign rfl rfl rfl rfl ?_
  refine RL.nil ?_
  refine NQ.seq ?_
  -- STOP: if; todo top: ["code", ["cond", ["t", 28], ["seq", ["region", 7, [{"d": 9, "op": ["assign", ["c", ["int", "Go.IntKind.i64", 0]]], "ty": 3, "pos": "ref.go:90", "after": [], "guard": null}], false], ["block", 1, ["lo
  refine CW.condF rfl (rfl) ?_
  refine CW.seq ?_
  refine CW.region (ef := []) (bk := []) ?_
  refine RL.bin rfl rfl rfl rfl rfl rfl ?_
  refine RL.assign rfl rfl rfl rfl ?_
  refine RL.nil ?_
  refine NQ.seq ?_
  refine CW.only (.cons (k := 0) rfl (.cons (k := 1) rfl (.cons (k := 4) rfl (.cons (k := 8) rfl (.cons (k := 27) rfl (.cons (k := 53) rfl .nil)))))) ?_
  -- STOP: if; todo top: ["code", ["cond", ["t", 53], ["region", 13, [{"d": 55, "op": ["move", ["t", 1]], "ty": 34, "pos": "ref.go:95", "after": [], "guard": null}, {"d": 56, "op": ["call", ["f", 85], [["t", 55], ["c", ["int"
  refine CW.condT rfl (rfl) ?_
  refine CW.region (ef := [4]) (bk := [4]) ?_
  refine RL.move rfl rfl rfl rfl ?_
  refine RL.callv (rnat_any (some q) 8 c 0 8 l hn (by decide) (by decide) (by decide)) Try.call85 rfl rfl rfl rfl (by repeat (first | exact Lend.nil | (refine Lend.inI ?_ ?_; (solve | (repeat (first | exact List.Mem.head _ | apply List.Mem.tail)))) | (refine Lend.inH ?_ ?_; (solve | (repeat (first | exact List.Mem.head _ | apply List.Mem.tail)))))) ?_
  refine RL.conv Try.runUnderlying30 Try.runUnderlying24 rfl rfl rfl rfl ?_
  refine RL.fieldAddr fa_33_3 rfl rfl rfl rfl ?_
  refine RL.store (vs := [_]) Try.sizeOf24 rfl rfl rfl rfl rfl rfl rfl rfl rfl (by repeat (first | exact Upd.here | apply Upd.there)) ?_
  refine RL.nil ?_
  refine NQ.block ?_
  refine NQ.seq ?_
  refine CW.only (.cons (k := 0) rfl (.cons (k := 4) rfl (.cons (k := 8) rfl .nil))) ?_
  refine CW.seq ?_
  refine CW.seq ?_
  refine CW.region (ef := []) (bk := []) ?_
  refine RL.fieldAddr fa_33_12 rfl rfl rfl rfl ?_
  refine RL.load Try.isAgg5 rfl rfl rfl rfl (by first | assumption | (apply Rd.get; (solve | (repeat (first | exact List.Mem.head _ | apply List.Mem.tail))); assumption) | (apply Rd.getS; (solve | (repeat (first | exact List.Mem.head _ | apply List.Mem.tail))); assumption) | (apply Rd.getO; (solve | (repeat (first | exact List.Mem.head _ | apply List.Mem.tail))); assumption) | (apply Rd.getI; (solve | (repeat (first | exact List.Mem.head _ | apply List.Mem.tail))); assumption) | (apply Rd.cel; (solve | (repeat (first | exact List.Mem.head _ | apply List.Mem.tail))); exact rfl) | (apply Rd.celI; (solve | (repeat (first | exact List.Mem.head _ | apply List.Mem.tail))); exact rfl)) ?_
  refine RL.bin rfl rfl rfl rfl rfl rfl ?_
  refine RL.move rfl rfl rfl rfl ?_
  -- STOP: part 187; op 4: d=188 ["move", ["t", 0]] guard=[3, False] (ref.go:124)
  have hm : (getR 2 l).mode = 0#8 := rfl
  have hq : (getR 2 l).epoch = 0 := rfl
  have hz : sizeR 2 = 8 := rfl
  refine RL.cast (d := 187) (v' := .bool false) rfl (rfl) ?_
  refine RL.move rfl rfl rfl rfl ?_
  refine RL.bin rfl rfl rfl rfl rfl rfl ?_
  refine RL.move rfl rfl rfl rfl ?_
  -- STOP: part 190; op 7: d=191 ["fieldAddr", 33, ["t", 8], 13] guard=[6, True] (ref.go:124)
  refine RL.cast (d := 190) (v' := .bool false) rfl (rfl) ?_
  refine RL.skip rfl rfl rfl rfl ?_
  refine RL.skip rfl rfl rfl rfl ?_
  refine RL.skip rfl rfl rfl rfl ?_
  refine RL.pickF rfl rfl rfl rfl rfl ?_
  refine RL.pickF rfl rfl rfl rfl rfl ?_
  refine RL.nil ?_
  refine NQ.seq ?_
  refine CW.only (.cons (k := 4) rfl (.cons (k := 8) rfl (.cons (k := 195) rfl .nil))) ?_
  refine CW.condF rfl rfl ?_
  refine CW.skip ?_
  refine NQ.seq ?_
  refine CW.seq ?_
  refine CW.region (ef := [1]) (bk := [1]) ?_
  refine RL.loadW Try.isAgg33 Try.sizeOf33 rfl rfl rfl rfl (by repeat (first | exact List.Mem.head _ | apply List.Mem.tail)) (by first | rfl | assumption | (simp only [List.length_map]; assumption) | (simp only [List.length_map, List.length_replicate]; done) | (simp; done)) ?_
  refine RL.storeW Try.sizeOf33 rfl rfl rfl rfl rfl rfl rfl (by first | rfl | exact ones_map one8 _ | exact ones_map (fun _ => rfl) _) (by repeat (first | exact Upd.here | apply Upd.there)) (by first | rfl | assumption | (simp only [List.length_map]; assumption) | (simp only [List.length_map, List.length_replicate]; done) | (simp; done)) (by first | rfl | assumption | (simp only [List.length_map]; assumption) | (simp only [List.length_map, List.length_replicate]; done) | (simp; done)) ?_
  refine RL.assign rfl rfl rfl rfl ?_
  refine RL.nil ?_
  refine NQ.seq ?_
  refine CW.ret ?_
  -- STOP: ret; end
  have hok : 1 ≤ (2 : Int) ∧ (2 : Int) ≤ 14 ∧ l.length = sizeR 2 ∧ (getR 2 l).mode.toNat ≤ 2 ∧ ¬ ((2 : Int) = 10 ∧ (getR 2 l).epoch = 0) := by refine ⟨by decide, by decide, by omega, by rw [hm]; decide, by omega⟩
  exact RQ.post (resWT rfl rfl rfl Try.isAgg33 Try.sizeOf33 (by repeat (first | exact List.Mem.head _ | apply List.Mem.tail)) rfl) (Split.none _) ⟨by rw [gotR, if_pos hok]; (try simp only [u32_nt, u16_nt]); rfl, rfl, rfl⟩
theorem rgot_3 (p : Option Addr) (n c : Nat) (l : List B8) (hn : l.length = n) (h : n = 4) : Spc Try.prog 25 #[.int .i64 3, .slice p n c] [sls p 1 n (bytes l)] [] (Is (gotV (gotR 3 l))) := by
  subst h
  refine Spc.some' (g := fun p => #[.int .i64 3, .slice p 4 c]) (I := fun p => [sls p 1 4 (bytes l)]) (H := fun _ => []) (R := fun _ => Is _) (List.Mem.head _) (by decide) (fun q _ => ?_)
  refine Spc.enter Try.func25 rfl rfl rfl (fun w0 hw0 => ?_)
  refine CW.seq ?_
  refine CW.region (ef := [0]) (bk := []) ?_
  refine RL.alloc Try.zeroValue33 rfl rfl rfl rfl rfl ?_
  intro b1
  refine RL.assign rfl rfl rfl rfl ?_
  refine RL.nil ?_
  refine NQ.seq ?_
  refine CW.seq ?_
  refine CW.region (ef := []) (bk := []) ?_
  refine RL.move rfl rfl rfl rfl ?_
  refine RL.callv (rsize_any 3) Try.call18 rfl rfl rfl rfl (by repeat (first | exact Lend.nil | (refine Lend.inI ?_ ?_; (solve | (repeat (first | exact List.Mem.head _ | apply List.Mem.tail)))) | (refine Lend.inH ?_ ?_; (solve | (repeat (first | exact List.Mem.head _ | apply List.Mem.tail)))))) ?_
  refine RL.move rfl rfl rfl rfl ?_
  -- STOP: op; op 3: d=14 ["extract", ["t", 11], 0] guard=None (ref.go:83)
  rw [show sizeV 3 = .tuple #[.int .i64 4, .int .i64 0] from rfl]
  refine RL.extract rfl rfl rfl rfl rfl ?_
  refine RL.extract rfl rfl rfl rfl rfl ?_
  refine RL.assign rfl rfl rfl rfl ?_
  refine RL.assign rfl rfl rfl rfl ?_
  refine RL.nil ?_
  refine NQ.seq ?_
  refine CW.only (.cons (k := 0) rfl (.cons (k := 1) rfl (.cons (k := 4) rfl (.cons (k := 6) rfl (.cons (k := 7) rfl .nil))))) ?_
  refine CW.seq ?_
  refine CW.seq ?_
  refine CW.region (ef := []) (bk := []) ?_
  refine RL.move rfl rfl rfl rfl ?_
  refine RL.bin rfl rfl rfl rfl rfl rfl ?_
  refine RL.move rfl rfl rfl rfl ?_
  -- STOP: part 18; op 3: d=19 ["move", ["t", 6]] guard=[2, False] (ref.go:84)
  refine RL.cast (d := 18) (v' := .bool false) rfl (rfl) ?_
  refine RL.move rfl rfl rfl rfl ?_
  refine RL.move rfl rfl rfl rfl ?_
  refine RL.lenS Try.runUnderlying34 rfl rfl rfl rfl ?_
  refine RL.bin rfl rfl rfl rfl rfl rfl ?_
  refine RL.pickF rfl rfl rfl rfl rfl ?_
  refine RL.nil ?_
  refine NQ.seq ?_
  refine CW.only (.cons (k := 0) rfl (.cons (k := 1) rfl (.cons (k := 4) rfl (.cons (k := 23) rfl .nil)))) ?_
  -- STOP: if; todo top: ["code", ["cond", ["t", 23], ["seq", ["region", 3, [{"d": 24, "op": ["build", 33, []], "ty": 33, "pos": "ref.go:85", "after": [], "guard": null}, {"d": null, "op": ["store", 33, ["t", 4], ["t", 24]], 
  refine CW.condF rfl (rfl) ?_
  refine CW.skip ?_
  refine NQ.seq ?_
  refine CW.seq ?_
  refine CW.region (ef := [2, 3]) (bk := [3]) ?_
  refine RL.move rfl rfl rfl rfl ?_
  -- STOP: op; op 1: d=26 ["build", 33, [[0, ["t", 25]]]] guard=None (ref.go:87)
  refine RL.buildS (Rdg.cells (rz 3)) Try.zeroValue33 pl_33 rfl rfl rfl rfl rfl ?_
  refine RL.alloc Try.zeroValue33 rfl rfl rfl rfl rfl ?_
  intro b2
  refine RL.storeW Try.sizeOf33 rfl rfl rfl rfl rfl rfl rfl (by first | rfl | exact ones_map one8 _ | exact ones_map (fun _ => rfl) _) (by repeat (first | exact Upd.here | apply Upd.there)) (by first | rfl | assumption | (simp only [List.length_map]; assumption) | (simp only [List.length_map, List.length_replicate]; done) | (simp; done)) (by first | rfl | assumption | (simp only [List.length_map]; assumption) | (simp only [List.length_map, List.length_replicate]; done) | (simp; done)) ?_
  refine RL.nil ?_
  refine NQ.seq ?_
  refine CW.seq ?_
  refine CW.seq ?_
  refine CW.region (ef := []) (bk := []) ?_
  refine RL.move rfl rfl rfl rfl ?_
  refine RL.nil ?_
  refine NQ.seq ?_
  refine CW.block ?_
  refine CW.seq ?_
  refine CW.region (ef := []) (bk := []) ?_
  refine RL.bin rfl rfl rfl rfl rfl rfl ?_
  refine RL.assign rfl rfl rfl rfl ?_
  refine RL.nil ?_
  refine NQ.seq ?_
  -- STOP: if; todo top: ["code", ["cond", ["t", 28], ["seq", ["region", 7, [{"d": 9, "op": ["assign", ["c", ["int", "Go.IntKind.i64", 0]]], "ty": 3, "pos": "ref.go:90", "after": [], "guard": null}], false], ["block", 1, ["lo
  refine CW.condF rfl (rfl) ?_
  refine CW.seq ?_
  refine CW.region (ef := []) (bk := []) ?_
  refine RL.bin rfl rfl rfl rfl rfl rfl ?_
  refine RL.assign rfl rfl rfl rfl ?_
  refine RL.nil ?_
  refine NQ.seq ?_
  refine CW.only (.cons (k := 0) rfl (.cons (k := 1) rfl (.cons (k := 4) rfl (.cons (k := 8) rfl (.cons (k := 27) rfl (.cons (k := 53) rfl .nil)))))) ?_
  -- STOP: if; todo top: ["code", ["cond", ["t", 53], ["region", 13, [{"d": 55, "op": ["move", ["t", 1]], "ty": 34, "pos": "ref.go:95", "after": [], "guard": null}, {"d": 56, "op": ["call", ["f", 85], [["t", 55], ["c", ["int"
  refine CW.condF rfl (rfl) ?_
  refine CW.seq ?_
  refine CW.region (ef := []) (bk := []) ?_
  refine RL.bin rfl rfl rfl rfl rfl rfl ?_
  refine RL.assign rfl rfl rfl rfl ?_
  refine RL.nil ?_
  refine NQ.seq ?_
  -- STOP: if; todo top: ["code", ["cond", ["t", 59], ["region", 15, [{"d": 61, "op": ["move", ["t", 1]], "ty": 34, "pos": "ref.go:97", "after": [], "guard": null}, {"d": 62, "op": ["call", ["f", 85], [["t", 61], ["c", ["int"
  refine CW.condT rfl (rfl) ?_
  refine CW.region (ef := [4]) (bk := [4]) ?_
  refine RL.move rfl rfl rfl rfl ?_
  refine RL.callv (rnat_any (some q) 4 c 0 4 l hn (by decide) (by decide) (by decide)) Try.call85 rfl rfl rfl rfl (by repeat (first | exact Lend.nil | (refine Lend.inI ?_ ?_; (solve | (repeat (first | exact List.Mem.head _ | apply List.Mem.tail)))) | (refine Lend.inH ?_ ?_; (solve | (repeat (first | exact List.Mem.head _ | apply List.Mem.tail)))))) ?_
  refine RL.conv Try.runUnderlying30 Try.runUnderlying25 rfl rfl rfl rfl ?_
  refine RL.fieldAddr fa_33_4 rfl rfl rfl rfl ?_
  refine RL.store (vs := [_]) Try.sizeOf25 rfl rfl rfl rfl rfl rfl rfl rfl rfl (by repeat (first | exact Upd.here | apply Upd.there)) ?_
  refine RL.nil ?_
  refine NQ.block ?_
  refine NQ.seq ?_
  refine CW.only (.cons (k := 0) rfl (.cons (k := 4) rfl (.cons (k := 8) rfl .nil))) ?_
  refine CW.seq ?_
  refine CW.seq ?_
  refine CW.region (ef := []) (bk := []) ?_
  refine RL.fieldAddr fa_33_12 rfl rfl rfl rfl ?_
  refine RL.load Try.isAgg5 rfl rfl rfl rfl (by first | assumption | (apply Rd.get; (solve | (repeat (first | exact List.Mem.head _ | apply List.Mem.tail))); assumption) | (apply Rd.getS; (solve | (repeat (first | exact List.Mem.head _ | apply List.Mem.tail))); assumption) | (apply Rd.getO; (solve | (repeat (first | exact List.Mem.head _ | apply List.Mem.tail))); assumption) | (apply Rd.getI; (solve | (repeat (first | exact List.Mem.head _ | apply List.Mem.tail))); assumption) | (apply Rd.cel; (solve | (repeat (first | exact List.Mem.head _ | apply List.Mem.tail))); exact rfl) | (apply Rd.celI; (solve | (repeat (first | exact List.Mem.head _ | apply List.Mem.tail))); exact rfl)) ?_
  refine RL.bin rfl rfl rfl rfl rfl rfl ?_
  refine RL.move rfl rfl rfl rfl ?_
  -- STOP: part 187; op 4: d=188 ["move", ["t", 0]] guard=[3, False] (ref.go:124)
  have hm : (getR 3 l).mode = 0#8 := rfl
  have hq : (getR 3 l).epoch = 0 := rfl
  have hz : sizeR 3 = 4 := rfl
  refine RL.cast (d := 187) (v' := .bool false) rfl (rfl) ?_
  refine RL.move rfl rfl rfl rfl ?_
  refine RL.bin rfl rfl rfl rfl rfl rfl ?_
  refine RL.move rfl rfl rfl rfl ?_
  -- STOP: part 190; op 7: d=191 ["fieldAddr", 33, ["t", 8], 13] guard=[6, True] (ref.go:124)
  refine RL.cast (d := 190) (v' := .bool false) rfl (rfl) ?_
  refine RL.skip rfl rfl rfl rfl ?_
  refine RL.skip rfl rfl rfl rfl ?_
  refine RL.skip rfl rfl rfl rfl ?_
  refine RL.pickF rfl rfl rfl rfl rfl ?_
  refine RL.pickF rfl rfl rfl rfl rfl ?_
  refine RL.nil ?_
  refine NQ.seq ?_
  refine CW.only (.cons (k := 4) rfl (.cons (k := 8) rfl (.cons (k := 195) rfl .nil))) ?_
  refine CW.condF rfl rfl ?_
  refine CW.skip ?_
  refine NQ.seq ?_
  refine CW.seq ?_
  refine CW.region (ef := [1]) (bk := [1]) ?_
  refine RL.loadW Try.isAgg33 Try.sizeOf33 rfl rfl rfl rfl (by repeat (first | exact List.Mem.head _ | apply List.Mem.tail)) (by first | rfl | assumption | (simp only [List.length_map]; assumption) | (simp only [List.length_map, List.length_replicate]; done) | (simp; done)) ?_
  refine RL.storeW Try.sizeOf33 rfl rfl rfl rfl rfl rfl rfl (by first | rfl | exact ones_map one8 _ | exact ones_map (fun _ => rfl) _) (by repeat (first | exact Upd.here | apply Upd.there)) (by first | rfl | assumption | (simp only [List.length_map]; assumption) | (simp only [List.length_map, List.length_replicate]; done) | (simp; done)) (by first | rfl | assumption | (simp only [List.length_map]; assumption) | (simp only [List.length_map, List.length_replicate]; done) | (simp; done)) ?_
  refine RL.assign rfl rfl rfl rfl ?_
  refine RL.nil ?_
  refine NQ.seq ?_
  refine CW.ret ?_
  -- STOP: ret; end
  have hok : 1 ≤ (3 : Int) ∧ (3 : Int) ≤ 14 ∧ l.length = sizeR 3 ∧ (getR 3 l).mode.toNat ≤ 2 ∧ ¬ ((3 : Int) = 10 ∧ (getR 3 l).epoch = 0) := by refine ⟨by decide, by decide, by omega, by rw [hm]; decide, by omega⟩
  exact RQ.post (resWT rfl rfl rfl Try.isAgg33 Try.sizeOf33 (by repeat (first | exact List.Mem.head _ | apply List.Mem.tail)) rfl) (Split.none _) ⟨by rw [gotR, if_pos hok]; (try simp only [u32_nt, u16_nt]); rfl, rfl, rfl⟩
theorem rgot_4 (p : Option Addr) (n c : Nat) (l : List B8) (hn : l.length = n) (h : n = 8) : Spc Try.prog 25 #[.int .i64 4, .slice p n c] [sls p 1 n (bytes l)] [] (Is (gotV (gotR 4 l))) := by
  subst h
  refine Spc.some' (g := fun p => #[.int .i64 4, .slice p 8 c]) (I := fun p => [sls p 1 8 (bytes l)]) (H := fun _ => []) (R := fun _ => Is _) (List.Mem.head _) (by decide) (fun q _ => ?_)
  refine Spc.enter Try.func25 rfl rfl rfl (fun w0 hw0 => ?_)
  refine CW.seq ?_
  refine CW.region (ef := [0]) (bk := []) ?_
  refine RL.alloc Try.zeroValue33 rfl rfl rfl rfl rfl ?_
  intro b1
  refine RL.assign rfl rfl rfl rfl ?_
  refine RL.nil ?_
  refine NQ.seq ?_
  refine CW.seq ?_
  refine CW.region (ef := []) (bk := []) ?_
  refine RL.move rfl rfl rfl rfl ?_
  refine RL.callv (rsize_any 4) Try.call18 rfl rfl rfl rfl (by repeat (first | exact Lend.nil | (refine Lend.inI ?_ ?_; (solve | (repeat (first | exact List.Mem.head _ | apply List.Mem.tail)))) | (refine Lend.inH ?_ ?_; (solve | (repeat (first | exact List.Mem.head _ | apply List.Mem.tail)))))) ?_
  refine RL.move rfl rfl rfl rfl ?_
  -- STOP: op; op 3: d=14 ["extract", ["t", 11], 0] guard=None (ref.go:83)
  rw [show sizeV 4 = .tuple #[.int .i64 8, .int .i64 0] from rfl]
  refine RL.extract rfl rfl rfl rfl rfl ?_
  refine RL.extract rfl rfl rfl rfl rfl ?_
  refine RL.assign rfl rfl rfl rfl ?_
  refine RL.assign rfl rfl rfl rfl ?_
  refine RL.nil ?_
  refine NQ.seq ?_
  refine CW.only (.cons (k := 0) rfl (.cons (k := 1) rfl (.cons (k := 4) rfl (.cons (k := 6) rfl (.cons (k := 7) rfl .nil))))) ?_
  refine CW.seq ?_
  refine CW.seq ?_
  refine CW.region (ef := []) (bk := []) ?_
  refine RL.move rfl rfl rfl rfl ?_
  refine RL.bin rfl rfl rfl rfl rfl rfl ?_
  refine RL.move rfl rfl rfl rfl ?_
  -- STOP: part 18; op 3: d=19 ["move", ["t", 6]] guard=[2, False] (ref.go:84)
  refine RL.cast (d := 18) (v' := .bool false) rfl (rfl) ?_
  refine RL.move rfl rfl rfl rfl ?_
  refine RL.move rfl rfl rfl rfl ?_
  refine RL.lenS Try.runUnderlying34 rfl rfl rfl rfl ?_
  refine RL.bin rfl rfl rfl rfl rfl rfl ?_
  refine RL.pickF rfl rfl rfl rfl rfl ?_
  refine RL.nil ?_
  refine NQ.seq ?_
  refine CW.only (.cons (k := 0) rfl (.cons (k := 1) rfl (.cons (k := 4) rfl (.cons (k := 23) rfl .nil)))) ?_
  -- STOP: if; todo top: ["code", ["cond", ["t", 23], ["seq", ["region", 3, [{"d": 24, "op": ["build", 33, []], "ty": 33, "pos": "ref.go:85", "after": [], "guard": null}, {"d": null, "op": ["store", 33, ["t", 4], ["t", 24]], 
  refine CW.condF rfl (rfl) ?_
  refine CW.skip ?_
  refine NQ.seq ?_
  refine CW.seq ?_
  refine CW.region (ef := [2, 3]) (bk := [3]) ?_
  refine RL.move rfl rfl rfl rfl ?_
  -- STOP: op; op 1: d=26 ["build", 33, [[0, ["t", 25]]]] guard=None (ref.go:87)
  refine RL.buildS (Rdg.cells (rz 4)) Try.zeroValue33 pl_33 rfl rfl rfl rfl rfl ?_
  refine RL.alloc Try.zeroValue33 rfl rfl rfl rfl rfl ?_
  intro b2
  refine RL.storeW Try.sizeOf33 rfl rfl rfl rfl rfl rfl rfl (by first | rfl | exact ones_map one8 _ | exact ones_map (fun _ => rfl) _) (by repeat (first | exact Upd.here | apply Upd.there)) (by first | rfl | assumption | (simp only [List.length_map]; assumption) | (simp only [List.length_map, List.length_replicate]; done) | (simp; done)) (by first | rfl | assumption | (simp only [List.length_map]; assumption) | (simp only [List.length_map, List.length_replicate]; done) | (simp; done)) ?_
  refine RL.nil ?_
  refine NQ.seq ?_
  refine CW.seq ?_
  refine CW.seq ?_
  refine CW.region (ef := []) (bk := []) ?_
  refine RL.move rfl rfl rfl rfl ?_
  refine RL.nil ?_
  refine NQ.seq ?_
  refine CW.block ?_
  refine CW.seq ?_
  refine CW.region (ef := []) (bk := []) ?_
  refine RL.bin rfl rfl rfl rfl rfl rfl ?_
  refine RL.assign rfl rfl rfl rfl ?_
  refine RL.nil ?_
  refine NQ.seq ?_
  -- STOP: if; todo top: ["code", ["cond", ["t", 28], ["seq", ["region", 7, [{"d": 9, "op": ["assign", ["c", ["int", "Go.IntKind.i64", 0]]], "ty": 3, "pos": "ref.go:90", "after": [], "guard": null}], false], ["block", 1, ["lo
  refine CW.condF rfl (rfl) ?_
  refine CW.seq ?_
  refine CW.region (ef := []) (bk := []) ?_
  refine RL.bin rfl rfl rfl rfl rfl rfl ?_
  refine RL.assign rfl rfl rfl rfl ?_
  refine RL.nil ?_
  refine NQ.seq ?_
  refine CW.only (.cons (k := 0) rfl (.cons (k := 1) rfl (.cons (k := 4) rfl (.cons (k := 8) rfl (.cons (k := 27) rfl (.cons (k := 53) rfl .nil)))))) ?_
  -- STOP: if; todo top: ["code", ["cond", ["t", 53], ["region", 13, [{"d": 55, "op": ["move", ["t", 1]], "ty": 34, "pos": "ref.go:95", "after": [], "guard": null}, {"d": 56, "op": ["call", ["f", 85], [["t", 55], ["c", ["int"
  refine CW.condF rfl (rfl) ?_
  refine CW.seq ?_
  refine CW.region (ef := []) (bk := []) ?_
  refine RL.bin rfl rfl rfl rfl rfl rfl ?_
  refine RL.assign rfl rfl rfl rfl ?_
  refine RL.nil ?_
  refine NQ.seq ?_
  -- STOP: if; todo top: ["code", ["cond", ["t", 59], ["region", 15, [{"d": 61, "op": ["move", ["t", 1]], "ty": 34, "pos": "ref.go:97", "after": [], "guard": null}, {"d": 62, "op": ["call", ["f", 85], [["t", 61], ["c", ["int"
  refine CW.condF rfl (rfl) ?_
  refine CW.seq ?_
  refine CW.region (ef := []) (bk := []) ?_
  refine RL.bin rfl rfl rfl rfl rfl rfl ?_
  refine RL.assign rfl rfl rfl rfl ?_
  refine RL.nil ?_
  refine NQ.seq ?_
  -- STOP: if; todo top: ["code", ["cond", ["t", 65], ["region", 17, [{"d": 67, "op": ["move", ["t", 1]], "ty": 34, "pos": "ref.go:99", "after": [], "guard": null}, {"d": 68, "op": ["call", ["f", 85], [["t", 67], ["c", ["int"
  refine CW.condT rfl (rfl) ?_
  refine CW.region (ef := [8, 10]) (bk := [8, 10]) ?_
  refine RL.move rfl rfl rfl rfl ?_
  refine RL.callv (rnat_any (some q) 8 c 0 4 l hn (by decide) (by decide) (by decide)) Try.call85 rfl rfl rfl rfl (by repeat (first | exact Lend.nil | (refine Lend.inI ?_ ?_; (solve | (repeat (first | exact List.Mem.head _ | apply List.Mem.tail)))) | (refine Lend.inH ?_ ?_; (solve | (repeat (first | exact List.Mem.head _ | apply List.Mem.tail)))))) ?_
  refine RL.conv Try.runUnderlying30 Try.runUnderlying25 rfl rfl rfl rfl ?_
  refine RL.conv Try.runUnderlying25 Try.runUnderlying22 rfl rfl rfl rfl ?_
  refine RL.move rfl rfl rfl rfl ?_
  refine RL.callv (rnat_any (some q) 8 c 4 4 l hn (by decide) (by decide) (by decide)) Try.call85 rfl rfl rfl rfl (by repeat (first | exact Lend.nil | (refine Lend.inI ?_ ?_; (solve | (repeat (first | exact List.Mem.head _ | apply List.Mem.tail)))) | (refine Lend.inH ?_ ?_; (solve | (repeat (first | exact List.Mem.head _ | apply List.Mem.tail)))))) ?_
  refine RL.conv Try.runUnderlying30 Try.runUnderlying25 rfl rfl rfl rfl ?_
  refine RL.fieldAddr fa_33_5 rfl rfl rfl rfl ?_
  refine RL.store (vs := [_]) Try.sizeOf22 rfl rfl rfl rfl rfl rfl rfl rfl rfl (by repeat (first | exact Upd.here | apply Upd.there)) ?_
  refine RL.fieldAddr fa_33_6 rfl rfl rfl rfl ?_
  refine RL.store (vs := [_]) Try.sizeOf25 rfl rfl rfl rfl rfl rfl rfl rfl rfl (by repeat (first | exact Upd.here | apply Upd.there)) ?_
  refine RL.nil ?_
  refine NQ.block ?_
  refine NQ.seq ?_
  refine CW.only (.cons (k := 0) rfl (.cons (k := 4) rfl (.cons (k := 8) rfl .nil))) ?_
  refine CW.seq ?_
  refine CW.seq ?_
  refine CW.region (ef := []) (bk := []) ?_
  refine RL.fieldAddr fa_33_12 rfl rfl rfl rfl ?_
  refine RL.load Try.isAgg5 rfl rfl rfl rfl (by first | assumption | (apply Rd.get; (solve | (repeat (first | exact List.Mem.head _ | apply List.Mem.tail))); assumption) | (apply Rd.getS; (solve | (repeat (first | exact List.Mem.head _ | apply List.Mem.tail))); assumption) | (apply Rd.getO; (solve | (repeat (first | exact List.Mem.head _ | apply List.Mem.tail))); assumption) | (apply Rd.getI; (solve | (repeat (first | exact List.Mem.head _ | apply List.Mem.tail))); assumption) | (apply Rd.cel; (solve | (repeat (first | exact List.Mem.head _ | apply List.Mem.tail))); exact rfl) | (apply Rd.celI; (solve | (repeat (first | exact List.Mem.head _ | apply List.Mem.tail))); exact rfl)) ?_
  refine RL.bin rfl rfl rfl rfl rfl rfl ?_
  refine RL.move rfl rfl rfl rfl ?_
  -- STOP: part 187; op 4: d=188 ["move", ["t", 0]] guard=[3, False] (ref.go:124)
  have hm : (getR 4 l).mode = 0#8 := rfl
  have hq : (getR 4 l).epoch = 0 := rfl
  have hz : sizeR 4 = 8 := rfl
  refine RL.cast (d := 187) (v' := .bool false) rfl (rfl) ?_
  refine RL.move rfl rfl rfl rfl ?_
  refine RL.bin rfl rfl rfl rfl rfl rfl ?_
  refine RL.move rfl rfl rfl rfl ?_
  -- STOP: part 190; op 7: d=191 ["fieldAddr", 33, ["t", 8], 13] guard=[6, True] (ref.go:124)
  refine RL.cast (d := 190) (v' := .bool false) rfl (rfl) ?_
  refine RL.skip rfl rfl rfl rfl ?_
  refine RL.skip rfl rfl rfl rfl ?_
  refine RL.skip rfl rfl rfl rfl ?_
  refine RL.pickF rfl rfl rfl rfl rfl ?_
  refine RL.pickF rfl rfl rfl rfl rfl ?_
  refine RL.nil ?_
  refine NQ.seq ?_
  refine CW.only (.cons (k := 4) rfl (.cons (k := 8) rfl (.cons (k := 195) rfl .nil))) ?_
  refine CW.condF rfl rfl ?_
  refine CW.skip ?_
  refine NQ.seq ?_
  refine CW.seq ?_
  refine CW.region (ef := [1]) (bk := [1]) ?_
  refine RL.loadW Try.isAgg33 Try.sizeOf33 rfl rfl rfl rfl (by repeat (first | exact List.Mem.head _ | apply List.Mem.tail)) (by first | rfl | assumption | (simp only [List.length_map]; assumption) | (simp only [List.length_map, List.length_replicate]; done) | (simp; done)) ?_
  refine RL.storeW Try.sizeOf33 rfl rfl rfl rfl rfl rfl rfl (by first | rfl | exact ones_map one8 _ | exact ones_map (fun _ => rfl) _) (by repeat (first | exact Upd.here | apply Upd.there)) (by first | rfl | assumption | (simp only [List.length_map]; assumption) | (simp only [List.length_map, List.length_replicate]; done) | (simp; done)) (by first | rfl | assumption | (simp only [List.length_map]; assumption) | (simp only [List.length_map, List.length_replicate]; done) | (simp; done)) ?_
  refine RL.assign rfl rfl rfl rfl ?_
  refine RL.nil ?_
  refine NQ.seq ?_
  refine CW.ret ?_
  -- STOP: ret; end
  have hok : 1 ≤ (4 : Int) ∧ (4 : Int) ≤ 14 ∧ l.length = sizeR 4 ∧ (getR 4 l).mode.toNat ≤ 2 ∧ ¬ ((4 : Int) = 10 ∧ (getR 4 l).epoch = 0) := by refine ⟨by decide, by decide, by omega, by rw [hm]; decide, by omega⟩
  exact RQ.post (resWT rfl rfl rfl Try.isAgg33 Try.sizeOf33 (by repeat (first | exact List.Mem.head _ | apply List.Mem.tail)) rfl) (Split.none _) ⟨by rw [gotR, if_pos hok]; (try simp only [u32_nt, u16_nt]); rfl, rfl, rfl⟩
theorem rgot_5 (p : Option Addr) (n c : Nat) (l : List B8) (hn : l.length = n) (h : n = 29) : Spc Try.prog 25 #[.int .i64 5, .slice p n c] [sls p 1 n (bytes l)] [] (Is (gotV (gotR 5 l))) := by
  subst h
  refine Spc.some' (g := fun p => #[.int .i64 5, .slice p 29 c]) (I := fun p => [sls p 1 29 (bytes l)]) (H := fun _ => []) (R := fun _ => Is _) (List.Mem.head _) (by decide) (fun q _ => ?_)
  refine Spc.enter Try.func25 rfl rfl rfl (fun w0 hw0 => ?_)
  refine CW.seq ?_
  refine CW.region (ef := [0]) (bk := []) ?_
  refine RL.alloc Try.zeroValue33 rfl rfl rfl rfl rfl ?_
  intro b1
  refine RL.assign rfl rfl rfl rfl ?_
  refine RL.nil ?_
  refine NQ.seq ?_
  refine CW.seq ?_
  refine CW.region (ef := []) (bk := []) ?_
  refine RL.move rfl rfl rfl rfl ?_
  refine RL.callv (rsize_any 5) Try.call18 rfl rfl rfl rfl (by repeat (first | exact Lend.nil | (refine Lend.inI ?_ ?_; (solve | (repeat (first | exact List.Mem.head _ | apply List.Mem.tail)))) | (refine Lend.inH ?_ ?_; (solve | (repeat (first | exact List.Mem.head _ | apply List.Mem.tail)))))) ?_
  refine RL.move rfl rfl rfl rfl ?_
  -- STOP: op; op 3: d=14 ["extract", ["t", 11], 0] guard=None (ref.go:83)
  rw [show sizeV 5 = .tuple #[.int .i64 29, .int .i64 0] from rfl]
  refine RL.extract rfl rfl rfl rfl rfl ?_
  refine RL.extract rfl rfl rfl rfl rfl ?_
  refine RL.assign rfl rfl rfl rfl ?_
  refine RL.assign rfl rfl rfl rfl ?_
  refine RL.nil ?_
  refine NQ.seq ?_
  refine CW.only (.cons (k := 0) rfl (.cons (k := 1) rfl (.cons (k := 4) rfl (.cons (k := 6) rfl (.cons (k := 7) rfl .nil))))) ?_
  refine CW.seq ?_
  refine CW.seq ?_
  refine CW.region (ef := []) (bk := []) ?_
  refine RL.move rfl rfl rfl rfl ?_
  refine RL.bin rfl rfl rfl rfl rfl rfl ?_
  refine RL.move rfl rfl rfl rfl ?_
  -- STOP: part 18; op 3: d=19 ["move", ["t", 6]] guard=[2, False] (ref.go:84)
  refine RL.cast (d := 18) (v' := .bool false) rfl (rfl) ?_
  refine RL.move rfl rfl rfl rfl ?_
  refine RL.move rfl rfl rfl rfl ?_
  refine RL.lenS Try.runUnderlying34 rfl rfl rfl rfl ?_
  refine RL.bin rfl rfl rfl rfl rfl rfl ?_
  refine RL.pickF rfl rfl rfl rfl rfl ?_
  refine RL.nil ?_
  refine NQ.seq ?_
  refine CW.only (.cons (k := 0) rfl (.cons (k := 1) rfl (.cons (k := 4) rfl (.cons (k := 23) rfl .nil)))) ?_
  -- STOP: if; todo top: ["code", ["cond", ["t", 23], ["seq", ["region", 3, [{"d": 24, "op": ["build", 33, []], "ty": 33, "pos": "ref.go:85", "after": [], "guard": null}, {"d": null, "op": ["store", 33, ["t", 4], ["t", 24]], 
  refine CW.condF rfl (rfl) ?_
  refine CW.skip ?_
  refine NQ.seq ?_
  refine CW.seq ?_
  refine CW.region (ef := [2, 3]) (bk := [3]) ?_
  refine RL.move rfl rfl rfl rfl ?_
  -- STOP: op; op 1: d=26 ["build", 33, [[0, ["t", 25]]]] guard=None (ref.go:87)
  refine RL.buildS (Rdg.cells (rz 5)) Try.zeroValue33 pl_33 rfl rfl rfl rfl rfl ?_
  refine RL.alloc Try.zeroValue33 rfl rfl rfl rfl rfl ?_
  intro b2
  refine RL.storeW Try.sizeOf33 rfl rfl rfl rfl rfl rfl rfl (by first | rfl | exact ones_map one8 _ | exact ones_map (fun _ => rfl) _) (by repeat (first | exact Upd.here | apply Upd.there)) (by first | rfl | assumption | (simp only [List.length_map]; assumption) | (simp only [List.length_map, List.length_replicate]; done) | (simp; done)) (by first | rfl | assumption | (simp only [List.length_map]; assumption) | (simp only [List.length_map, List.length_replicate]; done) | (simp; done)) ?_
  refine RL.nil ?_
  refine NQ.seq ?_
  refine CW.seq ?_
  refine CW.seq ?_
  refine CW.region (ef := []) (bk := []) ?_
  refine RL.move rfl rfl rfl rfl ?_
  refine RL.nil ?_
  refine NQ.seq ?_
  refine CW.block ?_
  refine CW.seq ?_
  refine CW.region (ef := []) (bk := []) ?_
  refine RL.bin rfl rfl rfl rfl rfl rfl ?_
  refine RL.assign rfl rfl rfl rfl ?_
  refine RL.nil ?_
  refine NQ.seq ?_
  -- STOP: if; todo top: ["code", ["cond", ["t", 28], ["seq", ["region", 7, [{"d": 9, "op": ["assign", ["c", ["int", "Go.IntKind.i64", 0]]], "ty": 3, "pos": "ref.go:90", "after": [], "guard": null}], false], ["block", 1, ["lo
  refine CW.condF rfl (rfl) ?_
  refine CW.seq ?_
  refine CW.region (ef := []) (bk := []) ?_
  refine RL.bin rfl rfl rfl rfl rfl rfl ?_
  refine RL.assign rfl rfl rfl rfl ?_
  refine RL.nil ?_
  refine NQ.seq ?_
  refine CW.only (.cons (k := 0) rfl (.cons (k := 1) rfl (.cons (k := 4) rfl (.cons (k := 8) rfl (.cons (k := 27) rfl (.cons (k := 53) rfl .nil)))))) ?_
  -- STOP: if; todo top: ["code", ["cond", ["t", 53], ["region", 13, [{"d": 55, "op": ["move", ["t", 1]], "ty": 34, "pos": "ref.go:95", "after": [], "guard": null}, {"d": 56, "op": ["call", ["f", 85], [["t", 55], ["c", ["int"
  refine CW.condF rfl (rfl) ?_
  refine CW.seq ?_
  refine CW.region (ef := []) (bk := []) ?_
  refine RL.bin rfl rfl rfl rfl rfl rfl ?_
  refine RL.assign rfl rfl rfl rfl ?_
  refine RL.nil ?_
  refine NQ.seq ?_
  -- STOP: if; todo top: ["code", ["cond", ["t", 59], ["region", 15, [{"d": 61, "op": ["move", ["t", 1]], "ty": 34, "pos": "ref.go:97", "after": [], "guard": null}, {"d": 62, "op": ["call", ["f", 85], [["t", 61], ["c", ["int"
  refine CW.condF rfl (rfl) ?_
  refine CW.seq ?_
  refine CW.region (ef := []) (bk := []) ?_
  refine RL.bin rfl rfl rfl rfl rfl rfl ?_
  refine RL.assign rfl rfl rfl rfl ?_
  refine RL.nil ?_
  refine NQ.seq ?_
  -- STOP: if; todo top: ["code", ["cond", ["t", 65], ["region", 17, [{"d": 67, "op": ["move", ["t", 1]], "ty": 34, "pos": "ref.go:99", "after": [], "guard": null}, {"d": 68, "op": ["call", ["f", 85], [["t", 67], ["c", ["int"
  refine CW.condF rfl (rfl) ?_
  refine CW.seq ?_
  refine CW.region (ef := []) (bk := []) ?_
  refine RL.bin rfl rfl rfl rfl rfl rfl ?_
  refine RL.assign rfl rfl rfl rfl ?_
  refine RL.nil ?_
  refine NQ.seq ?_
  refine CW.only (.cons (k := 0) rfl (.cons (k := 1) rfl (.cons (k := 4) rfl (.cons (k := 8) rfl (.cons (k := 27) rfl (.cons (k := 76) rfl .nil)))))) ?_
  -- STOP: if; todo top: ["code", ["cond", ["t", 76], ["seq", ["region", 19, [{"d": 78, "op": ["move", ["t", 1]], "ty": 34, "pos": "ref.go:101", "after": [], "guard": null}, {"d": 79, "op": ["call", ["f", 85], [["t", 78], ["c
  refine CW.condT rfl (rfl) ?_
  refine CW.seq ?_
  -- STOP: region; todo top: ["code", ["region", 19, [{"d": 78, "op": ["move", ["t", 1]], "ty": 34, "pos": "ref.go:101", "after": [], "guard": null}, {"d": 79, "op": ["call", ["f", 85], [["t", 78], ["c", ["int", "Go.IntKind.i64",
  refine CW.cut [(0, .int .i64 5), (1, .slice (some q) 29 c), (4, .pointer (some ⟨b1, 0, none⟩)), (8, .pointer (some ⟨b2, 0, none⟩))] [sls (some q) 1 29 (bytes l)] [cel b2 (spl (spl (Rdg.cells (rz 5)) (0 + 11) [.int .u32 (IntKind.u32.wrap (nat l 0 4 : Int))]) (0 + 12) [U8 (bat l 4)]) 33, cel b1 (Rdg.cells (rz 0)) 33] ?_ ?_
  ·
    have hv4 := bat_v (l := l) (o := 4) (by omega)
    refine CW.regionD (.cons 0 (.cons 1 (.cons 2 (.cons 3 (.cons 4 (.cons 6 (.fork [5, 7] (fun k => (bif Nat.beq k 5 then (Sq.of [7, 8, 9]) else (Sq.of [5, 8, 9])))))))))) [7, 9] [7, 9] [0, 2, 3, 4, 6, 8] mixed (by kernel_rfl) ?_
    refine RL.move rfl rfl rfl rfl ?_
    refine RL.callv (rnat_any (some q) 29 c 0 4 l hn (by decide) (by decide) (by decide)) Try.call85 rfl rfl rfl rfl (by repeat (first | exact Lend.nil | (refine Lend.inI ?_ ?_; (solve | (repeat (first | exact List.Mem.head _ | apply List.Mem.tail)))) | (refine Lend.inH ?_ ?_; (solve | (repeat (first | exact List.Mem.head _ | apply List.Mem.tail)))))) ?_
    refine RL.conv Try.runUnderlying30 Try.runUnderlying25 rfl rfl rfl rfl ?_
    refine RL.move rfl rfl rfl rfl ?_
    -- STOP: op; op 4: d=82 ["indexAddr", 34, ["t", 81], ["c", ["int", "Go.IntKind.i64", 4]]] guard=None (ref.go:101)
    refine RL.idx (j := 4) Try.runUnderlying34 Try.sizeOf5 rfl rfl rfl rfl rfl rfl (by decide) ?_
    refine RL.fieldAddr fa_33_7 rfl rfl rfl rfl ?_
    -- STOP: fork; todo top: ["code", ["region", 19, [{"d": 78, "op": ["move", ["t", 1]], "ty": 34, "pos": "ref.go:101", "after": [], "guard": null}, {"d": 79, "op": ["call", ["f", 85], [["t", 78], ["c", ["int", "Go.IntKind.i64",
    refine RL.fork ⟨?_, ?_, trivial⟩
    ·
      refine RL.load Try.isAgg5 rfl rfl rfl rfl (by first | assumption | (apply Rd.get; (solve | (repeat (first | exact List.Mem.head _ | apply List.Mem.tail))); assumption) | (apply Rd.getS; (solve | (repeat (first | exact List.Mem.head _ | apply List.Mem.tail))); assumption) | (apply Rd.getO; (solve | (repeat (first | exact List.Mem.head _ | apply List.Mem.tail))); assumption) | (apply Rd.getI; (solve | (repeat (first | exact List.Mem.head _ | apply List.Mem.tail))); assumption) | (apply Rd.cel; (solve | (repeat (first | exact List.Mem.head _ | apply List.Mem.tail))); exact rfl) | (apply Rd.celI; (solve | (repeat (first | exact List.Mem.head _ | apply List.Mem.tail))); exact rfl)) ?_
      refine RL.store (vs := [_]) Try.sizeOf25 rfl rfl rfl rfl rfl rfl rfl rfl rfl (by repeat (first | exact Upd.here | apply Upd.there)) ?_
      refine RL.fieldAddr fa_33_8 rfl rfl rfl rfl ?_
      refine RL.store (vs := [_]) Try.sizeOf5 rfl rfl rfl rfl rfl rfl rfl rfl rfl (by repeat (first | exact Upd.here | apply Upd.there)) ?_
      refine RL.nil ?_
      exact NQ.mid (.cons rfl (.cons rfl (.cons rfl (.cons rfl .nil)))) (fun _ h => h)
    ·
      refine RL.store (vs := [_]) Try.sizeOf25 rfl rfl rfl rfl rfl rfl rfl rfl rfl (by repeat (first | exact Upd.here | apply Upd.there)) ?_
      refine RL.load Try.isAgg5 rfl rfl rfl rfl (by first | assumption | (apply Rd.get; (solve | (repeat (first | exact List.Mem.head _ | apply List.Mem.tail))); assumption) | (apply Rd.getS; (solve | (repeat (first | exact List.Mem.head _ | apply List.Mem.tail))); assumption) | (apply Rd.getO; (solve | (repeat (first | exact List.Mem.head _ | apply List.Mem.tail))); assumption) | (apply Rd.getI; (solve | (repeat (first | exact List.Mem.head _ | apply List.Mem.tail))); assumption) | (apply Rd.cel; (solve | (repeat (first | exact List.Mem.head _ | apply List.Mem.tail))); exact rfl) | (apply Rd.celI; (solve | (repeat (first | exact List.Mem.head _ | apply List.Mem.tail))); exact rfl)) ?_
      refine RL.fieldAddr fa_33_8 rfl rfl rfl rfl ?_
      refine RL.store (vs := [_]) Try.sizeOf5 rfl rfl rfl rfl rfl rfl rfl rfl rfl (by repeat (first | exact Upd.here | apply Upd.there)) ?_
      refine RL.nil ?_
      exact NQ.mid (.cons rfl (.cons rfl (.cons rfl (.cons rfl .nil)))) (fun _ h => h)
  -- STOP: region; todo top: ["code", ["region", 20, [{"d": 86, "op": ["move", ["t", 1]], "ty": 34, "pos": "ref.go:102", "after": [], "guard": null}, {"d": 87, "op": ["call", ["f", 85], [["t", 86], ["c", ["int", "Go.IntKind.i64",
  refine CW.region (ef := [11]) (bk := [11]) ?_
  refine RL.move rfl rfl rfl rfl ?_
  refine RL.callv (rnat_any (some q) 29 c 5 8 l hn (by decide) (by decide) (by decide)) Try.call85 rfl rfl rfl rfl (by repeat (first | exact Lend.nil | (refine Lend.inI ?_ ?_; (solve | (repeat (first | exact List.Mem.head _ | apply List.Mem.tail)))) | (refine Lend.inH ?_ ?_; (solve | (repeat (first | exact List.Mem.head _ | apply List.Mem.tail)))))) ?_
  refine RL.conv Try.runUnderlying30 Try.runUnderlying24 rfl rfl rfl rfl ?_
  refine RL.move rfl rfl rfl rfl ?_
  refine RL.callv (rnat_any (some q) 29 c 13 8 l hn (by decide) (by decide) (by decide)) Try.call85 rfl rfl rfl rfl (by repeat (first | exact Lend.nil | (refine Lend.inI ?_ ?_; (solve | (repeat (first | exact List.Mem.head _ | apply List.Mem.tail)))) | (refine Lend.inH ?_ ?_; (solve | (repeat (first | exact List.Mem.head _ | apply List.Mem.tail)))))) ?_
  refine RL.conv Try.runUnderlying30 Try.runUnderlying24 rfl rfl rfl rfl ?_
  refine RL.move rfl rfl rfl rfl ?_
  refine RL.callv (rnat_any (some q) 29 c 21 8 l hn (by decide) (by decide) (by decide)) Try.call85 rfl rfl rfl rfl (by repeat (first | exact Lend.nil | (refine Lend.inI ?_ ?_; (solve | (repeat (first | exact List.Mem.head _ | apply List.Mem.tail)))) | (refine Lend.inH ?_ ?_; (solve | (repeat (first | exact List.Mem.head _ | apply List.Mem.tail)))))) ?_
  refine RL.conv Try.runUnderlying30 Try.runUnderlying24 rfl rfl rfl rfl ?_
  refine RL.buildA [_, _, _] Try.zeroValue27 Try.runUnderlying27 Try.sizeOf24 rfl rfl rfl rfl rfl ?_
  refine RL.fieldAddr fa_33_9 rfl rfl rfl rfl ?_
  -- STOP: op; op 11: d=None ["store", 27, ["t", 96], ["t", 95]] guard=None (ref.go:102)
  refine RL.storeX (cs' := spl _ (0 + 13) [_, _, _]) (vs := [_, _, _]) rfl Try.sizeOf27 rfl rfl rfl rfl rfl rfl rfl rfl (by repeat (first | exact Upd.here | apply Upd.there)) (Nat.le_of_ble_eq_true rfl) ?_
  refine RL.nil ?_
  refine NQ.block ?_
  refine NQ.seq ?_
  refine CW.only (.cons (k := 0) rfl (.cons (k := 4) rfl (.cons (k := 8) rfl .nil))) ?_
  refine CW.seq ?_
  refine CW.seq ?_
  refine CW.region (ef := []) (bk := []) ?_
  refine RL.fieldAddr fa_33_12 rfl rfl rfl rfl ?_
  refine RL.load Try.isAgg5 rfl rfl rfl rfl (by first | assumption | (apply Rd.get; (solve | (repeat (first | exact List.Mem.head _ | apply List.Mem.tail))); assumption) | (apply Rd.getS; (solve | (repeat (first | exact List.Mem.head _ | apply List.Mem.tail))); assumption) | (apply Rd.getO; (solve | (repeat (first | exact List.Mem.head _ | apply List.Mem.tail))); assumption) | (apply Rd.getI; (solve | (repeat (first | exact List.Mem.head _ | apply List.Mem.tail))); assumption) | (apply Rd.cel; (solve | (repeat (first | exact List.Mem.head _ | apply List.Mem.tail))); exact rfl) | (apply Rd.celI; (solve | (repeat (first | exact List.Mem.head _ | apply List.Mem.tail))); exact rfl)) ?_
  refine RL.bin rfl rfl rfl rfl rfl rfl ?_
  refine RL.move rfl rfl rfl rfl ?_
  -- STOP: part 187; op 4: d=188 ["move", ["t", 0]] guard=[3, False] (ref.go:124)
  have hm : (getR 5 l).mode = 0#8 := rfl
  have hq : (getR 5 l).epoch = 0 := rfl
  have hz : sizeR 5 = 29 := rfl
  refine RL.cast (d := 187) (v' := .bool false) rfl (rfl) ?_
  refine RL.move rfl rfl rfl rfl ?_
  refine RL.bin rfl rfl rfl rfl rfl rfl ?_
  refine RL.move rfl rfl rfl rfl ?_
  -- STOP: part 190; op 7: d=191 ["fieldAddr", 33, ["t", 8], 13] guard=[6, True] (ref.go:124)
  refine RL.cast (d := 190) (v' := .bool false) rfl (rfl) ?_
  refine RL.skip rfl rfl rfl rfl ?_
  refine RL.skip rfl rfl rfl rfl ?_
  refine RL.skip rfl rfl rfl rfl ?_
  refine RL.pickF rfl rfl rfl rfl rfl ?_
  refine RL.pickF rfl rfl rfl rfl rfl ?_
  refine RL.nil ?_
  refine NQ.seq ?_
  refine CW.only (.cons (k := 4) rfl (.cons (k := 8) rfl (.cons (k := 195) rfl .nil))) ?_
  refine CW.condF rfl rfl ?_
  refine CW.skip ?_
  refine NQ.seq ?_
  refine CW.seq ?_
  refine CW.region (ef := [1]) (bk := [1]) ?_
  refine RL.loadW Try.isAgg33 Try.sizeOf33 rfl rfl rfl rfl (by repeat (first | exact List.Mem.head _ | apply List.Mem.tail)) (by first | rfl | assumption | (simp only [List.length_map]; assumption) | (simp only [List.length_map, List.length_replicate]; done) | (simp; done)) ?_
  refine RL.storeW Try.sizeOf33 rfl rfl rfl rfl rfl rfl rfl (by first | rfl | exact ones_map one8 _ | exact ones_map (fun _ => rfl) _) (by repeat (first | exact Upd.here | apply Upd.there)) (by first | rfl | assumption | (simp only [List.length_map]; assumption) | (simp only [List.length_map, List.length_replicate]; done) | (simp; done)) (by first | rfl | assumption | (simp only [List.length_map]; assumption) | (simp only [List.length_map, List.length_replicate]; done) | (simp; done)) ?_
  refine RL.assign rfl rfl rfl rfl ?_
  refine RL.nil ?_
  refine NQ.seq ?_
  refine CW.ret ?_
  -- STOP: ret; end
  have hok : 1 ≤ (5 : Int) ∧ (5 : Int) ≤ 14 ∧ l.length = sizeR 5 ∧ (getR 5 l).mode.toNat ≤ 2 ∧ ¬ ((5 : Int) = 10 ∧ (getR 5 l).epoch = 0) := by refine ⟨by decide, by decide, by omega, by rw [hm]; decide, by omega⟩
  exact RQ.post (resWT rfl rfl rfl Try.isAgg33 Try.sizeOf33 (by repeat (first | exact List.Mem.head _ | apply List.Mem.tail)) rfl) (Split.none _) ⟨by rw [gotR, if_pos hok]; (try simp only [u32_nt, u16_nt]); rfl, rfl, rfl⟩
theorem rgot_6 (p : Option Addr) (n c : Nat) (l : List B8) (hn : l.length = n) (h : n = 36) : Spc Try.prog 25 #[.int .i64 6, .slice p n c] [sls p 1 n (bytes l)] [] (Is (gotV (gotR 6 l))) := by
  subst h
  refine Spc.some' (g := fun p => #[.int .i64 6, .slice p 36 c]) (I := fun p => [sls p 1 36 (bytes l)]) (H := fun _ => []) (R := fun _ => Is _) (List.Mem.head _) (by decide) (fun q _ => ?_)
  refine Spc.enter Try.func25 rfl rfl rfl (fun w0 hw0 => ?_)
  refine CW.seq ?_
  refine CW.region (ef := [0]) (bk := []) ?_
  refine RL.alloc Try.zeroValue33 rfl rfl rfl rfl rfl ?_
  intro b1
  refine RL.assign rfl rfl rfl rfl ?_
  refine RL.nil ?_
  refine NQ.seq ?_
  refine CW.seq ?_
  refine CW.region (ef := []) (bk := []) ?_
  refine RL.move rfl rfl rfl rfl ?_
  refine RL.callv (rsize_any 6) Try.call18 rfl rfl rfl rfl (by repeat (first | exact Lend.nil | (refine Lend.inI ?_ ?_; (solve | (repeat (first | exact List.Mem.head _ | apply List.Mem.tail)))) | (refine Lend.inH ?_ ?_; (solve | (repeat (first | exact List.Mem.head _ | apply List.Mem.tail)))))) ?_
  refine RL.move rfl rfl rfl rfl ?_
  -- STOP: op; op 3: d=14 ["extract", ["t", 11], 0] guard=None (ref.go:83)
  rw [show sizeV 6 = .tuple #[.int .i64 36, .int .i64 0] from rfl]
  refine RL.extract rfl rfl rfl rfl rfl ?_
  refine RL.extract rfl rfl rfl rfl rfl ?_
  refine RL.assign rfl rfl rfl rfl ?_
  refine RL.assign rfl rfl rfl rfl ?_
  refine RL.nil ?_
  refine NQ.seq ?_
  refine CW.only (.cons (k := 0) rfl (.cons (k := 1) rfl (.cons (k := 4) rfl (.cons (k := 6) rfl (.cons (k := 7) rfl .nil))))) ?_
  refine CW.seq ?_
  refine CW.seq ?_
  refine CW.region (ef := []) (bk := []) ?_
  refine RL.move rfl rfl rfl rfl ?_
  refine RL.bin rfl rfl rfl rfl rfl rfl ?_
  refine RL.move rfl rfl rfl rfl ?_
  -- STOP: part 18; op 3: d=19 ["move", ["t", 6]] guard=[2, False] (ref.go:84)
  refine RL.cast (d := 18) (v' := .bool false) rfl (rfl) ?_
  refine RL.move rfl rfl rfl rfl ?_
  refine RL.move rfl rfl rfl rfl ?_
  refine RL.lenS Try.runUnderlying34 rfl rfl rfl rfl ?_
  refine RL.bin rfl rfl rfl rfl rfl rfl ?_
  refine RL.pickF rfl rfl rfl rfl rfl ?_
  refine RL.nil ?_
  refine NQ.seq ?_
  refine CW.only (.cons (k := 0) rfl (.cons (k := 1) rfl (.cons (k := 4) rfl (.cons (k := 23) rfl .nil)))) ?_
  -- STOP: if; todo top: ["code", ["cond", ["t", 23], ["seq", ["region", 3, [{"d": 24, "op": ["build", 33, []], "ty": 33, "pos": "ref.go:85", "after": [], "guard": null}, {"d": null, "op": ["store", 33, ["t", 4], ["t", 24]], 
  refine CW.condF rfl (rfl) ?_
  refine CW.skip ?_
  refine NQ.seq ?_
  refine CW.seq ?_
  refine CW.region (ef := [2, 3]) (bk := [3]) ?_
  refine RL.move rfl rfl rfl rfl ?_
  -- STOP: op; op 1: d=26 ["build", 33, [[0, ["t", 25]]]] guard=None (ref.go:87)
  refine RL.buildS (Rdg.cells (rz 6)) Try.zeroValue33 pl_33 rfl rfl rfl rfl rfl ?_
  refine RL.alloc Try.zeroValue33 rfl rfl rfl rfl rfl ?_
  intro b2
  refine RL.storeW Try.sizeOf33 rfl rfl rfl rfl rfl rfl rfl (by first | rfl | exact ones_map one8 _ | exact ones_map (fun _ => rfl) _) (by repeat (first | exact Upd.here | apply Upd.there)) (by first | rfl | assumption | (simp only [List.length_map]; assumption) | (simp only [List.length_map, List.length_replicate]; done) | (simp; done)) (by first | rfl | assumption | (simp only [List.length_map]; assumption) | (simp only [List.length_map, List.length_replicate]; done) | (simp; done)) ?_
  refine RL.nil ?_
  refine NQ.seq ?_
  refine CW.seq ?_
  refine CW.seq ?_
  refine CW.region (ef := []) (bk := []) ?_
  refine RL.move rfl rfl rfl rfl ?_
  refine RL.nil ?_
  refine NQ.seq ?_
  refine CW.block ?_
  refine CW.seq ?_
  refine CW.region (ef := []) (bk := []) ?_
  refine RL.bin rfl rfl rfl rfl rfl rfl ?_
  refine RL.assign rfl rfl rfl rfl ?_
  refine RL.nil ?_
  refine NQ.seq ?_
  -- STOP: if; todo top: ["code", ["cond", ["t", 28], ["seq", ["region", 7, [{"d": 9, "op": ["assign", ["c", ["int", "Go.IntKind.i64", 0]]], "ty": 3, "pos": "ref.go:90", "after": [], "guard": null}], false], ["block", 1, ["lo
  refine CW.condF rfl (rfl) ?_
  refine CW.seq ?_
  refine CW.region (ef := []) (bk := []) ?_
  refine RL.bin rfl rfl rfl rfl rfl rfl ?_
  refine RL.assign rfl rfl rfl rfl ?_
  refine RL.nil ?_
  refine NQ.seq ?_
  refine CW.only (.cons (k := 0) rfl (.cons (k := 1) rfl (.cons (k := 4) rfl (.cons (k := 8) rfl (.cons (k := 27) rfl (.cons (k := 53) rfl .nil)))))) ?_
  -- STOP: if; todo top: ["code", ["cond", ["t", 53], ["region", 13, [{"d": 55, "op": ["move", ["t", 1]], "ty": 34, "pos": "ref.go:95", "after": [], "guard": null}, {"d": 56, "op": ["call", ["f", 85], [["t", 55], ["c", ["int"
  refine CW.condF rfl (rfl) ?_
  refine CW.seq ?_
  refine CW.region (ef := []) (bk := []) ?_
  refine RL.bin rfl rfl rfl rfl rfl rfl ?_
  refine RL.assign rfl rfl rfl rfl ?_
  refine RL.nil ?_
  refine NQ.seq ?_
  -- STOP: if; todo top: ["code", ["cond", ["t", 59], ["region", 15, [{"d": 61, "op": ["move", ["t", 1]], "ty": 34, "pos": "ref.go:97", "after": [], "guard": null}, {"d": 62, "op": ["call", ["f", 85], [["t", 61], ["c", ["int"
  refine CW.condF rfl (rfl) ?_
  refine CW.seq ?_
  refine CW.region (ef := []) (bk := []) ?_
  refine RL.bin rfl rfl rfl rfl rfl rfl ?_
  refine RL.assign rfl rfl rfl rfl ?_
  refine RL.nil ?_
  refine NQ.seq ?_
  -- STOP: if; todo top: ["code", ["cond", ["t", 65], ["region", 17, [{"d": 67, "op": ["move", ["t", 1]], "ty": 34, "pos": "ref.go:99", "after": [], "guard": null}, {"d": 68, "op": ["call", ["f", 85], [["t", 67], ["c", ["int"
  refine CW.condF rfl (rfl) ?_
  refine CW.seq ?_
  refine CW.region (ef := []) (bk := []) ?_
  refine RL.bin rfl rfl rfl rfl rfl rfl ?_
  refine RL.assign rfl rfl rfl rfl ?_
  refine RL.nil ?_
  refine NQ.seq ?_
  refine CW.only (.cons (k := 0) rfl (.cons (k := 1) rfl (.cons (k := 4) rfl (.cons (k := 8) rfl (.cons (k := 27) rfl (.cons (k := 76) rfl .nil)))))) ?_
  -- STOP: if; todo top: ["code", ["cond", ["t", 76], ["seq", ["region", 19, [{"d": 78, "op": ["move", ["t", 1]], "ty": 34, "pos": "ref.go:101", "after": [], "guard": null}, {"d": 79, "op": ["call", ["f", 85], [["t", 78], ["c
  refine CW.condF rfl (rfl) ?_
  refine CW.seq ?_
  refine CW.region (ef := []) (bk := []) ?_
  refine RL.bin rfl rfl rfl rfl rfl rfl ?_
  refine RL.assign rfl rfl rfl rfl ?_
  refine RL.nil ?_
  refine NQ.seq ?_
  -- STOP: if; todo top: ["code", ["cond", ["t", 97], ["seq", ["region", 22, [{"d": 99, "op": ["move", ["t", 1]], "ty": 34, "pos": "ref.go:104", "after": [], "guard": null}, {"d": 100, "op": ["call", ["f", 85], [["t", 99], ["
  refine CW.condT rfl (rfl) ?_
  refine CW.seq ?_
  refine CW.region (ef := [4]) (bk := [4]) ?_
  refine RL.move rfl rfl rfl rfl ?_
  refine RL.callv (rnat_any (some q) 36 c 0 4 l hn (by decide) (by decide) (by decide)) Try.call85 rfl rfl rfl rfl (by repeat (first | exact Lend.nil | (refine Lend.inI ?_ ?_; (solve | (repeat (first | exact List.Mem.head _ | apply List.Mem.tail)))) | (refine Lend.inH ?_ ?_; (solve | (repeat (first | exact List.Mem.head _ | apply List.Mem.tail)))))) ?_
  refine RL.conv Try.runUnderlying30 Try.runUnderlying25 rfl rfl rfl rfl ?_
  refine RL.fieldAddr fa_33_7 rfl rfl rfl rfl ?_
  refine RL.store (vs := [_]) Try.sizeOf25 rfl rfl rfl rfl rfl rfl rfl rfl rfl (by repeat (first | exact Upd.here | apply Upd.there)) ?_
  refine RL.nil ?_
  refine NQ.seq ?_
  refine CW.only (.cons (k := 0) rfl (.cons (k := 1) rfl (.cons (k := 4) rfl (.cons (k := 8) rfl .nil)))) ?_
  refine CW.seq ?_
  refine CW.region (ef := []) (bk := []) ?_
  refine RL.assign rfl rfl rfl rfl ?_
  refine RL.nil ?_
  refine NQ.seq ?_
  refine CW.block ?_
  -- STOP: loop; todo top: ["code", ["loop", ["seq", ["seq", ["region", 24, [{"d": 103, "op": ["move", ["t", 10]], "ty": 3, "pos": "ref.go:105", "after": [], "guard": null}, {"d": 104, "op": ["binOp", "Go.BinOp.lss", 3, ["t", 1
  refine CW.loop (γ := Nat) (fun j => j ≤ 32) (fun j => [(0, .int .i64 6), (1, .slice (some q) 36 c), (4, .pointer (some ⟨b1, 0, none⟩)), (8, .pointer (some ⟨b2, 0, none⟩)), (10, .int .i64 (j : Int))]) (fun _ => [sls (some q) 1 36 (bytes l)])
    (fun j => [cel b2 (Rdg.cells (r6 l j)) 33, cel b1 (Rdg.cells (rz 0)) 33]) (fun j => 32 - j) 0 (by decide)
    (.cons rfl (.cons rfl (.cons rfl (.cons rfl (.cons rfl .nil))))) (fun w h => by rw [u32_nt] at h; exact h) ?_
  intro j hj
  refine CW.seq ?_
  refine CW.seq ?_
  refine CW.region (ef := []) (bk := []) ?_
  refine RL.move rfl rfl rfl rfl ?_
  refine RL.bin rfl rfl rfl rfl rfl rfl ?_
  refine RL.nil ?_
  refine NQ.seq ?_
  -- STOP: if; todo top: ["code", ["cond", ["t", 104], ["skip"], ["exit", 3]]]
  refine CW.cond rfl (fun hlt => ?_) (fun hlt => ?_)
  ·
    refine CW.skip ?_
    refine NQ.seq ?_
    refine CW.seq ?_
    refine CW.block ?_
    refine CW.region (ef := [8]) (bk := [8]) ?_
    refine RL.move rfl rfl rfl rfl ?_
    refine RL.move rfl rfl rfl rfl ?_
    refine RL.move rfl rfl rfl rfl ?_
    refine RL.binX rfl rfl rfl rfl rfl rfl (wrapV_i64 (by omega) (by omega)) ?_
    -- STOP: op; op 4: d=111 ["indexAddr", 34, ["t", 108], ["t", 110]] guard=None (ref.go:106)
    have hlt : j < 32 := by simp at hlt; omega
    have hv := bat_v (l := l) (o := 4 + j) (by omega)
    refine RL.idx (j := 4 + j) Try.runUnderlying34 Try.sizeOf5 rfl rfl rfl rfl rfl (by omega) (by omega) ?_
    refine RL.load Try.isAgg5 rfl rfl rfl rfl (by first | assumption | (apply Rd.get; (solve | (repeat (first | exact List.Mem.head _ | apply List.Mem.tail))); assumption) | (apply Rd.getS; (solve | (repeat (first | exact List.Mem.head _ | apply List.Mem.tail))); assumption) | (apply Rd.getO; (solve | (repeat (first | exact List.Mem.head _ | apply List.Mem.tail))); assumption) | (apply Rd.getI; (solve | (repeat (first | exact List.Mem.head _ | apply List.Mem.tail))); assumption) | (apply Rd.cel; (solve | (repeat (first | exact List.Mem.head _ | apply List.Mem.tail))); exact rfl) | (apply Rd.celI; (solve | (repeat (first | exact List.Mem.head _ | apply List.Mem.tail))); exact rfl)) ?_
    refine RL.fieldAddr fa_33_10 rfl rfl rfl rfl ?_
    -- STOP: op; op 7: d=114 ["indexAddr", 29, ["t", 113], ["t", 107]] guard=None (ref.go:106)
    refine RL.idxAAt (j := j) Try.runUnderlying29 Try.sizeOf5 rfl rfl rfl rfl rfl rfl hlt ?_
    -- STOP: op; op 8: d=None ["store", 5, ["t", 114], ["t", 112]] guard=None (ref.go:106)
    refine RL.storeX (cs' := Rdg.cells (r6 l (j + 1))) (vs := [_]) (r6_step l hlt) Try.sizeOf5 rfl rfl rfl rfl rfl rfl rfl rfl (by repeat (first | exact Upd.here | apply Upd.there)) (by show 0 + 16 + j * 1 + 1 ≤ 57; omega) ?_
    refine RL.nil ?_
    refine NQ.block ?_
    refine NQ.seq ?_
    refine CW.only (.cons (k := 0) rfl (.cons (k := 1) rfl (.cons (k := 4) rfl (.cons (k := 8) rfl (.cons (k := 10) rfl .nil))))) ?_
    refine CW.region (ef := []) (bk := []) ?_
    refine RL.move rfl rfl rfl rfl ?_
    refine RL.binX rfl rfl rfl rfl rfl rfl (wrapV_i64 (by omega) (by omega)) ?_
    refine RL.assign rfl rfl rfl rfl ?_
    refine RL.nil ?_
    -- STOP: round; todo top: ["N"]
    exact NQ.round (g := j) (j + 1) hlt (by omega) (.cons rfl (.cons rfl (.cons rfl (.cons rfl (.cons rfl .nil))))) (fun w h => h)
  have hj32 : j = 32 := by simp at hlt; omega
  subst hj32
  refine CW.exit ?_
  refine XQ.seq ?_
  refine XQ.seq ?_
  refine XQ.hit ?_
  refine NQ.block ?_
  refine NQ.seq ?_
  refine CW.seq ?_
  refine CW.seq ?_
  refine CW.region (ef := []) (bk := []) ?_
  refine RL.fieldAddr fa_33_12 rfl rfl rfl rfl ?_
  refine RL.load Try.isAgg5 rfl rfl rfl rfl (by first | assumption | (apply Rd.get; (solve | (repeat (first | exact List.Mem.head _ | apply List.Mem.tail))); assumption) | (apply Rd.getS; (solve | (repeat (first | exact List.Mem.head _ | apply List.Mem.tail))); assumption) | (apply Rd.getO; (solve | (repeat (first | exact List.Mem.head _ | apply List.Mem.tail))); assumption) | (apply Rd.getI; (solve | (repeat (first | exact List.Mem.head _ | apply List.Mem.tail))); assumption) | (apply Rd.cel; (solve | (repeat (first | exact List.Mem.head _ | apply List.Mem.tail))); exact rfl) | (apply Rd.celI; (solve | (repeat (first | exact List.Mem.head _ | apply List.Mem.tail))); exact rfl)) ?_
  refine RL.bin rfl rfl rfl rfl rfl rfl ?_
  refine RL.move rfl rfl rfl rfl ?_
  -- STOP: part 187; op 4: d=188 ["move", ["t", 0]] guard=[3, False] (ref.go:124)
  have hm : (getR 6 l).mode = 0#8 := rfl
  have hq : (getR 6 l).epoch = 0 := rfl
  have hz : sizeR 6 = 36 := rfl
  refine RL.cast (d := 187) (v' := .bool false) rfl (rfl) ?_
  refine RL.move rfl rfl rfl rfl ?_
  refine RL.bin rfl rfl rfl rfl rfl rfl ?_
  refine RL.move rfl rfl rfl rfl ?_
  -- STOP: part 190; op 7: d=191 ["fieldAddr", 33, ["t", 8], 13] guard=[6, True] (ref.go:124)
  refine RL.cast (d := 190) (v' := .bool false) rfl (rfl) ?_
  refine RL.skip rfl rfl rfl rfl ?_
  refine RL.skip rfl rfl rfl rfl ?_
  refine RL.skip rfl rfl rfl rfl ?_
  refine RL.pickF rfl rfl rfl rfl rfl ?_
  refine RL.pickF rfl rfl rfl rfl rfl ?_
  refine RL.nil ?_
  refine NQ.seq ?_
  refine CW.only (.cons (k := 4) rfl (.cons (k := 8) rfl (.cons (k := 195) rfl .nil))) ?_
  refine CW.condF rfl rfl ?_
  refine CW.skip ?_
  refine NQ.seq ?_
  refine CW.seq ?_
  refine CW.region (ef := [1]) (bk := [1]) ?_
  refine RL.loadW Try.isAgg33 Try.sizeOf33 rfl rfl rfl rfl (by repeat (first | exact List.Mem.head _ | apply List.Mem.tail)) (by first | rfl | assumption | (simp only [List.length_map]; assumption) | (simp only [List.length_map, List.length_replicate]; done) | (simp; done)) ?_
  refine RL.storeW Try.sizeOf33 rfl rfl rfl rfl rfl rfl rfl (by first | rfl | exact ones_map one8 _ | exact ones_map (fun _ => rfl) _) (by repeat (first | exact Upd.here | apply Upd.there)) (by first | rfl | assumption | (simp only [List.length_map]; assumption) | (simp only [List.length_map, List.length_replicate]; done) | (simp; done)) (by first | rfl | assumption | (simp only [List.length_map]; assumption) | (simp only [List.length_map, List.length_replicate]; done) | (simp; done)) ?_
  refine RL.assign rfl rfl rfl rfl ?_
  refine RL.nil ?_
  refine NQ.seq ?_
  refine CW.ret ?_
  -- STOP: ret; end
  have hok : 1 ≤ (6 : Int) ∧ (6 : Int) ≤ 14 ∧ l.length = sizeR 6 ∧ (getR 6 l).mode.toNat ≤ 2 ∧ ¬ ((6 : Int) = 10 ∧ (getR 6 l).epoch = 0) := by refine ⟨by decide, by decide, by omega, by rw [hm]; decide, by omega⟩
  exact RQ.post (resWT rfl rfl rfl Try.isAgg33 Try.sizeOf33 (by repeat (first | exact List.Mem.head _ | apply List.Mem.tail)) rfl) (Split.none _) ⟨by rw [gotR, if_pos hok]; (try simp only [u32_nt, u16_nt]); rfl, rfl, rfl⟩
theorem rgot_7 (p : Option Addr) (n c : Nat) (l : List B8) (hn : l.length = n) (h : n = 8) : Spc Try.prog 25 #[.int .i64 7, .slice p n c] [sls p 1 n (bytes l)] [] (Is (gotV (gotR 7 l))) := by
  subst h
  refine Spc.some' (g := fun p => #[.int .i64 7, .slice p 8 c]) (I := fun p => [sls p 1 8 (bytes l)]) (H := fun _ => []) (R := fun _ => Is _) (List.Mem.head _) (by decide) (fun q _ => ?_)
  refine Spc.enter Try.func25 rfl rfl rfl (fun w0 hw0 => ?_)
  refine CW.seq ?_
  refine CW.region (ef := [0]) (bk := []) ?_
  refine RL.alloc Try.zeroValue33 rfl rfl rfl rfl rfl ?_
  intro b1
  refine RL.assign rfl rfl rfl rfl ?_
  refine RL.nil ?_
  refine NQ.seq ?_
  refine CW.seq ?_
  refine CW.region (ef := []) (bk := []) ?_
  refine RL.move rfl rfl rfl rfl ?_
  refine RL.callv (rsize_any 7) Try.call18 rfl rfl rfl rfl (by repeat (first | exact Lend.nil | (refine Lend.inI ?_ ?_; (solve | (repeat (first | exact List.Mem.head _ | apply List.Mem.tail)))) | (refine Lend.inH ?_ ?_; (solve | (repeat (first | exact List.Mem.head _ | apply List.Mem.tail)))))) ?_
  refine RL.move rfl rfl rfl rfl ?_
  -- STOP: op; op 3: d=14 ["extract", ["t", 11], 0] guard=None (ref.go:83)
  rw [show sizeV 7 = .tuple #[.int .i64 8, .int .i64 0] from rfl]
  refine RL.extract rfl rfl rfl rfl rfl ?_
  refine RL.extract rfl rfl rfl rfl rfl ?_
  refine RL.assign rfl rfl rfl rfl ?_
  refine RL.assign rfl rfl rfl rfl ?_
  refine RL.nil ?_
  refine NQ.seq ?_
  refine CW.only (.cons (k := 0) rfl (.cons (k := 1) rfl (.cons (k := 4) rfl (.cons (k := 6) rfl (.cons (k := 7) rfl .nil))))) ?_
  refine CW.seq ?_
  refine CW.seq ?_
  refine CW.region (ef := []) (bk := []) ?_
  refine RL.move rfl rfl rfl rfl ?_
  refine RL.bin rfl rfl rfl rfl rfl rfl ?_
  refine RL.move rfl rfl rfl rfl ?_
  -- STOP: part 18; op 3: d=19 ["move", ["t", 6]] guard=[2, False] (ref.go:84)
  refine RL.cast (d := 18) (v' := .bool false) rfl (rfl) ?_
  refine RL.move rfl rfl rfl rfl ?_
  refine RL.move rfl rfl rfl rfl ?_
  refine RL.lenS Try.runUnderlying34 rfl rfl rfl rfl ?_
  refine RL.bin rfl rfl rfl rfl rfl rfl ?_
  refine RL.pickF rfl rfl rfl rfl rfl ?_
  refine RL.nil ?_
  refine NQ.seq ?_
  refine CW.only (.cons (k := 0) rfl (.cons (k := 1) rfl (.cons (k := 4) rfl (.cons (k := 23) rfl .nil)))) ?_
  -- STOP: if; todo top: ["code", ["cond", ["t", 23], ["seq", ["region", 3, [{"d": 24, "op": ["build", 33, []], "ty": 33, "pos": "ref.go:85", "after": [], "guard": null}, {"d": null, "op": ["store", 33, ["t", 4], ["t", 24]], 
  refine CW.condF rfl (rfl) ?_
  refine CW.skip ?_
  refine NQ.seq ?_
  refine CW.seq ?_
  refine CW.region (ef := [2, 3]) (bk := [3]) ?_
  refine RL.move rfl rfl rfl rfl ?_
  -- STOP: op; op 1: d=26 ["build", 33, [[0, ["t", 25]]]] guard=None (ref.go:87)
  refine RL.buildS (Rdg.cells (rz 7)) Try.zeroValue33 pl_33 rfl rfl rfl rfl rfl ?_
  refine RL.alloc Try.zeroValue33 rfl rfl rfl rfl rfl ?_
  intro b2
  refine RL.storeW Try.sizeOf33 rfl rfl rfl rfl rfl rfl rfl (by first | rfl | exact ones_map one8 _ | exact ones_map (fun _ => rfl) _) (by repeat (first | exact Upd.here | apply Upd.there)) (by first | rfl | assumption | (simp only [List.length_map]; assumption) | (simp only [List.length_map, List.length_replicate]; done) | (simp; done)) (by first | rfl | assumption | (simp only [List.length_map]; assumption) | (simp only [List.length_map, List.length_replicate]; done) | (simp; done)) ?_
  refine RL.nil ?_
  refine NQ.seq ?_
  refine CW.seq ?_
  refine CW.seq ?_
  refine CW.region (ef := []) (bk := []) ?_
  refine RL.move rfl rfl rfl rfl ?_
  refine RL.nil ?_
  refine NQ.seq ?_
  refine CW.block ?_
  refine CW.seq ?_
  refine CW.region (ef := []) (bk := []) ?_
  refine RL.bin rfl rfl rfl rfl rfl rfl ?_
  refine RL.assign rfl rfl rfl rfl ?_
  refine RL.nil ?_
  refine NQ.seq ?_
  -- STOP: if; todo top: ["code", ["cond", ["t", 28], ["seq", ["region", 7, [{"d": 9, "op": ["assign", ["c", ["int", "Go.IntKind.i64", 0]]], "ty": 3, "pos": "ref.go:90", "after": [], "guard": null}], false], ["block", 1, ["lo
  refine CW.condF rfl (rfl) ?_
  refine CW.seq ?_
  refine CW.region (ef := []) (bk := []) ?_
  refine RL.bin rfl rfl rfl rfl rfl rfl ?_
  refine RL.assign rfl rfl rfl rfl ?_
  refine RL.nil ?_
  refine NQ.seq ?_
  refine CW.only (.cons (k := 0) rfl (.cons (k := 1) rfl (.cons (k := 4) rfl (.cons (k := 8) rfl (.cons (k := 27) rfl (.cons (k := 53) rfl .nil)))))) ?_
  -- STOP: if; todo top: ["code", ["cond", ["t", 53], ["region", 13, [{"d": 55, "op": ["move", ["t", 1]], "ty": 34, "pos": "ref.go:95", "after": [], "guard": null}, {"d": 56, "op": ["call", ["f", 85], [["t", 55], ["c", ["int"
  refine CW.condF rfl (rfl) ?_
  refine CW.seq ?_
  refine CW.region (ef := []) (bk := []) ?_
  refine RL.bin rfl rfl rfl rfl rfl rfl ?_
  refine RL.assign rfl rfl rfl rfl ?_
  refine RL.nil ?_
  refine NQ.seq ?_
  -- STOP: if; todo top: ["code", ["cond", ["t", 59], ["region", 15, [{"d": 61, "op": ["move", ["t", 1]], "ty": 34, "pos": "ref.go:97", "after": [], "guard": null}, {"d": 62, "op": ["call", ["f", 85], [["t", 61], ["c", ["int"
  refine CW.condF rfl (rfl) ?_
  refine CW.seq ?_
  refine CW.region (ef := []) (bk := []) ?_
  refine RL.bin rfl rfl rfl rfl rfl rfl ?_
  refine RL.assign rfl rfl rfl rfl ?_
  refine RL.nil ?_
  refine NQ.seq ?_
  -- STOP: if; todo top: ["code", ["cond", ["t", 65], ["region", 17, [{"d": 67, "op": ["move", ["t", 1]], "ty": 34, "pos": "ref.go:99", "after": [], "guard": null}, {"d": 68, "op": ["call", ["f", 85], [["t", 67], ["c", ["int"
  refine CW.condF rfl (rfl) ?_
  refine CW.seq ?_
  refine CW.region (ef := []) (bk := []) ?_
  refine RL.bin rfl rfl rfl rfl rfl rfl ?_
  refine RL.assign rfl rfl rfl rfl ?_
  refine RL.nil ?_
  refine NQ.seq ?_
  refine CW.only (.cons (k := 0) rfl (.cons (k := 1) rfl (.cons (k := 4) rfl (.cons (k := 8) rfl (.cons (k := 27) rfl (.cons (k := 76) rfl .nil)))))) ?_
  -- STOP: if; todo top: ["code", ["cond", ["t", 76], ["seq", ["region", 19, [{"d": 78, "op": ["move", ["t", 1]], "ty": 34, "pos": "ref.go:101", "after": [], "guard": null}, {"d": 79, "op": ["call", ["f", 85], [["t", 78], ["c
  refine CW.condF rfl (rfl) ?_
  refine CW.seq ?_
  refine CW.region (ef := []) (bk := []) ?_
  refine RL.bin rfl rfl rfl rfl rfl rfl ?_
  refine RL.assign rfl rfl rfl rfl ?_
  refine RL.nil ?_
  refine NQ.seq ?_
  -- STOP: if; todo top: ["code", ["cond", ["t", 97], ["seq", ["region", 22, [{"d": 99, "op": ["move", ["t", 1]], "ty": 34, "pos": "ref.go:104", "after": [], "guard": null}, {"d": 100, "op": ["call", ["f", 85], [["t", 99], ["
  refine CW.condF rfl (rfl) ?_
  refine CW.seq ?_
  refine CW.region (ef := []) (bk := []) ?_
  refine RL.bin rfl rfl rfl rfl rfl rfl ?_
  refine RL.assign rfl rfl rfl rfl ?_
  refine RL.nil ?_
  refine NQ.seq ?_
  -- STOP: if; todo top: ["code", ["cond", ["t", 115], ["region", 28, [{"d": 117, "op": ["move", ["t", 1]], "ty": 34, "pos": "ref.go:109", "after": [], "guard": null}, {"d": 118, "op": ["call", ["f", 85], [["t", 117], ["c", [
  refine CW.condT rfl (rfl) ?_
  refine CW.region (ef := [3]) (bk := [3]) ?_
  refine RL.move rfl rfl rfl rfl ?_
  refine RL.callv (rnat_any (some q) 8 c 0 8 l hn (by decide) (by decide) (by decide)) Try.call85 rfl rfl rfl rfl (by repeat (first | exact Lend.nil | (refine Lend.inI ?_ ?_; (solve | (repeat (first | exact List.Mem.head _ | apply List.Mem.tail)))) | (refine Lend.inH ?_ ?_; (solve | (repeat (first | exact List.Mem.head _ | apply List.Mem.tail)))))) ?_
  refine RL.fieldAddr fa_33_11 rfl rfl rfl rfl ?_
  refine RL.store (vs := [_]) Try.sizeOf30 rfl rfl rfl rfl rfl rfl rfl rfl rfl (by repeat (first | exact Upd.here | apply Upd.there)) ?_
  refine RL.nil ?_
  refine NQ.block ?_
  refine NQ.seq ?_
  refine CW.only (.cons (k := 0) rfl (.cons (k := 4) rfl (.cons (k := 8) rfl .nil))) ?_
  refine CW.seq ?_
  refine CW.seq ?_
  refine CW.region (ef := []) (bk := []) ?_
  refine RL.fieldAddr fa_33_12 rfl rfl rfl rfl ?_
  refine RL.load Try.isAgg5 rfl rfl rfl rfl (by first | assumption | (apply Rd.get; (solve | (repeat (first | exact List.Mem.head _ | apply List.Mem.tail))); assumption) | (apply Rd.getS; (solve | (repeat (first | exact List.Mem.head _ | apply List.Mem.tail))); assumption) | (apply Rd.getO; (solve | (repeat (first | exact List.Mem.head _ | apply List.Mem.tail))); assumption) | (apply Rd.getI; (solve | (repeat (first | exact List.Mem.head _ | apply List.Mem.tail))); assumption) | (apply Rd.cel; (solve | (repeat (first | exact List.Mem.head _ | apply List.Mem.tail))); exact rfl) | (apply Rd.celI; (solve | (repeat (first | exact List.Mem.head _ | apply List.Mem.tail))); exact rfl)) ?_
  refine RL.bin rfl rfl rfl rfl rfl rfl ?_
  refine RL.move rfl rfl rfl rfl ?_
  -- STOP: part 187; op 4: d=188 ["move", ["t", 0]] guard=[3, False] (ref.go:124)
  have hm : (getR 7 l).mode = 0#8 := rfl
  have hq : (getR 7 l).epoch = 0 := rfl
  have hz : sizeR 7 = 8 := rfl
  refine RL.cast (d := 187) (v' := .bool false) rfl (rfl) ?_
  refine RL.move rfl rfl rfl rfl ?_
  refine RL.bin rfl rfl rfl rfl rfl rfl ?_
  refine RL.move rfl rfl rfl rfl ?_
  -- STOP: part 190; op 7: d=191 ["fieldAddr", 33, ["t", 8], 13] guard=[6, True] (ref.go:124)
  refine RL.cast (d := 190) (v' := .bool false) rfl (rfl) ?_
  refine RL.skip rfl rfl rfl rfl ?_
  refine RL.skip rfl rfl rfl rfl ?_
  refine RL.skip rfl rfl rfl rfl ?_
  refine RL.pickF rfl rfl rfl rfl rfl ?_
  refine RL.pickF rfl rfl rfl rfl rfl ?_
  refine RL.nil ?_
  refine NQ.seq ?_
  refine CW.only (.cons (k := 4) rfl (.cons (k := 8) rfl (.cons (k := 195) rfl .nil))) ?_
  refine CW.condF rfl rfl ?_
  refine CW.skip ?_
  refine NQ.seq ?_
  refine CW.seq ?_
  refine CW.region (ef := [1]) (bk := [1]) ?_
  refine RL.loadW Try.isAgg33 Try.sizeOf33 rfl rfl rfl rfl (by repeat (first | exact List.Mem.head _ | apply List.Mem.tail)) (by first | rfl | assumption | (simp only [List.length_map]; assumption) | (simp only [List.length_map, List.length_replicate]; done) | (simp; done)) ?_
  refine RL.storeW Try.sizeOf33 rfl rfl rfl rfl rfl rfl rfl (by first | rfl | exact ones_map one8 _ | exact ones_map (fun _ => rfl) _) (by repeat (first | exact Upd.here | apply Upd.there)) (by first | rfl | assumption | (simp only [List.length_map]; assumption) | (simp only [List.length_map, List.length_replicate]; done) | (simp; done)) (by first | rfl | assumption | (simp only [List.length_map]; assumption) | (simp only [List.length_map, List.length_replicate]; done) | (simp; done)) ?_
  refine RL.assign rfl rfl rfl rfl ?_
  refine RL.nil ?_
  refine NQ.seq ?_
  refine CW.ret ?_
  -- STOP: ret; end
  have hok : 1 ≤ (7 : Int) ∧ (7 : Int) ≤ 14 ∧ l.length = sizeR 7 ∧ (getR 7 l).mode.toNat ≤ 2 ∧ ¬ ((7 : Int) = 10 ∧ (getR 7 l).epoch = 0) := by refine ⟨by decide, by decide, by omega, by rw [hm]; decide, by omega⟩
  exact RQ.post (resWT rfl rfl rfl Try.isAgg33 Try.sizeOf33 (by repeat (first | exact List.Mem.head _ | apply List.Mem.tail)) rfl) (Split.none _) ⟨by rw [gotR, if_pos hok]; (try simp only [u32_nt, u16_nt]); rfl, rfl, rfl⟩
theorem rgot_8 (p : Option Addr) (n c : Nat) (l : List B8) (hn : l.length = n) (h : n = 1) : Spc Try.prog 25 #[.int .i64 8, .slice p n c] [sls p 1 n (bytes l)] [] (Is (gotV (gotR 8 l))) := by
  subst h
  refine Spc.some' (g := fun p => #[.int .i64 8, .slice p 1 c]) (I := fun p => [sls p 1 1 (bytes l)]) (H := fun _ => []) (R := fun _ => Is _) (List.Mem.head _) (by decide) (fun q _ => ?_)
  refine Spc.enter Try.func25 rfl rfl rfl (fun w0 hw0 => ?_)
  refine CW.seq ?_
  refine CW.region (ef := [0]) (bk := []) ?_
  refine RL.alloc Try.zeroValue33 rfl rfl rfl rfl rfl ?_
  intro b1
  refine RL.assign rfl rfl rfl rfl ?_
  refine RL.nil ?_
  refine NQ.seq ?_
  refine CW.seq ?_
  refine CW.region (ef := []) (bk := []) ?_
  refine RL.move rfl rfl rfl rfl ?_
  refine RL.callv (rsize_any 8) Try.call18 rfl rfl rfl rfl (by repeat (first | exact Lend.nil | (refine Lend.inI ?_ ?_; (solve | (repeat (first | exact List.Mem.head _ | apply List.Mem.tail)))) | (refine Lend.inH ?_ ?_; (solve | (repeat (first | exact List.Mem.head _ | apply List.Mem.tail)))))) ?_
  refine RL.move rfl rfl rfl rfl ?_
  -- STOP: op; op 3: d=14 ["extract", ["t", 11], 0] guard=None (ref.go:83)
  rw [show sizeV 8 = .tuple #[.int .i64 1, .int .i64 0] from rfl]
  refine RL.extract rfl rfl rfl rfl rfl ?_
  refine RL.extract rfl rfl rfl rfl rfl ?_
  refine RL.assign rfl rfl rfl rfl ?_
  refine RL.assign rfl rfl rfl rfl ?_
  refine RL.nil ?_
  refine NQ.seq ?_
  refine CW.only (.cons (k := 0) rfl (.cons (k := 1) rfl (.cons (k := 4) rfl (.cons (k := 6) rfl (.cons (k := 7) rfl .nil))))) ?_
  refine CW.seq ?_
  refine CW.seq ?_
  refine CW.region (ef := []) (bk := []) ?_
  refine RL.move rfl rfl rfl rfl ?_
  refine RL.bin rfl rfl rfl rfl rfl rfl ?_
  refine RL.move rfl rfl rfl rfl ?_
  -- STOP: part 18; op 3: d=19 ["move", ["t", 6]] guard=[2, False] (ref.go:84)
  refine RL.cast (d := 18) (v' := .bool false) rfl (rfl) ?_
  refine RL.move rfl rfl rfl rfl ?_
  refine RL.move rfl rfl rfl rfl ?_
  refine RL.lenS Try.runUnderlying34 rfl rfl rfl rfl ?_
  refine RL.bin rfl rfl rfl rfl rfl rfl ?_
  refine RL.pickF rfl rfl rfl rfl rfl ?_
  refine RL.nil ?_
  refine NQ.seq ?_
  refine CW.only (.cons (k := 0) rfl (.cons (k := 1) rfl (.cons (k := 4) rfl (.cons (k := 23) rfl .nil)))) ?_
  -- STOP: if; todo top: ["code", ["cond", ["t", 23], ["seq", ["region", 3, [{"d": 24, "op": ["build", 33, []], "ty": 33, "pos": "ref.go:85", "after": [], "guard": null}, {"d": null, "op": ["store", 33, ["t", 4], ["t", 24]], 
  refine CW.condF rfl (rfl) ?_
  refine CW.skip ?_
  refine NQ.seq ?_
  refine CW.seq ?_
  refine CW.region (ef := [2, 3]) (bk := [3]) ?_
  refine RL.move rfl rfl rfl rfl ?_
  -- STOP: op; op 1: d=26 ["build", 33, [[0, ["t", 25]]]] guard=None (ref.go:87)
  refine RL.buildS (Rdg.cells (rz 8)) Try.zeroValue33 pl_33 rfl rfl rfl rfl rfl ?_
  refine RL.alloc Try.zeroValue33 rfl rfl rfl rfl rfl ?_
  intro b2
  refine RL.storeW Try.sizeOf33 rfl rfl rfl rfl rfl rfl rfl (by first | rfl | exact ones_map one8 _ | exact ones_map (fun _ => rfl) _) (by repeat (first | exact Upd.here | apply Upd.there)) (by first | rfl | assumption | (simp only [List.length_map]; assumption) | (simp only [List.length_map, List.length_replicate]; done) | (simp; done)) (by first | rfl | assumption | (simp only [List.length_map]; assumption) | (simp only [List.length_map, List.length_replicate]; done) | (simp; done)) ?_
  refine RL.nil ?_
  refine NQ.seq ?_
  refine CW.seq ?_
  refine CW.seq ?_
  refine CW.region (ef := []) (bk := []) ?_
  refine RL.move rfl rfl rfl rfl ?_
  refine RL.nil ?_
  refine NQ.seq ?_
  refine CW.block ?_
  refine CW.seq ?_
  refine CW.region (ef := []) (bk := []) ?_
  refine RL.bin rfl rfl rfl rfl rfl rfl ?_
  refine RL.assign rfl rfl rfl rfl ?_
  refine RL.nil ?_
  refine NQ.seq ?_
  -- STOP: if; todo top: ["code", ["cond", ["t", 28], ["seq", ["region", 7, [{"d": 9, "op": ["assign", ["c", ["int", "Go.IntKind.i64", 0]]], "ty": 3, "pos": "ref.go:90", "after": [], "guard": null}], false], ["block", 1, ["lo
  refine CW.condF rfl (rfl) ?_
  refine CW.seq ?_
  refine CW.region (ef := []) (bk := []) ?_
  refine RL.bin rfl rfl rfl rfl rfl rfl ?_
  refine RL.assign rfl rfl rfl rfl ?_
  refine RL.nil ?_
  refine NQ.seq ?_
  refine CW.only (.cons (k := 0) rfl (.cons (k := 1) rfl (.cons (k := 4) rfl (.cons (k := 8) rfl (.cons (k := 27) rfl (.cons (k := 53) rfl .nil)))))) ?_
  -- STOP: if; todo top: ["code", ["cond", ["t", 53], ["region", 13, [{"d": 55, "op": ["move", ["t", 1]], "ty": 34, "pos": "ref.go:95", "after": [], "guard": null}, {"d": 56, "op": ["call", ["f", 85], [["t", 55], ["c", ["int"
  refine CW.condF rfl (rfl) ?_
  refine CW.seq ?_
  refine CW.region (ef := []) (bk := []) ?_
  refine RL.bin rfl rfl rfl rfl rfl rfl ?_
  refine RL.assign rfl rfl rfl rfl ?_
  refine RL.nil ?_
  refine NQ.seq ?_
  -- STOP: if; todo top: ["code", ["cond", ["t", 59], ["region", 15, [{"d": 61, "op": ["move", ["t", 1]], "ty": 34, "pos": "ref.go:97", "after": [], "guard": null}, {"d": 62, "op": ["call", ["f", 85], [["t", 61], ["c", ["int"
  refine CW.condF rfl (rfl) ?_
  refine CW.seq ?_
  refine CW.region (ef := []) (bk := []) ?_
  refine RL.bin rfl rfl rfl rfl rfl rfl ?_
  refine RL.assign rfl rfl rfl rfl ?_
  refine RL.nil ?_
  refine NQ.seq ?_
  -- STOP: if; todo top: ["code", ["cond", ["t", 65], ["region", 17, [{"d": 67, "op": ["move", ["t", 1]], "ty": 34, "pos": "ref.go:99", "after": [], "guard": null}, {"d": 68, "op": ["call", ["f", 85], [["t", 67], ["c", ["int"
  refine CW.condF rfl (rfl) ?_
  refine CW.seq ?_
  refine CW.region (ef := []) (bk := []) ?_
  refine RL.bin rfl rfl rfl rfl rfl rfl ?_
  refine RL.assign rfl rfl rfl rfl ?_
  refine RL.nil ?_
  refine NQ.seq ?_
  refine CW.only (.cons (k := 0) rfl (.cons (k := 1) rfl (.cons (k := 4) rfl (.cons (k := 8) rfl (.cons (k := 27) rfl (.cons (k := 76) rfl .nil)))))) ?_
  -- STOP: if; todo top: ["code", ["cond", ["t", 76], ["seq", ["region", 19, [{"d": 78, "op": ["move", ["t", 1]], "ty": 34, "pos": "ref.go:101", "after": [], "guard": null}, {"d": 79, "op": ["call", ["f", 85], [["t", 78], ["c
  refine CW.condF rfl (rfl) ?_
  refine CW.seq ?_
  refine CW.region (ef := []) (bk := []) ?_
  refine RL.bin rfl rfl rfl rfl rfl rfl ?_
  refine RL.assign rfl rfl rfl rfl ?_
  refine RL.nil ?_
  refine NQ.seq ?_
  -- STOP: if; todo top: ["code", ["cond", ["t", 97], ["seq", ["region", 22, [{"d": 99, "op": ["move", ["t", 1]], "ty": 34, "pos": "ref.go:104", "after": [], "guard": null}, {"d": 100, "op": ["call", ["f", 85], [["t", 99], ["
  refine CW.condF rfl (rfl) ?_
  refine CW.seq ?_
  refine CW.region (ef := []) (bk := []) ?_
  refine RL.bin rfl rfl rfl rfl rfl rfl ?_
  refine RL.assign rfl rfl rfl rfl ?_
  refine RL.nil ?_
  refine NQ.seq ?_
  -- STOP: if; todo top: ["code", ["cond", ["t", 115], ["region", 28, [{"d": 117, "op": ["move", ["t", 1]], "ty": 34, "pos": "ref.go:109", "after": [], "guard": null}, {"d": 118, "op": ["call", ["f", 85], [["t", 117], ["c", [
  refine CW.condF rfl (rfl) ?_
  refine CW.seq ?_
  refine CW.region (ef := []) (bk := []) ?_
  refine RL.bin rfl rfl rfl rfl rfl rfl ?_
  refine RL.assign rfl rfl rfl rfl ?_
  refine RL.nil ?_
  refine NQ.seq ?_
  refine CW.only (.cons (k := 0) rfl (.cons (k := 1) rfl (.cons (k := 4) rfl (.cons (k := 8) rfl (.cons (k := 27) rfl (.cons (k := 120) rfl .nil)))))) ?_
  -- STOP: if; todo top: ["code", ["cond", ["t", 120], ["region", 30, [{"d": 122, "op": ["move", ["t", 1]], "ty": 34, "pos": "ref.go:111", "after": [], "guard": null}, {"d": 123, "op": ["indexAddr", 34, ["t", 122], ["c", ["in
  refine CW.condT rfl (rfl) ?_
  refine CW.region (ef := [4]) (bk := [4]) ?_
  refine RL.move rfl rfl rfl rfl ?_
  -- STOP: op; op 1: d=123 ["indexAddr", 34, ["t", 122], ["c", ["int", "Go.IntKind.i64", 0]]] guard=None (ref.go:111)
  have hv0 := bat_v (l := l) (o := 0) (by omega)
  refine RL.idx (j := 0) Try.runUnderlying34 Try.sizeOf5 rfl rfl rfl rfl rfl rfl (by decide) ?_
  refine RL.load Try.isAgg5 rfl rfl rfl rfl (by first | assumption | (apply Rd.get; (solve | (repeat (first | exact List.Mem.head _ | apply List.Mem.tail))); assumption) | (apply Rd.getS; (solve | (repeat (first | exact List.Mem.head _ | apply List.Mem.tail))); assumption) | (apply Rd.getO; (solve | (repeat (first | exact List.Mem.head _ | apply List.Mem.tail))); assumption) | (apply Rd.getI; (solve | (repeat (first | exact List.Mem.head _ | apply List.Mem.tail))); assumption) | (apply Rd.cel; (solve | (repeat (first | exact List.Mem.head _ | apply List.Mem.tail))); exact rfl) | (apply Rd.celI; (solve | (repeat (first | exact List.Mem.head _ | apply List.Mem.tail))); exact rfl)) ?_
  refine RL.fieldAddr fa_33_12 rfl rfl rfl rfl ?_
  refine RL.store (vs := [_]) Try.sizeOf5 rfl rfl rfl rfl rfl rfl rfl rfl rfl (by repeat (first | exact Upd.here | apply Upd.there)) ?_
  refine RL.nil ?_
  refine NQ.block ?_
  refine NQ.seq ?_
  refine CW.only (.cons (k := 0) rfl (.cons (k := 4) rfl (.cons (k := 8) rfl .nil))) ?_
  refine CW.seq ?_
  refine CW.seq ?_
  refine CW.region (ef := []) (bk := []) ?_
  refine RL.fieldAddr fa_33_12 rfl rfl rfl rfl ?_
  refine RL.load Try.isAgg5 rfl rfl rfl rfl (by first | assumption | (apply Rd.get; (solve | (repeat (first | exact List.Mem.head _ | apply List.Mem.tail))); assumption) | (apply Rd.getS; (solve | (repeat (first | exact List.Mem.head _ | apply List.Mem.tail))); assumption) | (apply Rd.getO; (solve | (repeat (first | exact List.Mem.head _ | apply List.Mem.tail))); assumption) | (apply Rd.getI; (solve | (repeat (first | exact List.Mem.head _ | apply List.Mem.tail))); assumption) | (apply Rd.cel; (solve | (repeat (first | exact List.Mem.head _ | apply List.Mem.tail))); exact rfl) | (apply Rd.celI; (solve | (repeat (first | exact List.Mem.head _ | apply List.Mem.tail))); exact rfl)) ?_
  refine RL.bin rfl rfl rfl rfl rfl rfl ?_
  refine RL.move rfl rfl rfl rfl ?_
  -- STOP: part 187; op 4: d=188 ["move", ["t", 0]] guard=[3, False] (ref.go:124)
  have hm : (getR 8 l).mode = bat l 0 := rfl
  have hq : (getR 8 l).epoch = 0 := rfl
  have hz : sizeR 8 = 1 := rfl
  refine RL.part (d := 187) rfl (fun h1 => ?_) (fun h1 => ?_)
  ·
    refine RL.skip rfl rfl rfl rfl ?_
    refine RL.skip rfl rfl rfl rfl ?_
    refine RL.skip rfl rfl rfl rfl ?_
    refine RL.skip rfl rfl rfl rfl ?_
    refine RL.skip rfl rfl rfl rfl ?_
    refine RL.skip rfl rfl rfl rfl ?_
    refine RL.skip rfl rfl rfl rfl ?_
    refine RL.pickT rfl rfl rfl rfl rfl ?_
    refine RL.nil ?_
    refine NQ.seq ?_
    refine CW.only (.cons (k := 4) rfl (.cons (k := 8) rfl (.cons (k := 195) rfl .nil))) ?_
    refine CW.condT rfl rfl ?_
    refine CW.seq ?_
    refine CW.region (ef := [1]) (bk := [1]) ?_
    refine RL.buildS _ Try.zeroValue33 pl_33 rfl rfl rfl rfl rfl ?_
    refine RL.storeW Try.sizeOf33 rfl rfl rfl rfl rfl rfl rfl (by first | rfl | exact ones_map one8 _ | exact ones_map (fun _ => rfl) _) (by repeat (first | exact Upd.here | apply Upd.there)) (by first | rfl | assumption | (simp only [List.length_map]; assumption) | (simp only [List.length_map, List.length_replicate]; done) | (simp; done)) (by first | rfl | assumption | (simp only [List.length_map]; assumption) | (simp only [List.length_map, List.length_replicate]; done) | (simp; done)) ?_
    refine RL.assign rfl rfl rfl rfl ?_
    refine RL.nil ?_
    refine NQ.seq ?_
    refine CW.ret ?_
    refine RQ.seq ?_
    -- STOP: ret; end
    have h1 : 2 < (bat l 0).toNat := by simp at h1; omega
    rw [← hm] at h1
    exact RQ.post (resWT rfl rfl rfl Try.isAgg33 Try.sizeOf33 (by repeat (first | exact List.Mem.head _ | apply List.Mem.tail)) rfl) (Split.none _) ⟨by rw [gotR, if_neg (by omega)]; rfl, rfl, rfl⟩
  ·
    refine RL.move rfl rfl rfl rfl ?_
    refine RL.bin rfl rfl rfl rfl rfl rfl ?_
    refine RL.move rfl rfl rfl rfl ?_
    -- STOP: part 190; op 7: d=191 ["fieldAddr", 33, ["t", 8], 13] guard=[6, True] (ref.go:124)
    have h1 : ¬ 2 < (bat l 0).toNat := by simp at h1; omega
    refine RL.cast (d := 190) (v' := .bool false) rfl (rfl) ?_
    refine RL.skip rfl rfl rfl rfl ?_
    refine RL.skip rfl rfl rfl rfl ?_
    refine RL.skip rfl rfl rfl rfl ?_
    refine RL.pickF rfl rfl rfl rfl rfl ?_
    refine RL.pickF rfl rfl rfl rfl rfl ?_
    refine RL.nil ?_
    refine NQ.seq ?_
    refine CW.only (.cons (k := 4) rfl (.cons (k := 8) rfl (.cons (k := 195) rfl .nil))) ?_
    refine CW.condF rfl rfl ?_
    refine CW.skip ?_
    refine NQ.seq ?_
    refine CW.seq ?_
    refine CW.region (ef := [1]) (bk := [1]) ?_
    refine RL.loadW Try.isAgg33 Try.sizeOf33 rfl rfl rfl rfl (by repeat (first | exact List.Mem.head _ | apply List.Mem.tail)) (by first | rfl | assumption | (simp only [List.length_map]; assumption) | (simp only [List.length_map, List.length_replicate]; done) | (simp; done)) ?_
    refine RL.storeW Try.sizeOf33 rfl rfl rfl rfl rfl rfl rfl (by first | rfl | exact ones_map one8 _ | exact ones_map (fun _ => rfl) _) (by repeat (first | exact Upd.here | apply Upd.there)) (by first | rfl | assumption | (simp only [List.length_map]; assumption) | (simp only [List.length_map, List.length_replicate]; done) | (simp; done)) (by first | rfl | assumption | (simp only [List.length_map]; assumption) | (simp only [List.length_map, List.length_replicate]; done) | (simp; done)) ?_
    refine RL.assign rfl rfl rfl rfl ?_
    refine RL.nil ?_
    refine NQ.seq ?_
    refine CW.ret ?_
    -- STOP: ret; end
    rw [← hm] at h1
    have hok : 1 ≤ (8 : Int) ∧ (8 : Int) ≤ 14 ∧ l.length = sizeR 8 ∧ (getR 8 l).mode.toNat ≤ 2 ∧ ¬ ((8 : Int) = 10 ∧ (getR 8 l).epoch = 0) := by refine ⟨by decide, by decide, by omega, by omega, by omega⟩
    exact RQ.post (resWT rfl rfl rfl Try.isAgg33 Try.sizeOf33 (by repeat (first | exact List.Mem.head _ | apply List.Mem.tail)) rfl) (Split.none _) ⟨by rw [gotR, if_pos hok]; (try simp only [u32_nt, u16_nt]); rfl, rfl, rfl⟩
theorem rgot_9 (p : Option Addr) (n c : Nat) (l : List B8) (hn : l.length = n) (h : n = 0) : Spc Try.prog 25 #[.int .i64 9, .slice p n c] [sls p 1 n (bytes l)] [] (Is (gotV (gotR 9 l))) := by
  subst h
  refine Spc.enter Try.func25 rfl rfl rfl (fun w0 hw0 => ?_)
  refine CW.seq ?_
  refine CW.region (ef := [0]) (bk := []) ?_
  refine RL.alloc Try.zeroValue33 rfl rfl rfl rfl rfl ?_
  intro b1
  refine RL.assign rfl rfl rfl rfl ?_
  refine RL.nil ?_
  refine NQ.seq ?_
  refine CW.seq ?_
  refine CW.region (ef := []) (bk := []) ?_
  refine RL.move rfl rfl rfl rfl ?_
  refine RL.callv (rsize_any 9) Try.call18 rfl rfl rfl rfl (by repeat (first | exact Lend.nil | (refine Lend.inI ?_ ?_; (solve | (repeat (first | exact List.Mem.head _ | apply List.Mem.tail)))) | (refine Lend.inH ?_ ?_; (solve | (repeat (first | exact List.Mem.head _ | apply List.Mem.tail)))))) ?_
  refine RL.move rfl rfl rfl rfl ?_
  -- STOP: op; op 3: d=14 ["extract", ["t", 11], 0] guard=None (ref.go:83)
  rw [show sizeV 9 = .tuple #[.int .i64 0, .int .i64 0] from rfl]
  refine RL.extract rfl rfl rfl rfl rfl ?_
  refine RL.extract rfl rfl rfl rfl rfl ?_
  refine RL.assign rfl rfl rfl rfl ?_
  refine RL.assign rfl rfl rfl rfl ?_
  refine RL.nil ?_
  refine NQ.seq ?_
  refine CW.only (.cons (k := 0) rfl (.cons (k := 1) rfl (.cons (k := 4) rfl (.cons (k := 6) rfl (.cons (k := 7) rfl .nil))))) ?_
  refine CW.seq ?_
  refine CW.seq ?_
  refine CW.region (ef := []) (bk := []) ?_
  refine RL.move rfl rfl rfl rfl ?_
  refine RL.bin rfl rfl rfl rfl rfl rfl ?_
  refine RL.move rfl rfl rfl rfl ?_
  -- STOP: part 18; op 3: d=19 ["move", ["t", 6]] guard=[2, False] (ref.go:84)
  refine RL.cast (d := 18) (v' := .bool false) rfl (rfl) ?_
  refine RL.move rfl rfl rfl rfl ?_
  refine RL.move rfl rfl rfl rfl ?_
  refine RL.lenS Try.runUnderlying34 rfl rfl rfl rfl ?_
  refine RL.bin rfl rfl rfl rfl rfl rfl ?_
  refine RL.pickF rfl rfl rfl rfl rfl ?_
  refine RL.nil ?_
  refine NQ.seq ?_
  refine CW.only (.cons (k := 0) rfl (.cons (k := 1) rfl (.cons (k := 4) rfl (.cons (k := 23) rfl .nil)))) ?_
  -- STOP: if; todo top: ["code", ["cond", ["t", 23], ["seq", ["region", 3, [{"d": 24, "op": ["build", 33, []], "ty": 33, "pos": "ref.go:85", "after": [], "guard": null}, {"d": null, "op": ["store", 33, ["t", 4], ["t", 24]], 
  refine CW.condF rfl (rfl) ?_
  refine CW.skip ?_
  refine NQ.seq ?_
  refine CW.seq ?_
  refine CW.region (ef := [2, 3]) (bk := [3]) ?_
  refine RL.move rfl rfl rfl rfl ?_
  -- STOP: op; op 1: d=26 ["build", 33, [[0, ["t", 25]]]] guard=None (ref.go:87)
  refine RL.buildS (Rdg.cells (rz 9)) Try.zeroValue33 pl_33 rfl rfl rfl rfl rfl ?_
  refine RL.alloc Try.zeroValue33 rfl rfl rfl rfl rfl ?_
  intro b2
  refine RL.storeW Try.sizeOf33 rfl rfl rfl rfl rfl rfl rfl (by first | rfl | exact ones_map one8 _ | exact ones_map (fun _ => rfl) _) (by repeat (first | exact Upd.here | apply Upd.there)) (by first | rfl | assumption | (simp only [List.length_map]; assumption) | (simp only [List.length_map, List.length_replicate]; done) | (simp; done)) (by first | rfl | assumption | (simp only [List.length_map]; assumption) | (simp only [List.length_map, List.length_replicate]; done) | (simp; done)) ?_
  refine RL.nil ?_
  refine NQ.seq ?_
  refine CW.seq ?_
  refine CW.seq ?_
  refine CW.region (ef := []) (bk := []) ?_
  refine RL.move rfl rfl rfl rfl ?_
  refine RL.nil ?_
  refine NQ.seq ?_
  refine CW.block ?_
  refine CW.seq ?_
  refine CW.region (ef := []) (bk := []) ?_
  refine RL.bin rfl rfl rfl rfl rfl rfl ?_
  refine RL.assign rfl rfl rfl rfl ?_
  refine RL.nil ?_
  refine NQ.seq ?_
  -- STOP: if; todo top: ["code", ["cond", ["t", 28], ["seq", ["region", 7, [{"d": 9, "op": ["assign", ["c", ["int", "Go.IntKind.i64", 0]]], "ty": 3, "pos": "ref.go:90", "after": [], "guard": null}], false], ["block", 1, ["lo
  refine CW.condF rfl (rfl) ?_
  refine CW.seq ?_
  refine CW.region (ef := []) (bk := []) ?_
  refine RL.bin rfl rfl rfl rfl rfl rfl ?_
  refine RL.assign rfl rfl rfl rfl ?_
  refine RL.nil ?_
  refine NQ.seq ?_
  refine CW.only (.cons (k := 0) rfl (.cons (k := 1) rfl (.cons (k := 4) rfl (.cons (k := 8) rfl (.cons (k := 27) rfl (.cons (k := 53) rfl .nil)))))) ?_
  -- STOP: if; todo top: ["code", ["cond", ["t", 53], ["region", 13, [{"d": 55, "op": ["move", ["t", 1]], "ty": 34, "pos": "ref.go:95", "after": [], "guard": null}, {"d": 56, "op": ["call", ["f", 85], [["t", 55], ["c", ["int"
  refine CW.condF rfl (rfl) ?_
  refine CW.seq ?_
  refine CW.region (ef := []) (bk := []) ?_
  refine RL.bin rfl rfl rfl rfl rfl rfl ?_
  refine RL.assign rfl rfl rfl rfl ?_
  refine RL.nil ?_
  refine NQ.seq ?_
  -- STOP: if; todo top: ["code", ["cond", ["t", 59], ["region", 15, [{"d": 61, "op": ["move", ["t", 1]], "ty": 34, "pos": "ref.go:97", "after": [], "guard": null}, {"d": 62, "op": ["call", ["f", 85], [["t", 61], ["c", ["int"
  refine CW.condF rfl (rfl) ?_
  refine CW.seq ?_
  refine CW.region (ef := []) (bk := []) ?_
  refine RL.bin rfl rfl rfl rfl rfl rfl ?_
  refine RL.assign rfl rfl rfl rfl ?_
  refine RL.nil ?_
  refine NQ.seq ?_
  -- STOP: if; todo top: ["code", ["cond", ["t", 65], ["region", 17, [{"d": 67, "op": ["move", ["t", 1]], "ty": 34, "pos": "ref.go:99", "after": [], "guard": null}, {"d": 68, "op": ["call", ["f", 85], [["t", 67], ["c", ["int"
  refine CW.condF rfl (rfl) ?_
  refine CW.seq ?_
  refine CW.region (ef := []) (bk := []) ?_
  refine RL.bin rfl rfl rfl rfl rfl rfl ?_
  refine RL.assign rfl rfl rfl rfl ?_
  refine RL.nil ?_
  refine NQ.seq ?_
  refine CW.only (.cons (k := 0) rfl (.cons (k := 1) rfl (.cons (k := 4) rfl (.cons (k := 8) rfl (.cons (k := 27) rfl (.cons (k := 76) rfl .nil)))))) ?_
  -- STOP: if; todo top: ["code", ["cond", ["t", 76], ["seq", ["region", 19, [{"d": 78, "op": ["move", ["t", 1]], "ty": 34, "pos": "ref.go:101", "after": [], "guard": null}, {"d": 79, "op": ["call", ["f", 85], [["t", 78], ["c
  refine CW.condF rfl (rfl) ?_
  refine CW.seq ?_
  refine CW.region (ef := []) (bk := []) ?_
  refine RL.bin rfl rfl rfl rfl rfl rfl ?_
  refine RL.assign rfl rfl rfl rfl ?_
  refine RL.nil ?_
  refine NQ.seq ?_
  -- STOP: if; todo top: ["code", ["cond", ["t", 97], ["seq", ["region", 22, [{"d": 99, "op": ["move", ["t", 1]], "ty": 34, "pos": "ref.go:104", "after": [], "guard": null}, {"d": 100, "op": ["call", ["f", 85], [["t", 99], ["
  refine CW.condF rfl (rfl) ?_
  refine CW.seq ?_
  refine CW.region (ef := []) (bk := []) ?_
  refine RL.bin rfl rfl rfl rfl rfl rfl ?_
  refine RL.assign rfl rfl rfl rfl ?_
  refine RL.nil ?_
  refine NQ.seq ?_
  -- STOP: if; todo top: ["code", ["cond", ["t", 115], ["region", 28, [{"d": 117, "op": ["move", ["t", 1]], "ty": 34, "pos": "ref.go:109", "after": [], "guard": null}, {"d": 118, "op": ["call", ["f", 85], [["t", 117], ["c", [
  refine CW.condF rfl (rfl) ?_
  refine CW.seq ?_
  refine CW.region (ef := []) (bk := []) ?_
  refine RL.bin rfl rfl rfl rfl rfl rfl ?_
  refine RL.assign rfl rfl rfl rfl ?_
  refine RL.nil ?_
  refine NQ.seq ?_
  refine CW.only (.cons (k := 0) rfl (.cons (k := 1) rfl (.cons (k := 4) rfl (.cons (k := 8) rfl (.cons (k := 27) rfl (.cons (k := 120) rfl .nil)))))) ?_
  -- STOP: if; todo top: ["code", ["cond", ["t", 120], ["region", 30, [{"d": 122, "op": ["move", ["t", 1]], "ty": 34, "pos": "ref.go:111", "after": [], "guard": null}, {"d": 123, "op": ["indexAddr", 34, ["t", 122], ["c", ["in
  refine CW.condF rfl (rfl) ?_
  refine CW.seq ?_
  refine CW.region (ef := []) (bk := []) ?_
  refine RL.bin rfl rfl rfl rfl rfl rfl ?_
  refine RL.assign rfl rfl rfl rfl ?_
  refine RL.nil ?_
  refine NQ.seq ?_
  -- STOP: if; todo top: ["code", ["cond", ["t", 126], ["region", 32, [{"d": 128, "op": ["move", ["t", 1]], "ty": 34, "pos": "ref.go:113", "after": [], "guard": null}, {"d": 129, "op": ["call", ["f", 85], [["t", 128], ["c", [
  refine CW.condF rfl (rfl) ?_
  refine CW.seq ?_
  refine CW.region (ef := []) (bk := []) ?_
  refine RL.bin rfl rfl rfl rfl rfl rfl ?_
  refine RL.assign rfl rfl rfl rfl ?_
  refine RL.nil ?_
  refine NQ.seq ?_
  -- STOP: if; todo top: ["code", ["cond", ["t", 132], ["region", 34, [{"d": 134, "op": ["move", ["t", 1]], "ty": 34, "pos": "ref.go:115", "after": [], "guard": null}, {"d": 135, "op": ["indexAddr", 34, ["t", 134], ["c", ["in
  refine CW.condF rfl (rfl) ?_
  refine CW.seq ?_
  refine CW.region (ef := []) (bk := []) ?_
  refine RL.bin rfl rfl rfl rfl rfl rfl ?_
  refine RL.assign rfl rfl rfl rfl ?_
  refine RL.nil ?_
  refine NQ.seq ?_
  refine CW.only (.cons (k := 0) rfl (.cons (k := 1) rfl (.cons (k := 4) rfl (.cons (k := 8) rfl (.cons (k := 27) rfl (.cons (k := 138) rfl .nil)))))) ?_
  -- STOP: if; todo top: ["code", ["cond", ["t", 138], ["seq", ["region", 36, [{"d": 140, "op": ["move", ["t", 1]], "ty": 34, "pos": "ref.go:117", "after": [], "guard": null}, {"d": 141, "op": ["indexAddr", 34, ["t", 140], ["
  refine CW.condF rfl (rfl) ?_
  refine CW.seq ?_
  refine CW.region (ef := []) (bk := []) ?_
  refine RL.bin rfl rfl rfl rfl rfl rfl ?_
  refine RL.assign rfl rfl rfl rfl ?_
  refine RL.nil ?_
  refine NQ.seq ?_
  -- STOP: if; todo top: ["code", ["cond", ["t", 163], ["seq", ["region", 40, [{"d": 165, "op": ["move", ["t", 1]], "ty": 34, "pos": "ref.go:121", "after": [], "guard": null}, {"d": 166, "op": ["indexAddr", 34, ["t", 165], ["
  refine CW.condF rfl (rfl) ?_
  refine CW.skip ?_
  refine NQ.block ?_
  refine NQ.seq ?_
  refine CW.seq ?_
  refine CW.seq ?_
  refine CW.region (ef := []) (bk := []) ?_
  refine RL.fieldAddr fa_33_12 rfl rfl rfl rfl ?_
  refine RL.load Try.isAgg5 rfl rfl rfl rfl (by first | assumption | (apply Rd.get; (solve | (repeat (first | exact List.Mem.head _ | apply List.Mem.tail))); assumption) | (apply Rd.getS; (solve | (repeat (first | exact List.Mem.head _ | apply List.Mem.tail))); assumption) | (apply Rd.getO; (solve | (repeat (first | exact List.Mem.head _ | apply List.Mem.tail))); assumption) | (apply Rd.getI; (solve | (repeat (first | exact List.Mem.head _ | apply List.Mem.tail))); assumption) | (apply Rd.cel; (solve | (repeat (first | exact List.Mem.head _ | apply List.Mem.tail))); exact rfl) | (apply Rd.celI; (solve | (repeat (first | exact List.Mem.head _ | apply List.Mem.tail))); exact rfl)) ?_
  refine RL.bin rfl rfl rfl rfl rfl rfl ?_
  refine RL.move rfl rfl rfl rfl ?_
  -- STOP: part 187; op 4: d=188 ["move", ["t", 0]] guard=[3, False] (ref.go:124)
  have hm : (getR 9 l).mode = 0#8 := rfl
  have hq : (getR 9 l).epoch = 0 := rfl
  have hz : sizeR 9 = 0 := rfl
  refine RL.cast (d := 187) (v' := .bool false) rfl (rfl) ?_
  refine RL.move rfl rfl rfl rfl ?_
  refine RL.bin rfl rfl rfl rfl rfl rfl ?_
  refine RL.move rfl rfl rfl rfl ?_
  -- STOP: part 190; op 7: d=191 ["fieldAddr", 33, ["t", 8], 13] guard=[6, True] (ref.go:124)
  refine RL.cast (d := 190) (v' := .bool false) rfl (rfl) ?_
  refine RL.skip rfl rfl rfl rfl ?_
  refine RL.skip rfl rfl rfl rfl ?_
  refine RL.skip rfl rfl rfl rfl ?_
  refine RL.pickF rfl rfl rfl rfl rfl ?_
  refine RL.pickF rfl rfl rfl rfl rfl ?_
  refine RL.nil ?_
  refine NQ.seq ?_
  refine CW.only (.cons (k := 4) rfl (.cons (k := 8) rfl (.cons (k := 195) rfl .nil))) ?_
  refine CW.condF rfl rfl ?_
  refine CW.skip ?_
  refine NQ.seq ?_
  refine CW.seq ?_
  refine CW.region (ef := [1]) (bk := [1]) ?_
  refine RL.loadW Try.isAgg33 Try.sizeOf33 rfl rfl rfl rfl (by repeat (first | exact List.Mem.head _ | apply List.Mem.tail)) (by first | rfl | assumption | (simp only [List.length_map]; assumption) | (simp only [List.length_map, List.length_replicate]; done) | (simp; done)) ?_
  refine RL.storeW Try.sizeOf33 rfl rfl rfl rfl rfl rfl rfl (by first | rfl | exact ones_map one8 _ | exact ones_map (fun _ => rfl) _) (by repeat (first | exact Upd.here | apply Upd.there)) (by first | rfl | assumption | (simp only [List.length_map]; assumption) | (simp only [List.length_map, List.length_replicate]; done) | (simp; done)) (by first | rfl | assumption | (simp only [List.length_map]; assumption) | (simp only [List.length_map, List.length_replicate]; done) | (simp; done)) ?_
  refine RL.assign rfl rfl rfl rfl ?_
  refine RL.nil ?_
  refine NQ.seq ?_
  refine CW.ret ?_
  -- STOP: ret; end
  have hok : 1 ≤ (9 : Int) ∧ (9 : Int) ≤ 14 ∧ l.length = sizeR 9 ∧ (getR 9 l).mode.toNat ≤ 2 ∧ ¬ ((9 : Int) = 10 ∧ (getR 9 l).epoch = 0) := by refine ⟨by decide, by decide, by omega, by rw [hm]; decide, by omega⟩
  exact RQ.post (resWT rfl rfl rfl Try.isAgg33 Try.sizeOf33 (by repeat (first | exact List.Mem.head _ | apply List.Mem.tail)) rfl) (Split.none _) ⟨by rw [gotR, if_pos hok]; (try simp only [u32_nt, u16_nt]); rfl, rfl, rfl⟩
theorem rgot_10 (p : Option Addr) (n c : Nat) (l : List B8) (hn : l.length = n) (h : n = 4) : Spc Try.prog 25 #[.int .i64 10, .slice p n c] [sls p 1 n (bytes l)] [] (Is (gotV (gotR 10 l))) := by
  subst h
  refine Spc.some' (g := fun p => #[.int .i64 10, .slice p 4 c]) (I := fun p => [sls p 1 4 (bytes l)]) (H := fun _ => []) (R := fun _ => Is _) (List.Mem.head _) (by decide) (fun q _ => ?_)
  refine Spc.enter Try.func25 rfl rfl rfl (fun w0 hw0 => ?_)
  refine CW.seq ?_
  refine CW.region (ef := [0]) (bk := []) ?_
  refine RL.alloc Try.zeroValue33 rfl rfl rfl rfl rfl ?_
  intro b1
  refine RL.assign rfl rfl rfl rfl ?_
  refine RL.nil ?_
  refine NQ.seq ?_
  refine CW.seq ?_
  refine CW.region (ef := []) (bk := []) ?_
  refine RL.move rfl rfl rfl rfl ?_
  refine RL.callv (rsize_any 10) Try.call18 rfl rfl rfl rfl (by repeat (first | exact Lend.nil | (refine Lend.inI ?_ ?_; (solve | (repeat (first | exact List.Mem.head _ | apply List.Mem.tail)))) | (refine Lend.inH ?_ ?_; (solve | (repeat (first | exact List.Mem.head _ | apply List.Mem.tail)))))) ?_
  refine RL.move rfl rfl rfl rfl ?_
  -- STOP: op; op 3: d=14 ["extract", ["t", 11], 0] guard=None (ref.go:83)
  rw [show sizeV 10 = .tuple #[.int .i64 4, .int .i64 0] from rfl]
  refine RL.extract rfl rfl rfl rfl rfl ?_
  refine RL.extract rfl rfl rfl rfl rfl ?_
  refine RL.assign rfl rfl rfl rfl ?_
  refine RL.assign rfl rfl rfl rfl ?_
  refine RL.nil ?_
  refine NQ.seq ?_
  refine CW.only (.cons (k := 0) rfl (.cons (k := 1) rfl (.cons (k := 4) rfl (.cons (k := 6) rfl (.cons (k := 7) rfl .nil))))) ?_
  refine CW.seq ?_
  refine CW.seq ?_
  refine CW.region (ef := []) (bk := []) ?_
  refine RL.move rfl rfl rfl rfl ?_
  refine RL.bin rfl rfl rfl rfl rfl rfl ?_
  refine RL.move rfl rfl rfl rfl ?_
  -- STOP: part 18; op 3: d=19 ["move", ["t", 6]] guard=[2, False] (ref.go:84)
  refine RL.cast (d := 18) (v' := .bool false) rfl (rfl) ?_
  refine RL.move rfl rfl rfl rfl ?_
  refine RL.move rfl rfl rfl rfl ?_
  refine RL.lenS Try.runUnderlying34 rfl rfl rfl rfl ?_
  refine RL.bin rfl rfl rfl rfl rfl rfl ?_
  refine RL.pickF rfl rfl rfl rfl rfl ?_
  refine RL.nil ?_
  refine NQ.seq ?_
  refine CW.only (.cons (k := 0) rfl (.cons (k := 1) rfl (.cons (k := 4) rfl (.cons (k := 23) rfl .nil)))) ?_
  -- STOP: if; todo top: ["code", ["cond", ["t", 23], ["seq", ["region", 3, [{"d": 24, "op": ["build", 33, []], "ty": 33, "pos": "ref.go:85", "after": [], "guard": null}, {"d": null, "op": ["store", 33, ["t", 4], ["t", 24]], 
  refine CW.condF rfl (rfl) ?_
  refine CW.skip ?_
  refine NQ.seq ?_
  refine CW.seq ?_
  refine CW.region (ef := [2, 3]) (bk := [3]) ?_
  refine RL.move rfl rfl rfl rfl ?_
  -- STOP: op; op 1: d=26 ["build", 33, [[0, ["t", 25]]]] guard=None (ref.go:87)
  refine RL.buildS (Rdg.cells (rz 10)) Try.zeroValue33 pl_33 rfl rfl rfl rfl rfl ?_
  refine RL.alloc Try.zeroValue33 rfl rfl rfl rfl rfl ?_
  intro b2
  refine RL.storeW Try.sizeOf33 rfl rfl rfl rfl rfl rfl rfl (by first | rfl | exact ones_map one8 _ | exact ones_map (fun _ => rfl) _) (by repeat (first | exact Upd.here | apply Upd.there)) (by first | rfl | assumption | (simp only [List.length_map]; assumption) | (simp only [List.length_map, List.length_replicate]; done) | (simp; done)) (by first | rfl | assumption | (simp only [List.length_map]; assumption) | (simp only [List.length_map, List.length_replicate]; done) | (simp; done)) ?_
  refine RL.nil ?_
  refine NQ.seq ?_
  refine CW.seq ?_
  refine CW.seq ?_
  refine CW.region (ef := []) (bk := []) ?_
  refine RL.move rfl rfl rfl rfl ?_
  refine RL.nil ?_
  refine NQ.seq ?_
  refine CW.block ?_
  refine CW.seq ?_
  refine CW.region (ef := []) (bk := []) ?_
  refine RL.bin rfl rfl rfl rfl rfl rfl ?_
  refine RL.assign rfl rfl rfl rfl ?_
  refine RL.nil ?_
  refine NQ.seq ?_
  -- STOP: if; todo top: ["code", ["cond", ["t", 28], ["seq", ["region", 7, [{"d": 9, "op": ["assign", ["c", ["int", "Go.IntKind.i64", 0]]], "ty": 3, "pos": "ref.go:90", "after": [], "guard": null}], false], ["block", 1, ["lo
  refine CW.condF rfl (rfl) ?_
  refine CW.seq ?_
  refine CW.region (ef := []) (bk := []) ?_
  refine RL.bin rfl rfl rfl rfl rfl rfl ?_
  refine RL.assign rfl rfl rfl rfl ?_
  refine RL.nil ?_
  refine NQ.seq ?_
  refine CW.only (.cons (k := 0) rfl (.cons (k := 1) rfl (.cons (k := 4) rfl (.cons (k := 8) rfl (.cons (k := 27) rfl (.cons (k := 53) rfl .nil)))))) ?_
  -- STOP: if; todo top: ["code", ["cond", ["t", 53], ["region", 13, [{"d": 55, "op": ["move", ["t", 1]], "ty": 34, "pos": "ref.go:95", "after": [], "guard": null}, {"d": 56, "op": ["call", ["f", 85], [["t", 55], ["c", ["int"
  refine CW.condF rfl (rfl) ?_
  refine CW.seq ?_
  refine CW.region (ef := []) (bk := []) ?_
  refine RL.bin rfl rfl rfl rfl rfl rfl ?_
  refine RL.assign rfl rfl rfl rfl ?_
  refine RL.nil ?_
  refine NQ.seq ?_
  -- STOP: if; todo top: ["code", ["cond", ["t", 59], ["region", 15, [{"d": 61, "op": ["move", ["t", 1]], "ty": 34, "pos": "ref.go:97", "after": [], "guard": null}, {"d": 62, "op": ["call", ["f", 85], [["t", 61], ["c", ["int"
  refine CW.condF rfl (rfl) ?_
  refine CW.seq ?_
  refine CW.region (ef := []) (bk := []) ?_
  refine RL.bin rfl rfl rfl rfl rfl rfl ?_
  refine RL.assign rfl rfl rfl rfl ?_
  refine RL.nil ?_
  refine NQ.seq ?_
  -- STOP: if; todo top: ["code", ["cond", ["t", 65], ["region", 17, [{"d": 67, "op": ["move", ["t", 1]], "ty": 34, "pos": "ref.go:99", "after": [], "guard": null}, {"d": 68, "op": ["call", ["f", 85], [["t", 67], ["c", ["int"
  refine CW.condF rfl (rfl) ?_
  refine CW.seq ?_
  refine CW.region (ef := []) (bk := []) ?_
  refine RL.bin rfl rfl rfl rfl rfl rfl ?_
  refine RL.assign rfl rfl rfl rfl ?_
  refine RL.nil ?_
  refine NQ.seq ?_
  refine CW.only (.cons (k := 0) rfl (.cons (k := 1) rfl (.cons (k := 4) rfl (.cons (k := 8) rfl (.cons (k := 27) rfl (.cons (k := 76) rfl .nil)))))) ?_
  -- STOP: if; todo top: ["code", ["cond", ["t", 76], ["seq", ["region", 19, [{"d": 78, "op": ["move", ["t", 1]], "ty": 34, "pos": "ref.go:101", "after": [], "guard": null}, {"d": 79, "op": ["call", ["f", 85], [["t", 78], ["c
  refine CW.condF rfl (rfl) ?_
  refine CW.seq ?_
  refine CW.region (ef := []) (bk := []) ?_
  refine RL.bin rfl rfl rfl rfl rfl rfl ?_
  refine RL.assign rfl rfl rfl rfl ?_
  refine RL.nil ?_
  refine NQ.seq ?_
  -- STOP: if; todo top: ["code", ["cond", ["t", 97], ["seq", ["region", 22, [{"d": 99, "op": ["move", ["t", 1]], "ty": 34, "pos": "ref.go:104", "after": [], "guard": null}, {"d": 100, "op": ["call", ["f", 85], [["t", 99], ["
  refine CW.condF rfl (rfl) ?_
  refine CW.seq ?_
  refine CW.region (ef := []) (bk := []) ?_
  refine RL.bin rfl rfl rfl rfl rfl rfl ?_
  refine RL.assign rfl rfl rfl rfl ?_
  refine RL.nil ?_
  refine NQ.seq ?_
  -- STOP: if; todo top: ["code", ["cond", ["t", 115], ["region", 28, [{"d": 117, "op": ["move", ["t", 1]], "ty": 34, "pos": "ref.go:109", "after": [], "guard": null}, {"d": 118, "op": ["call", ["f", 85], [["t", 117], ["c", [
  refine CW.condF rfl (rfl) ?_
  refine CW.seq ?_
  refine CW.region (ef := []) (bk := []) ?_
  refine RL.bin rfl rfl rfl rfl rfl rfl ?_
  refine RL.assign rfl rfl rfl rfl ?_
  refine RL.nil ?_
  refine NQ.seq ?_
  refine CW.only (.cons (k := 0) rfl (.cons (k := 1) rfl (.cons (k := 4) rfl (.cons (k := 8) rfl (.cons (k := 27) rfl (.cons (k := 120) rfl .nil)))))) ?_
  -- STOP: if; todo top: ["code", ["cond", ["t", 120], ["region", 30, [{"d": 122, "op": ["move", ["t", 1]], "ty": 34, "pos": "ref.go:111", "after": [], "guard": null}, {"d": 123, "op": ["indexAddr", 34, ["t", 122], ["c", ["in
  refine CW.condF rfl (rfl) ?_
  refine CW.seq ?_
  refine CW.region (ef := []) (bk := []) ?_
  refine RL.bin rfl rfl rfl rfl rfl rfl ?_
  refine RL.assign rfl rfl rfl rfl ?_
  refine RL.nil ?_
  refine NQ.seq ?_
  -- STOP: if; todo top: ["code", ["cond", ["t", 126], ["region", 32, [{"d": 128, "op": ["move", ["t", 1]], "ty": 34, "pos": "ref.go:113", "after": [], "guard": null}, {"d": 129, "op": ["call", ["f", 85], [["t", 128], ["c", [
  refine CW.condT rfl (rfl) ?_
  refine CW.region (ef := [4]) (bk := [4]) ?_
  refine RL.move rfl rfl rfl rfl ?_
  refine RL.callv (rnat_any (some q) 4 c 0 4 l hn (by decide) (by decide) (by decide)) Try.call85 rfl rfl rfl rfl (by repeat (first | exact Lend.nil | (refine Lend.inI ?_ ?_; (solve | (repeat (first | exact List.Mem.head _ | apply List.Mem.tail)))) | (refine Lend.inH ?_ ?_; (solve | (repeat (first | exact List.Mem.head _ | apply List.Mem.tail)))))) ?_
  refine RL.conv Try.runUnderlying30 Try.runUnderlying25 rfl rfl rfl rfl ?_
  refine RL.fieldAddr fa_33_13 rfl rfl rfl rfl ?_
  refine RL.store (vs := [_]) Try.sizeOf25 rfl rfl rfl rfl rfl rfl rfl rfl rfl (by repeat (first | exact Upd.here | apply Upd.there)) ?_
  refine RL.nil ?_
  refine NQ.block ?_
  refine NQ.seq ?_
  refine CW.only (.cons (k := 0) rfl (.cons (k := 4) rfl (.cons (k := 8) rfl .nil))) ?_
  refine CW.seq ?_
  refine CW.seq ?_
  refine CW.region (ef := []) (bk := []) ?_
  refine RL.fieldAddr fa_33_12 rfl rfl rfl rfl ?_
  refine RL.load Try.isAgg5 rfl rfl rfl rfl (by first | assumption | (apply Rd.get; (solve | (repeat (first | exact List.Mem.head _ | apply List.Mem.tail))); assumption) | (apply Rd.getS; (solve | (repeat (first | exact List.Mem.head _ | apply List.Mem.tail))); assumption) | (apply Rd.getO; (solve | (repeat (first | exact List.Mem.head _ | apply List.Mem.tail))); assumption) | (apply Rd.getI; (solve | (repeat (first | exact List.Mem.head _ | apply List.Mem.tail))); assumption) | (apply Rd.cel; (solve | (repeat (first | exact List.Mem.head _ | apply List.Mem.tail))); exact rfl) | (apply Rd.celI; (solve | (repeat (first | exact List.Mem.head _ | apply List.Mem.tail))); exact rfl)) ?_
  refine RL.bin rfl rfl rfl rfl rfl rfl ?_
  refine RL.move rfl rfl rfl rfl ?_
  -- STOP: part 187; op 4: d=188 ["move", ["t", 0]] guard=[3, False] (ref.go:124)
  have hm : (getR 10 l).mode = 0#8 := rfl
  have hq : (getR 10 l).epoch = (nat l 0 4 : Int) := rfl
  have hz : sizeR 10 = 4 := rfl
  refine RL.cast (d := 187) (v' := .bool false) rfl (rfl) ?_
  refine RL.move rfl rfl rfl rfl ?_
  refine RL.bin rfl rfl rfl rfl rfl rfl ?_
  refine RL.move rfl rfl rfl rfl ?_
  -- STOP: part 190; op 7: d=191 ["fieldAddr", 33, ["t", 8], 13] guard=[6, True] (ref.go:124)
  refine RL.cast (d := 190) (v' := .bool true) rfl (rfl) ?_
  refine RL.fieldAddr fa_33_13 rfl rfl rfl rfl ?_
  refine RL.load Try.isAgg25 rfl rfl rfl rfl (by first | assumption | (apply Rd.get; (solve | (repeat (first | exact List.Mem.head _ | apply List.Mem.tail))); assumption) | (apply Rd.getS; (solve | (repeat (first | exact List.Mem.head _ | apply List.Mem.tail))); assumption) | (apply Rd.getO; (solve | (repeat (first | exact List.Mem.head _ | apply List.Mem.tail))); assumption) | (apply Rd.getI; (solve | (repeat (first | exact List.Mem.head _ | apply List.Mem.tail))); assumption) | (apply Rd.cel; (solve | (repeat (first | exact List.Mem.head _ | apply List.Mem.tail))); exact rfl) | (apply Rd.celI; (solve | (repeat (first | exact List.Mem.head _ | apply List.Mem.tail))); exact rfl)) ?_
  refine RL.bin rfl rfl rfl rfl rfl rfl ?_
  refine RL.pickT rfl rfl rfl rfl rfl ?_
  refine RL.pickF rfl rfl rfl rfl rfl ?_
  refine RL.nil ?_
  refine NQ.seq ?_
  refine CW.only (.cons (k := 4) rfl (.cons (k := 8) rfl (.cons (k := 195) rfl .nil))) ?_
  -- STOP: if; todo top: ["code", ["cond", ["t", 195], ["seq", ["region", 43, [{"d": 196, "op": ["build", 33, []], "ty": 33, "pos": "ref.go:125", "after": [], "guard": null}, {"d": null, "op": ["store", 33, ["t", 4], ["t", 19
  refine CW.cond rfl (fun h3 => ?_) (fun h3 => ?_)
  ·
    refine CW.seq ?_
    refine CW.region (ef := [1]) (bk := [1]) ?_
    refine RL.buildS _ Try.zeroValue33 pl_33 rfl rfl rfl rfl rfl ?_
    refine RL.storeW Try.sizeOf33 rfl rfl rfl rfl rfl rfl rfl (by first | rfl | exact ones_map one8 _ | exact ones_map (fun _ => rfl) _) (by repeat (first | exact Upd.here | apply Upd.there)) (by first | rfl | assumption | (simp only [List.length_map]; assumption) | (simp only [List.length_map, List.length_replicate]; done) | (simp; done)) (by first | rfl | assumption | (simp only [List.length_map]; assumption) | (simp only [List.length_map, List.length_replicate]; done) | (simp; done)) ?_
    refine RL.assign rfl rfl rfl rfl ?_
    refine RL.nil ?_
    refine NQ.seq ?_
    refine CW.ret ?_
    refine RQ.seq ?_
    -- STOP: ret; end
    have h3 : (nat l 0 4 : Int) = 0 := by simpa [u32_nt] using h3
    rw [← hq] at h3
    exact RQ.post (resWT rfl rfl rfl Try.isAgg33 Try.sizeOf33 (by repeat (first | exact List.Mem.head _ | apply List.Mem.tail)) rfl) (Split.none _) ⟨by rw [gotR, if_neg (by omega)]; rfl, rfl, rfl⟩
  ·
    refine CW.skip ?_
    refine NQ.seq ?_
    refine CW.seq ?_
    refine CW.region (ef := [1]) (bk := [1]) ?_
    refine RL.loadW Try.isAgg33 Try.sizeOf33 rfl rfl rfl rfl (by repeat (first | exact List.Mem.head _ | apply List.Mem.tail)) (by first | rfl | assumption | (simp only [List.length_map]; assumption) | (simp only [List.length_map, List.length_replicate]; done) | (simp; done)) ?_
    refine RL.storeW Try.sizeOf33 rfl rfl rfl rfl rfl rfl rfl (by first | rfl | exact ones_map one8 _ | exact ones_map (fun _ => rfl) _) (by repeat (first | exact Upd.here | apply Upd.there)) (by first | rfl | assumption | (simp only [List.length_map]; assumption) | (simp only [List.length_map, List.length_replicate]; done) | (simp; done)) (by first | rfl | assumption | (simp only [List.length_map]; assumption) | (simp only [List.length_map, List.length_replicate]; done) | (simp; done)) ?_
    refine RL.assign rfl rfl rfl rfl ?_
    refine RL.nil ?_
    refine NQ.seq ?_
    refine CW.ret ?_
    -- STOP: ret; end
    have h3 : ¬ (nat l 0 4 : Int) = 0 := by simpa [u32_nt] using h3
    rw [← hq] at h3
    have hok : 1 ≤ (10 : Int) ∧ (10 : Int) ≤ 14 ∧ l.length = sizeR 10 ∧ (getR 10 l).mode.toNat ≤ 2 ∧ ¬ ((10 : Int) = 10 ∧ (getR 10 l).epoch = 0) := by refine ⟨by decide, by decide, by omega, by rw [hm]; decide, fun h => h3 h.2⟩
    exact RQ.post (resWT rfl rfl rfl Try.isAgg33 Try.sizeOf33 (by repeat (first | exact List.Mem.head _ | apply List.Mem.tail)) rfl) (Split.none _) ⟨by rw [gotR, if_pos hok]; (try simp only [u32_nt, u16_nt]); rfl, rfl, rfl⟩
theorem rgot_11 (p : Option Addr) (n c : Nat) (l : List B8) (hn : l.length = n) (h : n = 0) : Spc Try.prog 25 #[.int .i64 11, .slice p n c] [sls p 1 n (bytes l)] [] (Is (gotV (gotR 11 l))) := by
  subst h
  refine Spc.enter Try.func25 rfl rfl rfl (fun w0 hw0 => ?_)
  refine CW.seq ?_
  refine CW.region (ef := [0]) (bk := []) ?_
  refine RL.alloc Try.zeroValue33 rfl rfl rfl rfl rfl ?_
  intro b1
  refine RL.assign rfl rfl rfl rfl ?_
  refine RL.nil ?_
  refine NQ.seq ?_
  refine CW.seq ?_
  refine CW.region (ef := []) (bk := []) ?_
  refine RL.move rfl rfl rfl rfl ?_
  refine RL.callv (rsize_any 11) Try.call18 rfl rfl rfl rfl (by repeat (first | exact Lend.nil | (refine Lend.inI ?_ ?_; (solve | (repeat (first | exact List.Mem.head _ | apply List.Mem.tail)))) | (refine Lend.inH ?_ ?_; (solve | (repeat (first | exact List.Mem.head _ | apply List.Mem.tail)))))) ?_
  refine RL.move rfl rfl rfl rfl ?_
  -- STOP: op; op 3: d=14 ["extract", ["t", 11], 0] guard=None (ref.go:83)
  rw [show sizeV 11 = .tuple #[.int .i64 0, .int .i64 0] from rfl]
  refine RL.extract rfl rfl rfl rfl rfl ?_
  refine RL.extract rfl rfl rfl rfl rfl ?_
  refine RL.assign rfl rfl rfl rfl ?_
  refine RL.assign rfl rfl rfl rfl ?_
  refine RL.nil ?_
  refine NQ.seq ?_
  refine CW.only (.cons (k := 0) rfl (.cons (k := 1) rfl (.cons (k := 4) rfl (.cons (k := 6) rfl (.cons (k := 7) rfl .nil))))) ?_
  refine CW.seq ?_
  refine CW.seq ?_
  refine CW.region (ef := []) (bk := []) ?_
  refine RL.move rfl rfl rfl rfl ?_
  refine RL.bin rfl rfl rfl rfl rfl rfl ?_
  refine RL.move rfl rfl rfl rfl ?_
  -- STOP: part 18; op 3: d=19 ["move", ["t", 6]] guard=[2, False] (ref.go:84)
  refine RL.cast (d := 18) (v' := .bool false) rfl (rfl) ?_
  refine RL.move rfl rfl rfl rfl ?_
  refine RL.move rfl rfl rfl rfl ?_
  refine RL.lenS Try.runUnderlying34 rfl rfl rfl rfl ?_
  refine RL.bin rfl rfl rfl rfl rfl rfl ?_
  refine RL.pickF rfl rfl rfl rfl rfl ?_
  refine RL.nil ?_
  refine NQ.seq ?_
  refine CW.only (.cons (k := 0) rfl (.cons (k := 1) rfl (.cons (k := 4) rfl (.cons (k := 23) rfl .nil)))) ?_
  -- STOP: if; todo top: ["code", ["cond", ["t", 23], ["seq", ["region", 3, [{"d": 24, "op": ["build", 33, []], "ty": 33, "pos": "ref.go:85", "after": [], "guard": null}, {"d": null, "op": ["store", 33, ["t", 4], ["t", 24]], 
  refine CW.condF rfl (rfl) ?_
  refine CW.skip ?_
  refine NQ.seq ?_
  refine CW.seq ?_
  refine CW.region (ef := [2, 3]) (bk := [3]) ?_
  refine RL.move rfl rfl rfl rfl ?_
  -- STOP: op; op 1: d=26 ["build", 33, [[0, ["t", 25]]]] guard=None (ref.go:87)
  refine RL.buildS (Rdg.cells (rz 11)) Try.zeroValue33 pl_33 rfl rfl rfl rfl rfl ?_
  refine RL.alloc Try.zeroValue33 rfl rfl rfl rfl rfl ?_
  intro b2
  refine RL.storeW Try.sizeOf33 rfl rfl rfl rfl rfl rfl rfl (by first | rfl | exact ones_map one8 _ | exact ones_map (fun _ => rfl) _) (by repeat (first | exact Upd.here | apply Upd.there)) (by first | rfl | assumption | (simp only [List.length_map]; assumption) | (simp only [List.length_map, List.length_replicate]; done) | (simp; done)) (by first | rfl | assumption | (simp only [List.length_map]; assumption) | (simp only [List.length_map, List.length_replicate]; done) | (simp; done)) ?_
  refine RL.nil ?_
  refine NQ.seq ?_
  refine CW.seq ?_
  refine CW.seq ?_
  refine CW.region (ef := []) (bk := []) ?_
  refine RL.move rfl rfl rfl rfl ?_
  refine RL.nil ?_
  refine NQ.seq ?_
  refine CW.block ?_
  refine CW.seq ?_
  refine CW.region (ef := []) (bk := []) ?_
  refine RL.bin rfl rfl rfl rfl rfl rfl ?_
  refine RL.assign rfl rfl rfl rfl ?_
  refine RL.nil ?_
  refine NQ.seq ?_
  -- STOP: if; todo top: ["code", ["cond", ["t", 28], ["seq", ["region", 7, [{"d": 9, "op": ["assign", ["c", ["int", "Go.IntKind.i64", 0]]], "ty": 3, "pos": "ref.go:90", "after": [], "guard": null}], false], ["block", 1, ["lo
  refine CW.condF rfl (rfl) ?_
  refine CW.seq ?_
  refine CW.region (ef := []) (bk := []) ?_
  refine RL.bin rfl rfl rfl rfl rfl rfl ?_
  refine RL.assign rfl rfl rfl rfl ?_
  refine RL.nil ?_
  refine NQ.seq ?_
  refine CW.only (.cons (k := 0) rfl (.cons (k := 1) rfl (.cons (k := 4) rfl (.cons (k := 8) rfl (.cons (k := 27) rfl (.cons (k := 53) rfl .nil)))))) ?_
  -- STOP: if; todo top: ["code", ["cond", ["t", 53], ["region", 13, [{"d": 55, "op": ["move", ["t", 1]], "ty": 34, "pos": "ref.go:95", "after": [], "guard": null}, {"d": 56, "op": ["call", ["f", 85], [["t", 55], ["c", ["int"
  refine CW.condF rfl (rfl) ?_
  refine CW.seq ?_
  refine CW.region (ef := []) (bk := []) ?_
  refine RL.bin rfl rfl rfl rfl rfl rfl ?_
  refine RL.assign rfl rfl rfl rfl ?_
  refine RL.nil ?_
  refine NQ.seq ?_
  -- STOP: if; todo top: ["code", ["cond", ["t", 59], ["region", 15, [{"d": 61, "op": ["move", ["t", 1]], "ty": 34, "pos": "ref.go:97", "after": [], "guard": null}, {"d": 62, "op": ["call", ["f", 85], [["t", 61], ["c", ["int"
  refine CW.condF rfl (rfl) ?_
  refine CW.seq ?_
  refine CW.region (ef := []) (bk := []) ?_
  refine RL.bin rfl rfl rfl rfl rfl rfl ?_
  refine RL.assign rfl rfl rfl rfl ?_
  refine RL.nil ?_
  refine NQ.seq ?_
  -- STOP: if; todo top: ["code", ["cond", ["t", 65], ["region", 17, [{"d": 67, "op": ["move", ["t", 1]], "ty": 34, "pos": "ref.go:99", "after": [], "guard": null}, {"d": 68, "op": ["call", ["f", 85], [["t", 67], ["c", ["int"
  refine CW.condF rfl (rfl) ?_
  refine CW.seq ?_
  refine CW.region (ef := []) (bk := []) ?_
  refine RL.bin rfl rfl rfl rfl rfl rfl ?_
  refine RL.assign rfl rfl rfl rfl ?_
  refine RL.nil ?_
  refine NQ.seq ?_
  refine CW.only (.cons (k := 0) rfl (.cons (k := 1) rfl (.cons (k := 4) rfl (.cons (k := 8) rfl (.cons (k := 27) rfl (.cons (k := 76) rfl .nil)))))) ?_
  -- STOP: if; todo top: ["code", ["cond", ["t", 76], ["seq", ["region", 19, [{"d": 78, "op": ["move", ["t", 1]], "ty": 34, "pos": "ref.go:101", "after": [], "guard": null}, {"d": 79, "op": ["call", ["f", 85], [["t", 78], ["c
  refine CW.condF rfl (rfl) ?_
  refine CW.seq ?_
  refine CW.region (ef := []) (bk := []) ?_
  refine RL.bin rfl rfl rfl rfl rfl rfl ?_
  refine RL.assign rfl rfl rfl rfl ?_
  refine RL.nil ?_
  refine NQ.seq ?_
  -- STOP: if; todo top: ["code", ["cond", ["t", 97], ["seq", ["region", 22, [{"d": 99, "op": ["move", ["t", 1]], "ty": 34, "pos": "ref.go:104", "after": [], "guard": null}, {"d": 100, "op": ["call", ["f", 85], [["t", 99], ["
  refine CW.condF rfl (rfl) ?_
  refine CW.seq ?_
  refine CW.region (ef := []) (bk := []) ?_
  refine RL.bin rfl rfl rfl rfl rfl rfl ?_
  refine RL.assign rfl rfl rfl rfl ?_
  refine RL.nil ?_
  refine NQ.seq ?_
  -- STOP: if; todo top: ["code", ["cond", ["t", 115], ["region", 28, [{"d": 117, "op": ["move", ["t", 1]], "ty": 34, "pos": "ref.go:109", "after": [], "guard": null}, {"d": 118, "op": ["call", ["f", 85], [["t", 117], ["c", [
  refine CW.condF rfl (rfl) ?_
  refine CW.seq ?_
  refine CW.region (ef := []) (bk := []) ?_
  refine RL.bin rfl rfl rfl rfl rfl rfl ?_
  refine RL.assign rfl rfl rfl rfl ?_
  refine RL.nil ?_
  refine NQ.seq ?_
  refine CW.only (.cons (k := 0) rfl (.cons (k := 1) rfl (.cons (k := 4) rfl (.cons (k := 8) rfl (.cons (k := 27) rfl (.cons (k := 120) rfl .nil)))))) ?_
  -- STOP: if; todo top: ["code", ["cond", ["t", 120], ["region", 30, [{"d": 122, "op": ["move", ["t", 1]], "ty": 34, "pos": "ref.go:111", "after": [], "guard": null}, {"d": 123, "op": ["indexAddr", 34, ["t", 122], ["c", ["in
  refine CW.condF rfl (rfl) ?_
  refine CW.seq ?_
  refine CW.region (ef := []) (bk := []) ?_
  refine RL.bin rfl rfl rfl rfl rfl rfl ?_
  refine RL.assign rfl rfl rfl rfl ?_
  refine RL.nil ?_
  refine NQ.seq ?_
  -- STOP: if; todo top: ["code", ["cond", ["t", 126], ["region", 32, [{"d": 128, "op": ["move", ["t", 1]], "ty": 34, "pos": "ref.go:113", "after": [], "guard": null}, {"d": 129, "op": ["call", ["f", 85], [["t", 128], ["c", [
  refine CW.condF rfl (rfl) ?_
  refine CW.seq ?_
  refine CW.region (ef := []) (bk := []) ?_
  refine RL.bin rfl rfl rfl rfl rfl rfl ?_
  refine RL.assign rfl rfl rfl rfl ?_
  refine RL.nil ?_
  refine NQ.seq ?_
  -- STOP: if; todo top: ["code", ["cond", ["t", 132], ["region", 34, [{"d": 134, "op": ["move", ["t", 1]], "ty": 34, "pos": "ref.go:115", "after": [], "guard": null}, {"d": 135, "op": ["indexAddr", 34, ["t", 134], ["c", ["in
  refine CW.condF rfl (rfl) ?_
  refine CW.seq ?_
  refine CW.region (ef := []) (bk := []) ?_
  refine RL.bin rfl rfl rfl rfl rfl rfl ?_
  refine RL.assign rfl rfl rfl rfl ?_
  refine RL.nil ?_
  refine NQ.seq ?_
  refine CW.only (.cons (k := 0) rfl (.cons (k := 1) rfl (.cons (k := 4) rfl (.cons (k := 8) rfl (.cons (k := 27) rfl (.cons (k := 138) rfl .nil)))))) ?_
  -- STOP: if; todo top: ["code", ["cond", ["t", 138], ["seq", ["region", 36, [{"d": 140, "op": ["move", ["t", 1]], "ty": 34, "pos": "ref.go:117", "after": [], "guard": null}, {"d": 141, "op": ["indexAddr", 34, ["t", 140], ["
  refine CW.condF rfl (rfl) ?_
  refine CW.seq ?_
  refine CW.region (ef := []) (bk := []) ?_
  refine RL.bin rfl rfl rfl rfl rfl rfl ?_
  refine RL.assign rfl rfl rfl rfl ?_
  refine RL.nil ?_
  refine NQ.seq ?_
  -- STOP: if; todo top: ["code", ["cond", ["t", 163], ["seq", ["region", 40, [{"d": 165, "op": ["move", ["t", 1]], "ty": 34, "pos": "ref.go:121", "after": [], "guard": null}, {"d": 166, "op": ["indexAddr", 34, ["t", 165], ["
  refine CW.condF rfl (rfl) ?_
  refine CW.skip ?_
  refine NQ.block ?_
  refine NQ.seq ?_
  refine CW.seq ?_
  refine CW.seq ?_
  refine CW.region (ef := []) (bk := []) ?_
  refine RL.fieldAddr fa_33_12 rfl rfl rfl rfl ?_
  refine RL.load Try.isAgg5 rfl rfl rfl rfl (by first | assumption | (apply Rd.get; (solve | (repeat (first | exact List.Mem.head _ | apply List.Mem.tail))); assumption) | (apply Rd.getS; (solve | (repeat (first | exact List.Mem.head _ | apply List.Mem.tail))); assumption) | (apply Rd.getO; (solve | (repeat (first | exact List.Mem.head _ | apply List.Mem.tail))); assumption) | (apply Rd.getI; (solve | (repeat (first | exact List.Mem.head _ | apply List.Mem.tail))); assumption) | (apply Rd.cel; (solve | (repeat (first | exact List.Mem.head _ | apply List.Mem.tail))); exact rfl) | (apply Rd.celI; (solve | (repeat (first | exact List.Mem.head _ | apply List.Mem.tail))); exact rfl)) ?_
  refine RL.bin rfl rfl rfl rfl rfl rfl ?_
  refine RL.move rfl rfl rfl rfl ?_
  -- STOP: part 187; op 4: d=188 ["move", ["t", 0]] guard=[3, False] (ref.go:124)
  have hm : (getR 11 l).mode = 0#8 := rfl
  have hq : (getR 11 l).epoch = 0 := rfl
  have hz : sizeR 11 = 0 := rfl
  refine RL.cast (d := 187) (v' := .bool false) rfl (rfl) ?_
  refine RL.move rfl rfl rfl rfl ?_
  refine RL.bin rfl rfl rfl rfl rfl rfl ?_
  refine RL.move rfl rfl rfl rfl ?_
  -- STOP: part 190; op 7: d=191 ["fieldAddr", 33, ["t", 8], 13] guard=[6, True] (ref.go:124)
  refine RL.cast (d := 190) (v' := .bool false) rfl (rfl) ?_
  refine RL.skip rfl rfl rfl rfl ?_
  refine RL.skip rfl rfl rfl rfl ?_
  refine RL.skip rfl rfl rfl rfl ?_
  refine RL.pickF rfl rfl rfl rfl rfl ?_
  refine RL.pickF rfl rfl rfl rfl rfl ?_
  refine RL.nil ?_
  refine NQ.seq ?_
  refine CW.only (.cons (k := 4) rfl (.cons (k := 8) rfl (.cons (k := 195) rfl .nil))) ?_
  refine CW.condF rfl rfl ?_
  refine CW.skip ?_
  refine NQ.seq ?_
  refine CW.seq ?_
  refine CW.region (ef := [1]) (bk := [1]) ?_
  refine RL.loadW Try.isAgg33 Try.sizeOf33 rfl rfl rfl rfl (by repeat (first | exact List.Mem.head _ | apply List.Mem.tail)) (by first | rfl | assumption | (simp only [List.length_map]; assumption) | (simp only [List.length_map, List.length_replicate]; done) | (simp; done)) ?_
  refine RL.storeW Try.sizeOf33 rfl rfl rfl rfl rfl rfl rfl (by first | rfl | exact ones_map one8 _ | exact ones_map (fun _ => rfl) _) (by repeat (first | exact Upd.here | apply Upd.there)) (by first | rfl | assumption | (simp only [List.length_map]; assumption) | (simp only [List.length_map, List.length_replicate]; done) | (simp; done)) (by first | rfl | assumption | (simp only [List.length_map]; assumption) | (simp only [List.length_map, List.length_replicate]; done) | (simp; done)) ?_
  refine RL.assign rfl rfl rfl rfl ?_
  refine RL.nil ?_
  refine NQ.seq ?_
  refine CW.ret ?_
  -- STOP: ret; end
  have hok : 1 ≤ (11 : Int) ∧ (11 : Int) ≤ 14 ∧ l.length = sizeR 11 ∧ (getR 11 l).mode.toNat ≤ 2 ∧ ¬ ((11 : Int) = 10 ∧ (getR 11 l).epoch = 0) := by refine ⟨by decide, by decide, by omega, by rw [hm]; decide, by omega⟩
  exact RQ.post (resWT rfl rfl rfl Try.isAgg33 Try.sizeOf33 (by repeat (first | exact List.Mem.head _ | apply List.Mem.tail)) rfl) (Split.none _) ⟨by rw [gotR, if_pos hok]; (try simp only [u32_nt, u16_nt]); rfl, rfl, rfl⟩
theorem rgot_12 (p : Option Addr) (n c : Nat) (l : List B8) (hn : l.length = n) (h : n = 1) : Spc Try.prog 25 #[.int .i64 12, .slice p n c] [sls p 1 n (bytes l)] [] (Is (gotV (gotR 12 l))) := by
  subst h
  refine Spc.some' (g := fun p => #[.int .i64 12, .slice p 1 c]) (I := fun p => [sls p 1 1 (bytes l)]) (H := fun _ => []) (R := fun _ => Is _) (List.Mem.head _) (by decide) (fun q _ => ?_)
  refine Spc.enter Try.func25 rfl rfl rfl (fun w0 hw0 => ?_)
  refine CW.seq ?_
  refine CW.region (ef := [0]) (bk := []) ?_
  refine RL.alloc Try.zeroValue33 rfl rfl rfl rfl rfl ?_
  intro b1
  refine RL.assign rfl rfl rfl rfl ?_
  refine RL.nil ?_
  refine NQ.seq ?_
  refine CW.seq ?_
  refine CW.region (ef := []) (bk := []) ?_
  refine RL.move rfl rfl rfl rfl ?_
  refine RL.callv (rsize_any 12) Try.call18 rfl rfl rfl rfl (by repeat (first | exact Lend.nil | (refine Lend.inI ?_ ?_; (solve | (repeat (first | exact List.Mem.head _ | apply List.Mem.tail)))) | (refine Lend.inH ?_ ?_; (solve | (repeat (first | exact List.Mem.head _ | apply List.Mem.tail)))))) ?_
  refine RL.move rfl rfl rfl rfl ?_
  -- STOP: op; op 3: d=14 ["extract", ["t", 11], 0] guard=None (ref.go:83)
  rw [show sizeV 12 = .tuple #[.int .i64 1, .int .i64 0] from rfl]
  refine RL.extract rfl rfl rfl rfl rfl ?_
  refine RL.extract rfl rfl rfl rfl rfl ?_
  refine RL.assign rfl rfl rfl rfl ?_
  refine RL.assign rfl rfl rfl rfl ?_
  refine RL.nil ?_
  refine NQ.seq ?_
  refine CW.only (.cons (k := 0) rfl (.cons (k := 1) rfl (.cons (k := 4) rfl (.cons (k := 6) rfl (.cons (k := 7) rfl .nil))))) ?_
  refine CW.seq ?_
  refine CW.seq ?_
  refine CW.region (ef := []) (bk := []) ?_
  refine RL.move rfl rfl rfl rfl ?_
  refine RL.bin rfl rfl rfl rfl rfl rfl ?_
  refine RL.move rfl rfl rfl rfl ?_
  -- STOP: part 18; op 3: d=19 ["move", ["t", 6]] guard=[2, False] (ref.go:84)
  refine RL.cast (d := 18) (v' := .bool false) rfl (rfl) ?_
  refine RL.move rfl rfl rfl rfl ?_
  refine RL.move rfl rfl rfl rfl ?_
  refine RL.lenS Try.runUnderlying34 rfl rfl rfl rfl ?_
  refine RL.bin rfl rfl rfl rfl rfl rfl ?_
  refine RL.pickF rfl rfl rfl rfl rfl ?_
  refine RL.nil ?_
  refine NQ.seq ?_
  refine CW.only (.cons (k := 0) rfl (.cons (k := 1) rfl (.cons (k := 4) rfl (.cons (k := 23) rfl .nil)))) ?_
  -- STOP: if; todo top: ["code", ["cond", ["t", 23], ["seq", ["region", 3, [{"d": 24, "op": ["build", 33, []], "ty": 33, "pos": "ref.go:85", "after": [], "guard": null}, {"d": null, "op": ["store", 33, ["t", 4], ["t", 24]], 
  refine CW.condF rfl (rfl) ?_
  refine CW.skip ?_
  refine NQ.seq ?_
  refine CW.seq ?_
  refine CW.region (ef := [2, 3]) (bk := [3]) ?_
  refine RL.move rfl rfl rfl rfl ?_
  -- STOP: op; op 1: d=26 ["build", 33, [[0, ["t", 25]]]] guard=None (ref.go:87)
  refine RL.buildS (Rdg.cells (rz 12)) Try.zeroValue33 pl_33 rfl rfl rfl rfl rfl ?_
  refine RL.alloc Try.zeroValue33 rfl rfl rfl rfl rfl ?_
  intro b2
  refine RL.storeW Try.sizeOf33 rfl rfl rfl rfl rfl rfl rfl (by first | rfl | exact ones_map one8 _ | exact ones_map (fun _ => rfl) _) (by repeat (first | exact Upd.here | apply Upd.there)) (by first | rfl | assumption | (simp only [List.length_map]; assumption) | (simp only [List.length_map, List.length_replicate]; done) | (simp; done)) (by first | rfl | assumption | (simp only [List.length_map]; assumption) | (simp only [List.length_map, List.length_replicate]; done) | (simp; done)) ?_
  refine RL.nil ?_
  refine NQ.seq ?_
  refine CW.seq ?_
  refine CW.seq ?_
  refine CW.region (ef := []) (bk := []) ?_
  refine RL.move rfl rfl rfl rfl ?_
  refine RL.nil ?_
  refine NQ.seq ?_
  refine CW.block ?_
  refine CW.seq ?_
  refine CW.region (ef := []) (bk := []) ?_
  refine RL.bin rfl rfl rfl rfl rfl rfl ?_
  refine RL.assign rfl rfl rfl rfl ?_
  refine RL.nil ?_
  refine NQ.seq ?_
  -- STOP: if; todo top: ["code", ["cond", ["t", 28], ["seq", ["region", 7, [{"d": 9, "op": ["assign", ["c", ["int", "Go.IntKind.i64", 0]]], "ty": 3, "pos": "ref.go:90", "after": [], "guard": null}], false], ["block", 1, ["lo
  refine CW.condF rfl (rfl) ?_
  refine CW.seq ?_
  refine CW.region (ef := []) (bk := []) ?_
  refine RL.bin rfl rfl rfl rfl rfl rfl ?_
  refine RL.assign rfl rfl rfl rfl ?_
  refine RL.nil ?_
  refine NQ.seq ?_
  refine CW.only (.cons (k := 0) rfl (.cons (k := 1) rfl (.cons (k := 4) rfl (.cons (k := 8) rfl (.cons (k := 27) rfl (.cons (k := 53) rfl .nil)))))) ?_
  -- STOP: if; todo top: ["code", ["cond", ["t", 53], ["region", 13, [{"d": 55, "op": ["move", ["t", 1]], "ty": 34, "pos": "ref.go:95", "after": [], "guard": null}, {"d": 56, "op": ["call", ["f", 85], [["t", 55], ["c", ["int"
  refine CW.condF rfl (rfl) ?_
  refine CW.seq ?_
  refine CW.region (ef := []) (bk := []) ?_
  refine RL.bin rfl rfl rfl rfl rfl rfl ?_
  refine RL.assign rfl rfl rfl rfl ?_
  refine RL.nil ?_
  refine NQ.seq ?_
  -- STOP: if; todo top: ["code", ["cond", ["t", 59], ["region", 15, [{"d": 61, "op": ["move", ["t", 1]], "ty": 34, "pos": "ref.go:97", "after": [], "guard": null}, {"d": 62, "op": ["call", ["f", 85], [["t", 61], ["c", ["int"
  refine CW.condF rfl (rfl) ?_
  refine CW.seq ?_
  refine CW.region (ef := []) (bk := []) ?_
  refine RL.bin rfl rfl rfl rfl rfl rfl ?_
  refine RL.assign rfl rfl rfl rfl ?_
  refine RL.nil ?_
  refine NQ.seq ?_
  -- STOP: if; todo top: ["code", ["cond", ["t", 65], ["region", 17, [{"d": 67, "op": ["move", ["t", 1]], "ty": 34, "pos": "ref.go:99", "after": [], "guard": null}, {"d": 68, "op": ["call", ["f", 85], [["t", 67], ["c", ["int"
  refine CW.condF rfl (rfl) ?_
  refine CW.seq ?_
  refine CW.region (ef := []) (bk := []) ?_
  refine RL.bin rfl rfl rfl rfl rfl rfl ?_
  refine RL.assign rfl rfl rfl rfl ?_
  refine RL.nil ?_
  refine NQ.seq ?_
  refine CW.only (.cons (k := 0) rfl (.cons (k := 1) rfl (.cons (k := 4) rfl (.cons (k := 8) rfl (.cons (k := 27) rfl (.cons (k := 76) rfl .nil)))))) ?_
  -- STOP: if; todo top: ["code", ["cond", ["t", 76], ["seq", ["region", 19, [{"d": 78, "op": ["move", ["t", 1]], "ty": 34, "pos": "ref.go:101", "after": [], "guard": null}, {"d": 79, "op": ["call", ["f", 85], [["t", 78], ["c
  refine CW.condF rfl (rfl) ?_
  refine CW.seq ?_
  refine CW.region (ef := []) (bk := []) ?_
  refine RL.bin rfl rfl rfl rfl rfl rfl ?_
  refine RL.assign rfl rfl rfl rfl ?_
  refine RL.nil ?_
  refine NQ.seq ?_
  -- STOP: if; todo top: ["code", ["cond", ["t", 97], ["seq", ["region", 22, [{"d": 99, "op": ["move", ["t", 1]], "ty": 34, "pos": "ref.go:104", "after": [], "guard": null}, {"d": 100, "op": ["call", ["f", 85], [["t", 99], ["
  refine CW.condF rfl (rfl) ?_
  refine CW.seq ?_
  refine CW.region (ef := []) (bk := []) ?_
  refine RL.bin rfl rfl rfl rfl rfl rfl ?_
  refine RL.assign rfl rfl rfl rfl ?_
  refine RL.nil ?_
  refine NQ.seq ?_
  -- STOP: if; todo top: ["code", ["cond", ["t", 115], ["region", 28, [{"d": 117, "op": ["move", ["t", 1]], "ty": 34, "pos": "ref.go:109", "after": [], "guard": null}, {"d": 118, "op": ["call", ["f", 85], [["t", 117], ["c", [
  refine CW.condF rfl (rfl) ?_
  refine CW.seq ?_
  refine CW.region (ef := []) (bk := []) ?_
  refine RL.bin rfl rfl rfl rfl rfl rfl ?_
  refine RL.assign rfl rfl rfl rfl ?_
  refine RL.nil ?_
  refine NQ.seq ?_
  refine CW.only (.cons (k := 0) rfl (.cons (k := 1) rfl (.cons (k := 4) rfl (.cons (k := 8) rfl (.cons (k := 27) rfl (.cons (k := 120) rfl .nil)))))) ?_
  -- STOP: if; todo top: ["code", ["cond", ["t", 120], ["region", 30, [{"d": 122, "op": ["move", ["t", 1]], "ty": 34, "pos": "ref.go:111", "after": [], "guard": null}, {"d": 123, "op": ["indexAddr", 34, ["t", 122], ["c", ["in
  refine CW.condF rfl (rfl) ?_
  refine CW.seq ?_
  refine CW.region (ef := []) (bk := []) ?_
  refine RL.bin rfl rfl rfl rfl rfl rfl ?_
  refine RL.assign rfl rfl rfl rfl ?_
  refine RL.nil ?_
  refine NQ.seq ?_
  -- STOP: if; todo top: ["code", ["cond", ["t", 126], ["region", 32, [{"d": 128, "op": ["move", ["t", 1]], "ty": 34, "pos": "ref.go:113", "after": [], "guard": null}, {"d": 129, "op": ["call", ["f", 85], [["t", 128], ["c", [
  refine CW.condF rfl (rfl) ?_
  refine CW.seq ?_
  refine CW.region (ef := []) (bk := []) ?_
  refine RL.bin rfl rfl rfl rfl rfl rfl ?_
  refine RL.assign rfl rfl rfl rfl ?_
  refine RL.nil ?_
  refine NQ.seq ?_
  -- STOP: if; todo top: ["code", ["cond", ["t", 132], ["region", 34, [{"d": 134, "op": ["move", ["t", 1]], "ty": 34, "pos": "ref.go:115", "after": [], "guard": null}, {"d": 135, "op": ["indexAddr", 34, ["t", 134], ["c", ["in
  refine CW.condT rfl (rfl) ?_
  refine CW.region (ef := [4]) (bk := [4]) ?_
  refine RL.move rfl rfl rfl rfl ?_
  -- STOP: op; op 1: d=135 ["indexAddr", 34, ["t", 134], ["c", ["int", "Go.IntKind.i64", 0]]] guard=None (ref.go:115)
  have hv0 := bat_v (l := l) (o := 0) (by omega)
  refine RL.idx (j := 0) Try.runUnderlying34 Try.sizeOf5 rfl rfl rfl rfl rfl rfl (by decide) ?_
  refine RL.load Try.isAgg5 rfl rfl rfl rfl (by first | assumption | (apply Rd.get; (solve | (repeat (first | exact List.Mem.head _ | apply List.Mem.tail))); assumption) | (apply Rd.getS; (solve | (repeat (first | exact List.Mem.head _ | apply List.Mem.tail))); assumption) | (apply Rd.getO; (solve | (repeat (first | exact List.Mem.head _ | apply List.Mem.tail))); assumption) | (apply Rd.getI; (solve | (repeat (first | exact List.Mem.head _ | apply List.Mem.tail))); assumption) | (apply Rd.cel; (solve | (repeat (first | exact List.Mem.head _ | apply List.Mem.tail))); exact rfl) | (apply Rd.celI; (solve | (repeat (first | exact List.Mem.head _ | apply List.Mem.tail))); exact rfl)) ?_
  refine RL.fieldAddr fa_33_16 rfl rfl rfl rfl ?_
  refine RL.store (vs := [_]) Try.sizeOf5 rfl rfl rfl rfl rfl rfl rfl rfl rfl (by repeat (first | exact Upd.here | apply Upd.there)) ?_
  refine RL.nil ?_
  refine NQ.block ?_
  refine NQ.seq ?_
  refine CW.only (.cons (k := 0) rfl (.cons (k := 4) rfl (.cons (k := 8) rfl .nil))) ?_
  refine CW.seq ?_
  refine CW.seq ?_
  refine CW.region (ef := []) (bk := []) ?_
  refine RL.fieldAddr fa_33_12 rfl rfl rfl rfl ?_
  refine RL.load Try.isAgg5 rfl rfl rfl rfl (by first | assumption | (apply Rd.get; (solve | (repeat (first | exact List.Mem.head _ | apply List.Mem.tail))); assumption) | (apply Rd.getS; (solve | (repeat (first | exact List.Mem.head _ | apply List.Mem.tail))); assumption) | (apply Rd.getO; (solve | (repeat (first | exact List.Mem.head _ | apply List.Mem.tail))); assumption) | (apply Rd.getI; (solve | (repeat (first | exact List.Mem.head _ | apply List.Mem.tail))); assumption) | (apply Rd.cel; (solve | (repeat (first | exact List.Mem.head _ | apply List.Mem.tail))); exact rfl) | (apply Rd.celI; (solve | (repeat (first | exact List.Mem.head _ | apply List.Mem.tail))); exact rfl)) ?_
  refine RL.bin rfl rfl rfl rfl rfl rfl ?_
  refine RL.move rfl rfl rfl rfl ?_
  -- STOP: part 187; op 4: d=188 ["move", ["t", 0]] guard=[3, False] (ref.go:124)
  have hm : (getR 12 l).mode = 0#8 := rfl
  have hq : (getR 12 l).epoch = 0 := rfl
  have hz : sizeR 12 = 1 := rfl
  refine RL.cast (d := 187) (v' := .bool false) rfl (rfl) ?_
  refine RL.move rfl rfl rfl rfl ?_
  refine RL.bin rfl rfl rfl rfl rfl rfl ?_
  refine RL.move rfl rfl rfl rfl ?_
  -- STOP: part 190; op 7: d=191 ["fieldAddr", 33, ["t", 8], 13] guard=[6, True] (ref.go:124)
  refine RL.cast (d := 190) (v' := .bool false) rfl (rfl) ?_
  refine RL.skip rfl rfl rfl rfl ?_
  refine RL.skip rfl rfl rfl rfl ?_
  refine RL.skip rfl rfl rfl rfl ?_
  refine RL.pickF rfl rfl rfl rfl rfl ?_
  refine RL.pickF rfl rfl rfl rfl rfl ?_
  refine RL.nil ?_
  refine NQ.seq ?_
  refine CW.only (.cons (k := 4) rfl (.cons (k := 8) rfl (.cons (k := 195) rfl .nil))) ?_
  refine CW.condF rfl rfl ?_
  refine CW.skip ?_
  refine NQ.seq ?_
  refine CW.seq ?_
  refine CW.region (ef := [1]) (bk := [1]) ?_
  refine RL.loadW Try.isAgg33 Try.sizeOf33 rfl rfl rfl rfl (by repeat (first | exact List.Mem.head _ | apply List.Mem.tail)) (by first | rfl | assumption | (simp only [List.length_map]; assumption) | (simp only [List.length_map, List.length_replicate]; done) | (simp; done)) ?_
  refine RL.storeW Try.sizeOf33 rfl rfl rfl rfl rfl rfl rfl (by first | rfl | exact ones_map one8 _ | exact ones_map (fun _ => rfl) _) (by repeat (first | exact Upd.here | apply Upd.there)) (by first | rfl | assumption | (simp only [List.length_map]; assumption) | (simp only [List.length_map, List.length_replicate]; done) | (simp; done)) (by first | rfl | assumption | (simp only [List.length_map]; assumption) | (simp only [List.length_map, List.length_replicate]; done) | (simp; done)) ?_
  refine RL.assign rfl rfl rfl rfl ?_
  refine RL.nil ?_
  refine NQ.seq ?_
  refine CW.ret ?_
  -- STOP: ret; end
  have hok : 1 ≤ (12 : Int) ∧ (12 : Int) ≤ 14 ∧ l.length = sizeR 12 ∧ (getR 12 l).mode.toNat ≤ 2 ∧ ¬ ((12 : Int) = 10 ∧ (getR 12 l).epoch = 0) := by refine ⟨by decide, by decide, by omega, by rw [hm]; decide, by omega⟩
  exact RQ.post (resWT rfl rfl rfl Try.isAgg33 Try.sizeOf33 (by repeat (first | exact List.Mem.head _ | apply List.Mem.tail)) rfl) (Split.none _) ⟨by rw [gotR, if_pos hok]; (try simp only [u32_nt, u16_nt]); rfl, rfl, rfl⟩
theorem rgot_13 (p : Option Addr) (n c : Nat) (l : List B8) (hn : l.length = n) (h : n = 37) : Spc Try.prog 25 #[.int .i64 13, .slice p n c] [sls p 1 n (bytes l)] [] (Is (gotV (gotR 13 l))) := by
  subst h
  refine Spc.some' (g := fun p => #[.int .i64 13, .slice p 37 c]) (I := fun p => [sls p 1 37 (bytes l)]) (H := fun _ => []) (R := fun _ => Is _) (List.Mem.head _) (by decide) (fun q _ => ?_)
  refine Spc.enter Try.func25 rfl rfl rfl (fun w0 hw0 => ?_)
  refine CW.seq ?_
  refine CW.region (ef := [0]) (bk := []) ?_
  refine RL.alloc Try.zeroValue33 rfl rfl rfl rfl rfl ?_
  intro b1
  refine RL.assign rfl rfl rfl rfl ?_
  refine RL.nil ?_
  refine NQ.seq ?_
  refine CW.seq ?_
  refine CW.region (ef := []) (bk := []) ?_
  refine RL.move rfl rfl rfl rfl ?_
  refine RL.callv (rsize_any 13) Try.call18 rfl rfl rfl rfl (by repeat (first | exact Lend.nil | (refine Lend.inI ?_ ?_; (solve | (repeat (first | exact List.Mem.head _ | apply List.Mem.tail)))) | (refine Lend.inH ?_ ?_; (solve | (repeat (first | exact List.Mem.head _ | apply List.Mem.tail)))))) ?_
  refine RL.move rfl rfl rfl rfl ?_
  -- STOP: op; op 3: d=14 ["extract", ["t", 11], 0] guard=None (ref.go:83)
  rw [show sizeV 13 = .tuple #[.int .i64 37, .int .i64 0] from rfl]
  refine RL.extract rfl rfl rfl rfl rfl ?_
  refine RL.extract rfl rfl rfl rfl rfl ?_
  refine RL.assign rfl rfl rfl rfl ?_
  refine RL.assign rfl rfl rfl rfl ?_
  refine RL.nil ?_
  refine NQ.seq ?_
  refine CW.only (.cons (k := 0) rfl (.cons (k := 1) rfl (.cons (k := 4) rfl (.cons (k := 6) rfl (.cons (k := 7) rfl .nil))))) ?_
  refine CW.seq ?_
  refine CW.seq ?_
  refine CW.region (ef := []) (bk := []) ?_
  refine RL.move rfl rfl rfl rfl ?_
  refine RL.bin rfl rfl rfl rfl rfl rfl ?_
  refine RL.move rfl rfl rfl rfl ?_
  -- STOP: part 18; op 3: d=19 ["move", ["t", 6]] guard=[2, False] (ref.go:84)
  refine RL.cast (d := 18) (v' := .bool false) rfl (rfl) ?_
  refine RL.move rfl rfl rfl rfl ?_
  refine RL.move rfl rfl rfl rfl ?_
  refine RL.lenS Try.runUnderlying34 rfl rfl rfl rfl ?_
  refine RL.bin rfl rfl rfl rfl rfl rfl ?_
  refine RL.pickF rfl rfl rfl rfl rfl ?_
  refine RL.nil ?_
  refine NQ.seq ?_
  refine CW.only (.cons (k := 0) rfl (.cons (k := 1) rfl (.cons (k := 4) rfl (.cons (k := 23) rfl .nil)))) ?_
  -- STOP: if; todo top: ["code", ["cond", ["t", 23], ["seq", ["region", 3, [{"d": 24, "op": ["build", 33, []], "ty": 33, "pos": "ref.go:85", "after": [], "guard": null}, {"d": null, "op": ["store", 33, ["t", 4], ["t", 24]], 
  refine CW.condF rfl (rfl) ?_
  refine CW.skip ?_
  refine NQ.seq ?_
  refine CW.seq ?_
  refine CW.region (ef := [2, 3]) (bk := [3]) ?_
  refine RL.move rfl rfl rfl rfl ?_
  -- STOP: op; op 1: d=26 ["build", 33, [[0, ["t", 25]]]] guard=None (ref.go:87)
  refine RL.buildS (Rdg.cells (rz 13)) Try.zeroValue33 pl_33 rfl rfl rfl rfl rfl ?_
  refine RL.alloc Try.zeroValue33 rfl rfl rfl rfl rfl ?_
  intro b2
  refine RL.storeW Try.sizeOf33 rfl rfl rfl rfl rfl rfl rfl (by first | rfl | exact ones_map one8 _ | exact ones_map (fun _ => rfl) _) (by repeat (first | exact Upd.here | apply Upd.there)) (by first | rfl | assumption | (simp only [List.length_map]; assumption) | (simp only [List.length_map, List.length_replicate]; done) | (simp; done)) (by first | rfl | assumption | (simp only [List.length_map]; assumption) | (simp only [List.length_map, List.length_replicate]; done) | (simp; done)) ?_
  refine RL.nil ?_
  refine NQ.seq ?_
  refine CW.seq ?_
  refine CW.seq ?_
  refine CW.region (ef := []) (bk := []) ?_
  refine RL.move rfl rfl rfl rfl ?_
  refine RL.nil ?_
  refine NQ.seq ?_
  refine CW.block ?_
  refine CW.seq ?_
  refine CW.region (ef := []) (bk := []) ?_
  refine RL.bin rfl rfl rfl rfl rfl rfl ?_
  refine RL.assign rfl rfl rfl rfl ?_
  refine RL.nil ?_
  refine NQ.seq ?_
  -- STOP: if; todo top: ["code", ["cond", ["t", 28], ["seq", ["region", 7, [{"d": 9, "op": ["assign", ["c", ["int", "Go.IntKind.i64", 0]]], "ty": 3, "pos": "ref.go:90", "after": [], "guard": null}], false], ["block", 1, ["lo
  refine CW.condF rfl (rfl) ?_
  refine CW.seq ?_
  refine CW.region (ef := []) (bk := []) ?_
  refine RL.bin rfl rfl rfl rfl rfl rfl ?_
  refine RL.assign rfl rfl rfl rfl ?_
  refine RL.nil ?_
  refine NQ.seq ?_
  refine CW.only (.cons (k := 0) rfl (.cons (k := 1) rfl (.cons (k := 4) rfl (.cons (k := 8) rfl (.cons (k := 27) rfl (.cons (k := 53) rfl .nil)))))) ?_
  -- STOP: if; todo top: ["code", ["cond", ["t", 53], ["region", 13, [{"d": 55, "op": ["move", ["t", 1]], "ty": 34, "pos": "ref.go:95", "after": [], "guard": null}, {"d": 56, "op": ["call", ["f", 85], [["t", 55], ["c", ["int"
  refine CW.condF rfl (rfl) ?_
  refine CW.seq ?_
  refine CW.region (ef := []) (bk := []) ?_
  refine RL.bin rfl rfl rfl rfl rfl rfl ?_
  refine RL.assign rfl rfl rfl rfl ?_
  refine RL.nil ?_
  refine NQ.seq ?_
  -- STOP: if; todo top: ["code", ["cond", ["t", 59], ["region", 15, [{"d": 61, "op": ["move", ["t", 1]], "ty": 34, "pos": "ref.go:97", "after": [], "guard": null}, {"d": 62, "op": ["call", ["f", 85], [["t", 61], ["c", ["int"
  refine CW.condF rfl (rfl) ?_
  refine CW.seq ?_
  refine CW.region (ef := []) (bk := []) ?_
  refine RL.bin rfl rfl rfl rfl rfl rfl ?_
  refine RL.assign rfl rfl rfl rfl ?_
  refine RL.nil ?_
  refine NQ.seq ?_
  -- STOP: if; todo top: ["code", ["cond", ["t", 65], ["region", 17, [{"d": 67, "op": ["move", ["t", 1]], "ty": 34, "pos": "ref.go:99", "after": [], "guard": null}, {"d": 68, "op": ["call", ["f", 85], [["t", 67], ["c", ["int"
  refine CW.condF rfl (rfl) ?_
  refine CW.seq ?_
  refine CW.region (ef := []) (bk := []) ?_
  refine RL.bin rfl rfl rfl rfl rfl rfl ?_
  refine RL.assign rfl rfl rfl rfl ?_
  refine RL.nil ?_
  refine NQ.seq ?_
  refine CW.only (.cons (k := 0) rfl (.cons (k := 1) rfl (.cons (k := 4) rfl (.cons (k := 8) rfl (.cons (k := 27) rfl (.cons (k := 76) rfl .nil)))))) ?_
  -- STOP: if; todo top: ["code", ["cond", ["t", 76], ["seq", ["region", 19, [{"d": 78, "op": ["move", ["t", 1]], "ty": 34, "pos": "ref.go:101", "after": [], "guard": null}, {"d": 79, "op": ["call", ["f", 85], [["t", 78], ["c
  refine CW.condF rfl (rfl) ?_
  refine CW.seq ?_
  refine CW.region (ef := []) (bk := []) ?_
  refine RL.bin rfl rfl rfl rfl rfl rfl ?_
  refine RL.assign rfl rfl rfl rfl ?_
  refine RL.nil ?_
  refine NQ.seq ?_
  -- STOP: if; todo top: ["code", ["cond", ["t", 97], ["seq", ["region", 22, [{"d": 99, "op": ["move", ["t", 1]], "ty": 34, "pos": "ref.go:104", "after": [], "guard": null}, {"d": 100, "op": ["call", ["f", 85], [["t", 99], ["
  refine CW.condF rfl (rfl) ?_
  refine CW.seq ?_
  refine CW.region (ef := []) (bk := []) ?_
  refine RL.bin rfl rfl rfl rfl rfl rfl ?_
  refine RL.assign rfl rfl rfl rfl ?_
  refine RL.nil ?_
  refine NQ.seq ?_
  -- STOP: if; todo top: ["code", ["cond", ["t", 115], ["region", 28, [{"d": 117, "op": ["move", ["t", 1]], "ty": 34, "pos": "ref.go:109", "after": [], "guard": null}, {"d": 118, "op": ["call", ["f", 85], [["t", 117], ["c", [
  refine CW.condF rfl (rfl) ?_
  refine CW.seq ?_
  refine CW.region (ef := []) (bk := []) ?_
  refine RL.bin rfl rfl rfl rfl rfl rfl ?_
  refine RL.assign rfl rfl rfl rfl ?_
  refine RL.nil ?_
  refine NQ.seq ?_
  refine CW.only (.cons (k := 0) rfl (.cons (k := 1) rfl (.cons (k := 4) rfl (.cons (k := 8) rfl (.cons (k := 27) rfl (.cons (k := 120) rfl .nil)))))) ?_
  -- STOP: if; todo top: ["code", ["cond", ["t", 120], ["region", 30, [{"d": 122, "op": ["move", ["t", 1]], "ty": 34, "pos": "ref.go:111", "after": [], "guard": null}, {"d": 123, "op": ["indexAddr", 34, ["t", 122], ["c", ["in
  refine CW.condF rfl (rfl) ?_
  refine CW.seq ?_
  refine CW.region (ef := []) (bk := []) ?_
  refine RL.bin rfl rfl rfl rfl rfl rfl ?_
  refine RL.assign rfl rfl rfl rfl ?_
  refine RL.nil ?_
  refine NQ.seq ?_
  -- STOP: if; todo top: ["code", ["cond", ["t", 126], ["region", 32, [{"d": 128, "op": ["move", ["t", 1]], "ty": 34, "pos": "ref.go:113", "after": [], "guard": null}, {"d": 129, "op": ["call", ["f", 85], [["t", 128], ["c", [
  refine CW.condF rfl (rfl) ?_
  refine CW.seq ?_
  refine CW.region (ef := []) (bk := []) ?_
  refine RL.bin rfl rfl rfl rfl rfl rfl ?_
  refine RL.assign rfl rfl rfl rfl ?_
  refine RL.nil ?_
  refine NQ.seq ?_
  -- STOP: if; todo top: ["code", ["cond", ["t", 132], ["region", 34, [{"d": 134, "op": ["move", ["t", 1]], "ty": 34, "pos": "ref.go:115", "after": [], "guard": null}, {"d": 135, "op": ["indexAddr", 34, ["t", 134], ["c", ["in
  refine CW.condF rfl (rfl) ?_
  refine CW.seq ?_
  refine CW.region (ef := []) (bk := []) ?_
  refine RL.bin rfl rfl rfl rfl rfl rfl ?_
  refine RL.assign rfl rfl rfl rfl ?_
  refine RL.nil ?_
  refine NQ.seq ?_
  refine CW.only (.cons (k := 0) rfl (.cons (k := 1) rfl (.cons (k := 4) rfl (.cons (k := 8) rfl (.cons (k := 27) rfl (.cons (k := 138) rfl .nil)))))) ?_
  -- STOP: if; todo top: ["code", ["cond", ["t", 138], ["seq", ["region", 36, [{"d": 140, "op": ["move", ["t", 1]], "ty": 34, "pos": "ref.go:117", "after": [], "guard": null}, {"d": 141, "op": ["indexAddr", 34, ["t", 140], ["
  refine CW.condT rfl (rfl) ?_
  refine CW.seq ?_
  refine CW.region (ef := [4]) (bk := [4]) ?_
  refine RL.move rfl rfl rfl rfl ?_
  -- STOP: op; op 1: d=141 ["indexAddr", 34, ["t", 140], ["c", ["int", "Go.IntKind.i64", 0]]] guard=None (ref.go:117)
  have hv0 := bat_v (l := l) (o := 0) (by omega)
  refine RL.idx (j := 0) Try.runUnderlying34 Try.sizeOf5 rfl rfl rfl rfl rfl rfl (by decide) ?_
  refine RL.load Try.isAgg5 rfl rfl rfl rfl (by first | assumption | (apply Rd.get; (solve | (repeat (first | exact List.Mem.head _ | apply List.Mem.tail))); assumption) | (apply Rd.getS; (solve | (repeat (first | exact List.Mem.head _ | apply List.Mem.tail))); assumption) | (apply Rd.getO; (solve | (repeat (first | exact List.Mem.head _ | apply List.Mem.tail))); assumption) | (apply Rd.getI; (solve | (repeat (first | exact List.Mem.head _ | apply List.Mem.tail))); assumption) | (apply Rd.cel; (solve | (repeat (first | exact List.Mem.head _ | apply List.Mem.tail))); exact rfl) | (apply Rd.celI; (solve | (repeat (first | exact List.Mem.head _ | apply List.Mem.tail))); exact rfl)) ?_
  refine RL.fieldAddr fa_33_12 rfl rfl rfl rfl ?_
  refine RL.store (vs := [_]) Try.sizeOf5 rfl rfl rfl rfl rfl rfl rfl rfl rfl (by repeat (first | exact Upd.here | apply Upd.there)) ?_
  refine RL.nil ?_
  refine NQ.seq ?_
  refine CW.only (.cons (k := 0) rfl (.cons (k := 1) rfl (.cons (k := 4) rfl (.cons (k := 8) rfl .nil)))) ?_
  refine CW.seq ?_
  -- STOP: region; todo top: ["code", ["region", 37, [{"d": 144, "op": ["move", ["t", 1]], "ty": 34, "pos": "ref.go:118", "after": [], "guard": null}, {"d": 145, "op": ["call", ["f", 85], [["t", 144], ["c", ["int", "Go.IntKind.i6
  refine CW.region (ef := [11]) (bk := [11]) ?_
  refine RL.move rfl rfl rfl rfl ?_
  refine RL.callv (rnat_any (some q) 37 c 1 8 l hn (by decide) (by decide) (by decide)) Try.call85 rfl rfl rfl rfl (by repeat (first | exact Lend.nil | (refine Lend.inI ?_ ?_; (solve | (repeat (first | exact List.Mem.head _ | apply List.Mem.tail)))) | (refine Lend.inH ?_ ?_; (solve | (repeat (first | exact List.Mem.head _ | apply List.Mem.tail)))))) ?_
  refine RL.conv Try.runUnderlying30 Try.runUnderlying24 rfl rfl rfl rfl ?_
  refine RL.move rfl rfl rfl rfl ?_
  refine RL.callv (rnat_any (some q) 37 c 9 8 l hn (by decide) (by decide) (by decide)) Try.call85 rfl rfl rfl rfl (by repeat (first | exact Lend.nil | (refine Lend.inI ?_ ?_; (solve | (repeat (first | exact List.Mem.head _ | apply List.Mem.tail)))) | (refine Lend.inH ?_ ?_; (solve | (repeat (first | exact List.Mem.head _ | apply List.Mem.tail)))))) ?_
  refine RL.conv Try.runUnderlying30 Try.runUnderlying24 rfl rfl rfl rfl ?_
  refine RL.move rfl rfl rfl rfl ?_
  refine RL.callv (rnat_any (some q) 37 c 17 8 l hn (by decide) (by decide) (by decide)) Try.call85 rfl rfl rfl rfl (by repeat (first | exact Lend.nil | (refine Lend.inI ?_ ?_; (solve | (repeat (first | exact List.Mem.head _ | apply List.Mem.tail)))) | (refine Lend.inH ?_ ?_; (solve | (repeat (first | exact List.Mem.head _ | apply List.Mem.tail)))))) ?_
  refine RL.conv Try.runUnderlying30 Try.runUnderlying24 rfl rfl rfl rfl ?_
  refine RL.buildA [_, _, _] Try.zeroValue27 Try.runUnderlying27 Try.sizeOf24 rfl rfl rfl rfl rfl ?_
  refine RL.fieldAddr fa_33_9 rfl rfl rfl rfl ?_
  -- STOP: op; op 11: d=None ["store", 27, ["t", 154], ["t", 153]] guard=None (ref.go:118)
  refine RL.storeX (cs' := spl _ (0 + 13) [_, _, _]) (vs := [_, _, _]) rfl Try.sizeOf27 rfl rfl rfl rfl rfl rfl rfl rfl (by repeat (first | exact Upd.here | apply Upd.there)) (Nat.le_of_ble_eq_true rfl) ?_
  refine RL.nil ?_
  refine NQ.seq ?_
  refine CW.only (.cons (k := 0) rfl (.cons (k := 1) rfl (.cons (k := 4) rfl (.cons (k := 8) rfl .nil)))) ?_
  refine CW.region (ef := [7, 9]) (bk := [7, 9]) ?_
  refine RL.move rfl rfl rfl rfl ?_
  refine RL.callv (rnat_any (some q) 37 c 25 8 l hn (by decide) (by decide) (by decide)) Try.call85 rfl rfl rfl rfl (by repeat (first | exact Lend.nil | (refine Lend.inI ?_ ?_; (solve | (repeat (first | exact List.Mem.head _ | apply List.Mem.tail)))) | (refine Lend.inH ?_ ?_; (solve | (repeat (first | exact List.Mem.head _ | apply List.Mem.tail)))))) ?_
  refine RL.conv Try.runUnderlying30 Try.runUnderlying24 rfl rfl rfl rfl ?_
  refine RL.move rfl rfl rfl rfl ?_
  refine RL.callv (rnat_any (some q) 37 c 33 4 l hn (by decide) (by decide) (by decide)) Try.call85 rfl rfl rfl rfl (by repeat (first | exact Lend.nil | (refine Lend.inI ?_ ?_; (solve | (repeat (first | exact List.Mem.head _ | apply List.Mem.tail)))) | (refine Lend.inH ?_ ?_; (solve | (repeat (first | exact List.Mem.head _ | apply List.Mem.tail)))))) ?_
  refine RL.conv Try.runUnderlying30 Try.runUnderlying25 rfl rfl rfl rfl ?_
  refine RL.fieldAddr fa_33_14 rfl rfl rfl rfl ?_
  refine RL.store (vs := [_]) Try.sizeOf24 rfl rfl rfl rfl rfl rfl rfl rfl rfl (by repeat (first | exact Upd.here | apply Upd.there)) ?_
  refine RL.fieldAddr fa_33_15 rfl rfl rfl rfl ?_
  refine RL.store (vs := [_]) Try.sizeOf25 rfl rfl rfl rfl rfl rfl rfl rfl rfl (by repeat (first | exact Upd.here | apply Upd.there)) ?_
  refine RL.nil ?_
  refine NQ.block ?_
  refine NQ.seq ?_
  refine CW.only (.cons (k := 0) rfl (.cons (k := 4) rfl (.cons (k := 8) rfl .nil))) ?_
  refine CW.seq ?_
  refine CW.seq ?_
  refine CW.region (ef := []) (bk := []) ?_
  refine RL.fieldAddr fa_33_12 rfl rfl rfl rfl ?_
  refine RL.load Try.isAgg5 rfl rfl rfl rfl (by first | assumption | (apply Rd.get; (solve | (repeat (first | exact List.Mem.head _ | apply List.Mem.tail))); assumption) | (apply Rd.getS; (solve | (repeat (first | exact List.Mem.head _ | apply List.Mem.tail))); assumption) | (apply Rd.getO; (solve | (repeat (first | exact List.Mem.head _ | apply List.Mem.tail))); assumption) | (apply Rd.getI; (solve | (repeat (first | exact List.Mem.head _ | apply List.Mem.tail))); assumption) | (apply Rd.cel; (solve | (repeat (first | exact List.Mem.head _ | apply List.Mem.tail))); exact rfl) | (apply Rd.celI; (solve | (repeat (first | exact List.Mem.head _ | apply List.Mem.tail))); exact rfl)) ?_
  refine RL.bin rfl rfl rfl rfl rfl rfl ?_
  refine RL.move rfl rfl rfl rfl ?_
  -- STOP: part 187; op 4: d=188 ["move", ["t", 0]] guard=[3, False] (ref.go:124)
  have hm : (getR 13 l).mode = bat l 0 := rfl
  have hq : (getR 13 l).epoch = 0 := rfl
  have hz : sizeR 13 = 37 := rfl
  refine RL.part (d := 187) rfl (fun h1 => ?_) (fun h1 => ?_)
  ·
    refine RL.skip rfl rfl rfl rfl ?_
    refine RL.skip rfl rfl rfl rfl ?_
    refine RL.skip rfl rfl rfl rfl ?_
    refine RL.skip rfl rfl rfl rfl ?_
    refine RL.skip rfl rfl rfl rfl ?_
    refine RL.skip rfl rfl rfl rfl ?_
    refine RL.skip rfl rfl rfl rfl ?_
    refine RL.pickT rfl rfl rfl rfl rfl ?_
    refine RL.nil ?_
    refine NQ.seq ?_
    refine CW.only (.cons (k := 4) rfl (.cons (k := 8) rfl (.cons (k := 195) rfl .nil))) ?_
    refine CW.condT rfl rfl ?_
    refine CW.seq ?_
    refine CW.region (ef := [1]) (bk := [1]) ?_
    refine RL.buildS _ Try.zeroValue33 pl_33 rfl rfl rfl rfl rfl ?_
    refine RL.storeW Try.sizeOf33 rfl rfl rfl rfl rfl rfl rfl (by first | rfl | exact ones_map one8 _ | exact ones_map (fun _ => rfl) _) (by repeat (first | exact Upd.here | apply Upd.there)) (by first | rfl | assumption | (simp only [List.length_map]; assumption) | (simp only [List.length_map, List.length_replicate]; done) | (simp; done)) (by first | rfl | assumption | (simp only [List.length_map]; assumption) | (simp only [List.length_map, List.length_replicate]; done) | (simp; done)) ?_
    refine RL.assign rfl rfl rfl rfl ?_
    refine RL.nil ?_
    refine NQ.seq ?_
    refine CW.ret ?_
    refine RQ.seq ?_
    -- STOP: ret; end
    have h1 : 2 < (bat l 0).toNat := by simp at h1; omega
    rw [← hm] at h1
    exact RQ.post (resWT rfl rfl rfl Try.isAgg33 Try.sizeOf33 (by repeat (first | exact List.Mem.head _ | apply List.Mem.tail)) rfl) (Split.none _) ⟨by rw [gotR, if_neg (by omega)]; rfl, rfl, rfl⟩
  ·
    refine RL.move rfl rfl rfl rfl ?_
    refine RL.bin rfl rfl rfl rfl rfl rfl ?_
    refine RL.move rfl rfl rfl rfl ?_
    -- STOP: part 190; op 7: d=191 ["fieldAddr", 33, ["t", 8], 13] guard=[6, True] (ref.go:124)
    have h1 : ¬ 2 < (bat l 0).toNat := by simp at h1; omega
    refine RL.cast (d := 190) (v' := .bool false) rfl (rfl) ?_
    refine RL.skip rfl rfl rfl rfl ?_
    refine RL.skip rfl rfl rfl rfl ?_
    refine RL.skip rfl rfl rfl rfl ?_
    refine RL.pickF rfl rfl rfl rfl rfl ?_
    refine RL.pickF rfl rfl rfl rfl rfl ?_
    refine RL.nil ?_
    refine NQ.seq ?_
    refine CW.only (.cons (k := 4) rfl (.cons (k := 8) rfl (.cons (k := 195) rfl .nil))) ?_
    refine CW.condF rfl rfl ?_
    refine CW.skip ?_
    refine NQ.seq ?_
    refine CW.seq ?_
    refine CW.region (ef := [1]) (bk := [1]) ?_
    refine RL.loadW Try.isAgg33 Try.sizeOf33 rfl rfl rfl rfl (by repeat (first | exact List.Mem.head _ | apply List.Mem.tail)) (by first | rfl | assumption | (simp only [List.length_map]; assumption) | (simp only [List.length_map, List.length_replicate]; done) | (simp; done)) ?_
    refine RL.storeW Try.sizeOf33 rfl rfl rfl rfl rfl rfl rfl (by first | rfl | exact ones_map one8 _ | exact ones_map (fun _ => rfl) _) (by repeat (first | exact Upd.here | apply Upd.there)) (by first | rfl | assumption | (simp only [List.length_map]; assumption) | (simp only [List.length_map, List.length_replicate]; done) | (simp; done)) (by first | rfl | assumption | (simp only [List.length_map]; assumption) | (simp only [List.length_map, List.length_replicate]; done) | (simp; done)) ?_
    refine RL.assign rfl rfl rfl rfl ?_
    refine RL.nil ?_
    refine NQ.seq ?_
    refine CW.ret ?_
    -- STOP: ret; end
    rw [← hm] at h1
    have hok : 1 ≤ (13 : Int) ∧ (13 : Int) ≤ 14 ∧ l.length = sizeR 13 ∧ (getR 13 l).mode.toNat ≤ 2 ∧ ¬ ((13 : Int) = 10 ∧ (getR 13 l).epoch = 0) := by refine ⟨by decide, by decide, by omega, by omega, by omega⟩
    exact RQ.post (resWT rfl rfl rfl Try.isAgg33 Try.sizeOf33 (by repeat (first | exact List.Mem.head _ | apply List.Mem.tail)) rfl) (Split.none _) ⟨by rw [gotR, if_pos hok]; (try simp only [u32_nt, u16_nt]); rfl, rfl, rfl⟩
theorem rgot_14 (p : Option Addr) (n c : Nat) (l : List B8) (hn : l.length = n) (h : n = 16) : Spc Try.prog 25 #[.int .i64 14, .slice p n c] [sls p 1 n (bytes l)] [] (Is (gotV (gotR 14 l))) := by
  subst h
  refine Spc.some' (g := fun p => #[.int .i64 14, .slice p 16 c]) (I := fun p => [sls p 1 16 (bytes l)]) (H := fun _ => []) (R := fun _ => Is _) (List.Mem.head _) (by decide) (fun q _ => ?_)
  refine Spc.enter Try.func25 rfl rfl rfl (fun w0 hw0 => ?_)
  refine CW.seq ?_
  refine CW.region (ef := [0]) (bk := []) ?_
  refine RL.alloc Try.zeroValue33 rfl rfl rfl rfl rfl ?_
  intro b1
  refine RL.assign rfl rfl rfl rfl ?_
  refine RL.nil ?_
  refine NQ.seq ?_
  refine CW.seq ?_
  refine CW.region (ef := []) (bk := []) ?_
  refine RL.move rfl rfl rfl rfl ?_
  refine RL.callv (rsize_any 14) Try.call18 rfl rfl rfl rfl (by repeat (first | exact Lend.nil | (refine Lend.inI ?_ ?_; (solve | (repeat (first | exact List.Mem.head _ | apply List.Mem.tail)))) | (refine Lend.inH ?_ ?_; (solve | (repeat (first | exact List.Mem.head _ | apply List.Mem.tail)))))) ?_
  refine RL.move rfl rfl rfl rfl ?_
  -- STOP: op; op 3: d=14 ["extract", ["t", 11], 0] guard=None (ref.go:83)
  rw [show sizeV 14 = .tuple #[.int .i64 16, .int .i64 0] from rfl]
  refine RL.extract rfl rfl rfl rfl rfl ?_
  refine RL.extract rfl rfl rfl rfl rfl ?_
  refine RL.assign rfl rfl rfl rfl ?_
  refine RL.assign rfl rfl rfl rfl ?_
  refine RL.nil ?_
  refine NQ.seq ?_
  refine CW.only (.cons (k := 0) rfl (.cons (k := 1) rfl (.cons (k := 4) rfl (.cons (k := 6) rfl (.cons (k := 7) rfl .nil))))) ?_
  refine CW.seq ?_
  refine CW.seq ?_
  refine CW.region (ef := []) (bk := []) ?_
  refine RL.move rfl rfl rfl rfl ?_
  refine RL.bin rfl rfl rfl rfl rfl rfl ?_
  refine RL.move rfl rfl rfl rfl ?_
  -- STOP: part 18; op 3: d=19 ["move", ["t", 6]] guard=[2, False] (ref.go:84)
  refine RL.cast (d := 18) (v' := .bool false) rfl (rfl) ?_
  refine RL.move rfl rfl rfl rfl ?_
  refine RL.move rfl rfl rfl rfl ?_
  refine RL.lenS Try.runUnderlying34 rfl rfl rfl rfl ?_
  refine RL.bin rfl rfl rfl rfl rfl rfl ?_
  refine RL.pickF rfl rfl rfl rfl rfl ?_
  refine RL.nil ?_
  refine NQ.seq ?_
  refine CW.only (.cons (k := 0) rfl (.cons (k := 1) rfl (.cons (k := 4) rfl (.cons (k := 23) rfl .nil)))) ?_
  -- STOP: if; todo top: ["code", ["cond", ["t", 23], ["seq", ["region", 3, [{"d": 24, "op": ["build", 33, []], "ty": 33, "pos": "ref.go:85", "after": [], "guard": null}, {"d": null, "op": ["store", 33, ["t", 4], ["t", 24]], 
  refine CW.condF rfl (rfl) ?_
  refine CW.skip ?_
  refine NQ.seq ?_
  refine CW.seq ?_
  refine CW.region (ef := [2, 3]) (bk := [3]) ?_
  refine RL.move rfl rfl rfl rfl ?_
  -- STOP: op; op 1: d=26 ["build", 33, [[0, ["t", 25]]]] guard=None (ref.go:87)
  refine RL.buildS (Rdg.cells (rz 14)) Try.zeroValue33 pl_33 rfl rfl rfl rfl rfl ?_
  refine RL.alloc Try.zeroValue33 rfl rfl rfl rfl rfl ?_
  intro b2
  refine RL.storeW Try.sizeOf33 rfl rfl rfl rfl rfl rfl rfl (by first | rfl | exact ones_map one8 _ | exact ones_map (fun _ => rfl) _) (by repeat (first | exact Upd.here | apply Upd.there)) (by first | rfl | assumption | (simp only [List.length_map]; assumption) | (simp only [List.length_map, List.length_replicate]; done) | (simp; done)) (by first | rfl | assumption | (simp only [List.length_map]; assumption) | (simp only [List.length_map, List.length_replicate]; done) | (simp; done)) ?_
  refine RL.nil ?_
  refine NQ.seq ?_
  refine CW.seq ?_
  refine CW.seq ?_
  refine CW.region (ef := []) (bk := []) ?_
  refine RL.move rfl rfl rfl rfl ?_
  refine RL.nil ?_
  refine NQ.seq ?_
  refine CW.block ?_
  refine CW.seq ?_
  refine CW.region (ef := []) (bk := []) ?_
  refine RL.bin rfl rfl rfl rfl rfl rfl ?_
  refine RL.assign rfl rfl rfl rfl ?_
  refine RL.nil ?_
  refine NQ.seq ?_
  -- STOP: if; todo top: ["code", ["cond", ["t", 28], ["seq", ["region", 7, [{"d": 9, "op": ["assign", ["c", ["int", "Go.IntKind.i64", 0]]], "ty": 3, "pos": "ref.go:90", "after": [], "guard": null}], false], ["block", 1, ["lo
  refine CW.condF rfl (rfl) ?_
  refine CW.seq ?_
  refine CW.region (ef := []) (bk := []) ?_
  refine RL.bin rfl rfl rfl rfl rfl rfl ?_
  refine RL.assign rfl rfl rfl rfl ?_
  refine RL.nil ?_
  refine NQ.seq ?_
  refine CW.only (.cons (k := 0) rfl (.cons (k := 1) rfl (.cons (k := 4) rfl (.cons (k := 8) rfl (.cons (k := 27) rfl (.cons (k := 53) rfl .nil)))))) ?_
  -- STOP: if; todo top: ["code", ["cond", ["t", 53], ["region", 13, [{"d": 55, "op": ["move", ["t", 1]], "ty": 34, "pos": "ref.go:95", "after": [], "guard": null}, {"d": 56, "op": ["call", ["f", 85], [["t", 55], ["c", ["int"
  refine CW.condF rfl (rfl) ?_
  refine CW.seq ?_
  refine CW.region (ef := []) (bk := []) ?_
  refine RL.bin rfl rfl rfl rfl rfl rfl ?_
  refine RL.assign rfl rfl rfl rfl ?_
  refine RL.nil ?_
  refine NQ.seq ?_
  -- STOP: if; todo top: ["code", ["cond", ["t", 59], ["region", 15, [{"d": 61, "op": ["move", ["t", 1]], "ty": 34, "pos": "ref.go:97", "after": [], "guard": null}, {"d": 62, "op": ["call", ["f", 85], [["t", 61], ["c", ["int"
  refine CW.condF rfl (rfl) ?_
  refine CW.seq ?_
  refine CW.region (ef := []) (bk := []) ?_
  refine RL.bin rfl rfl rfl rfl rfl rfl ?_
  refine RL.assign rfl rfl rfl rfl ?_
  refine RL.nil ?_
  refine NQ.seq ?_
  -- STOP: if; todo top: ["code", ["cond", ["t", 65], ["region", 17, [{"d": 67, "op": ["move", ["t", 1]], "ty": 34, "pos": "ref.go:99", "after": [], "guard": null}, {"d": 68, "op": ["call", ["f", 85], [["t", 67], ["c", ["int"
  refine CW.condF rfl (rfl) ?_
  refine CW.seq ?_
  refine CW.region (ef := []) (bk := []) ?_
  refine RL.bin rfl rfl rfl rfl rfl rfl ?_
  refine RL.assign rfl rfl rfl rfl ?_
  refine RL.nil ?_
  refine NQ.seq ?_
  refine CW.only (.cons (k := 0) rfl (.cons (k := 1) rfl (.cons (k := 4) rfl (.cons (k := 8) rfl (.cons (k := 27) rfl (.cons (k := 76) rfl .nil)))))) ?_
  -- STOP: if; todo top: ["code", ["cond", ["t", 76], ["seq", ["region", 19, [{"d": 78, "op": ["move", ["t", 1]], "ty": 34, "pos": "ref.go:101", "after": [], "guard": null}, {"d": 79, "op": ["call", ["f", 85], [["t", 78], ["c
  refine CW.condF rfl (rfl) ?_
  refine CW.seq ?_
  refine CW.region (ef := []) (bk := []) ?_
  refine RL.bin rfl rfl rfl rfl rfl rfl ?_
  refine RL.assign rfl rfl rfl rfl ?_
  refine RL.nil ?_
  refine NQ.seq ?_
  -- STOP: if; todo top: ["code", ["cond", ["t", 97], ["seq", ["region", 22, [{"d": 99, "op": ["move", ["t", 1]], "ty": 34, "pos": "ref.go:104", "after": [], "guard": null}, {"d": 100, "op": ["call", ["f", 85], [["t", 99], ["
  refine CW.condF rfl (rfl) ?_
  refine CW.seq ?_
  refine CW.region (ef := []) (bk := []) ?_
  refine RL.bin rfl rfl rfl rfl rfl rfl ?_
  refine RL.assign rfl rfl rfl rfl ?_
  refine RL.nil ?_
  refine NQ.seq ?_
  -- STOP: if; todo top: ["code", ["cond", ["t", 115], ["region", 28, [{"d": 117, "op": ["move", ["t", 1]], "ty": 34, "pos": "ref.go:109", "after": [], "guard": null}, {"d": 118, "op": ["call", ["f", 85], [["t", 117], ["c", [
  refine CW.condF rfl (rfl) ?_
  refine CW.seq ?_
  refine CW.region (ef := []) (bk := []) ?_
  refine RL.bin rfl rfl rfl rfl rfl rfl ?_
  refine RL.assign rfl rfl rfl rfl ?_
  refine RL.nil ?_
  refine NQ.seq ?_
  refine CW.only (.cons (k := 0) rfl (.cons (k := 1) rfl (.cons (k := 4) rfl (.cons (k := 8) rfl (.cons (k := 27) rfl (.cons (k := 120) rfl .nil)))))) ?_
  -- STOP: if; todo top: ["code", ["cond", ["t", 120], ["region", 30, [{"d": 122, "op": ["move", ["t", 1]], "ty": 34, "pos": "ref.go:111", "after": [], "guard": null}, {"d": 123, "op": ["indexAddr", 34, ["t", 122], ["c", ["in
  refine CW.condF rfl (rfl) ?_
  refine CW.seq ?_
  refine CW.region (ef := []) (bk := []) ?_
  refine RL.bin rfl rfl rfl rfl rfl rfl ?_
  refine RL.assign rfl rfl rfl rfl ?_
  refine RL.nil ?_
  refine NQ.seq ?_
  -- STOP: if; todo top: ["code", ["cond", ["t", 126], ["region", 32, [{"d": 128, "op": ["move", ["t", 1]], "ty": 34, "pos": "ref.go:113", "after": [], "guard": null}, {"d": 129, "op": ["call", ["f", 85], [["t", 128], ["c", [
  refine CW.condF rfl (rfl) ?_
  refine CW.seq ?_
  refine CW.region (ef := []) (bk := []) ?_
  refine RL.bin rfl rfl rfl rfl rfl rfl ?_
  refine RL.assign rfl rfl rfl rfl ?_
  refine RL.nil ?_
  refine NQ.seq ?_
  -- STOP: if; todo top: ["code", ["cond", ["t", 132], ["region", 34, [{"d": 134, "op": ["move", ["t", 1]], "ty": 34, "pos": "ref.go:115", "after": [], "guard": null}, {"d": 135, "op": ["indexAddr", 34, ["t", 134], ["c", ["in
  refine CW.condF rfl (rfl) ?_
  refine CW.seq ?_
  refine CW.region (ef := []) (bk := []) ?_
  refine RL.bin rfl rfl rfl rfl rfl rfl ?_
  refine RL.assign rfl rfl rfl rfl ?_
  refine RL.nil ?_
  refine NQ.seq ?_
  refine CW.only (.cons (k := 0) rfl (.cons (k := 1) rfl (.cons (k := 4) rfl (.cons (k := 8) rfl (.cons (k := 27) rfl (.cons (k := 138) rfl .nil)))))) ?_
  -- STOP: if; todo top: ["code", ["cond", ["t", 138], ["seq", ["region", 36, [{"d": 140, "op": ["move", ["t", 1]], "ty": 34, "pos": "ref.go:117", "after": [], "guard": null}, {"d": 141, "op": ["indexAddr", 34, ["t", 140], ["
  refine CW.condF rfl (rfl) ?_
  refine CW.seq ?_
  refine CW.region (ef := []) (bk := []) ?_
  refine RL.bin rfl rfl rfl rfl rfl rfl ?_
  refine RL.assign rfl rfl rfl rfl ?_
  refine RL.nil ?_
  refine NQ.seq ?_
  -- STOP: if; todo top: ["code", ["cond", ["t", 163], ["seq", ["region", 40, [{"d": 165, "op": ["move", ["t", 1]], "ty": 34, "pos": "ref.go:121", "after": [], "guard": null}, {"d": 166, "op": ["indexAddr", 34, ["t", 165], ["
  refine CW.condT rfl (rfl) ?_
  refine CW.seq ?_
  -- STOP: region; todo top: ["code", ["region", 40, [{"d": 165, "op": ["move", ["t", 1]], "ty": 34, "pos": "ref.go:121", "after": [], "guard": null}, {"d": 166, "op": ["indexAddr", 34, ["t", 165], ["c", ["int", "Go.IntKind.i64",
  refine CW.cut [(0, .int .i64 14), (1, .slice (some q) 16 c), (4, .pointer (some ⟨b1, 0, none⟩)), (8, .pointer (some ⟨b2, 0, none⟩))] [sls (some q) 1 16 (bytes l)] [cel b2 (spl (spl (spl (Rdg.cells (rz 14)) (0 + 53) [U8 (bat l 0)]) (0 + 54) [U8 (bat l 1)]) (0 + 55) [.int .u16 (IntKind.u16.wrap (nat l 2 2 : Int))]) 33, cel b1 (Rdg.cells (rz 0)) 33] ?_ ?_
  ·
    have hv0 := bat_v (l := l) (o := 0) (by omega)
    have hv1 := bat_v (l := l) (o := 1) (by omega)
    refine CW.regionD (.cons 0 (.cons 1 (.cons 2 (.cons 3 (.cons 4 (.cons 6 (.cons 7 (.cons 8 (.cons 9 (.fork [5, 10] (fun k => (bif Nat.beq k 5 then (Sq.of [10, 11, 12, 13, 14]) else (Sq.of [5, 11, 12, 13, 14]))))))))))))) [10, 12, 14] [10, 12, 14] [0, 1, 3, 4, 6, 8, 9, 11, 13] mixed (by kernel_rfl) ?_
    refine RL.move rfl rfl rfl rfl ?_
    -- STOP: op; op 1: d=166 ["indexAddr", 34, ["t", 165], ["c", ["int", "Go.IntKind.i64", 0]]] guard=None (ref.go:121)
    refine RL.idx (j := 0) Try.runUnderlying34 Try.sizeOf5 rfl rfl rfl rfl rfl rfl (by decide) ?_
    refine RL.load Try.isAgg5 rfl rfl rfl rfl (by first | assumption | (apply Rd.get; (solve | (repeat (first | exact List.Mem.head _ | apply List.Mem.tail))); assumption) | (apply Rd.getS; (solve | (repeat (first | exact List.Mem.head _ | apply List.Mem.tail))); assumption) | (apply Rd.getO; (solve | (repeat (first | exact List.Mem.head _ | apply List.Mem.tail))); assumption) | (apply Rd.getI; (solve | (repeat (first | exact List.Mem.head _ | apply List.Mem.tail))); assumption) | (apply Rd.cel; (solve | (repeat (first | exact List.Mem.head _ | apply List.Mem.tail))); exact rfl) | (apply Rd.celI; (solve | (repeat (first | exact List.Mem.head _ | apply List.Mem.tail))); exact rfl)) ?_
    refine RL.move rfl rfl rfl rfl ?_
    -- STOP: op; op 4: d=169 ["indexAddr", 34, ["t", 168], ["c", ["int", "Go.IntKind.i64", 1]]] guard=None (ref.go:121)
    refine RL.idx (j := 1) Try.runUnderlying34 Try.sizeOf5 rfl rfl rfl rfl rfl rfl (by decide) ?_
    refine RL.move rfl rfl rfl rfl ?_
    refine RL.callv (rnat_any (some q) 16 c 2 2 l hn (by decide) (by decide) (by decide)) Try.call85 rfl rfl rfl rfl (by repeat (first | exact Lend.nil | (refine Lend.inI ?_ ?_; (solve | (repeat (first | exact List.Mem.head _ | apply List.Mem.tail)))) | (refine Lend.inH ?_ ?_; (solve | (repeat (first | exact List.Mem.head _ | apply List.Mem.tail)))))) ?_
    refine RL.conv Try.runUnderlying30 Try.runUnderlying31 rfl rfl rfl rfl ?_
    refine RL.fieldAddr fa_33_16 rfl rfl rfl rfl ?_
    -- STOP: fork; todo top: ["code", ["region", 40, [{"d": 165, "op": ["move", ["t", 1]], "ty": 34, "pos": "ref.go:121", "after": [], "guard": null}, {"d": 166, "op": ["indexAddr", 34, ["t", 165], ["c", ["int", "Go.IntKind.i64",
    refine RL.fork ⟨?_, ?_, trivial⟩
    ·
      refine RL.load Try.isAgg5 rfl rfl rfl rfl (by first | assumption | (apply Rd.get; (solve | (repeat (first | exact List.Mem.head _ | apply List.Mem.tail))); assumption) | (apply Rd.getS; (solve | (repeat (first | exact List.Mem.head _ | apply List.Mem.tail))); assumption) | (apply Rd.getO; (solve | (repeat (first | exact List.Mem.head _ | apply List.Mem.tail))); assumption) | (apply Rd.getI; (solve | (repeat (first | exact List.Mem.head _ | apply List.Mem.tail))); assumption) | (apply Rd.cel; (solve | (repeat (first | exact List.Mem.head _ | apply List.Mem.tail))); exact rfl) | (apply Rd.celI; (solve | (repeat (first | exact List.Mem.head _ | apply List.Mem.tail))); exact rfl)) ?_
      refine RL.store (vs := [_]) Try.sizeOf5 rfl rfl rfl rfl rfl rfl rfl rfl rfl (by repeat (first | exact Upd.here | apply Upd.there)) ?_
      refine RL.fieldAddr fa_33_17 rfl rfl rfl rfl ?_
      refine RL.store (vs := [_]) Try.sizeOf5 rfl rfl rfl rfl rfl rfl rfl rfl rfl (by repeat (first | exact Upd.here | apply Upd.there)) ?_
      refine RL.fieldAddr fa_33_18 rfl rfl rfl rfl ?_
      refine RL.store (vs := [_]) Try.sizeOf31 rfl rfl rfl rfl rfl rfl rfl rfl rfl (by repeat (first | exact Upd.here | apply Upd.there)) ?_
      refine RL.nil ?_
      exact NQ.mid (.cons rfl (.cons rfl (.cons rfl (.cons rfl .nil)))) (fun _ h => h)
    ·
      refine RL.store (vs := [_]) Try.sizeOf5 rfl rfl rfl rfl rfl rfl rfl rfl rfl (by repeat (first | exact Upd.here | apply Upd.there)) ?_
      refine RL.load Try.isAgg5 rfl rfl rfl rfl (by first | assumption | (apply Rd.get; (solve | (repeat (first | exact List.Mem.head _ | apply List.Mem.tail))); assumption) | (apply Rd.getS; (solve | (repeat (first | exact List.Mem.head _ | apply List.Mem.tail))); assumption) | (apply Rd.getO; (solve | (repeat (first | exact List.Mem.head _ | apply List.Mem.tail))); assumption) | (apply Rd.getI; (solve | (repeat (first | exact List.Mem.head _ | apply List.Mem.tail))); assumption) | (apply Rd.cel; (solve | (repeat (first | exact List.Mem.head _ | apply List.Mem.tail))); exact rfl) | (apply Rd.celI; (solve | (repeat (first | exact List.Mem.head _ | apply List.Mem.tail))); exact rfl)) ?_
      refine RL.fieldAddr fa_33_17 rfl rfl rfl rfl ?_
      refine RL.store (vs := [_]) Try.sizeOf5 rfl rfl rfl rfl rfl rfl rfl rfl rfl (by repeat (first | exact Upd.here | apply Upd.there)) ?_
      refine RL.fieldAddr fa_33_18 rfl rfl rfl rfl ?_
      refine RL.store (vs := [_]) Try.sizeOf31 rfl rfl rfl rfl rfl rfl rfl rfl rfl (by repeat (first | exact Upd.here | apply Upd.there)) ?_
      refine RL.nil ?_
      exact NQ.mid (.cons rfl (.cons rfl (.cons rfl (.cons rfl .nil)))) (fun _ h => h)
  refine CW.region (ef := [6, 8]) (bk := [6, 8]) ?_
  refine RL.move rfl rfl rfl rfl ?_
  refine RL.callv (rnat_any (some q) 16 c 4 8 l hn (by decide) (by decide) (by decide)) Try.call85 rfl rfl rfl rfl (by repeat (first | exact Lend.nil | (refine Lend.inI ?_ ?_; (solve | (repeat (first | exact List.Mem.head _ | apply List.Mem.tail)))) | (refine Lend.inH ?_ ?_; (solve | (repeat (first | exact List.Mem.head _ | apply List.Mem.tail)))))) ?_
  refine RL.move rfl rfl rfl rfl ?_
  refine RL.callv (rnat_any (some q) 16 c 12 4 l hn (by decide) (by decide) (by decide)) Try.call85 rfl rfl rfl rfl (by repeat (first | exact Lend.nil | (refine Lend.inI ?_ ?_; (solve | (repeat (first | exact List.Mem.head _ | apply List.Mem.tail)))) | (refine Lend.inH ?_ ?_; (solve | (repeat (first | exact List.Mem.head _ | apply List.Mem.tail)))))) ?_
  refine RL.conv Try.runUnderlying30 Try.runUnderlying25 rfl rfl rfl rfl ?_
  refine RL.fieldAddr fa_33_19 rfl rfl rfl rfl ?_
  refine RL.store (vs := [_]) Try.sizeOf30 rfl rfl rfl rfl rfl rfl rfl rfl rfl (by repeat (first | exact Upd.here | apply Upd.there)) ?_
  refine RL.fieldAddr fa_33_13 rfl rfl rfl rfl ?_
  refine RL.store (vs := [_]) Try.sizeOf25 rfl rfl rfl rfl rfl rfl rfl rfl rfl (by repeat (first | exact Upd.here | apply Upd.there)) ?_
  refine RL.nil ?_
  refine NQ.block ?_
  refine NQ.seq ?_
  refine CW.only (.cons (k := 0) rfl (.cons (k := 4) rfl (.cons (k := 8) rfl .nil))) ?_
  refine CW.seq ?_
  refine CW.seq ?_
  refine CW.region (ef := []) (bk := []) ?_
  refine RL.fieldAddr fa_33_12 rfl rfl rfl rfl ?_
  refine RL.load Try.isAgg5 rfl rfl rfl rfl (by first | assumption | (apply Rd.get; (solve | (repeat (first | exact List.Mem.head _ | apply List.Mem.tail))); assumption) | (apply Rd.getS; (solve | (repeat (first | exact List.Mem.head _ | apply List.Mem.tail))); assumption) | (apply Rd.getO; (solve | (repeat (first | exact List.Mem.head _ | apply List.Mem.tail))); assumption) | (apply Rd.getI; (solve | (repeat (first | exact List.Mem.head _ | apply List.Mem.tail))); assumption) | (apply Rd.cel; (solve | (repeat (first | exact List.Mem.head _ | apply List.Mem.tail))); exact rfl) | (apply Rd.celI; (solve | (repeat (first | exact List.Mem.head _ | apply List.Mem.tail))); exact rfl)) ?_
  refine RL.bin rfl rfl rfl rfl rfl rfl ?_
  refine RL.move rfl rfl rfl rfl ?_
  -- STOP: part 187; op 4: d=188 ["move", ["t", 0]] guard=[3, False] (ref.go:124)
  have hm : (getR 14 l).mode = 0#8 := rfl
  have hq : (getR 14 l).epoch = (nat l 12 4 : Int) := rfl
  have hz : sizeR 14 = 16 := rfl
  refine RL.cast (d := 187) (v' := .bool false) rfl (rfl) ?_
  refine RL.move rfl rfl rfl rfl ?_
  refine RL.bin rfl rfl rfl rfl rfl rfl ?_
  refine RL.move rfl rfl rfl rfl ?_
  -- STOP: part 190; op 7: d=191 ["fieldAddr", 33, ["t", 8], 13] guard=[6, True] (ref.go:124)
  refine RL.cast (d := 190) (v' := .bool false) rfl (rfl) ?_
  refine RL.skip rfl rfl rfl rfl ?_
  refine RL.skip rfl rfl rfl rfl ?_
  refine RL.skip rfl rfl rfl rfl ?_
  refine RL.pickF rfl rfl rfl rfl rfl ?_
  refine RL.pickF rfl rfl rfl rfl rfl ?_
  refine RL.nil ?_
  refine NQ.seq ?_
  refine CW.only (.cons (k := 4) rfl (.cons (k := 8) rfl (.cons (k := 195) rfl .nil))) ?_
  refine CW.condF rfl rfl ?_
  refine CW.skip ?_
  refine NQ.seq ?_
  refine CW.seq ?_
  refine CW.region (ef := [1]) (bk := [1]) ?_
  refine RL.loadW Try.isAgg33 Try.sizeOf33 rfl rfl rfl rfl (by repeat (first | exact List.Mem.head _ | apply List.Mem.tail)) (by first | rfl | assumption | (simp only [List.length_map]; assumption) | (simp only [List.length_map, List.length_replicate]; done) | (simp; done)) ?_
  refine RL.storeW Try.sizeOf33 rfl rfl rfl rfl rfl rfl rfl (by first | rfl | exact ones_map one8 _ | exact ones_map (fun _ => rfl) _) (by repeat (first | exact Upd.here | apply Upd.there)) (by first | rfl | assumption | (simp only [List.length_map]; assumption) | (simp only [List.length_map, List.length_replicate]; done) | (simp; done)) (by first | rfl | assumption | (simp only [List.length_map]; assumption) | (simp only [List.length_map, List.length_replicate]; done) | (simp; done)) ?_
  refine RL.assign rfl rfl rfl rfl ?_
  refine RL.nil ?_
  refine NQ.seq ?_
  refine CW.ret ?_
  -- STOP: ret; end
  have hok : 1 ≤ (14 : Int) ∧ (14 : Int) ≤ 14 ∧ l.length = sizeR 14 ∧ (getR 14 l).mode.toNat ≤ 2 ∧ ¬ ((14 : Int) = 10 ∧ (getR 14 l).epoch = 0) := by refine ⟨by decide, by decide, by omega, by rw [hm]; decide, by omega⟩
  exact RQ.post (resWT rfl rfl rfl Try.isAgg33 Try.sizeOf33 (by repeat (first | exact List.Mem.head _ | apply List.Mem.tail)) rfl) (Split.none _) ⟨by rw [gotR, if_pos hok]; (try simp only [u32_nt, u16_nt]); rfl, rfl, rfl⟩

theorem rgot_bad (k : Int) (p : Option Addr) (n c : Nat) (l : List B8) (hn : l.length = n) (hb : n ≤ 1000000000) (h : ¬ (1 ≤ k ∧ k ≤ 14 ∧ n = sizeR k)) : Spc Try.prog 25 #[.int .i64 k, .slice p n c] [sls p 1 n (bytes l)] [] (Is (gotV (gotR k l))) := by
  by_cases hk : 1 ≤ k ∧ k ≤ 14
  · have hs : sizeV k = .tuple #[.int .i64 (sizeR k : Int), .int .i64 0] := by rw [sizeV, if_pos hk]
    refine Spc.enter Try.func25 rfl rfl rfl (fun w0 hw0 => ?_)
    refine CW.seq ?_
    refine CW.region (ef := [0]) (bk := []) ?_
    refine RL.alloc Try.zeroValue33 rfl rfl rfl rfl rfl ?_
    intro b1
    refine RL.assign rfl rfl rfl rfl ?_
    refine RL.nil ?_
    refine NQ.seq ?_
    refine CW.seq ?_
    refine CW.region (ef := []) (bk := []) ?_
    refine RL.move rfl rfl rfl rfl ?_
    refine RL.callv (rsize_any k) Try.call18 rfl rfl rfl rfl (by repeat (first | exact Lend.nil | (refine Lend.inI ?_ ?_; (solve | (repeat (first | exact List.Mem.head _ | apply List.Mem.tail)))) | (refine Lend.inH ?_ ?_; (solve | (repeat (first | exact List.Mem.head _ | apply List.Mem.tail)))))) ?_
    refine RL.move rfl rfl rfl rfl ?_
    -- STOP: op; op 3: d=14 ["extract", ["t", 11], 0] guard=None (ref.go:83)
    rw [hs]
    refine RL.extract rfl rfl rfl rfl rfl ?_
    refine RL.extract rfl rfl rfl rfl rfl ?_
    refine RL.assign rfl rfl rfl rfl ?_
    refine RL.assign rfl rfl rfl rfl ?_
    refine RL.nil ?_
    refine NQ.seq ?_
    refine CW.only (.cons (k := 0) rfl (.cons (k := 1) rfl (.cons (k := 4) rfl (.cons (k := 6) rfl (.cons (k := 7) rfl .nil))))) ?_
    refine CW.seq ?_
    refine CW.seq ?_
    refine CW.region (ef := []) (bk := []) ?_
    refine RL.move rfl rfl rfl rfl ?_
    refine RL.bin rfl rfl rfl rfl rfl rfl ?_
    refine RL.move rfl rfl rfl rfl ?_
    -- STOP: part 18; op 3: d=19 ["move", ["t", 6]] guard=[2, False] (ref.go:84)
    refine RL.cast (d := 18) (v' := .bool false) rfl (rfl) ?_
    refine RL.move rfl rfl rfl rfl ?_
    refine RL.move rfl rfl rfl rfl ?_
    refine RL.lenS Try.runUnderlying34 rfl rfl rfl rfl ?_
    refine RL.bin rfl rfl rfl rfl rfl rfl ?_
    refine RL.pickF rfl rfl rfl rfl rfl ?_
    refine RL.nil ?_
    refine NQ.seq ?_
    refine CW.only (.cons (k := 0) rfl (.cons (k := 1) rfl (.cons (k := 4) rfl (.cons (k := 23) rfl .nil)))) ?_
    -- STOP: if; todo top: ["code", ["cond", ["t", 23], ["seq", ["region", 3, [{"d": 24, "op": ["build", 33, []], "ty": 33, "pos": "ref.go:85", "after": [], "guard": null}, {"d": null, "op": ["store", 33, ["t", 4], ["t", 24]], 
    refine CW.condT rfl ((by have : n ≠ sizeR k := (by omega); simp; omega)) ?_
    refine CW.seq ?_
    refine CW.region (ef := [1]) (bk := [1]) ?_
    refine RL.buildS _ Try.zeroValue33 pl_33 rfl rfl rfl rfl rfl ?_
    refine RL.storeW Try.sizeOf33 rfl rfl rfl rfl rfl rfl rfl (by first | rfl | exact ones_map one8 _ | exact ones_map (fun _ => rfl) _) (by repeat (first | exact Upd.here | apply Upd.there)) (by first | rfl | assumption | (simp only [List.length_map]; assumption) | (simp only [List.length_map, List.length_replicate]; done) | (simp; done)) (by first | rfl | assumption | (simp only [List.length_map]; assumption) | (simp only [List.length_map, List.length_replicate]; done) | (simp; done)) ?_
    refine RL.assign rfl rfl rfl rfl ?_
    refine RL.nil ?_
    refine NQ.seq ?_
    refine CW.ret ?_
    refine RQ.seq ?_
    -- STOP: ret; end
    exact RQ.post (resWT rfl rfl rfl Try.isAgg33 Try.sizeOf33 (by repeat (first | exact List.Mem.head _ | apply List.Mem.tail)) rfl) (Split.none _) ⟨by rw [gotR, if_neg (by omega)]; rfl, rfl, rfl⟩
  · have hs : sizeV k = .tuple #[.int .i64 0, .int .i64 120] := by rw [sizeV, if_neg hk]
    refine Spc.enter Try.func25 rfl rfl rfl (fun w0 hw0 => ?_)
    refine CW.seq ?_
    refine CW.region (ef := [0]) (bk := []) ?_
    refine RL.alloc Try.zeroValue33 rfl rfl rfl rfl rfl ?_
    intro b1
    refine RL.assign rfl rfl rfl rfl ?_
    refine RL.nil ?_
    refine NQ.seq ?_
    refine CW.seq ?_
    refine CW.region (ef := []) (bk := []) ?_
    refine RL.move rfl rfl rfl rfl ?_
    refine RL.callv (rsize_any k) Try.call18 rfl rfl rfl rfl (by repeat (first | exact Lend.nil | (refine Lend.inI ?_ ?_; (solve | (repeat (first | exact List.Mem.head _ | apply List.Mem.tail)))) | (refine Lend.inH ?_ ?_; (solve | (repeat (first | exact List.Mem.head _ | apply List.Mem.tail)))))) ?_
    refine RL.move rfl rfl rfl rfl ?_
    -- STOP: op; op 3: d=14 ["extract", ["t", 11], 0] guard=None (ref.go:83)
    rw [hs]
    refine RL.extract rfl rfl rfl rfl rfl ?_
    refine RL.extract rfl rfl rfl rfl rfl ?_
    refine RL.assign rfl rfl rfl rfl ?_
    refine RL.assign rfl rfl rfl rfl ?_
    refine RL.nil ?_
    refine NQ.seq ?_
    refine CW.only (.cons (k := 0) rfl (.cons (k := 1) rfl (.cons (k := 4) rfl (.cons (k := 6) rfl (.cons (k := 7) rfl .nil))))) ?_
    refine CW.seq ?_
    refine CW.seq ?_
    refine CW.region (ef := []) (bk := []) ?_
    refine RL.move rfl rfl rfl rfl ?_
    refine RL.bin rfl rfl rfl rfl rfl rfl ?_
    refine RL.move rfl rfl rfl rfl ?_
    -- STOP: part 18; op 3: d=19 ["move", ["t", 6]] guard=[2, False] (ref.go:84)
    refine RL.cast (d := 18) (v' := .bool true) rfl (rfl) ?_
    refine RL.skip rfl rfl rfl rfl ?_
    refine RL.skip rfl rfl rfl rfl ?_
    refine RL.skip rfl rfl rfl rfl ?_
    refine RL.skip rfl rfl rfl rfl ?_
    refine RL.pickT rfl rfl rfl rfl rfl ?_
    refine RL.nil ?_
    refine NQ.seq ?_
    refine CW.only (.cons (k := 0) rfl (.cons (k := 1) rfl (.cons (k := 4) rfl (.cons (k := 23) rfl .nil)))) ?_
    refine CW.condT rfl rfl ?_
    refine CW.seq ?_
    refine CW.region (ef := [1]) (bk := [1]) ?_
    refine RL.buildS _ Try.zeroValue33 pl_33 rfl rfl rfl rfl rfl ?_
    refine RL.storeW Try.sizeOf33 rfl rfl rfl rfl rfl rfl rfl (by first | rfl | exact ones_map one8 _ | exact ones_map (fun _ => rfl) _) (by repeat (first | exact Upd.here | apply Upd.there)) (by first | rfl | assumption | (simp only [List.length_map]; assumption) | (simp only [List.length_map, List.length_replicate]; done) | (simp; done)) (by first | rfl | assumption | (simp only [List.length_map]; assumption) | (simp only [List.length_map, List.length_replicate]; done) | (simp; done)) ?_
    refine RL.assign rfl rfl rfl rfl ?_
    refine RL.nil ?_
    refine NQ.seq ?_
    refine CW.ret ?_
    refine RQ.seq ?_
    -- STOP: ret; end
    exact RQ.post (resWT rfl rfl rfl Try.isAgg33 Try.sizeOf33 (by repeat (first | exact List.Mem.head _ | apply List.Mem.tail)) rfl) (Split.none _) ⟨by rw [gotR, if_neg (by omega)]; rfl, rfl, rfl⟩
theorem rgot_any (k : Int) (p : Option Addr) (n c : Nat) (l : List B8) (hn : l.length = n) (hb : n ≤ 1000000000) : Spc Try.prog 25 #[.int .i64 k, .slice p n c] [sls p 1 n (bytes l)] [] (Is (gotV (gotR k l))) := by
  by_cases h : 1 ≤ k ∧ k ≤ 14 ∧ n = sizeR k
  · obtain ⟨h1, h2, h3⟩ := h
    obtain ⟨m, rfl⟩ : ∃ m : Nat, k = (m : Int) := ⟨k.toNat, by omega⟩
    have hm : 1 ≤ m ∧ m ≤ 14 := by omega
    clear h1 h2
    match m, hm, h3 with
    | 1, _, h => exact rgot_1 p n c l hn h
    | 2, _, h => exact rgot_2 p n c l hn h
    | 3, _, h => exact rgot_3 p n c l hn h
    | 4, _, h => exact rgot_4 p n c l hn h
    | 5, _, h => exact rgot_5 p n c l hn h
    | 6, _, h => exact rgot_6 p n c l hn h
    | 7, _, h => exact rgot_7 p n c l hn h
    | 8, _, h => exact rgot_8 p n c l hn h
    | 9, _, h => exact rgot_9 p n c l hn h
    | 10, _, h => exact rgot_10 p n c l hn h
    | 11, _, h => exact rgot_11 p n c l hn h
    | 12, _, h => exact rgot_12 p n c l hn h
    | 13, _, h => exact rgot_13 p n c l hn h
    | 14, _, h => exact rgot_14 p n c l hn h
    | 0, h, _ => omega
    | _ + 15, h, _ => omega
  · exact rgot_bad k p n c l hn hb h
end Go.Proofs.Ytflpiaeffnoepaa
