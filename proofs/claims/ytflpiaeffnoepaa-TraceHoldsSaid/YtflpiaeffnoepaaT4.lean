import Derived.Test.YtflpiaeffnoepaaT3
namespace Go.Proofs.Ytflpiaeffnoepaa
open Go.PK

def recCells (lb m f n : Nat) (fr hd : List B8) (c : Nat) : List Value := .slice (some ⟨lb, 0, none⟩) m m :: .int .i64 (f : Int) :: .int .i64 (n : Int) :: (bytes fr ++ (bytes hd ++ [.int .i64 (c : Int)]))
abbrev recIt (r lb m f n : Nat) (fr hd : List B8) (c : Nat) : It := cel r (recCells lb m f n fr hd c) 82
abbrev rgIt (lb : Nat) (rg : List Ent) : It := cel lb (entsV rg) 57
theorem rec_count {lb m f n : Nat} {fr hd : List B8} {c : Nat} (h1 : fr.length = 32) (h2 : hd.length = 32) : (recCells lb m f n fr hd c)[0 + 67]? = some (.int .i64 (c : Int)) := by
  unfold recCells
  simp [List.getElem?_cons, List.getElem?_append, h1, h2]
theorem add_no (r lb m f n : Nat) (fr hd : List B8) (c : Nat) (rg : List Ent) (x : Ent) (hm : 0 < m) (h1 : fr.length = 32) (h2 : hd.length = 32) (hx : x.ok = false) :
    Spc Try.prog 28 #[.pointer (some ⟨r, 0, none⟩), .agg x.cells.toArray] [] [recIt r lb m f n fr hd c, rgIt lb rg]
      (fun v I' H' => v = .int .i64 2 ∧ I' = [] ∧ H' = [recIt r lb m f n fr hd c, rgIt lb rg]) := by
  refine Spc.enter Try.func28 rfl rfl rfl (fun w0 hw0 => ?_)
  refine CW.seq ?_
  refine CW.region (ef := [0]) (bk := []) ?_
  refine RL.box rfl rfl rfl rfl rfl rfl ?_
  intro b1
  refine RL.assign rfl rfl rfl rfl ?_
  refine RL.nil ?_
  refine NQ.seq ?_
  refine CW.seq ?_
  refine CW.seq ?_
  refine CW.region (ef := []) (bk := []) ?_
  refine RL.move rfl rfl rfl rfl ?_
  refine RL.callv (tis_yes r lb m _ 82 hm) Try.call86 rfl rfl rfl rfl (by repeat (first | exact Lend.nil | (refine Lend.inI ?_ ?_; (solve | (repeat (first | exact List.Mem.head _ | apply List.Mem.tail)))) | (refine Lend.inH ?_ ?_; (solve | (repeat (first | exact List.Mem.head _ | apply List.Mem.tail)))))) ?_
  refine RL.not rfl rfl rfl rfl ?_
  refine RL.nil ?_
  refine NQ.seq ?_
  -- STOP: if; todo top: ["code", ["cond", ["t", 9], ["seq", ["region", 2, [{"d": 4, "op": ["assign", ["c", ["int", "Go.IntKind.i64", 1]]], "ty": 35, "pos": "trace.go:102", "after": [], "guard": null}], false], ["ret"]], ["sk
  refine CW.condF rfl (rfl) ?_
  refine CW.skip ?_
  refine NQ.seq ?_
  refine CW.seq ?_
  refine CW.regionD (Sq.of [0, 1, 2, 3, 4, 5, 6, 7, 8, 9, 10, 11]) [9, 10] [10] [0, 1, 2, 6, 7, 8, 11] mixed (by kernel_rfl) ?_
  refine RL.move rfl rfl rfl rfl ?_
  refine RL.nilCheck rfl rfl rfl rfl ?_
  refine RL.fieldAddr fa_82_2 rfl rfl rfl rfl ?_
  -- STOP: op; op 3: d=14 ["load", 61, ["t", 13]] guard=None (trace.go:104)
  refine RL.loadSeg ([.slice (some ⟨lb, 0, none⟩) m m, .int .i64 (f : Int), .int .i64 (n : Int)] ++ bytes fr) (bytes hd) [.int .i64 (c : Int)] Try.isAgg61 Try.sizeOf61 rfl rfl rfl rfl (by repeat (first | exact List.Mem.head _ | apply List.Mem.tail)) (by simp [recCells]) (by simp [h1]) (by simp [h2]) ?_
  refine RL.loadN (vs := [_, _, _, _]) Try.isAgg57 Try.sizeOf57 rfl rfl rfl rfl (by first | (apply Rds.cel; (solve | (repeat (first | exact List.Mem.head _ | apply List.Mem.tail))); exact at_spec ⟨rfl, rfl, rfl, rfl, trivial⟩) | (apply Rds.celI; (solve | (repeat (first | exact List.Mem.head _ | apply List.Mem.tail))); exact at_spec ⟨rfl, rfl, rfl, rfl, trivial⟩) | assumption | (apply RdsI.rds; assumption)) ?_
  refine RL.callv (next_any hd h2 x) Try.call41 rfl rfl rfl rfl (by repeat (first | exact Lend.nil | (refine Lend.inI ?_ ?_; (solve | (repeat (first | exact List.Mem.head _ | apply List.Mem.tail)))) | (refine Lend.inH ?_ ?_; (solve | (repeat (first | exact List.Mem.head _ | apply List.Mem.tail)))))) ?_
  refine RL.move rfl rfl rfl rfl ?_
  -- STOP: op; op 7: d=17 ["extract", ["t", 10], 0] guard=None (trace.go:104)
  rw [next_no hx]
  refine RL.extract rfl rfl rfl rfl rfl ?_
  refine RL.extract rfl rfl rfl rfl rfl ?_
  refine RL.alloc (cs := List.replicate 32 (U8 0#8)) Try.zeroValue61 rfl rfl rfl rfl rfl ?_
  intro b2
  refine RL.storeW Try.sizeOf61 rfl rfl rfl rfl rfl rfl rfl (by first | rfl | exact ones_map one8 _ | exact ones_map (fun _ => rfl) _) (by repeat (first | exact Upd.here | apply Upd.there)) (by first | rfl | assumption | (simp only [List.length_map]; assumption) | (simp only [List.length_map, List.length_replicate, nextD_length, zeros32]; done) | (simp; done)) (by first | rfl | assumption | (simp only [List.length_map]; assumption) | (simp only [List.length_map, List.length_replicate, nextD_length, zeros32]; done) | (simp; done)) ?_
  refine RL.assign rfl rfl rfl rfl ?_
  refine RL.nil ?_
  refine NQ.seq ?_
  refine CW.only (.cons (k := 0) rfl (.cons (k := 3) rfl (.cons (k := 5) rfl (.cons (k := 6) rfl .nil)))) ?_
  refine CW.seq ?_
  refine CW.seq ?_
  refine CW.region (ef := []) (bk := []) ?_
  refine RL.move rfl rfl rfl rfl ?_
  refine RL.bin rfl rfl rfl rfl rfl rfl ?_
  refine RL.nil ?_
  refine NQ.seq ?_
  -- STOP: if; todo top: ["code", ["cond", ["t", 20], ["seq", ["region", 5, [{"d": 21, "op": ["move", ["t", 6]], "ty": 35, "pos": "trace.go:106", "after": [], "guard": null}, {"d": 4, "op": ["assign", ["t", 21]], "ty": 35, "p
  refine CW.condT rfl (rfl) ?_
  refine CW.seq ?_
  refine CW.region (ef := []) (bk := []) ?_
  refine RL.move rfl rfl rfl rfl ?_
  refine RL.assign rfl rfl rfl rfl ?_
  refine RL.nil ?_
  refine NQ.seq ?_
  refine CW.ret ?_
  refine RQ.seq ?_
  -- STOP: ret; end
  exact RQ.post (res1 rfl rfl) (.drop (.drop (.keep (.keep .nil)))) ⟨rfl, rfl, rfl⟩
theorem add_some (r lb m f n : Nat) (fr hd : List B8) (c : Nat) (rg : List Ent) (x : Ent) (hm : 0 < m) (hmb : m ≤ 4096) (hf : f < m) (hn : n < m) (hc : c ≤ 1000000000) (h1 : fr.length = 32) (h2 : hd.length = 32) (hx : x.ok = true) (hrg : rg.length = m) :
    Spc Try.prog 28 #[.pointer (some ⟨r, 0, none⟩), .agg x.cells.toArray] [] [recIt r lb m f n fr hd c, rgIt lb rg]
      (fun v I' H' => v = .int .i64 0 ∧ I' = [] ∧ H' = [recIt r lb m f (n + 1) fr (nextD hd x) (c + 1), rgIt lb (rg.set ((f + n) % m) x)]) := by
  refine Spc.enter Try.func28 rfl rfl rfl (fun w0 hw0 => ?_)
  refine CW.seq ?_
  refine CW.region (ef := [0]) (bk := []) ?_
  refine RL.box rfl rfl rfl rfl rfl rfl ?_
  intro b1
  refine RL.assign rfl rfl rfl rfl ?_
  refine RL.nil ?_
  refine NQ.seq ?_
  refine CW.seq ?_
  refine CW.seq ?_
  refine CW.region (ef := []) (bk := []) ?_
  refine RL.move rfl rfl rfl rfl ?_
  refine RL.callv (tis_yes r lb m _ 82 hm) Try.call86 rfl rfl rfl rfl (by repeat (first | exact Lend.nil | (refine Lend.inI ?_ ?_; (solve | (repeat (first | exact List.Mem.head _ | apply List.Mem.tail)))) | (refine Lend.inH ?_ ?_; (solve | (repeat (first | exact List.Mem.head _ | apply List.Mem.tail)))))) ?_
  refine RL.not rfl rfl rfl rfl ?_
  refine RL.nil ?_
  refine NQ.seq ?_
  -- STOP: if; todo top: ["code", ["cond", ["t", 9], ["seq", ["region", 2, [{"d": 4, "op": ["assign", ["c", ["int", "Go.IntKind.i64", 1]]], "ty": 35, "pos": "trace.go:102", "after": [], "guard": null}], false], ["ret"]], ["sk
  refine CW.condF rfl (rfl) ?_
  refine CW.skip ?_
  refine NQ.seq ?_
  refine CW.seq ?_
  refine CW.regionD (Sq.of [0, 1, 2, 3, 4, 5, 6, 7, 8, 9, 10, 11]) [9, 10] [10] [0, 1, 2, 6, 7, 8, 11] mixed (by kernel_rfl) ?_
  refine RL.move rfl rfl rfl rfl ?_
  refine RL.nilCheck rfl rfl rfl rfl ?_
  refine RL.fieldAddr fa_82_2 rfl rfl rfl rfl ?_
  -- STOP: op; op 3: d=14 ["load", 61, ["t", 13]] guard=None (trace.go:104)
  refine RL.loadSeg ([.slice (some ⟨lb, 0, none⟩) m m, .int .i64 (f : Int), .int .i64 (n : Int)] ++ bytes fr) (bytes hd) [.int .i64 (c : Int)] Try.isAgg61 Try.sizeOf61 rfl rfl rfl rfl (by repeat (first | exact List.Mem.head _ | apply List.Mem.tail)) (by simp [recCells]) (by simp [h1]) (by simp [h2]) ?_
  refine RL.loadN (vs := [_, _, _, _]) Try.isAgg57 Try.sizeOf57 rfl rfl rfl rfl (by first | (apply Rds.cel; (solve | (repeat (first | exact List.Mem.head _ | apply List.Mem.tail))); exact at_spec ⟨rfl, rfl, rfl, rfl, trivial⟩) | (apply Rds.celI; (solve | (repeat (first | exact List.Mem.head _ | apply List.Mem.tail))); exact at_spec ⟨rfl, rfl, rfl, rfl, trivial⟩) | assumption | (apply RdsI.rds; assumption)) ?_
  refine RL.callv (next_any hd h2 x) Try.call41 rfl rfl rfl rfl (by repeat (first | exact Lend.nil | (refine Lend.inI ?_ ?_; (solve | (repeat (first | exact List.Mem.head _ | apply List.Mem.tail)))) | (refine Lend.inH ?_ ?_; (solve | (repeat (first | exact List.Mem.head _ | apply List.Mem.tail)))))) ?_
  refine RL.move rfl rfl rfl rfl ?_
  -- STOP: op; op 7: d=17 ["extract", ["t", 10], 0] guard=None (trace.go:104)
  rw [next_yes hx]
  refine RL.extract rfl rfl rfl rfl rfl ?_
  refine RL.extract rfl rfl rfl rfl rfl ?_
  refine RL.alloc (cs := List.replicate 32 (U8 0#8)) Try.zeroValue61 rfl rfl rfl rfl rfl ?_
  intro b2
  refine RL.storeW Try.sizeOf61 rfl rfl rfl rfl rfl rfl rfl (by first | rfl | exact ones_map one8 _ | exact ones_map (fun _ => rfl) _) (by repeat (first | exact Upd.here | apply Upd.there)) (by first | rfl | assumption | (simp only [List.length_map]; assumption) | (simp only [List.length_map, List.length_replicate, nextD_length, zeros32]; done) | (simp; done)) (by first | rfl | assumption | (simp only [List.length_map]; assumption) | (simp only [List.length_map, List.length_replicate, nextD_length, zeros32]; done) | (simp; done)) ?_
  refine RL.assign rfl rfl rfl rfl ?_
  refine RL.nil ?_
  refine NQ.seq ?_
  refine CW.only (.cons (k := 0) rfl (.cons (k := 3) rfl (.cons (k := 5) rfl (.cons (k := 6) rfl .nil)))) ?_
  refine CW.seq ?_
  refine CW.seq ?_
  refine CW.region (ef := []) (bk := []) ?_
  refine RL.move rfl rfl rfl rfl ?_
  refine RL.bin rfl rfl rfl rfl rfl rfl ?_
  refine RL.nil ?_
  refine NQ.seq ?_
  -- STOP: if; todo top: ["code", ["cond", ["t", 20], ["seq", ["region", 5, [{"d": 21, "op": ["move", ["t", 6]], "ty": 35, "pos": "trace.go:106", "after": [], "guard": null}, {"d": 4, "op": ["assign", ["t", 21]], "ty": 35, "p
  refine CW.condF rfl (rfl) ?_
  refine CW.skip ?_
  refine NQ.seq ?_
  refine CW.seq ?_
  refine CW.seq ?_
  refine CW.regionD (Sq.of [0, 1, 2, 3, 4, 5, 6, 7, 8, 9, 10, 11]) [] [] [0, 1, 2, 3, 5, 6, 7, 8, 10, 11] mixed (by kernel_rfl) ?_
  refine RL.move rfl rfl rfl rfl ?_
  refine RL.nilCheck rfl rfl rfl rfl ?_
  refine RL.fieldAddr fa_82_0 rfl rfl rfl rfl ?_
  refine RL.fieldAddr fa_80_2 rfl rfl rfl rfl ?_
  refine RL.load Try.isAgg3 rfl rfl rfl rfl (by first | assumption | (apply RdI.rd; assumption) | (apply Rd.get; (solve | (repeat (first | exact List.Mem.head _ | apply List.Mem.tail))); assumption) | (apply Rd.getS; (solve | (repeat (first | exact List.Mem.head _ | apply List.Mem.tail))); assumption) | (apply Rd.getO; (solve | (repeat (first | exact List.Mem.head _ | apply List.Mem.tail))); assumption) | (apply Rd.getI; (solve | (repeat (first | exact List.Mem.head _ | apply List.Mem.tail))); assumption) | (apply Rd.cel; (solve | (repeat (first | exact List.Mem.head _ | apply List.Mem.tail))); exact rfl) | (apply Rd.celI; (solve | (repeat (first | exact List.Mem.head _ | apply List.Mem.tail))); exact rfl)) ?_
  refine RL.move rfl rfl rfl rfl ?_
  refine RL.nilCheck rfl rfl rfl rfl ?_
  refine RL.fieldAddr fa_82_0 rfl rfl rfl rfl ?_
  refine RL.fieldAddr fa_80_0 rfl rfl rfl rfl ?_
  refine RL.load Try.isAgg49 rfl rfl rfl rfl (by first | assumption | (apply RdI.rd; assumption) | (apply Rd.get; (solve | (repeat (first | exact List.Mem.head _ | apply List.Mem.tail))); assumption) | (apply Rd.getS; (solve | (repeat (first | exact List.Mem.head _ | apply List.Mem.tail))); assumption) | (apply Rd.getO; (solve | (repeat (first | exact List.Mem.head _ | apply List.Mem.tail))); assumption) | (apply Rd.getI; (solve | (repeat (first | exact List.Mem.head _ | apply List.Mem.tail))); assumption) | (apply Rd.cel; (solve | (repeat (first | exact List.Mem.head _ | apply List.Mem.tail))); exact rfl) | (apply Rd.celI; (solve | (repeat (first | exact List.Mem.head _ | apply List.Mem.tail))); exact rfl)) ?_
  refine RL.lenS Try.runUnderlying49 rfl rfl rfl rfl ?_
  refine RL.bin rfl rfl rfl rfl rfl rfl ?_
  refine RL.nil ?_
  refine NQ.seq ?_
  refine CW.only (.cons (k := 0) rfl (.cons (k := 3) rfl (.cons (k := 5) rfl (.cons (k := 6) rfl (.cons (k := 33) rfl .nil))))) ?_
  -- STOP: if; todo top: ["code", ["cond", ["t", 33], ["seq", ["region", 7, [{"d": 35, "op": ["move", ["t", 0]], "ty": 50, "pos": "trace.go:109", "after": [], "guard": null}, {"d": 36, "op": ["move", ["t", 0]], "ty": 50, "pos
  refine CW.condF rfl (by simp; omega) ?_
  refine CW.skip ?_
  refine NQ.seq ?_
  refine CW.seq ?_
  refine CW.regionD (Sq.of [0, 1, 2, 3, 4]) [4] [4] [0, 1, 2] mixed (by kernel_rfl) ?_
  refine RL.move rfl rfl rfl rfl ?_
  refine RL.nilCheck rfl rfl rfl rfl ?_
  refine RL.fieldAddr fa_82_0 rfl rfl rfl rfl ?_
  refine RL.loadN (vs := [_, _, _, _]) Try.isAgg57 Try.sizeOf57 rfl rfl rfl rfl (by first | (apply Rds.cel; (solve | (repeat (first | exact List.Mem.head _ | apply List.Mem.tail))); exact at_spec ⟨rfl, rfl, rfl, rfl, trivial⟩) | (apply Rds.celI; (solve | (repeat (first | exact List.Mem.head _ | apply List.Mem.tail))); exact at_spec ⟨rfl, rfl, rfl, rfl, trivial⟩) | assumption | (apply RdsI.rds; assumption)) ?_
  refine RL.call (push_any r lb m f n (bytes fr ++ (bytes hd ++ [.int .i64 (c : Int)])) 82 57 rg x hm (by omega) (by omega) hrg) Try.call89 rfl rfl rfl rfl rfl (by repeat (first | exact Pick.nil | apply Pick.take | apply Pick.leave)) (by repeat (first | exact Lend.nil | (refine Lend.inI ?_ ?_; (solve | (repeat (first | exact List.Mem.head _ | apply List.Mem.tail)))) | (refine Lend.inH ?_ ?_; (solve | (repeat (first | exact List.Mem.head _ | apply List.Mem.tail)))))) (.inr rfl) ?_
  -- STOP: called; todo top: ["code", ["region", 9, [{"d": 55, "op": ["move", ["t", 0]], "ty": 50, "pos": "trace.go:112", "after": [], "guard": null}, {"d": 56, "op": ["nilCheck", ["t", 55]], "ty": 0, "pos": "trace.go:112", "afte
  rintro _ _ _ ⟨rfl, rfl⟩
  refine RL.nil ?_
  refine NQ.seq ?_
  refine CW.only (.cons (k := 0) rfl (.cons (k := 5) rfl (.cons (k := 6) rfl .nil))) ?_
  refine CW.seq ?_
  refine CW.region (ef := [7]) (bk := [7]) ?_
  refine RL.move rfl rfl rfl rfl ?_
  refine RL.nilCheck rfl rfl rfl rfl ?_
  refine RL.fieldAddr fa_82_3 rfl rfl rfl rfl ?_
  -- STOP: op; op 3: d=63 ["load", 3, ["t", 62]] guard=None (trace.go:113)
  refine RL.load Try.isAgg3 rfl rfl rfl rfl (Rd.get (cs := recCells lb m f (n + 1) fr hd c) (by repeat (first | exact List.Mem.head _ | apply List.Mem.tail)) (rec_count h1 h2)) ?_
  refine RL.binX rfl rfl rfl rfl rfl rfl (wrapV_i64 (by omega) (by omega)) ?_
  refine RL.nilCheck rfl rfl rfl rfl ?_
  refine RL.fieldAddr fa_82_3 rfl rfl rfl rfl ?_
  -- STOP: op; op 7: d=None ["store", 3, ["t", 66], ["t", 64]] guard=None (trace.go:113)
  refine RL.storeSeg (cs := recCells lb m f (n + 1) fr hd c) (cs' := recCells lb m f (n + 1) fr hd (c + 1)) (vs := [.int .i64 ((c : Int) + 1)]) ([.slice (some ⟨lb, 0, none⟩) m m, .int .i64 (f : Int), .int .i64 ((n + 1 : Nat) : Int)] ++ (bytes fr ++ bytes hd)) [.int .i64 (c : Int)] [] Try.sizeOf3 rfl rfl rfl rfl rfl rfl rfl rfl (by simp [recCells]) (by simp [recCells]) (by simp [h1, h2]) rfl rfl (by repeat (first | exact Upd.here | apply Upd.there)) ?_
  refine RL.nil ?_
  refine NQ.seq ?_
  refine CW.only (.cons (k := 0) rfl (.cons (k := 5) rfl (.cons (k := 6) rfl .nil))) ?_
  refine CW.seq ?_
  refine CW.region (ef := [4]) (bk := [4]) ?_
  refine RL.move rfl rfl rfl rfl ?_
  -- STOP: op; op 1: d=68 ["load", 61, ["t", 5]] guard=None (trace.go:114)
  refine RL.loadW Try.isAgg61 Try.sizeOf61 rfl rfl rfl rfl (by repeat (first | exact List.Mem.head _ | apply List.Mem.tail)) (by rw [List.length_map, nextD_length]) ?_
  refine RL.nilCheck rfl rfl rfl rfl ?_
  refine RL.fieldAddr fa_82_2 rfl rfl rfl rfl ?_
  -- STOP: op; op 4: d=None ["store", 61, ["t", 70], ["t", 68]] guard=None (trace.go:114)
  refine RL.storeSeg (cs := recCells lb m f (n + 1) fr hd (c + 1)) (cs' := recCells lb m f (n + 1) fr (nextD hd x) (c + 1)) (vs := bytes (nextD hd x)) ([.slice (some ⟨lb, 0, none⟩) m m, .int .i64 (f : Int), .int .i64 ((n + 1 : Nat) : Int)] ++ bytes fr) (bytes hd) [.int .i64 ((c + 1 : Nat) : Int)] Try.sizeOf61 rfl rfl rfl rfl rfl rfl rfl (ones_map one8 _) (by simp [recCells]) (by simp [recCells]) (by simp [h1]) (by simp [h2]) (by simp [nextD_length]) (by repeat (first | exact Upd.here | apply Upd.there)) ?_
  refine RL.nil ?_
  refine NQ.seq ?_
  refine CW.only (.cons (k := 6) rfl .nil) ?_
  refine CW.seq ?_
  refine CW.region (ef := []) (bk := []) ?_
  refine RL.move rfl rfl rfl rfl ?_
  refine RL.assign rfl rfl rfl rfl ?_
  refine RL.nil ?_
  refine NQ.seq ?_
  refine CW.ret ?_
  -- STOP: ret; end
  exact RQ.post (res1 rfl rfl) (by first | exact .drop (.drop (.keep (.keep .nil))) | exact .drop (.keep (.keep (.drop .nil))) | exact .keep (.keep (.drop (.drop .nil)))) ⟨rfl, rfl, rfl⟩
theorem add_full (r lb m f : Nat) (fr hd : List B8) (c : Nat) (rg : List Ent) (x x0 : Ent) (hm : 0 < m) (hmb : m ≤ 4096) (hf : f < m) (hc : c ≤ 1000000000) (h1 : fr.length = 32) (h2 : hd.length = 32) (hx : x.ok = true) (hrg : rg.length = m) (h0 : rg[(f + 0) % m]? = some x0) (hx0 : x0.ok = true) :
    Spc Try.prog 28 #[.pointer (some ⟨r, 0, none⟩), .agg x.cells.toArray] [] [recIt r lb m f m fr hd c, rgIt lb rg]
      (fun v I' H' => v = .int .i64 0 ∧ I' = [] ∧ H' = [recIt r lb m ((f + 1) % m) (m - 1 + 1) (nextD fr x0) (nextD hd x) (c + 1), rgIt lb (rg.set (((f + 1) % m + (m - 1)) % m) x)]) := by
  have hlt := Nat.mod_lt (f + 1) hm
  have h3 := nextD_length fr x0
  refine Spc.enter Try.func28 rfl rfl rfl (fun w0 hw0 => ?_)
  refine CW.seq ?_
  refine CW.region (ef := [0]) (bk := []) ?_
  refine RL.box rfl rfl rfl rfl rfl rfl ?_
  intro b1
  refine RL.assign rfl rfl rfl rfl ?_
  refine RL.nil ?_
  refine NQ.seq ?_
  refine CW.seq ?_
  refine CW.seq ?_
  refine CW.region (ef := []) (bk := []) ?_
  refine RL.move rfl rfl rfl rfl ?_
  refine RL.callv (tis_yes r lb m _ 82 hm) Try.call86 rfl rfl rfl rfl (by repeat (first | exact Lend.nil | (refine Lend.inI ?_ ?_; (solve | (repeat (first | exact List.Mem.head _ | apply List.Mem.tail)))) | (refine Lend.inH ?_ ?_; (solve | (repeat (first | exact List.Mem.head _ | apply List.Mem.tail)))))) ?_
  refine RL.not rfl rfl rfl rfl ?_
  refine RL.nil ?_
  refine NQ.seq ?_
  -- STOP: if; todo top: ["code", ["cond", ["t", 9], ["seq", ["region", 2, [{"d": 4, "op": ["assign", ["c", ["int", "Go.IntKind.i64", 1]]], "ty": 35, "pos": "trace.go:102", "after": [], "guard": null}], false], ["ret"]], ["sk
  refine CW.condF rfl (rfl) ?_
  refine CW.skip ?_
  refine NQ.seq ?_
  refine CW.seq ?_
  refine CW.regionD (Sq.of [0, 1, 2, 3, 4, 5, 6, 7, 8, 9, 10, 11]) [9, 10] [10] [0, 1, 2, 6, 7, 8, 11] mixed (by kernel_rfl) ?_
  refine RL.move rfl rfl rfl rfl ?_
  refine RL.nilCheck rfl rfl rfl rfl ?_
  refine RL.fieldAddr fa_82_2 rfl rfl rfl rfl ?_
  -- STOP: op; op 3: d=14 ["load", 61, ["t", 13]] guard=None (trace.go:104)
  refine RL.loadSeg ([.slice (some ⟨lb, 0, none⟩) m m, .int .i64 (f : Int), .int .i64 (m : Int)] ++ bytes fr) (bytes hd) [.int .i64 (c : Int)] Try.isAgg61 Try.sizeOf61 rfl rfl rfl rfl (by repeat (first | exact List.Mem.head _ | apply List.Mem.tail)) (by simp [recCells]) (by simp [h1]) (by simp [h2]) ?_
  refine RL.loadN (vs := [_, _, _, _]) Try.isAgg57 Try.sizeOf57 rfl rfl rfl rfl (by first | (apply Rds.cel; (solve | (repeat (first | exact List.Mem.head _ | apply List.Mem.tail))); exact at_spec ⟨rfl, rfl, rfl, rfl, trivial⟩) | (apply Rds.celI; (solve | (repeat (first | exact List.Mem.head _ | apply List.Mem.tail))); exact at_spec ⟨rfl, rfl, rfl, rfl, trivial⟩) | assumption | (apply RdsI.rds; assumption)) ?_
  refine RL.callv (next_any hd h2 x) Try.call41 rfl rfl rfl rfl (by repeat (first | exact Lend.nil | (refine Lend.inI ?_ ?_; (solve | (repeat (first | exact List.Mem.head _ | apply List.Mem.tail)))) | (refine Lend.inH ?_ ?_; (solve | (repeat (first | exact List.Mem.head _ | apply List.Mem.tail)))))) ?_
  refine RL.move rfl rfl rfl rfl ?_
  -- STOP: op; op 7: d=17 ["extract", ["t", 10], 0] guard=None (trace.go:104)
  rw [next_yes hx]
  refine RL.extract rfl rfl rfl rfl rfl ?_
  refine RL.extract rfl rfl rfl rfl rfl ?_
  refine RL.alloc (cs := List.replicate 32 (U8 0#8)) Try.zeroValue61 rfl rfl rfl rfl rfl ?_
  intro b2
  refine RL.storeW Try.sizeOf61 rfl rfl rfl rfl rfl rfl rfl (by first | rfl | exact ones_map one8 _ | exact ones_map (fun _ => rfl) _) (by repeat (first | exact Upd.here | apply Upd.there)) (by first | rfl | assumption | (simp only [List.length_map]; assumption) | (simp only [List.length_map, List.length_replicate, nextD_length, zeros32]; done) | (simp; done)) (by first | rfl | assumption | (simp only [List.length_map]; assumption) | (simp only [List.length_map, List.length_replicate, nextD_length, zeros32]; done) | (simp; done)) ?_
  refine RL.assign rfl rfl rfl rfl ?_
  refine RL.nil ?_
  refine NQ.seq ?_
  refine CW.only (.cons (k := 0) rfl (.cons (k := 3) rfl (.cons (k := 5) rfl (.cons (k := 6) rfl .nil)))) ?_
  refine CW.seq ?_
  refine CW.seq ?_
  refine CW.region (ef := []) (bk := []) ?_
  refine RL.move rfl rfl rfl rfl ?_
  refine RL.bin rfl rfl rfl rfl rfl rfl ?_
  refine RL.nil ?_
  refine NQ.seq ?_
  -- STOP: if; todo top: ["code", ["cond", ["t", 20], ["seq", ["region", 5, [{"d": 21, "op": ["move", ["t", 6]], "ty": 35, "pos": "trace.go:106", "after": [], "guard": null}, {"d": 4, "op": ["assign", ["t", 21]], "ty": 35, "p
  refine CW.condF rfl (rfl) ?_
  refine CW.skip ?_
  refine NQ.seq ?_
  refine CW.seq ?_
  refine CW.seq ?_
  refine CW.regionD (Sq.of [0, 1, 2, 3, 4, 5, 6, 7, 8, 9, 10, 11]) [] [] [0, 1, 2, 3, 5, 6, 7, 8, 10, 11] mixed (by kernel_rfl) ?_
  refine RL.move rfl rfl rfl rfl ?_
  refine RL.nilCheck rfl rfl rfl rfl ?_
  refine RL.fieldAddr fa_82_0 rfl rfl rfl rfl ?_
  refine RL.fieldAddr fa_80_2 rfl rfl rfl rfl ?_
  refine RL.load Try.isAgg3 rfl rfl rfl rfl (by first | assumption | (apply RdI.rd; assumption) | (apply Rd.get; (solve | (repeat (first | exact List.Mem.head _ | apply List.Mem.tail))); assumption) | (apply Rd.getS; (solve | (repeat (first | exact List.Mem.head _ | apply List.Mem.tail))); assumption) | (apply Rd.getO; (solve | (repeat (first | exact List.Mem.head _ | apply List.Mem.tail))); assumption) | (apply Rd.getI; (solve | (repeat (first | exact List.Mem.head _ | apply List.Mem.tail))); assumption) | (apply Rd.cel; (solve | (repeat (first | exact List.Mem.head _ | apply List.Mem.tail))); exact rfl) | (apply Rd.celI; (solve | (repeat (first | exact List.Mem.head _ | apply List.Mem.tail))); exact rfl)) ?_
  refine RL.move rfl rfl rfl rfl ?_
  refine RL.nilCheck rfl rfl rfl rfl ?_
  refine RL.fieldAddr fa_82_0 rfl rfl rfl rfl ?_
  refine RL.fieldAddr fa_80_0 rfl rfl rfl rfl ?_
  refine RL.load Try.isAgg49 rfl rfl rfl rfl (by first | assumption | (apply RdI.rd; assumption) | (apply Rd.get; (solve | (repeat (first | exact List.Mem.head _ | apply List.Mem.tail))); assumption) | (apply Rd.getS; (solve | (repeat (first | exact List.Mem.head _ | apply List.Mem.tail))); assumption) | (apply Rd.getO; (solve | (repeat (first | exact List.Mem.head _ | apply List.Mem.tail))); assumption) | (apply Rd.getI; (solve | (repeat (first | exact List.Mem.head _ | apply List.Mem.tail))); assumption) | (apply Rd.cel; (solve | (repeat (first | exact List.Mem.head _ | apply List.Mem.tail))); exact rfl) | (apply Rd.celI; (solve | (repeat (first | exact List.Mem.head _ | apply List.Mem.tail))); exact rfl)) ?_
  refine RL.lenS Try.runUnderlying49 rfl rfl rfl rfl ?_
  refine RL.bin rfl rfl rfl rfl rfl rfl ?_
  refine RL.nil ?_
  refine NQ.seq ?_
  refine CW.only (.cons (k := 0) rfl (.cons (k := 3) rfl (.cons (k := 5) rfl (.cons (k := 6) rfl (.cons (k := 33) rfl .nil))))) ?_
  -- STOP: if; todo top: ["code", ["cond", ["t", 33], ["seq", ["region", 7, [{"d": 35, "op": ["move", ["t", 0]], "ty": 50, "pos": "trace.go:109", "after": [], "guard": null}, {"d": 36, "op": ["move", ["t", 0]], "ty": 50, "pos
  refine CW.condT rfl (by simp) ?_
  refine CW.seq ?_
  refine CW.regionD (Sq.of [0, 1, 2, 3, 4, 5, 6, 7, 8, 9, 10, 11, 12, 13, 14, 15, 16, 17]) [17] [17] [0, 1, 2, 3, 5, 6, 7, 9, 12, 13, 14, 15, 16] mixed (by kernel_rfl) ?_
  refine RL.move rfl rfl rfl rfl ?_
  refine RL.move rfl rfl rfl rfl ?_
  refine RL.nilCheck rfl rfl rfl rfl ?_
  refine RL.fieldAddr fa_82_1 rfl rfl rfl rfl ?_
  -- STOP: op; op 4: d=39 ["load", 61, ["t", 38]] guard=None (trace.go:109)
  refine RL.loadSeg [.slice (some ⟨lb, 0, none⟩) m m, .int .i64 (f : Int), .int .i64 (m : Int)] (bytes fr) (bytes hd ++ [.int .i64 (c : Int)]) Try.isAgg61 Try.sizeOf61 rfl rfl rfl rfl (by repeat (first | exact List.Mem.head _ | apply List.Mem.tail)) (by simp [recCells]) rfl (by simp [h1]) ?_
  refine RL.move rfl rfl rfl rfl ?_
  refine RL.nilCheck rfl rfl rfl rfl ?_
  refine RL.fieldAddr fa_82_0 rfl rfl rfl rfl ?_
  refine RL.callv (at_any r lb m f 0 _ 82 hm (by omega) (by omega)) Try.call87 rfl rfl rfl rfl (by repeat (first | exact Lend.nil | (refine Lend.inI ?_ ?_; (solve | (repeat (first | exact List.Mem.head _ | apply List.Mem.tail)))) | (refine Lend.inH ?_ ?_; (solve | (repeat (first | exact List.Mem.head _ | apply List.Mem.tail)))))) ?_
  refine RL.nilCheck rfl rfl rfl rfl ?_
  -- STOP: op; op 10: d=45 ["load", 57, ["t", 44]] guard=None (trace.go:109)
  refine RL.loadN (vs := x0.cells) Try.isAgg57 Try.sizeOf57 rfl rfl rfl rfl (Rds.cel (by repeat (first | exact List.Mem.head _ | apply List.Mem.tail)) (ent_at h0)) ?_
  refine RL.callv (next_any fr h1 x0) Try.call41 rfl rfl rfl rfl (by repeat (first | exact Lend.nil | (refine Lend.inI ?_ ?_; (solve | (repeat (first | exact List.Mem.head _ | apply List.Mem.tail)))) | (refine Lend.inH ?_ ?_; (solve | (repeat (first | exact List.Mem.head _ | apply List.Mem.tail)))))) ?_
  refine RL.move rfl rfl rfl rfl ?_
  -- STOP: op; op 13: d=47 ["extract", ["t", 34], 0] guard=None (trace.go:109)
  rw [next_yes hx0]
  refine RL.extract rfl rfl rfl rfl rfl ?_
  refine RL.extract rfl rfl rfl rfl rfl ?_
  refine RL.nilCheck rfl rfl rfl rfl ?_
  refine RL.fieldAddr fa_82_1 rfl rfl rfl rfl ?_
  -- STOP: op; op 17: d=None ["store", 61, ["t", 50], ["t", 47]] guard=None (trace.go:109)
  refine RL.storeSeg (cs := recCells lb m f m fr hd c) (cs' := recCells lb m f m (nextD fr x0) hd c) (vs := bytes (nextD fr x0)) [.slice (some ⟨lb, 0, none⟩) m m, .int .i64 (f : Int), .int .i64 (m : Int)] (bytes fr) (bytes hd ++ [.int .i64 (c : Int)]) Try.sizeOf61 rfl rfl rfl rfl rfl rfl rfl (ones_map one8 _) (by simp [recCells]) (by simp [recCells]) rfl (by simp [h1]) (by simp [nextD_length]) (by repeat (first | exact Upd.here | apply Upd.there)) ?_
  refine RL.nil ?_
  refine NQ.seq ?_
  refine CW.only (.cons (k := 0) rfl (.cons (k := 3) rfl (.cons (k := 5) rfl (.cons (k := 6) rfl .nil)))) ?_
  refine CW.region (ef := [3]) (bk := [3]) ?_
  refine RL.move rfl rfl rfl rfl ?_
  refine RL.nilCheck rfl rfl rfl rfl ?_
  refine RL.fieldAddr fa_82_0 rfl rfl rfl rfl ?_
  refine RL.call (drop_any r lb m f m (bytes (nextD fr x0) ++ (bytes hd ++ [.int .i64 (c : Int)])) 82 hm (by omega) hm (by omega)) Try.call88 rfl rfl rfl rfl rfl (by repeat (first | exact Pick.nil | apply Pick.take | apply Pick.leave)) (by repeat (first | exact Lend.nil | (refine Lend.inI ?_ ?_; (solve | (repeat (first | exact List.Mem.head _ | apply List.Mem.tail)))) | (refine Lend.inH ?_ ?_; (solve | (repeat (first | exact List.Mem.head _ | apply List.Mem.tail)))))) (.inr rfl) ?_
  -- STOP: called; todo top: ["code", ["region", 8, [{"d": 51, "op": ["move", ["t", 0]], "ty": 50, "pos": "trace.go:110", "after": [], "guard": null}, {"d": 52, "op": ["nilCheck", ["t", 51]], "ty": 0, "pos": "trace.go:110", "afte
  rintro _ _ _ ⟨rfl, rfl⟩
  refine RL.nil ?_
  refine NQ.seq ?_
  refine CW.seq ?_
  refine CW.regionD (Sq.of [0, 1, 2, 3, 4]) [4] [4] [0, 1, 2] mixed (by kernel_rfl) ?_
  refine RL.move rfl rfl rfl rfl ?_
  refine RL.nilCheck rfl rfl rfl rfl ?_
  refine RL.fieldAddr fa_82_0 rfl rfl rfl rfl ?_
  refine RL.loadN (vs := [_, _, _, _]) Try.isAgg57 Try.sizeOf57 rfl rfl rfl rfl (by first | (apply Rds.cel; (solve | (repeat (first | exact List.Mem.head _ | apply List.Mem.tail))); exact at_spec ⟨rfl, rfl, rfl, rfl, trivial⟩) | (apply Rds.celI; (solve | (repeat (first | exact List.Mem.head _ | apply List.Mem.tail))); exact at_spec ⟨rfl, rfl, rfl, rfl, trivial⟩) | assumption | (apply RdsI.rds; assumption)) ?_
  refine RL.call (push_any r lb m ((f + 1) % m) (m - 1) (bytes (nextD fr x0) ++ (bytes hd ++ [.int .i64 (c : Int)])) 82 57 rg x hm (by omega) (by omega) hrg) Try.call89 rfl rfl rfl rfl rfl (by repeat (first | exact Pick.nil | apply Pick.take | apply Pick.leave)) (by repeat (first | exact Lend.nil | (refine Lend.inI ?_ ?_; (solve | (repeat (first | exact List.Mem.head _ | apply List.Mem.tail)))) | (refine Lend.inH ?_ ?_; (solve | (repeat (first | exact List.Mem.head _ | apply List.Mem.tail)))))) (.inr rfl) ?_
  -- STOP: called; todo top: ["code", ["region", 9, [{"d": 55, "op": ["move", ["t", 0]], "ty": 50, "pos": "trace.go:112", "after": [], "guard": null}, {"d": 56, "op": ["nilCheck", ["t", 55]], "ty": 0, "pos": "trace.go:112", "afte
  rintro _ _ _ ⟨rfl, rfl⟩
  refine RL.nil ?_
  refine NQ.seq ?_
  refine CW.only (.cons (k := 0) rfl (.cons (k := 5) rfl (.cons (k := 6) rfl .nil))) ?_
  refine CW.seq ?_
  refine CW.region (ef := [7]) (bk := [7]) ?_
  refine RL.move rfl rfl rfl rfl ?_
  refine RL.nilCheck rfl rfl rfl rfl ?_
  refine RL.fieldAddr fa_82_3 rfl rfl rfl rfl ?_
  -- STOP: op; op 3: d=63 ["load", 3, ["t", 62]] guard=None (trace.go:113)
  refine RL.load Try.isAgg3 rfl rfl rfl rfl (Rd.get (cs := recCells lb m ((f + 1) % m) ((m - 1) + 1) (nextD fr x0) hd c) (by repeat (first | exact List.Mem.head _ | apply List.Mem.tail)) (rec_count h3 h2)) ?_
  refine RL.binX rfl rfl rfl rfl rfl rfl (wrapV_i64 (by omega) (by omega)) ?_
  refine RL.nilCheck rfl rfl rfl rfl ?_
  refine RL.fieldAddr fa_82_3 rfl rfl rfl rfl ?_
  -- STOP: op; op 7: d=None ["store", 3, ["t", 66], ["t", 64]] guard=None (trace.go:113)
  refine RL.storeSeg (cs := recCells lb m ((f + 1) % m) ((m - 1) + 1) (nextD fr x0) hd c) (cs' := recCells lb m ((f + 1) % m) ((m - 1) + 1) (nextD fr x0) hd (c + 1)) (vs := [.int .i64 ((c : Int) + 1)]) ([.slice (some ⟨lb, 0, none⟩) m m, .int .i64 (((f + 1) % m) : Int), .int .i64 (((m - 1) + 1 : Nat) : Int)] ++ (bytes (nextD fr x0) ++ bytes hd)) [.int .i64 (c : Int)] [] Try.sizeOf3 rfl rfl rfl rfl rfl rfl rfl rfl (by simp [recCells]) (by simp [recCells]) (by simp [h3, h2]) rfl rfl (by repeat (first | exact Upd.here | apply Upd.there)) ?_
  refine RL.nil ?_
  refine NQ.seq ?_
  refine CW.only (.cons (k := 0) rfl (.cons (k := 5) rfl (.cons (k := 6) rfl .nil))) ?_
  refine CW.seq ?_
  refine CW.region (ef := [4]) (bk := [4]) ?_
  refine RL.move rfl rfl rfl rfl ?_
  -- STOP: op; op 1: d=68 ["load", 61, ["t", 5]] guard=None (trace.go:114)
  refine RL.loadW Try.isAgg61 Try.sizeOf61 rfl rfl rfl rfl (by repeat (first | exact List.Mem.head _ | apply List.Mem.tail)) (by rw [List.length_map, nextD_length]) ?_
  refine RL.nilCheck rfl rfl rfl rfl ?_
  refine RL.fieldAddr fa_82_2 rfl rfl rfl rfl ?_
  -- STOP: op; op 4: d=None ["store", 61, ["t", 70], ["t", 68]] guard=None (trace.go:114)
  refine RL.storeSeg (cs := recCells lb m ((f + 1) % m) ((m - 1) + 1) (nextD fr x0) hd (c + 1)) (cs' := recCells lb m ((f + 1) % m) ((m - 1) + 1) (nextD fr x0) (nextD hd x) (c + 1)) (vs := bytes (nextD hd x)) ([.slice (some ⟨lb, 0, none⟩) m m, .int .i64 (((f + 1) % m) : Int), .int .i64 (((m - 1) + 1 : Nat) : Int)] ++ bytes (nextD fr x0)) (bytes hd) [.int .i64 ((c + 1 : Nat) : Int)] Try.sizeOf61 rfl rfl rfl rfl rfl rfl rfl (ones_map one8 _) (by simp [recCells]) (by simp [recCells]) (by simp [h3]) (by simp [h2]) (by simp [nextD_length]) (by repeat (first | exact Upd.here | apply Upd.there)) ?_
  refine RL.nil ?_
  refine NQ.seq ?_
  refine CW.only (.cons (k := 6) rfl .nil) ?_
  refine CW.seq ?_
  refine CW.region (ef := []) (bk := []) ?_
  refine RL.move rfl rfl rfl rfl ?_
  refine RL.assign rfl rfl rfl rfl ?_
  refine RL.nil ?_
  refine NQ.seq ?_
  refine CW.ret ?_
  -- STOP: ret; end
  exact RQ.post (res1 rfl rfl) (by first | exact .drop (.drop (.keep (.keep .nil))) | exact .drop (.keep (.keep (.drop .nil))) | exact .keep (.keep (.drop (.drop .nil)))) ⟨rfl, rfl, rfl⟩
end Go.Proofs.Ytflpiaeffnoepaa
