import Derived.Test.YtflpiaeffnoepaaT2
namespace Go.Proofs.Ytflpiaeffnoepaa
open Go.PK

/-- A recorder's cells: its ring (where it lies, how great, its first, how many), the heads, how many came. -/
def recP (lb m f n : Nat) (fr hd : List B8) (c : Nat) : List Value := [.slice (some ⟨lb, 0, none⟩) m m, .int .i64 (f : Int), .int .i64 (n : Int)] ++ (bytes fr ++ (bytes hd ++ [.int .i64 (c : Int)]))
abbrev entsV (l : List Ent) : List Value := l.flatMap Ent.cells
theorem ent_len (l : List Ent) : ∀ a ∈ l, (Ent.cells a).length = 4 := fun _ _ => rfl
theorem ents_len (l : List Ent) : (entsV l).length = l.length * 4 := length_flat (ent_len l)
theorem ent_at {l : List Ent} {q : Nat} {x : Ent} (h : l[q]? = some x) : ∀ (j : Nat) (u : Value), x.cells[j]? = some u → (entsV l)[0 + q * 4 + j]? = some u := fun j u hj => by
  have hlt : j < 4 := (List.getElem?_eq_some_iff.1 hj).1
  rw [Nat.zero_add, get_flat (ent_len l) h hlt]; exact hj

theorem spl_nil : ∀ l : List Value, spl l 0 [] = l
  | [] => rfl
  | _ :: _ => rfl
theorem tis_nil : Spc Try.prog 86 #[.pointer none] [] [] (Is (.bool false)) := by
  refine Spc.enter Try.func86 rfl rfl rfl (fun w0 hw0 => ?_)
  refine CW.seq ?_
  refine CW.region (ef := []) (bk := []) ?_
  refine RL.assign rfl rfl rfl rfl ?_
  refine RL.nil ?_
  refine NQ.seq ?_
  refine CW.seq ?_
  refine CW.region (ef := []) (bk := []) ?_
  refine RL.move rfl rfl rfl rfl ?_
  refine RL.cmp rfl rfl rfl rfl rfl (neq_ptr Try.runUnderlying50 _) ?_
  refine RL.move rfl rfl rfl rfl ?_
  -- STOP: part 5; op 3: d=6 ["move", ["t", 0]] guard=[2, True] (trace.go:97)
  refine RL.skip rfl rfl rfl rfl ?_
  refine RL.skip rfl rfl rfl rfl ?_
  refine RL.skip rfl rfl rfl rfl ?_
  refine RL.skip rfl rfl rfl rfl ?_
  refine RL.skip rfl rfl rfl rfl ?_
  refine RL.skip rfl rfl rfl rfl ?_
  refine RL.skip rfl rfl rfl rfl ?_
  refine RL.pickF rfl rfl rfl rfl rfl ?_
  refine RL.assign rfl rfl rfl rfl ?_
  refine RL.nil ?_
  refine NQ.seq ?_
  refine CW.only (.cons (k := 2) rfl .nil) ?_
  refine CW.ret ?_
  -- STOP: ret; end
  exact RQ.post (res1 rfl rfl) (Split.none _) ⟨rfl, rfl, rfl⟩
theorem tis_yes (r lb m : Nat) (rest : List Value) (T : TypeId) (hm : 0 < m) : Spc Try.prog 86 #[.pointer (some ⟨r, 0, none⟩)] [cel r (.slice (some ⟨lb, 0, none⟩) m m :: rest) T] [] (Is (.bool true)) := by
  refine Spc.enter Try.func86 rfl rfl rfl (fun w0 hw0 => ?_)
  refine CW.seq ?_
  refine CW.region (ef := []) (bk := []) ?_
  refine RL.assign rfl rfl rfl rfl ?_
  refine RL.nil ?_
  refine NQ.seq ?_
  refine CW.seq ?_
  refine CW.region (ef := []) (bk := []) ?_
  refine RL.move rfl rfl rfl rfl ?_
  refine RL.cmp rfl rfl rfl rfl rfl (neq_ptr Try.runUnderlying50 _) ?_
  refine RL.move rfl rfl rfl rfl ?_
  -- STOP: part 5; op 3: d=6 ["move", ["t", 0]] guard=[2, True] (trace.go:97)
  refine RL.move rfl rfl rfl rfl ?_
  refine RL.nilCheck rfl rfl rfl rfl ?_
  refine RL.fieldAddr fa_82_0 rfl rfl rfl rfl ?_
  refine RL.fieldAddr fa_80_0 rfl rfl rfl rfl ?_
  refine RL.load Try.isAgg49 rfl rfl rfl rfl (by first | assumption | (apply RdI.rd; assumption) | (apply Rd.get; (solve | (repeat (first | exact List.Mem.head _ | apply List.Mem.tail))); assumption) | (apply Rd.getS; (solve | (repeat (first | exact List.Mem.head _ | apply List.Mem.tail))); assumption) | (apply Rd.getO; (solve | (repeat (first | exact List.Mem.head _ | apply List.Mem.tail))); assumption) | (apply Rd.getI; (solve | (repeat (first | exact List.Mem.head _ | apply List.Mem.tail))); assumption) | (apply Rd.cel; (solve | (repeat (first | exact List.Mem.head _ | apply List.Mem.tail))); exact rfl) | (apply Rd.celI; (solve | (repeat (first | exact List.Mem.head _ | apply List.Mem.tail))); exact rfl)) ?_
  refine RL.lenS Try.runUnderlying49 rfl rfl rfl rfl ?_
  refine RL.bin rfl rfl rfl rfl rfl rfl ?_
  refine RL.pickT rfl rfl rfl rfl rfl ?_
  refine RL.assign rfl rfl rfl rfl ?_
  refine RL.nil ?_
  refine NQ.seq ?_
  refine CW.only (.cons (k := 2) rfl .nil) ?_
  refine CW.ret ?_
  -- STOP: ret; end
  exact RQ.post (res1 rfl rfl) (Split.none _) ⟨by simp; omega, rfl, rfl⟩
theorem at_any (r lb m f k : Nat) (rest : List Value) (T : TypeId) (hm : 0 < m) (hf : f ≤ 1000000000) (hk : k ≤ 1000000000) : Spc Try.prog 87 #[.pointer (some ⟨r, 0, none⟩), .int .i64 (k : Int)] [cel r (.slice (some ⟨lb, 0, none⟩) m m :: .int .i64 (f : Int) :: rest) T] [] (Is (.pointer (some ⟨lb, 0 + (f + k) % m * 4, none⟩))) := by
  have hlt := Nat.mod_lt (f + k) hm
  refine Spc.enter Try.func87 rfl rfl rfl (fun w0 hw0 => ?_)
  refine CW.seq ?_
  refine CW.region (ef := []) (bk := []) ?_
  refine RL.assign rfl rfl rfl rfl ?_
  refine RL.nil ?_
  refine NQ.seq ?_
  refine CW.seq ?_
  refine CW.regionD (Sq.of [0, 1, 2, 3, 4, 5, 6, 7, 8, 9, 10, 11, 12, 13, 14, 15, 16, 17]) [] [] [0, 1, 2, 4, 5, 6, 8, 9, 10, 11, 12, 14, 15, 16, 17] mixed (by kernel_rfl) ?_
  refine RL.move rfl rfl rfl rfl ?_
  refine RL.nilCheck rfl rfl rfl rfl ?_
  refine RL.fieldAddr fa_80_0 rfl rfl rfl rfl ?_
  refine RL.load Try.isAgg49 rfl rfl rfl rfl (by first | assumption | (apply RdI.rd; assumption) | (apply Rd.get; (solve | (repeat (first | exact List.Mem.head _ | apply List.Mem.tail))); assumption) | (apply Rd.getS; (solve | (repeat (first | exact List.Mem.head _ | apply List.Mem.tail))); assumption) | (apply Rd.getO; (solve | (repeat (first | exact List.Mem.head _ | apply List.Mem.tail))); assumption) | (apply Rd.getI; (solve | (repeat (first | exact List.Mem.head _ | apply List.Mem.tail))); assumption) | (apply Rd.cel; (solve | (repeat (first | exact List.Mem.head _ | apply List.Mem.tail))); exact rfl) | (apply Rd.celI; (solve | (repeat (first | exact List.Mem.head _ | apply List.Mem.tail))); exact rfl)) ?_
  refine RL.move rfl rfl rfl rfl ?_
  refine RL.nilCheck rfl rfl rfl rfl ?_
  refine RL.fieldAddr fa_80_1 rfl rfl rfl rfl ?_
  refine RL.load Try.isAgg3 rfl rfl rfl rfl (by first | assumption | (apply RdI.rd; assumption) | (apply Rd.get; (solve | (repeat (first | exact List.Mem.head _ | apply List.Mem.tail))); assumption) | (apply Rd.getS; (solve | (repeat (first | exact List.Mem.head _ | apply List.Mem.tail))); assumption) | (apply Rd.getO; (solve | (repeat (first | exact List.Mem.head _ | apply List.Mem.tail))); assumption) | (apply Rd.getI; (solve | (repeat (first | exact List.Mem.head _ | apply List.Mem.tail))); assumption) | (apply Rd.cel; (solve | (repeat (first | exact List.Mem.head _ | apply List.Mem.tail))); exact rfl) | (apply Rd.celI; (solve | (repeat (first | exact List.Mem.head _ | apply List.Mem.tail))); exact rfl)) ?_
  refine RL.move rfl rfl rfl rfl ?_
  refine RL.binX rfl rfl rfl rfl rfl rfl (wrapV_i64 (by omega) (by omega)) ?_
  refine RL.move rfl rfl rfl rfl ?_
  refine RL.nilCheck rfl rfl rfl rfl ?_
  refine RL.fieldAddr fa_80_0 rfl rfl rfl rfl ?_
  refine RL.load Try.isAgg49 rfl rfl rfl rfl (by first | assumption | (apply RdI.rd; assumption) | (apply Rd.get; (solve | (repeat (first | exact List.Mem.head _ | apply List.Mem.tail))); assumption) | (apply Rd.getS; (solve | (repeat (first | exact List.Mem.head _ | apply List.Mem.tail))); assumption) | (apply Rd.getO; (solve | (repeat (first | exact List.Mem.head _ | apply List.Mem.tail))); assumption) | (apply Rd.getI; (solve | (repeat (first | exact List.Mem.head _ | apply List.Mem.tail))); assumption) | (apply Rd.cel; (solve | (repeat (first | exact List.Mem.head _ | apply List.Mem.tail))); exact rfl) | (apply Rd.celI; (solve | (repeat (first | exact List.Mem.head _ | apply List.Mem.tail))); exact rfl)) ?_
  refine RL.lenS Try.runUnderlying49 rfl rfl rfl rfl ?_
  -- STOP: op; op 15: d=20 ["binOp", "Go.BinOp.rem", 3, ["t", 14], ["t", 19], 3] guard=None (trace.go:68)
  refine RL.remX (v' := .int .i64 (((f + k) % m : Nat) : Int)) rfl rfl rfl rfl rfl (by omega) (by rw [← tmodA]; rfl) ?_
  -- STOP: op; op 16: d=21 ["indexAddr", 49, ["t", 8], ["t", 20]] guard=None (trace.go:68)
  refine RL.idxAt (j := (f + k) % m) Try.runUnderlying49 Try.sizeOf57 rfl rfl rfl rfl rfl rfl hlt ?_
  refine RL.assign rfl rfl rfl rfl ?_
  refine RL.nil ?_
  refine NQ.seq ?_
  refine CW.only (.cons (k := 4) rfl .nil) ?_
  refine CW.ret ?_
  -- STOP: ret; end
  exact RQ.post (res1 rfl rfl) (Split.none _) ⟨rfl, rfl, rfl⟩
theorem drop_any (r lb m f n : Nat) (rest : List Value) (T : TypeId) (hm : 0 < m) (hf : f ≤ 1000000000) (hn : 0 < n) (hn2 : n ≤ 1000000000) :
    Spc Try.prog 88 #[.pointer (some ⟨r, 0, none⟩)] [] [cel r (.slice (some ⟨lb, 0, none⟩) m m :: .int .i64 (f : Int) :: .int .i64 (n : Int) :: rest) T]
      (fun _ I' H' => I' = [] ∧ H' = [cel r (.slice (some ⟨lb, 0, none⟩) m m :: .int .i64 (((f + 1) % m : Nat) : Int) :: .int .i64 ((n - 1 : Nat) : Int) :: rest) T]) := by
  refine Spc.enter Try.func88 rfl rfl rfl (fun w0 hw0 => ?_)
  refine CW.seq ?_
  refine CW.regionD (Sq.of [0, 1, 2, 3, 4, 5, 6, 7, 8, 9, 10, 11, 12, 13, 14]) [14] [14] [0, 1, 2, 3, 5, 6, 7, 8, 10, 11, 12, 13] mixed (by kernel_rfl) ?_
  refine RL.move rfl rfl rfl rfl ?_
  refine RL.move rfl rfl rfl rfl ?_
  refine RL.nilCheck rfl rfl rfl rfl ?_
  refine RL.fieldAddr fa_80_1 rfl rfl rfl rfl ?_
  refine RL.load Try.isAgg3 rfl rfl rfl rfl (by first | assumption | (apply RdI.rd; assumption) | (apply Rd.get; (solve | (repeat (first | exact List.Mem.head _ | apply List.Mem.tail))); assumption) | (apply Rd.getS; (solve | (repeat (first | exact List.Mem.head _ | apply List.Mem.tail))); assumption) | (apply Rd.getO; (solve | (repeat (first | exact List.Mem.head _ | apply List.Mem.tail))); assumption) | (apply Rd.getI; (solve | (repeat (first | exact List.Mem.head _ | apply List.Mem.tail))); assumption) | (apply Rd.cel; (solve | (repeat (first | exact List.Mem.head _ | apply List.Mem.tail))); exact rfl) | (apply Rd.celI; (solve | (repeat (first | exact List.Mem.head _ | apply List.Mem.tail))); exact rfl)) ?_
  refine RL.binX rfl rfl rfl rfl rfl rfl (wrapV_i64 (by omega) (by omega)) ?_
  refine RL.move rfl rfl rfl rfl ?_
  refine RL.nilCheck rfl rfl rfl rfl ?_
  refine RL.fieldAddr fa_80_0 rfl rfl rfl rfl ?_
  refine RL.load Try.isAgg49 rfl rfl rfl rfl (by first | assumption | (apply RdI.rd; assumption) | (apply Rd.get; (solve | (repeat (first | exact List.Mem.head _ | apply List.Mem.tail))); assumption) | (apply Rd.getS; (solve | (repeat (first | exact List.Mem.head _ | apply List.Mem.tail))); assumption) | (apply Rd.getO; (solve | (repeat (first | exact List.Mem.head _ | apply List.Mem.tail))); assumption) | (apply Rd.getI; (solve | (repeat (first | exact List.Mem.head _ | apply List.Mem.tail))); assumption) | (apply Rd.cel; (solve | (repeat (first | exact List.Mem.head _ | apply List.Mem.tail))); exact rfl) | (apply Rd.celI; (solve | (repeat (first | exact List.Mem.head _ | apply List.Mem.tail))); exact rfl)) ?_
  refine RL.lenS Try.runUnderlying49 rfl rfl rfl rfl ?_
  -- STOP: op; op 11: d=13 ["binOp", "Go.BinOp.rem", 3, ["t", 7], ["t", 12], 3] guard=None (trace.go:72)
  refine RL.remX (v' := .int .i64 (((f + 1) % m : Nat) : Int)) rfl rfl rfl rfl rfl (by omega) (by rw [← tmodA]; rfl) ?_
  refine RL.nilCheck rfl rfl rfl rfl ?_
  refine RL.fieldAddr fa_80_1 rfl rfl rfl rfl ?_
  -- STOP: op; op 14: d=None ["store", 3, ["t", 15], ["t", 13]] guard=None (trace.go:72)
  refine RL.storeX (vs := [_]) (cs := .slice (some ⟨lb, 0, none⟩) m m :: .int .i64 (f : Int) :: .int .i64 (n : Int) :: rest) (cs' := .slice (some ⟨lb, 0, none⟩) m m :: .int .i64 (((f + 1) % m : Nat) : Int) :: .int .i64 (n : Int) :: rest) (by simp [spl, spl_nil]) Try.sizeOf3 rfl rfl rfl rfl rfl rfl rfl rfl (by repeat (first | exact Upd.here | apply Upd.there)) (by simp) ?_
  refine RL.nil ?_
  refine NQ.seq ?_
  refine CW.only (.cons (k := 0) rfl .nil) ?_
  refine CW.region (ef := [7]) (bk := [7]) ?_
  refine RL.move rfl rfl rfl rfl ?_
  refine RL.nilCheck rfl rfl rfl rfl ?_
  refine RL.fieldAddr fa_80_2 rfl rfl rfl rfl ?_
  refine RL.load Try.isAgg3 rfl rfl rfl rfl (by first | assumption | (apply RdI.rd; assumption) | (apply Rd.get; (solve | (repeat (first | exact List.Mem.head _ | apply List.Mem.tail))); assumption) | (apply Rd.getS; (solve | (repeat (first | exact List.Mem.head _ | apply List.Mem.tail))); assumption) | (apply Rd.getO; (solve | (repeat (first | exact List.Mem.head _ | apply List.Mem.tail))); assumption) | (apply Rd.getI; (solve | (repeat (first | exact List.Mem.head _ | apply List.Mem.tail))); assumption) | (apply Rd.cel; (solve | (repeat (first | exact List.Mem.head _ | apply List.Mem.tail))); exact rfl) | (apply Rd.celI; (solve | (repeat (first | exact List.Mem.head _ | apply List.Mem.tail))); exact rfl)) ?_
  refine RL.binX rfl rfl rfl rfl rfl rfl (wrapV_i64 (by omega) (by omega)) ?_
  refine RL.nilCheck rfl rfl rfl rfl ?_
  refine RL.fieldAddr fa_80_2 rfl rfl rfl rfl ?_
  -- STOP: op; op 7: d=None ["store", 3, ["t", 22], ["t", 20]] guard=None (trace.go:73)
  refine RL.storeX (vs := [.int .i64 ((n : Int) - 1)]) (cs := .slice (some ⟨lb, 0, none⟩) m m :: .int .i64 (((f + 1) % m : Nat) : Int) :: .int .i64 (n : Int) :: rest) (cs' := .slice (some ⟨lb, 0, none⟩) m m :: .int .i64 (((f + 1) % m : Nat) : Int) :: .int .i64 ((n - 1 : Nat) : Int) :: rest) (by rw [show ((n : Int) - 1) = ((n - 1 : Nat) : Int) by omega]; simp [spl, spl_nil]) Try.sizeOf3 rfl rfl rfl rfl rfl rfl rfl rfl (by repeat (first | exact Upd.here | apply Upd.there)) (by simp) ?_
  refine RL.nil ?_
  -- STOP: end; todo top: ["N"]
  exact NQ.post (res0 rfl) (.keep .nil) ⟨rfl, rfl⟩
theorem push_any (r lb m f n : Nat) (rest : List Value) (T U : TypeId) (rg : List Ent) (x : Ent) (hm : 0 < m) (hf : f ≤ 1000000000) (hn : n ≤ 1000000000) (hl : rg.length = m) :
    Spc Try.prog 89 #[.pointer (some ⟨r, 0, none⟩), .agg x.cells.toArray] [] [cel r (.slice (some ⟨lb, 0, none⟩) m m :: .int .i64 (f : Int) :: .int .i64 (n : Int) :: rest) T, cel lb (entsV rg) U]
      (fun _ I' H' => I' = [] ∧ H' = [cel r (.slice (some ⟨lb, 0, none⟩) m m :: .int .i64 (f : Int) :: .int .i64 ((n + 1 : Nat) : Int) :: rest) T, cel lb (entsV (rg.set ((f + n) % m) x)) U]) := by
  have hlt := Nat.mod_lt (f + n) hm
  refine Spc.enter Try.func89 rfl rfl rfl (fun w0 hw0 => ?_)
  refine CW.seq ?_
  refine CW.region (ef := [0]) (bk := []) ?_
  refine RL.box rfl rfl rfl rfl rfl rfl ?_
  intro b1
  refine RL.nil ?_
  refine NQ.seq ?_
  refine CW.seq ?_
  refine CW.regionD (Sq.of [0, 1, 2, 3, 4, 5, 6, 7, 8]) [8] [8] [0, 1, 2, 3, 7] mixed (by kernel_rfl) ?_
  refine RL.move rfl rfl rfl rfl ?_
  refine RL.move rfl rfl rfl rfl ?_
  refine RL.nilCheck rfl rfl rfl rfl ?_
  refine RL.fieldAddr fa_80_2 rfl rfl rfl rfl ?_
  refine RL.load Try.isAgg3 rfl rfl rfl rfl (by first | assumption | (apply RdI.rd; assumption) | (apply Rd.get; (solve | (repeat (first | exact List.Mem.head _ | apply List.Mem.tail))); assumption) | (apply Rd.getS; (solve | (repeat (first | exact List.Mem.head _ | apply List.Mem.tail))); assumption) | (apply Rd.getO; (solve | (repeat (first | exact List.Mem.head _ | apply List.Mem.tail))); assumption) | (apply Rd.getI; (solve | (repeat (first | exact List.Mem.head _ | apply List.Mem.tail))); assumption) | (apply Rd.cel; (solve | (repeat (first | exact List.Mem.head _ | apply List.Mem.tail))); exact rfl) | (apply Rd.celI; (solve | (repeat (first | exact List.Mem.head _ | apply List.Mem.tail))); exact rfl)) ?_
  refine RL.callv (at_any r lb m f n (.int .i64 (n : Int) :: rest) T hm hf hn) Try.call87 rfl rfl rfl rfl (by repeat (first | exact Lend.nil | (refine Lend.inI ?_ ?_; (solve | (repeat (first | exact List.Mem.head _ | apply List.Mem.tail)))) | (refine Lend.inH ?_ ?_; (solve | (repeat (first | exact List.Mem.head _ | apply List.Mem.tail)))))) ?_
  refine RL.loadN (vs := [_, _, _, _]) Try.isAgg57 Try.sizeOf57 rfl rfl rfl rfl (by first | (apply Rds.cel; (solve | (repeat (first | exact List.Mem.head _ | apply List.Mem.tail))); exact at_spec ⟨rfl, rfl, rfl, rfl, trivial⟩) | (apply Rds.celI; (solve | (repeat (first | exact List.Mem.head _ | apply List.Mem.tail))); exact at_spec ⟨rfl, rfl, rfl, rfl, trivial⟩) | assumption | (apply RdsI.rds; assumption)) ?_
  refine RL.nilCheck rfl rfl rfl rfl ?_
  -- STOP: op; op 8: d=None ["store", 57, ["t", 11], ["t", 10]] guard=None (trace.go:78)
  refine RL.storeX (vs := x.cells) (cs' := entsV (rg.set ((f + n) % m) x)) (by rw [Nat.zero_add]; exact spl_flat x (ent_len rg) rfl (by omega)) Try.sizeOf57 rfl rfl rfl rfl rfl rfl rfl rfl (by repeat (first | exact Upd.here | apply Upd.there)) (by rw [ents_len, hl]; show 0 + (f + n) % m * 4 + 4 ≤ m * 4; omega) ?_
  refine RL.nil ?_
  refine NQ.seq ?_
  refine CW.only (.cons (k := 0) rfl .nil) ?_
  refine CW.region (ef := [7]) (bk := [7]) ?_
  refine RL.move rfl rfl rfl rfl ?_
  refine RL.nilCheck rfl rfl rfl rfl ?_
  refine RL.fieldAddr fa_80_2 rfl rfl rfl rfl ?_
  refine RL.load Try.isAgg3 rfl rfl rfl rfl (by first | assumption | (apply RdI.rd; assumption) | (apply Rd.get; (solve | (repeat (first | exact List.Mem.head _ | apply List.Mem.tail))); assumption) | (apply Rd.getS; (solve | (repeat (first | exact List.Mem.head _ | apply List.Mem.tail))); assumption) | (apply Rd.getO; (solve | (repeat (first | exact List.Mem.head _ | apply List.Mem.tail))); assumption) | (apply Rd.getI; (solve | (repeat (first | exact List.Mem.head _ | apply List.Mem.tail))); assumption) | (apply Rd.cel; (solve | (repeat (first | exact List.Mem.head _ | apply List.Mem.tail))); exact rfl) | (apply Rd.celI; (solve | (repeat (first | exact List.Mem.head _ | apply List.Mem.tail))); exact rfl)) ?_
  refine RL.binX rfl rfl rfl rfl rfl rfl (wrapV_i64 (by omega) (by omega)) ?_
  refine RL.nilCheck rfl rfl rfl rfl ?_
  refine RL.fieldAddr fa_80_2 rfl rfl rfl rfl ?_
  -- STOP: op; op 7: d=None ["store", 3, ["t", 18], ["t", 16]] guard=None (trace.go:79)
  refine RL.storeX (vs := [_]) (cs := .slice (some ⟨lb, 0, none⟩) m m :: .int .i64 (f : Int) :: .int .i64 (n : Int) :: rest) (cs' := .slice (some ⟨lb, 0, none⟩) m m :: .int .i64 (f : Int) :: .int .i64 ((n + 1 : Nat) : Int) :: rest) (by simp [spl, spl_nil]) Try.sizeOf3 rfl rfl rfl rfl rfl rfl rfl rfl (by repeat (first | exact Upd.here | apply Upd.there)) (by simp) ?_
  refine RL.nil ?_
  -- STOP: end; todo top: ["N"]
  exact NQ.post (res0 rfl) (.drop (.keep (.keep .nil))) ⟨rfl, rfl⟩
end Go.Proofs.Ytflpiaeffnoepaa
