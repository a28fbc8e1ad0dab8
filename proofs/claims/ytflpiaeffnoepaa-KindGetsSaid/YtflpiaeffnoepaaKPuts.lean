import Derived.Test.YtflpiaeffnoepaaRPut
import Derived.Test.YtflpiaeffnoepaaKRd
namespace Go.Proofs.Ytflpiaeffnoepaa
open Go.PK

/-- The chapter's example. -/
def exR : Rdg := { rz 10 with epoch := 258 }
theorem ex_ok : exR.Ok := ⟨rfl, rfl, rfl, rfl, rfl, rfl, rfl, rfl, rfl, rfl, rfl, rfl, rfl, rfl, rfl, rfl, rfl, rfl, rfl, rfl, rfl⟩
theorem ex_body : bodyR exR = [0#8, 0#8, 1#8, 2#8] := by decide
theorem ex_got : gotR 10 [0#8, 0#8, 1#8, 2#8] = some exR := by
  have h : getR 10 [0#8, 0#8, 1#8, 2#8] = exR := rfl
  rw [gotR, h, if_pos (by decide)]
theorem ex_okP : okP exR := ⟨exR, by rw [ex_body]; exact ex_got, rfl⟩
theorem ex_put : putB exR = [0#8, 0#8, 1#8, 2#8] ∧ putE exR = 0 := by rw [(put_yes ex_okP).1, (put_yes ex_okP).2]; exact ⟨ex_body, rfl⟩

theorem works_any : Spc Try.prog 22 #[] [] [] (Is (.bool true)) := by
  obtain ⟨e1, e2⟩ := ex_put
  refine Spc.enter Try.func22 rfl rfl rfl (fun w0 hw0 => ?_)
  refine CW.seq ?_
  refine CW.region (ef := []) (bk := []) ?_
  refine RL.assign rfl rfl rfl rfl ?_
  refine RL.nil ?_
  refine NQ.seq ?_
  refine CW.seq ?_
  refine CW.region (ef := [1]) (bk := []) ?_
  -- STOP: op; op 0: d=4 ["build", 33, [[0, ["c", ["int", "Go.IntKind.i64", 10]]], [13, ["c", ["int", "Go.IntKind.u32", 258]]]]] guard=None (law.go:13)
  refine RL.buildS exR.cells Try.zeroValue33 pl_33 rfl rfl rfl rfl rfl ?_
  refine RL.call (put_any exR ex_ok) Try.call15 rfl rfl rfl rfl rfl (by repeat (first | exact Pick.nil | apply Pick.take | apply Pick.leave)) (by repeat (first | exact Lend.nil | (refine Lend.inI ?_ ?_; (solve | (repeat (first | exact List.Mem.head _ | apply List.Mem.tail)))) | (refine Lend.inH ?_ ?_; (solve | (repeat (first | exact List.Mem.head _ | apply List.Mem.tail)))))) (.inl rfl) ?_
  -- STOP: called; op 2: d=3 ["move", ["t", 5]] guard=None (law.go:13)
  rintro _ _ _ ⟨ob, cap, rfl, rfl, rfl⟩
  rw [e1, e2]
  refine RL.move rfl rfl rfl rfl ?_
  refine RL.extract rfl rfl rfl rfl rfl ?_
  refine RL.extract rfl rfl rfl rfl rfl ?_
  refine RL.assign rfl rfl rfl rfl ?_
  refine RL.assign rfl rfl rfl rfl ?_
  refine RL.nil ?_
  refine NQ.seq ?_
  refine CW.only (.cons (k := 1) rfl (.cons (k := 2) rfl .nil)) ?_
  refine CW.seq ?_
  refine CW.region (ef := [4]) (bk := []) ?_
  refine RL.move rfl rfl rfl rfl ?_
  refine RL.bin rfl rfl rfl rfl rfl rfl ?_
  refine RL.move rfl rfl rfl rfl ?_
  -- STOP: part 10; op 3: d=11 ["move", ["t", 1]] guard=[2, True] (law.go:14)
  refine RL.cast (d := 10) (v' := .bool true) rfl (rfl) ?_
  refine RL.move rfl rfl rfl rfl ?_
  refine RL.buildSlice [_, _, _, _] Try.runUnderlying34 Try.sizeOf5 Try.zeroValue5 rfl rfl (by decide) (by decide) rfl rfl rfl rfl rfl rfl ?_
  intro b1
  refine RL.callv (same_any (ob.map fun b => ⟨b, 0, none⟩) (some ⟨b1, 0, none⟩) 4 4 cap 4 [0#8, 0#8, 1#8, 2#8] [0#8, 0#8, 1#8, 2#8]) Try.call19 rfl rfl rfl rfl (Lend.own (by repeat (first | exact List.Mem.head _ | apply List.Mem.tail)) (Lend.all (by repeat (first | exact List.Mem.head _ | apply List.Mem.tail)) rfl .nil)) ?_
  refine RL.pickT rfl rfl rfl rfl rfl ?_
  refine RL.move rfl rfl rfl rfl ?_
  -- STOP: part 15; op 8: d=16 ["call", ["f", 20], [["c", ["int", "Go.IntKind.i64", 5]]], [3]] guard=[7, True] (law.go:14)
  refine RL.cast (d := 15) (v' := .bool true) rfl ((by rfl)) ?_
  refine RL.callv (name_any 5) Try.call20 rfl rfl rfl rfl (by repeat (first | exact Lend.nil | (refine Lend.inI ?_ ?_; (solve | (repeat (first | exact List.Mem.head _ | apply List.Mem.tail)))) | (refine Lend.inH ?_ ?_; (solve | (repeat (first | exact List.Mem.head _ | apply List.Mem.tail)))))) ?_
  -- STOP: op; op 9: d=17 ["binOp", "Go.BinOp.eql", 9, ["t", 16], ["c", ["string", [103, 110, 115, 115]]], 9] guard=[7, True] (law.go:14)
  refine RL.cmp rfl rfl rfl rfl rfl (eql_txt (nameL.getD 4 []) [103#8, 110#8, 115#8, 115#8] (x := .tmp 16) (y := .const (.string ⟨#[103, 110, 115, 115]⟩))) ?_
  refine RL.pickT rfl rfl rfl rfl rfl ?_
  refine RL.assign rfl rfl rfl rfl ?_
  refine RL.nil ?_
  refine NQ.seq ?_
  refine CW.only (.cons (k := 0) rfl .nil) ?_
  refine CW.ret ?_
  -- STOP: ret; end
  exact RQ.post (res1 rfl rfl) (Split.none _) ⟨by rfl, rfl, rfl⟩

theorem sizeV_eq (k : Int) : sizeV k = .tuple #[.int .i64 (if 1 ≤ k ∧ k ≤ 14 then (sizeR k : Int) else 0), .int .i64 (if 1 ≤ k ∧ k ≤ 14 then 0 else 120)] := by
  unfold sizeV
  split <;> rfl
theorem nameV_eq (k : Int) : nameV k = .string (txt (if 1 ≤ k ∧ k ≤ 14 then nameL.getD (k.toNat - 1) [] else [])) := by
  unfold nameV
  split <;> rfl
theorem kindPuts_walk (r : Rdg) (hr : r.Ok) (k : Int) : Spc Try.prog 3 #[.agg r.cells.toArray, .int .i64 k] [] [] (Is (.bool true)) := by
  refine Spc.enter Try.func3 rfl rfl rfl (fun w0 hw0 => ?_)
  refine CW.seq ?_
  refine CW.region (ef := [0]) (bk := []) ?_
  refine RL.box rfl rfl rfl rfl rfl rfl ?_
  intro b1
  refine RL.assign rfl rfl rfl rfl ?_
  refine RL.nil ?_
  refine NQ.seq ?_
  refine CW.seq ?_
  refine CW.region (ef := [1]) (bk := []) ?_
  refine RL.loadW Try.isAgg33 Try.sizeOf33 rfl rfl rfl rfl (by repeat (first | exact List.Mem.head _ | apply List.Mem.tail)) (by first | rfl | assumption | (simp only [List.length_map]; assumption) | (simp only [List.length_map, List.length_replicate]; done) | (simp; done)) ?_
  refine RL.call (put_any r hr) Try.call15 rfl rfl rfl rfl rfl (by repeat (first | exact Pick.nil | apply Pick.take | apply Pick.leave)) (by repeat (first | exact Lend.nil | (refine Lend.inI ?_ ?_; (solve | (repeat (first | exact List.Mem.head _ | apply List.Mem.tail)))) | (refine Lend.inH ?_ ?_; (solve | (repeat (first | exact List.Mem.head _ | apply List.Mem.tail)))))) (.inl rfl) ?_
  -- STOP: called; op 2: d=13 ["move", ["t", 15]] guard=None (law.go:19)
  rintro _ _ _ ⟨oa, ca, rfl, rfl, rfl⟩
  refine RL.move rfl rfl rfl rfl ?_
  refine RL.extract rfl rfl rfl rfl rfl ?_
  refine RL.extract rfl rfl rfl rfl rfl ?_
  refine RL.assign rfl rfl rfl rfl ?_
  refine RL.assign rfl rfl rfl rfl ?_
  refine RL.nil ?_
  refine NQ.seq ?_
  refine CW.only (.cons (k := 1) rfl (.cons (k := 2) rfl (.cons (k := 5) rfl (.cons (k := 6) rfl .nil)))) ?_
  refine CW.seq ?_
  refine CW.region (ef := [1]) (bk := []) ?_
  refine RL.loadW Try.isAgg33 Try.sizeOf33 rfl rfl rfl rfl (by repeat (first | exact List.Mem.head _ | apply List.Mem.tail)) (by first | rfl | assumption | (simp only [List.length_map]; assumption) | (simp only [List.length_map, List.length_replicate]; done) | (simp; done)) ?_
  refine RL.call (rput_any r hr) Try.call16 rfl rfl rfl rfl rfl (by repeat (first | exact Pick.nil | apply Pick.take | apply Pick.leave)) (by repeat (first | exact Lend.nil | (refine Lend.inI ?_ ?_; (solve | (repeat (first | exact List.Mem.head _ | apply List.Mem.tail)))) | (refine Lend.inH ?_ ?_; (solve | (repeat (first | exact List.Mem.head _ | apply List.Mem.tail)))))) (.inl rfl) ?_
  -- STOP: called; op 2: d=18 ["move", ["t", 20]] guard=None (law.go:20)
  rintro _ _ _ ⟨ob, cb, rfl, rfl, rfl⟩
  refine RL.move rfl rfl rfl rfl ?_
  refine RL.extract rfl rfl rfl rfl rfl ?_
  refine RL.extract rfl rfl rfl rfl rfl ?_
  refine RL.assign rfl rfl rfl rfl ?_
  refine RL.assign rfl rfl rfl rfl ?_
  refine RL.nil ?_
  refine NQ.seq ?_
  refine CW.only (.cons (k := 1) rfl (.cons (k := 5) rfl (.cons (k := 6) rfl (.cons (k := 7) rfl (.cons (k := 8) rfl .nil))))) ?_
  refine CW.seq ?_
  -- STOP: region; todo top: ["code", ["region", 3, [{"d": 24, "op": ["move", ["t", 1]], "ty": 3, "pos": "law.go:21", "after": [], "guard": null}, {"d": 25, "op": ["call", ["f", 17], [["t", 24]], [3]], "ty": 38, "pos": "law.go:21
  refine CW.region (ef := []) (bk := []) ?_
  refine RL.move rfl rfl rfl rfl ?_
  refine RL.callv (size_any k) Try.call17 rfl rfl rfl rfl (by repeat (first | exact Lend.nil | (refine Lend.inI ?_ ?_; (solve | (repeat (first | exact List.Mem.head _ | apply List.Mem.tail)))) | (refine Lend.inH ?_ ?_; (solve | (repeat (first | exact List.Mem.head _ | apply List.Mem.tail)))))) ?_
  refine RL.move rfl rfl rfl rfl ?_
  -- STOP: op; op 3: d=26 ["extract", ["t", 23], 0] guard=None (law.go:21)
  rw [sizeV_eq]
  refine RL.extract rfl rfl rfl rfl rfl ?_
  refine RL.extract rfl rfl rfl rfl rfl ?_
  refine RL.assign rfl rfl rfl rfl ?_
  refine RL.assign rfl rfl rfl rfl ?_
  refine RL.nil ?_
  refine NQ.seq ?_
  refine CW.seq ?_
  -- STOP: region; todo top: ["code", ["region", 4, [{"d": 29, "op": ["move", ["t", 1]], "ty": 3, "pos": "law.go:22", "after": [], "guard": null}, {"d": 30, "op": ["call", ["f", 18], [["t", 29]], [3]], "ty": 38, "pos": "law.go:22
  refine CW.region (ef := []) (bk := []) ?_
  refine RL.move rfl rfl rfl rfl ?_
  refine RL.callv (rsize_any k) Try.call18 rfl rfl rfl rfl (by repeat (first | exact Lend.nil | (refine Lend.inI ?_ ?_; (solve | (repeat (first | exact List.Mem.head _ | apply List.Mem.tail)))) | (refine Lend.inH ?_ ?_; (solve | (repeat (first | exact List.Mem.head _ | apply List.Mem.tail)))))) ?_
  refine RL.move rfl rfl rfl rfl ?_
  -- STOP: op; op 3: d=31 ["extract", ["t", 28], 0] guard=None (law.go:22)
  rw [sizeV_eq]
  refine RL.extract rfl rfl rfl rfl rfl ?_
  refine RL.extract rfl rfl rfl rfl rfl ?_
  refine RL.assign rfl rfl rfl rfl ?_
  refine RL.assign rfl rfl rfl rfl ?_
  refine RL.nil ?_
  refine NQ.seq ?_
  refine CW.only (.cons (k := 1) rfl (.cons (k := 5) rfl (.cons (k := 6) rfl (.cons (k := 7) rfl (.cons (k := 8) rfl (.cons (k := 9) rfl (.cons (k := 10) rfl (.cons (k := 11) rfl (.cons (k := 12) rfl .nil))))))))) ?_
  refine CW.seq ?_
  refine CW.region (ef := []) (bk := []) ?_
  refine RL.move rfl rfl rfl rfl ?_
  refine RL.move rfl rfl rfl rfl ?_
  refine RL.callv (same_any (oa.map fun b => ⟨b, 0, none⟩) (ob.map fun b => ⟨b, 0, none⟩) (putB r).length (putB r).length ca cb (putB r) (putB r)) Try.call19 rfl rfl rfl rfl (Lend.own (by repeat (first | exact List.Mem.head _ | apply List.Mem.tail)) (Lend.own (by repeat (first | exact List.Mem.head _ | apply List.Mem.tail)) .nil)) ?_
  refine RL.move rfl rfl rfl rfl ?_
  -- STOP: part 36; op 4: d=37 ["move", ["t", 6]] guard=[3, True] (law.go:23)
  refine RL.cast (d := 36) (v' := .bool true) rfl ((by simp)) ?_
  refine RL.move rfl rfl rfl rfl ?_
  refine RL.move rfl rfl rfl rfl ?_
  refine RL.bin rfl rfl rfl rfl rfl rfl ?_
  refine RL.pickT rfl rfl rfl rfl rfl ?_
  refine RL.move rfl rfl rfl rfl ?_
  -- STOP: part 41; op 9: d=42 ["move", ["t", 9]] guard=[8, True] (law.go:23)
  refine RL.cast (d := 41) (v' := .bool true) rfl ((by simp)) ?_
  refine RL.move rfl rfl rfl rfl ?_
  refine RL.move rfl rfl rfl rfl ?_
  refine RL.bin rfl rfl rfl rfl rfl rfl ?_
  refine RL.pickT rfl rfl rfl rfl rfl ?_
  refine RL.move rfl rfl rfl rfl ?_
  -- STOP: part 46; op 14: d=47 ["move", ["t", 10]] guard=[13, True] (law.go:23)
  refine RL.cast (d := 46) (v' := .bool true) rfl ((by simp)) ?_
  refine RL.move rfl rfl rfl rfl ?_
  refine RL.move rfl rfl rfl rfl ?_
  refine RL.bin rfl rfl rfl rfl rfl rfl ?_
  refine RL.pickT rfl rfl rfl rfl rfl ?_
  refine RL.move rfl rfl rfl rfl ?_
  -- STOP: part 51; op 19: d=52 ["move", ["t", 1]] guard=[18, True] (law.go:23)
  refine RL.cast (d := 51) (v' := .bool true) rfl ((by simp)) ?_
  refine RL.move rfl rfl rfl rfl ?_
  refine RL.callv (name_any k) Try.call20 rfl rfl rfl rfl (by repeat (first | exact Lend.nil | (refine Lend.inI ?_ ?_; (solve | (repeat (first | exact List.Mem.head _ | apply List.Mem.tail)))) | (refine Lend.inH ?_ ?_; (solve | (repeat (first | exact List.Mem.head _ | apply List.Mem.tail)))))) ?_
  refine RL.move rfl rfl rfl rfl ?_
  refine RL.callv (rname_any k) Try.call21 rfl rfl rfl rfl (by repeat (first | exact Lend.nil | (refine Lend.inI ?_ ?_; (solve | (repeat (first | exact List.Mem.head _ | apply List.Mem.tail)))) | (refine Lend.inH ?_ ?_; (solve | (repeat (first | exact List.Mem.head _ | apply List.Mem.tail)))))) ?_
  -- STOP: op; op 23: d=56 ["binOp", "Go.BinOp.eql", 9, ["t", 53], ["t", 55], 9] guard=[18, True] (law.go:23)
  rw [nameV_eq]
  refine RL.cmp rfl rfl rfl rfl rfl (eql_txt _ _ (x := .tmp 53) (y := .tmp 55)) ?_
  refine RL.pickT rfl rfl rfl rfl rfl ?_
  refine RL.move rfl rfl rfl rfl ?_
  -- STOP: part 58; op 26: d=59 ["call", ["f", 22], [], []] guard=[25, True] (law.go:23)
  refine RL.cast (d := 58) (v' := .bool true) rfl ((by simp)) ?_
  refine RL.callv (works_any) Try.call22 rfl rfl rfl rfl (by repeat (first | exact Lend.nil | (refine Lend.inI ?_ ?_; (solve | (repeat (first | exact List.Mem.head _ | apply List.Mem.tail)))) | (refine Lend.inH ?_ ?_; (solve | (repeat (first | exact List.Mem.head _ | apply List.Mem.tail)))))) ?_
  refine RL.pickT rfl rfl rfl rfl rfl ?_
  refine RL.assign rfl rfl rfl rfl ?_
  refine RL.nil ?_
  refine NQ.seq ?_
  refine CW.only (.cons (k := 4) rfl .nil) ?_
  refine CW.ret ?_
  -- STOP: ret; end
  exact RQ.post (res1 rfl rfl) (Split.none _) ⟨rfl, rfl, rfl⟩
theorem kindPuts_call (W : World) (r : Rdg) (k : Int) (hr : rRdg.ok r) (_ : rInt.ok k) (_ : ∀ y ∈ rRdg.its r, y.A W) (_ : ∀ y ∈ rInt.its k, y.A W) : Calls Try.prog 3 #[rRdg.val r, rInt.val k] W (fun e w' => e = .returned (.bool true) ∧ RowKit.Below W.heap.size W w') :=
  (kindPuts_walk r hr k).lawI (by simp)

theorem gotV_eq (o : Option Rdg) : gotV o = .tuple #[.agg ((o.getD (rz 0)).cells).toArray, .int .i64 (if o.isSome then 0 else 120)] := by cases o <;> rfl
theorem got_ok' {k : Int} (hk : wfk .i64 k) (l : List B8) : ((gotR k l).getD (rz 0)).Ok := by
  cases h : gotR k l with
  | none => exact rz_ok (by rfl)
  | some x => exact got_ok hk h
theorem kindGets_walk (k : Int) (hk : wfk .i64 k) (p : Option Addr) (c : Nat) (l : List B8) (hc : l.length ≤ c) : Spc Try.prog 4 #[.int .i64 k, .slice p l.length c] [sls p 1 l.length (bytes l)] [] (Is (.bool true)) := by
  refine Spc.enter Try.func4 rfl rfl rfl (fun w0 hw0 => ?_)
  refine CW.seq ?_
  refine CW.region (ef := []) (bk := []) ?_
  refine RL.assign rfl rfl rfl rfl ?_
  refine RL.nil ?_
  refine NQ.seq ?_
  refine CW.seq ?_
  refine CW.region (ef := []) (bk := []) ?_
  refine RL.move rfl rfl rfl rfl ?_
  refine RL.move rfl rfl rfl rfl ?_
  refine RL.lenS Try.runUnderlying34 rfl rfl rfl rfl ?_
  refine RL.min rfl rfl rfl rfl rfl ?_
  -- STOP: op; op 4: d=13 ["slice", 34, ["t", 9], null, ["t", 12], null] guard=None (law.go:28)
  refine RL.slice (lo := 0) (hi := (l.take 100).length) Try.runUnderlying34 Try.sizeOf5 rfl rfl rfl rfl rfl (congrArg some (by rw [List.length_take]; omega)) (by omega) (by rw [List.length_take]; omega) ?_
  simp only [Nat.sub_zero]
  refine RL.assign rfl rfl rfl rfl ?_
  refine RL.nil ?_
  refine NQ.seq ?_
  refine CW.only (.cons (k := 0) rfl (.cons (k := 1) rfl .nil)) ?_
  refine CW.seq ?_
  -- STOP: region; todo top: ["code", ["region", 2, [{"d": 15, "op": ["move", ["t", 0]], "ty": 3, "pos": "law.go:29", "after": [], "guard": null}, {"d": 16, "op": ["move", ["t", 1]], "ty": 34, "pos": "law.go:29", "after": [], "gu
  refine CW.takeB (c := c) (k := 100) (by repeat (first | exact List.Mem.head _ | apply List.Mem.tail)) hc ?_
  have hB : (l.take 100).length ≤ 100 := by rw [List.length_take]; omega
  generalize l.take 100 = m at hB ⊢
  generalize (if c = 0 then p else p.map (·.add (0 * 1))) = q
  have hg := got_ok' hk m
  refine CW.region (ef := [2, 7, 8]) (bk := [8]) ?_
  refine RL.move rfl rfl rfl rfl ?_
  refine RL.move rfl rfl rfl rfl ?_
  refine RL.call (OwnB.cap (bytes_any q c m (by omega))) Try.call24 rfl rfl rfl rfl rfl (by repeat (first | exact Pick.nil | apply Pick.take | apply Pick.leave)) (by repeat (first | exact Lend.nil | (refine Lend.inI ?_ ?_; (solve | (repeat (first | exact List.Mem.head _ | apply List.Mem.tail)))) | (refine Lend.inH ?_ ?_; (solve | (repeat (first | exact List.Mem.head _ | apply List.Mem.tail)))))) (.inl rfl) ?_
  -- STOP: called; op 3: d=18 ["call", ["f", 23], [["t", 15], ["t", 17]], [3, 34]] guard=None (law.go:29)
  rintro _ _ _ ⟨ob1, cap1, rfl, rfl, rfl, hcap1, ho1⟩
  refine RL.callv (get_any k (ob1.map fun b => ⟨b, 0, none⟩) m.length cap1 m rfl hcap1 (by omega)) Try.call23 rfl rfl rfl rfl (Lend.own (by repeat (first | exact List.Mem.head _ | apply List.Mem.tail)) .nil) ?_
  refine RL.move rfl rfl rfl rfl ?_
  -- STOP: op; op 5: d=19 ["extract", ["t", 14], 0] guard=None (law.go:29)
  rw [gotV_eq]
  refine RL.extract rfl rfl rfl rfl rfl ?_
  refine RL.extract rfl rfl rfl rfl rfl ?_
  refine RL.alloc Try.zeroValue33 rfl rfl rfl rfl rfl ?_
  intro b1
  refine RL.storeW Try.sizeOf33 rfl rfl rfl rfl rfl rfl rfl (by first | rfl | exact ones_map one8 _ | exact ones_map (fun _ => rfl) _) (by repeat (first | exact Upd.here | apply Upd.there)) (by first | rfl | assumption | (simp only [List.length_map]; assumption) | (simp only [List.length_map, List.length_replicate]; done) | (simp; done)) (by first | rfl | assumption | (simp only [List.length_map]; assumption) | (simp only [List.length_map, List.length_replicate]; done) | (simp; done)) ?_
  refine RL.assign rfl rfl rfl rfl ?_
  refine RL.nil ?_
  refine NQ.seq ?_
  refine CW.only (.cons (k := 0) rfl (.cons (k := 1) rfl (.cons (k := 5) rfl (.cons (k := 6) rfl .nil)))) ?_
  refine CW.seq ?_
  -- STOP: region; todo top: ["code", ["region", 3, [{"d": 22, "op": ["move", ["t", 0]], "ty": 3, "pos": "law.go:30", "after": [], "guard": null}, {"d": 23, "op": ["move", ["t", 1]], "ty": 34, "pos": "law.go:30", "after": [], "gu
  refine CW.region (ef := [6, 7]) (bk := [7]) ?_
  refine RL.move rfl rfl rfl rfl ?_
  refine RL.move rfl rfl rfl rfl ?_
  refine RL.callv (rgot_any k q m.length c m rfl (by omega)) Try.call25 rfl rfl rfl rfl (by repeat (first | exact Lend.nil | (refine Lend.inI ?_ ?_; (solve | (repeat (first | exact List.Mem.head _ | apply List.Mem.tail)))) | (refine Lend.inH ?_ ?_; (solve | (repeat (first | exact List.Mem.head _ | apply List.Mem.tail)))))) ?_
  refine RL.move rfl rfl rfl rfl ?_
  -- STOP: op; op 4: d=25 ["extract", ["t", 21], 0] guard=None (law.go:30)
  rw [gotV_eq]
  refine RL.extract rfl rfl rfl rfl rfl ?_
  refine RL.extract rfl rfl rfl rfl rfl ?_
  refine RL.alloc Try.zeroValue33 rfl rfl rfl rfl rfl ?_
  intro b2
  refine RL.storeW Try.sizeOf33 rfl rfl rfl rfl rfl rfl rfl (by first | rfl | exact ones_map one8 _ | exact ones_map (fun _ => rfl) _) (by repeat (first | exact Upd.here | apply Upd.there)) (by first | rfl | assumption | (simp only [List.length_map]; assumption) | (simp only [List.length_map, List.length_replicate]; done) | (simp; done)) (by first | rfl | assumption | (simp only [List.length_map]; assumption) | (simp only [List.length_map, List.length_replicate]; done) | (simp; done)) ?_
  refine RL.assign rfl rfl rfl rfl ?_
  refine RL.nil ?_
  refine NQ.seq ?_
  refine CW.only (.cons (k := 5) rfl (.cons (k := 6) rfl (.cons (k := 7) rfl (.cons (k := 8) rfl .nil)))) ?_
  refine CW.seq ?_
  refine CW.region (ef := []) (bk := []) ?_
  refine RL.loadW Try.isAgg33 Try.sizeOf33 rfl rfl rfl rfl (by repeat (first | exact List.Mem.head _ | apply List.Mem.tail)) (by first | rfl | assumption | (simp only [List.length_map]; assumption) | (simp only [List.length_map, List.length_replicate]; done) | (simp; done)) ?_
  refine RL.loadW Try.isAgg33 Try.sizeOf33 rfl rfl rfl rfl (by repeat (first | exact List.Mem.head _ | apply List.Mem.tail)) (by first | rfl | assumption | (simp only [List.length_map]; assumption) | (simp only [List.length_map, List.length_replicate]; done) | (simp; done)) ?_
  -- STOP: op; op 2: d=29 ["binOp", "Go.BinOp.eql", 33, ["t", 27], ["t", 28], 33] guard=None (law.go:31)
  refine RL.cmp rfl rfl rfl rfl rfl (eql_rdg (r := true) hg hg (by simp) _ _) ?_
  refine RL.move rfl rfl rfl rfl ?_
  -- STOP: part 30; op 4: d=31 ["move", ["t", 6]] guard=[3, True] (law.go:31)
  refine RL.cast (d := 30) (v' := .bool true) rfl (rfl) ?_
  refine RL.move rfl rfl rfl rfl ?_
  refine RL.move rfl rfl rfl rfl ?_
  refine RL.bin rfl rfl rfl rfl rfl rfl ?_
  refine RL.pickT rfl rfl rfl rfl rfl ?_
  refine RL.move rfl rfl rfl rfl ?_
  -- STOP: part 35; op 9: d=36 ["call", ["f", 22], [], []] guard=[8, True] (law.go:31)
  refine RL.cast (d := 35) (v' := .bool true) rfl ((by simp)) ?_
  refine RL.callv (works_any) Try.call22 rfl rfl rfl rfl (by repeat (first | exact Lend.nil | (refine Lend.inI ?_ ?_; (solve | (repeat (first | exact List.Mem.head _ | apply List.Mem.tail)))) | (refine Lend.inH ?_ ?_; (solve | (repeat (first | exact List.Mem.head _ | apply List.Mem.tail)))))) ?_
  refine RL.pickT rfl rfl rfl rfl rfl ?_
  refine RL.assign rfl rfl rfl rfl ?_
  refine RL.nil ?_
  refine NQ.seq ?_
  refine CW.only (.cons (k := 4) rfl .nil) ?_
  refine CW.ret ?_
  -- STOP: ret; end
  exact RQ.post (res1 rfl rfl) (Split.none _) ⟨rfl, rfl, rfl⟩
theorem kindGets_call (W : World) (k : Int) (x : Sl B8) (hk : rInt.ok k) (hx : rBytes.ok x) (_ : ∀ y ∈ rInt.its k, y.A W) (tx : ∀ y ∈ rBytes.its x, y.A W) : Calls Try.prog 4 #[rInt.val k, rBytes.val x] W (fun e w' => e = .returned (.bool true) ∧ RowKit.Below W.heap.size W w') :=
  (kindGets_walk k hk x.p x.c x.l hx.1).lawI (fun z hz => by rw [List.mem_singleton.1 hz]; exact tx _ (List.Mem.head _))
end Go.Proofs.Ytflpiaeffnoepaa
