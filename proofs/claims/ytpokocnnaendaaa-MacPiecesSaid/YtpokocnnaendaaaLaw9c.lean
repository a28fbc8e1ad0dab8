import Derived.Test.YtpokocnnaendaaaLaw9b
namespace Go.Proofs.Ytpokocnnaendaaa
open Go.PK

theorem macPieces_walk (kp : Option Addr) (kc : Nat) (mk : List B8) (hkc : mk.length ≤ kc) (k : List B8) (hk : k.length = 32) (q : Option Addr) (c2 : Nat) (m : List B8) (hc2 : m.length ≤ c2) (at_ : Int) :
    Spc Try.prog 12 #[.slice kp mk.length kc, .agg (bytes k).toArray, .slice q m.length c2, .int .i64 at_] [sls kp 1 mk.length (bytes mk), sls q 1 m.length (bytes m)] [] (Is (.bool true)) := by
  refine Spc.enter Try.func12 rfl rfl rfl (fun w0 hw0 => ?_)
  refine CW.seq ?_
  refine CW.region (ef := [0]) (bk := []) ?_
  refine RL.box rfl rfl rfl rfl rfl rfl ?_
  intro b1
  refine RL.assign rfl rfl rfl rfl ?_
  refine RL.nil ?_
  refine NQ.seq ?_
  refine CW.seq ?_
  refine CW.seq ?_
  refine CW.region (ef := []) (bk := []) ?_
  refine RL.callv (works9) Try.call43 rfl rfl rfl rfl (by repeat (first | exact Lend.nil | (refine Lend.inI ?_ ?_; (solve | (repeat (first | exact List.Mem.head _ | apply List.Mem.tail)))) | (refine Lend.inH ?_ ?_; (solve | (repeat (first | exact List.Mem.head _ | apply List.Mem.tail)))))) ?_
  refine RL.not rfl rfl rfl rfl ?_
  refine RL.nil ?_
  refine NQ.seq ?_
  -- STOP: if; todo top: ["code", ["cond", ["t", 12], ["seq", ["region", 2, [{"d": 8, "op": ["assign", ["c", ["bool", false]]], "ty": 4, "pos": "law.go:44", "after": [], "guard": null}], false], ["ret"]], ["skip"]]]
  refine CW.condF rfl (rfl) ?_
  refine CW.skip ?_
  refine NQ.seq ?_
  refine CW.seq ?_
  refine CW.regionD (Sq.of [0, 1, 2, 3, 4, 5, 6, 7, 8, 9, 10, 11]) [] [] mixed (by kernel_rfl) ?_
  refine RL.move rfl rfl rfl rfl ?_
  refine RL.move rfl rfl rfl rfl ?_
  refine RL.lenS Try.runUnderlying23 rfl rfl rfl rfl ?_
  refine RL.min rfl rfl rfl rfl rfl ?_
  -- STOP: op; op 4: d=17 ["slice", 23, ["t", 13], null, ["t", 16], null] guard=None (law.go:46)
  refine RL.slice (lo := 0) (hi := (mk.take 64).length) Try.runUnderlying23 Try.sizeOf5 rfl rfl rfl rfl rfl (congrArg some (by rw [List.length_take]; omega)) (by omega) (by rw [List.length_take]; omega) ?_
  refine RL.move rfl rfl rfl rfl ?_
  refine RL.move rfl rfl rfl rfl ?_
  refine RL.lenS Try.runUnderlying23 rfl rfl rfl rfl ?_
  refine RL.min rfl rfl rfl rfl rfl ?_
  -- STOP: op; op 9: d=22 ["slice", 23, ["t", 18], null, ["t", 21], null] guard=None (law.go:46)
  refine RL.slice (lo := 0) (hi := (m.take 300).length) Try.runUnderlying23 Try.sizeOf5 rfl rfl rfl rfl rfl (congrArg some (by rw [List.length_take]; omega)) (by omega) (by rw [List.length_take]; omega) ?_
  simp only [Nat.sub_zero]
  refine RL.assign rfl rfl rfl rfl ?_
  refine RL.assign rfl rfl rfl rfl ?_
  refine RL.nil ?_
  refine NQ.seq ?_
  refine CW.only (.cons (k := 0) rfl (.cons (k := 2) rfl (.cons (k := 3) rfl (.cons (k := 5) rfl .nil)))) ?_
  refine CW.seq ?_
  -- STOP: region; todo top: ["code", ["region", 4, [{"d": 23, "op": ["move", ["t", 3]], "ty": 3, "pos": "law.go:47", "after": [], "guard": null}, {"d": 24, "op": ["move", ["t", 2]], "ty": 23, "pos": "law.go:47", "after": [], "gu
  refine CW.takeB (c := kc) (k := 64) (by repeat (first | exact List.Mem.head _ | apply List.Mem.tail)) hkc ?_
  refine CW.takeB (c := c2) (k := 300) (by repeat (first | exact List.Mem.head _ | apply List.Mem.tail)) hc2 ?_
  have hA : (mk.take 64).length ≤ 64 := by rw [List.length_take]; omega
  have hB : (m.take 300).length ≤ 300 := by rw [List.length_take]; omega
  have hBc : (m.take 300).length ≤ c2 := by rw [List.length_take]; omega
  generalize mk.take 64 = key at hA ⊢
  generalize m.take 300 = B at hB hBc ⊢
  generalize (if kc = 0 then kp else kp.map (·.add (0 * 1))) = P1
  generalize (if c2 = 0 then q else q.map (·.add (0 * 1))) = P2
  refine CW.les (I' := [sls P1 1 key.length (bytes key), sls P2 1 B.length (bytes B)]) (fun x hx => by simp only [List.mem_cons] at hx ⊢; rcases hx with rfl | rfl | hx <;> simp [*]) (Les.refl _) ?_
  have hn := amongN_lt (x := at_) (n := B.length + 1) (by omega)
  have hz := amongN_lt (x := at_) (n := 65 - key.length) (by omega)
  refine CW.region (ef := []) (bk := []) ?_
  refine RL.move rfl rfl rfl rfl ?_
  refine RL.move rfl rfl rfl rfl ?_
  refine RL.lenS Try.runUnderlying23 rfl rfl rfl rfl ?_
  -- STOP: op; op 3: d=26 ["binOp", "Go.BinOp.add", 3, ["t", 25], ["c", ["int", "Go.IntKind.i64", 1]], 3] guard=None (law.go:47)
  refine RL.binX (v' := .int .i64 ((B.length + 1 : Nat) : Int)) rfl rfl rfl rfl rfl rfl (intV (by omega) (by omega)) ?_
  refine RL.callv (among_any at_ (B.length + 1) (by omega) (by omega)) Try.call20 rfl rfl rfl rfl (by repeat (first | exact Lend.nil | (refine Lend.inI ?_ ?_; (solve | (repeat (first | exact List.Mem.head _ | apply List.Mem.tail)))) | (refine Lend.inH ?_ ?_; (solve | (repeat (first | exact List.Mem.head _ | apply List.Mem.tail)))))) ?_
  refine RL.assign rfl rfl rfl rfl ?_
  refine RL.nil ?_
  refine NQ.seq ?_
  refine CW.seq ?_
  refine CW.region (ef := [1, 7]) (bk := [7]) ?_
  refine RL.move rfl rfl rfl rfl ?_
  refine RL.call (bytes_any P1 kc key (by omega)) Try.call26 rfl rfl rfl rfl rfl (by repeat (first | exact Pick.nil | apply Pick.take | apply Pick.leave)) (.inI (by simp) .nil) (.inl rfl) ?_
  -- STOP: called; op 2: d=30 ["move", ["t", 3]] guard=None (law.go:48)
  generalize amongN at_ (B.length + 1) = n at hn ⊢
  rintro _ _ _ ⟨ob1, k1, rfl, rfl, rfl, -⟩
  refine RL.move rfl rfl rfl rfl ?_
  refine RL.move rfl rfl rfl rfl ?_
  refine RL.lenS Try.runUnderlying23 rfl rfl rfl rfl ?_
  -- STOP: op; op 5: d=33 ["binOp", "Go.BinOp.sub", 3, ["c", ["int", "Go.IntKind.i64", 65]], ["t", 32], 3] guard=None (law.go:48)
  refine RL.binX (v' := .int .i64 ((65 - key.length : Nat) : Int)) rfl rfl rfl rfl rfl rfl (intV (by omega) (by omega)) ?_
  refine RL.callv (among_any at_ (65 - key.length) (by omega) (by omega)) Try.call20 rfl rfl rfl rfl (by repeat (first | exact Lend.nil | (refine Lend.inI ?_ ?_; (solve | (repeat (first | exact List.Mem.head _ | apply List.Mem.tail)))) | (refine Lend.inH ?_ ?_; (solve | (repeat (first | exact List.Mem.head _ | apply List.Mem.tail)))))) ?_
  -- STOP: op; op 7: d=35 ["builtin", "Go.Builtin.append", [["t", 29], ["t", 34]], [23, 3]] guard=None (law.go:48)
  generalize amongN at_ (65 - key.length) = z at hz ⊢
  refine RL.appendMk (z0 := U8 0#8) el_23 u8_z0 rfl Try.runUnderlying3 rfl rfl rfl rfl rfl rfl rfl (by first | exact ⟨(.take (Pick.none _)), rfl⟩ | exact ⟨(.leave (.take (Pick.none _))), rfl⟩ | exact ⟨(.leave (.leave (.take (Pick.none _)))), rfl⟩ | exact ⟨(.leave (.leave (.leave (.take (Pick.none _))))), rfl⟩ | exact ⟨(.leave (.leave (.leave (.leave (.take (Pick.none _)))))), rfl⟩ | exact ⟨(.leave (.leave (.leave (.leave (.leave (.take (Pick.none _))))))), rfl⟩ | exact ⟨(.leave (.leave (.leave (.leave (.leave (.leave (.take (Pick.none _)))))))), rfl⟩ | exact ⟨(.leave (.leave (.leave (.leave (.leave (.leave (.leave (.take (Pick.none _))))))))), rfl⟩ | exact ⟨(.leave (.leave (.leave (.leave (.leave (.leave (.leave (.leave (.take (Pick.none _)))))))))), rfl⟩ | exact ⟨(.leave (.leave (.leave (.leave (.leave (.leave (.leave (.leave (.leave (.take (Pick.none _))))))))))), rfl⟩) (by first | omega | (simp only [maxLen]; omega)) (by first | omega | (simp only [maxLen]; omega)) ?_
  intro ob2 k2 hob2
  rw [own_is (ob := ob2) (n' := (key ++ List.replicate z 0#8).length) (xs := bytes key ++ List.replicate z (U8 0#8)) (xs' := bytes (key ++ List.replicate z 0#8)) (by simp) (by simp), show key.length + z = (key ++ List.replicate z 0#8).length by simp]
  have hkl : (key ++ List.replicate z 0#8).length ≤ 64 := by simp; omega
  have hmz := fun b => macCode_zeros key b z (by simpa using hkl)
  generalize key ++ List.replicate z 0#8 = key2 at hkl hmz ⊢
  have hnB : n ≤ B.length := by omega
  have hj1 : ∀ x, joined [⟨P2, c2, x⟩] = x := fun x => by simp [joined]
  have hj2 : joined [⟨if c2 = 0 then P2 else P2.map (·.add (0 * 1)), c2, (B.drop 0).take n⟩, ⟨if c2 = n then P2 else P2.map (·.add (n * 1)), c2 - n, (B.drop n).take (B.length - n)⟩] = B := by rw [joined_two]; exact split_all B n
  have hj3 : joined [⟨if c2 = 0 then P2 else P2.map (·.add (0 * 1)), c2, (B.drop 0).take n⟩, ⟨none, 0, []⟩, ⟨if c2 = n then P2 else P2.map (·.add (n * 1)), c2 - n, (B.drop n).take (B.length - n)⟩] = B := by
    rw [show joined [⟨if c2 = 0 then P2 else P2.map (·.add (0 * 1)), c2, (B.drop 0).take n⟩, ⟨none, 0, []⟩, ⟨if c2 = n then P2 else P2.map (·.add (n * 1)), c2 - n, (B.drop n).take (B.length - n)⟩] = (B.drop 0).take n ++ (B.drop n).take (B.length - n) by simp [joined]]
    exact split_all B n
  have l1 : ((B.drop 0).take n).length = n := by rw [List.length_take, List.length_drop]; omega
  have l2 : ((B.drop n).take (B.length - n)).length = B.length - n := by rw [List.length_take, List.length_drop]; omega
  refine RL.assign rfl rfl rfl rfl ?_
  refine RL.nil ?_
  refine NQ.seq ?_
  refine CW.only (.cons (k := 0) rfl (.cons (k := 2) rfl (.cons (k := 5) rfl (.cons (k := 9) rfl (.cons (k := 10) rfl .nil))))) ?_
  refine CW.seq ?_
  refine CW.regionD (.cons 0 (.cons 1 (.cons 4 (.cons 5 (.cons 6 (.cons 7 (.cons 8 (.cons 9 (.cons 10 (.fork [2, 11] (fun k => (bif Nat.beq k 2 then (.cons 3 (.cons 11 (.cons 12 (.cons 13 (.cons 14 (.cons 15 (.cons 16 (.cons 19 (.cons 20 (.cons 21 (.cons 22 (.cons 23 (.cons 24 (.cons 25 (.fork [17, 26] (fun k => (bif Nat.beq k 17 then (Sq.of [18, 26, 27, 28, 29, 30]) else (Sq.of [17, 18, 27, 28, 29, 30])))))))))))))))))) else (.cons 2 (.cons 3 (.cons 12 (.cons 13 (.cons 14 (.cons 15 (.cons 16 (.cons 19 (.cons 20 (.cons 21 (.cons 22 (.cons 23 (.cons 24 (.cons 25 (.fork [17, 26] (fun k => (bif Nat.beq k 17 then (Sq.of [18, 26, 27, 28, 29, 30]) else (Sq.of [17, 18, 27, 28, 29, 30])))))))))))))))))))))))))))))) [2, 11, 17, 26] [] mixed (by kernel_rfl) ?_
  refine RL.move rfl rfl rfl rfl ?_
  refine RL.move rfl rfl rfl rfl ?_
  refine RL.move rfl rfl rfl rfl ?_
  refine RL.move rfl rfl rfl rfl ?_
  refine RL.move rfl rfl rfl rfl ?_
  -- STOP: op; op 7: d=43 ["slice", 23, ["t", 41], null, ["t", 42], null] guard=None (law.go:49)
  refine RL.slice (lo := 0) (hi := n) Try.runUnderlying23 Try.sizeOf5 rfl rfl rfl rfl rfl rfl (by omega) (by omega) ?_
  refine RL.move rfl rfl rfl rfl ?_
  refine RL.move rfl rfl rfl rfl ?_
  -- STOP: op; op 10: d=46 ["slice", 23, ["t", 44], ["t", 45], null, null] guard=None (law.go:49)
  refine RL.slice (lo := n) (hi := B.length) Try.runUnderlying23 Try.sizeOf5 rfl rfl rfl rfl rfl rfl (by omega) (by omega) ?_
  -- STOP: fork; todo top: ["code", ["region", 6, [{"d": 36, "op": ["move", ["t", 0]], "ty": 23, "pos": "law.go:49", "after": [], "guard": null}, {"d": 37, "op": ["move", ["t", 2]], "ty": 23, "pos": "law.go:49", "after": [], "g
  refine RL.fork ⟨?_, ?_, trivial⟩
  ·
    refine RL.buildSlice [_] Try.runUnderlying22 Try.sizeOf23 Try.zeroValue23 rfl rfl (by decide) (by decide) rfl rfl rfl rfl rfl rfl ?_
    intro b2
    refine RL.callv (code_n P1 key.length kc key rfl (by omega) (some ⟨b2, 0, none⟩) 1 1 [⟨P2, c2, B⟩] rfl (by decide) (by rw [hj1]; omega)) Try.call39 rfl rfl rfl rfl (.inI (by simp) (Lend.all (by repeat (first | exact List.Mem.head _ | apply List.Mem.tail)) rfl (.inI (by simp) .nil))) ?_
    refine RL.buildSlice [_, _] Try.runUnderlying22 Try.sizeOf23 Try.zeroValue23 rfl rfl (by decide) (by decide) rfl rfl rfl rfl rfl rfl ?_
    intro b3
    refine RL.callv (code_n (ob2.map fun b => ⟨b, 0, none⟩) key2.length k2 key2 rfl (by omega) (some ⟨b3, 0, none⟩) 2 2 [⟨if c2 = 0 then P2 else P2.map (·.add (0 * 1)), c2, (B.drop 0).take n⟩, ⟨if c2 = n then P2 else P2.map (·.add (n * 1)), c2 - n, (B.drop n).take (B.length - n)⟩] rfl (by decide) (by rw [hj2]; omega)) Try.call39 rfl rfl rfl rfl (Lend.own (by repeat (first | exact List.Mem.head _ | apply List.Mem.tail)) (Lend.allX (by repeat (first | exact List.Mem.head _ | apply List.Mem.tail)) rfl (by simp only [List.map_cons, List.map_nil, Part.v, l1, l2, Nat.sub_zero]) (Lend.partB (by simp) (by omega) hBc (Lend.partB (by simp) (by omega) hBc .nil)))) ?_
    -- STOP: op; op 13: d=49 ["binOp", "Go.BinOp.eql", 27, ["t", 39], ["t", 48], 27] guard=None (law.go:49)
    rw [hj1, hj2, hmz]
    refine RL.cmp rfl rfl rfl rfl rfl (dig_eq _ _ (macCode_len _ _) (macCode_len _ _) _ _) ?_
    refine RL.move rfl rfl rfl rfl ?_
    -- STOP: part 50; op 15: d=51 ["load", 50, ["t", 5]] guard=[14, True] (law.go:49)
    refine RL.cast (d := 50) (v' := .bool true) rfl ((tag_beq _ _ rfl)) ?_
    refine RL.loadW Try.isAgg50 Try.sizeOf50 rfl rfl rfl rfl (by repeat (first | exact List.Mem.head _ | apply List.Mem.tail)) (by first | rfl | assumption | (simp only [List.length_map]; assumption) | (simp only [List.length_map, List.length_replicate, padK_len, padB_len, sha_length, dig_length, macCode_len, macTag_len]; done) | (simp; done)) ?_
    refine RL.move rfl rfl rfl rfl ?_
    refine RL.loadW Try.isAgg50 Try.sizeOf50 rfl rfl rfl rfl (by repeat (first | exact List.Mem.head _ | apply List.Mem.tail)) (by first | rfl | assumption | (simp only [List.length_map]; assumption) | (simp only [List.length_map, List.length_replicate, padK_len, padB_len, sha_length, dig_length, macCode_len, macTag_len]; done) | (simp; done)) ?_
    refine RL.move rfl rfl rfl rfl ?_
    refine RL.move rfl rfl rfl rfl ?_
    -- STOP: op; op 22: d=58 ["slice", 23, ["t", 56], null, ["t", 57], null] guard=[14, True] (law.go:49)
    refine RL.slice (lo := 0) (hi := n) Try.runUnderlying23 Try.sizeOf5 rfl rfl rfl rfl rfl rfl (by omega) (by omega) ?_
    refine RL.move rfl rfl rfl rfl ?_
    refine RL.move rfl rfl rfl rfl ?_
    -- STOP: op; op 25: d=61 ["slice", 23, ["t", 59], ["t", 60], null, null] guard=[14, True] (law.go:49)
    refine RL.slice (lo := n) (hi := B.length) Try.runUnderlying23 Try.sizeOf5 rfl rfl rfl rfl rfl rfl (by omega) (by omega) ?_
    -- STOP: fork; todo top: ["code", ["region", 6, [{"d": 36, "op": ["move", ["t", 0]], "ty": 23, "pos": "law.go:49", "after": [], "guard": null}, {"d": 37, "op": ["move", ["t", 2]], "ty": 23, "pos": "law.go:49", "after": [], "g
    refine RL.fork ⟨?_, ?_, trivial⟩
    ·
      refine RL.buildSlice [_] Try.runUnderlying22 Try.sizeOf23 Try.zeroValue23 rfl rfl (by decide) (by decide) rfl rfl rfl rfl rfl rfl ?_
      intro b4
      refine RL.callv (tag_any k hk (some ⟨b4, 0, none⟩) 1 1 [⟨P2, c2, B⟩] rfl (by decide) (by rw [hj1]; omega)) Try.call41 rfl rfl rfl rfl (Lend.all (by repeat (first | exact List.Mem.head _ | apply List.Mem.tail)) rfl (.inI (by simp) .nil)) ?_
      refine RL.buildSlice [_, _, _] Try.runUnderlying22 Try.sizeOf23 Try.zeroValue23 rfl rfl (by decide) (by decide) rfl rfl rfl rfl rfl rfl ?_
      intro b5
      refine RL.callv (tag_any k hk (some ⟨b5, 0, none⟩) 3 3 [⟨if c2 = 0 then P2 else P2.map (·.add (0 * 1)), c2, (B.drop 0).take n⟩, ⟨none, 0, []⟩, ⟨if c2 = n then P2 else P2.map (·.add (n * 1)), c2 - n, (B.drop n).take (B.length - n)⟩] rfl (by decide) (by rw [hj3]; omega)) Try.call41 rfl rfl rfl rfl (Lend.allX (by repeat (first | exact List.Mem.head _ | apply List.Mem.tail)) rfl (by simp only [List.map_cons, List.map_nil, Part.v, l1, l2, Nat.sub_zero]; rfl) (Lend.partB (by simp) (by omega) hBc (Lend.nilS (Lend.partB (by simp) (by omega) hBc .nil)))) ?_
      -- STOP: op; op 28: d=64 ["binOp", "Go.BinOp.eql", 67, ["t", 54], ["t", 63], 67] guard=[14, True] (law.go:49)
      rw [hj1, hj3]
      refine RL.cmp rfl rfl rfl rfl rfl (tag_eq _ _ (macTag_len _ _) (macTag_len _ _) _ _) ?_
      refine RL.pickT rfl rfl rfl rfl rfl ?_
      refine RL.assign rfl rfl rfl rfl ?_
      refine RL.nil ?_
      refine NQ.seq ?_
      refine CW.only (.cons (k := 8) rfl .nil) ?_
      refine CW.ret ?_
      -- STOP: ret; end
      exact RQ.post (res1 rfl rfl) (Split.none _) ⟨by simp, rfl, rfl⟩
    ·
      refine RL.buildSlice [_, _, _] Try.runUnderlying22 Try.sizeOf23 Try.zeroValue23 rfl rfl (by decide) (by decide) rfl rfl rfl rfl rfl rfl ?_
      intro b5
      refine RL.buildSlice [_] Try.runUnderlying22 Try.sizeOf23 Try.zeroValue23 rfl rfl (by decide) (by decide) rfl rfl rfl rfl rfl rfl ?_
      intro b4
      refine RL.callv (tag_any k hk (some ⟨b4, 0, none⟩) 1 1 [⟨P2, c2, B⟩] rfl (by decide) (by rw [hj1]; omega)) Try.call41 rfl rfl rfl rfl (Lend.all (by repeat (first | exact List.Mem.head _ | apply List.Mem.tail)) rfl (.inI (by simp) .nil)) ?_
      refine RL.callv (tag_any k hk (some ⟨b5, 0, none⟩) 3 3 [⟨if c2 = 0 then P2 else P2.map (·.add (0 * 1)), c2, (B.drop 0).take n⟩, ⟨none, 0, []⟩, ⟨if c2 = n then P2 else P2.map (·.add (n * 1)), c2 - n, (B.drop n).take (B.length - n)⟩] rfl (by decide) (by rw [hj3]; omega)) Try.call41 rfl rfl rfl rfl (Lend.allX (by repeat (first | exact List.Mem.head _ | apply List.Mem.tail)) rfl (by simp only [List.map_cons, List.map_nil, Part.v, l1, l2, Nat.sub_zero]; rfl) (Lend.partB (by simp) (by omega) hBc (Lend.nilS (Lend.partB (by simp) (by omega) hBc .nil)))) ?_
      -- STOP: op; op 28: d=64 ["binOp", "Go.BinOp.eql", 67, ["t", 54], ["t", 63], 67] guard=[14, True] (law.go:49)
      rw [hj1, hj3]
      refine RL.cmp rfl rfl rfl rfl rfl (tag_eq _ _ (macTag_len _ _) (macTag_len _ _) _ _) ?_
      refine RL.pickT rfl rfl rfl rfl rfl ?_
      refine RL.assign rfl rfl rfl rfl ?_
      refine RL.nil ?_
      refine NQ.seq ?_
      refine CW.only (.cons (k := 8) rfl .nil) ?_
      refine CW.ret ?_
      -- STOP: ret; end
      exact RQ.post (res1 rfl rfl) (Split.none _) ⟨by simp, rfl, rfl⟩
  ·
    refine RL.buildSlice [_, _] Try.runUnderlying22 Try.sizeOf23 Try.zeroValue23 rfl rfl (by decide) (by decide) rfl rfl rfl rfl rfl rfl ?_
    intro b3
    refine RL.buildSlice [_] Try.runUnderlying22 Try.sizeOf23 Try.zeroValue23 rfl rfl (by decide) (by decide) rfl rfl rfl rfl rfl rfl ?_
    intro b2
    refine RL.callv (code_n P1 key.length kc key rfl (by omega) (some ⟨b2, 0, none⟩) 1 1 [⟨P2, c2, B⟩] rfl (by decide) (by rw [hj1]; omega)) Try.call39 rfl rfl rfl rfl (.inI (by simp) (Lend.all (by repeat (first | exact List.Mem.head _ | apply List.Mem.tail)) rfl (.inI (by simp) .nil))) ?_
    refine RL.callv (code_n (ob2.map fun b => ⟨b, 0, none⟩) key2.length k2 key2 rfl (by omega) (some ⟨b3, 0, none⟩) 2 2 [⟨if c2 = 0 then P2 else P2.map (·.add (0 * 1)), c2, (B.drop 0).take n⟩, ⟨if c2 = n then P2 else P2.map (·.add (n * 1)), c2 - n, (B.drop n).take (B.length - n)⟩] rfl (by decide) (by rw [hj2]; omega)) Try.call39 rfl rfl rfl rfl (Lend.own (by repeat (first | exact List.Mem.head _ | apply List.Mem.tail)) (Lend.allX (by repeat (first | exact List.Mem.head _ | apply List.Mem.tail)) rfl (by simp only [List.map_cons, List.map_nil, Part.v, l1, l2, Nat.sub_zero]) (Lend.partB (by simp) (by omega) hBc (Lend.partB (by simp) (by omega) hBc .nil)))) ?_
    -- STOP: op; op 13: d=49 ["binOp", "Go.BinOp.eql", 27, ["t", 39], ["t", 48], 27] guard=None (law.go:49)
    rw [hj1, hj2, hmz]
    refine RL.cmp rfl rfl rfl rfl rfl (dig_eq _ _ (macCode_len _ _) (macCode_len _ _) _ _) ?_
    refine RL.move rfl rfl rfl rfl ?_
    -- STOP: part 50; op 15: d=51 ["load", 50, ["t", 5]] guard=[14, True] (law.go:49)
    refine RL.cast (d := 50) (v' := .bool true) rfl ((tag_beq _ _ rfl)) ?_
    refine RL.loadW Try.isAgg50 Try.sizeOf50 rfl rfl rfl rfl (by repeat (first | exact List.Mem.head _ | apply List.Mem.tail)) (by first | rfl | assumption | (simp only [List.length_map]; assumption) | (simp only [List.length_map, List.length_replicate, padK_len, padB_len, sha_length, dig_length, macCode_len, macTag_len]; done) | (simp; done)) ?_
    refine RL.move rfl rfl rfl rfl ?_
    refine RL.loadW Try.isAgg50 Try.sizeOf50 rfl rfl rfl rfl (by repeat (first | exact List.Mem.head _ | apply List.Mem.tail)) (by first | rfl | assumption | (simp only [List.length_map]; assumption) | (simp only [List.length_map, List.length_replicate, padK_len, padB_len, sha_length, dig_length, macCode_len, macTag_len]; done) | (simp; done)) ?_
    refine RL.move rfl rfl rfl rfl ?_
    refine RL.move rfl rfl rfl rfl ?_
    -- STOP: op; op 22: d=58 ["slice", 23, ["t", 56], null, ["t", 57], null] guard=[14, True] (law.go:49)
    refine RL.slice (lo := 0) (hi := n) Try.runUnderlying23 Try.sizeOf5 rfl rfl rfl rfl rfl rfl (by omega) (by omega) ?_
    refine RL.move rfl rfl rfl rfl ?_
    refine RL.move rfl rfl rfl rfl ?_
    -- STOP: op; op 25: d=61 ["slice", 23, ["t", 59], ["t", 60], null, null] guard=[14, True] (law.go:49)
    refine RL.slice (lo := n) (hi := B.length) Try.runUnderlying23 Try.sizeOf5 rfl rfl rfl rfl rfl rfl (by omega) (by omega) ?_
    -- STOP: fork; todo top: ["code", ["region", 6, [{"d": 36, "op": ["move", ["t", 0]], "ty": 23, "pos": "law.go:49", "after": [], "guard": null}, {"d": 37, "op": ["move", ["t", 2]], "ty": 23, "pos": "law.go:49", "after": [], "g
    refine RL.fork ⟨?_, ?_, trivial⟩
    ·
      refine RL.buildSlice [_] Try.runUnderlying22 Try.sizeOf23 Try.zeroValue23 rfl rfl (by decide) (by decide) rfl rfl rfl rfl rfl rfl ?_
      intro b4
      refine RL.callv (tag_any k hk (some ⟨b4, 0, none⟩) 1 1 [⟨P2, c2, B⟩] rfl (by decide) (by rw [hj1]; omega)) Try.call41 rfl rfl rfl rfl (Lend.all (by repeat (first | exact List.Mem.head _ | apply List.Mem.tail)) rfl (.inI (by simp) .nil)) ?_
      refine RL.buildSlice [_, _, _] Try.runUnderlying22 Try.sizeOf23 Try.zeroValue23 rfl rfl (by decide) (by decide) rfl rfl rfl rfl rfl rfl ?_
      intro b5
      refine RL.callv (tag_any k hk (some ⟨b5, 0, none⟩) 3 3 [⟨if c2 = 0 then P2 else P2.map (·.add (0 * 1)), c2, (B.drop 0).take n⟩, ⟨none, 0, []⟩, ⟨if c2 = n then P2 else P2.map (·.add (n * 1)), c2 - n, (B.drop n).take (B.length - n)⟩] rfl (by decide) (by rw [hj3]; omega)) Try.call41 rfl rfl rfl rfl (Lend.allX (by repeat (first | exact List.Mem.head _ | apply List.Mem.tail)) rfl (by simp only [List.map_cons, List.map_nil, Part.v, l1, l2, Nat.sub_zero]; rfl) (Lend.partB (by simp) (by omega) hBc (Lend.nilS (Lend.partB (by simp) (by omega) hBc .nil)))) ?_
      -- STOP: op; op 28: d=64 ["binOp", "Go.BinOp.eql", 67, ["t", 54], ["t", 63], 67] guard=[14, True] (law.go:49)
      rw [hj1, hj3]
      refine RL.cmp rfl rfl rfl rfl rfl (tag_eq _ _ (macTag_len _ _) (macTag_len _ _) _ _) ?_
      refine RL.pickT rfl rfl rfl rfl rfl ?_
      refine RL.assign rfl rfl rfl rfl ?_
      refine RL.nil ?_
      refine NQ.seq ?_
      refine CW.only (.cons (k := 8) rfl .nil) ?_
      refine CW.ret ?_
      -- STOP: ret; end
      exact RQ.post (res1 rfl rfl) (Split.none _) ⟨by simp, rfl, rfl⟩
    ·
      refine RL.buildSlice [_, _, _] Try.runUnderlying22 Try.sizeOf23 Try.zeroValue23 rfl rfl (by decide) (by decide) rfl rfl rfl rfl rfl rfl ?_
      intro b5
      refine RL.buildSlice [_] Try.runUnderlying22 Try.sizeOf23 Try.zeroValue23 rfl rfl (by decide) (by decide) rfl rfl rfl rfl rfl rfl ?_
      intro b4
      refine RL.callv (tag_any k hk (some ⟨b4, 0, none⟩) 1 1 [⟨P2, c2, B⟩] rfl (by decide) (by rw [hj1]; omega)) Try.call41 rfl rfl rfl rfl (Lend.all (by repeat (first | exact List.Mem.head _ | apply List.Mem.tail)) rfl (.inI (by simp) .nil)) ?_
      refine RL.callv (tag_any k hk (some ⟨b5, 0, none⟩) 3 3 [⟨if c2 = 0 then P2 else P2.map (·.add (0 * 1)), c2, (B.drop 0).take n⟩, ⟨none, 0, []⟩, ⟨if c2 = n then P2 else P2.map (·.add (n * 1)), c2 - n, (B.drop n).take (B.length - n)⟩] rfl (by decide) (by rw [hj3]; omega)) Try.call41 rfl rfl rfl rfl (Lend.allX (by repeat (first | exact List.Mem.head _ | apply List.Mem.tail)) rfl (by simp only [List.map_cons, List.map_nil, Part.v, l1, l2, Nat.sub_zero]; rfl) (Lend.partB (by simp) (by omega) hBc (Lend.nilS (Lend.partB (by simp) (by omega) hBc .nil)))) ?_
      -- STOP: op; op 28: d=64 ["binOp", "Go.BinOp.eql", 67, ["t", 54], ["t", 63], 67] guard=[14, True] (law.go:49)
      rw [hj1, hj3]
      refine RL.cmp rfl rfl rfl rfl rfl (tag_eq _ _ (macTag_len _ _) (macTag_len _ _) _ _) ?_
      refine RL.pickT rfl rfl rfl rfl rfl ?_
      refine RL.assign rfl rfl rfl rfl ?_
      refine RL.nil ?_
      refine NQ.seq ?_
      refine CW.only (.cons (k := 8) rfl .nil) ?_
      refine CW.ret ?_
      -- STOP: ret; end
      exact RQ.post (res1 rfl rfl) (Split.none _) ⟨by simp, rfl, rfl⟩
theorem macPieces_call (W : World) (x : Sl B8) (k : List B8) (y : Sl B8) (a : Int) (hx : rBytes.ok x) (hk : rKey.ok k) (hy : rBytes.ok y) (_ : rInt.ok a) (tx : ∀ z ∈ rBytes.its x, z.A W) (_ : ∀ z ∈ rKey.its k, z.A W) (ty : ∀ z ∈ rBytes.its y, z.A W) (_ : ∀ z ∈ rInt.its a, z.A W) :
    Calls Try.prog 12 #[rBytes.val x, rKey.val k, rBytes.val y, rInt.val a] W (fun e w' => e = .returned (.bool true) ∧ RowKit.Below W.heap.size W w') :=
  (macPieces_walk x.p x.c x.l hx.1 k hk.1 y.p y.c y.l hy.1 a).lawI (fun z hz => by
    rcases List.mem_cons.1 hz with rfl | hz
    · exact tx _ (List.Mem.head _)
    · rw [List.mem_singleton.1 hz]; exact ty _ (List.Mem.head _))
end Go.Proofs.Ytpokocnnaendaaa
