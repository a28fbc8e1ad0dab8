import Derived.Test.YtpokocnnaendaaaChain3
import Derived.Test.YtpokocnnaendaaaBase
namespace Go.Proofs.Ytpokocnnaendaaa
open Go.PK

theorem rfind_ok (k c : List B8) (hk : k.length = 32) (hc : c.length = 32) (n : Nat) (hn : n ≤ 512) : Spc Try.prog 36 #[.agg (bytes k).toArray, .agg (bytes c).toArray, .int .i64 (n : Int)] [] [] (Is (.tuple #[.int .i64 (findV k c n).1, .int .i64 (findV k c n).2])) := by
  refine Spc.enter Try.func36 rfl rfl rfl (fun w0 hw0 => ?_)
  refine CW.seq ?_
  refine CW.region (ef := [0, 1]) (bk := []) ?_
  refine RL.box rfl rfl rfl rfl rfl rfl ?_
  intro b1
  refine RL.box rfl rfl rfl rfl rfl rfl ?_
  intro b2
  refine RL.assign rfl rfl rfl rfl ?_
  refine RL.assign rfl rfl rfl rfl ?_
  refine RL.nil ?_
  refine NQ.seq ?_
  refine CW.seq ?_
  refine CW.region (ef := [2]) (bk := []) ?_
  -- STOP: op; op 0: d=12 ["load", 50, ["t", 3]] guard=None (ref.go:38)
  refine RL.loadW Try.isAgg50 Try.sizeOf50 rfl rfl rfl rfl (by repeat (first | exact List.Mem.head _ | apply List.Mem.tail)) (by first | rfl | assumption | (simp only [List.length_map]; assumption) | (simp only [List.length_map, List.length_replicate, padK_len, padB_len, sha_length, dig_length, macCode_len, macTag_len, nextK_len]; done) | (simp; done)) ?_
  refine RL.move rfl rfl rfl rfl ?_
  refine RL.call (rall_ok k hk n hn) Try.call31 rfl rfl rfl rfl rfl (by repeat (first | exact Pick.nil | apply Pick.take | apply Pick.leave)) (by repeat (first | exact Lend.nil | (refine Lend.inI ?_ ?_; (solve | (repeat (first | exact List.Mem.head _ | apply List.Mem.tail)))) | (refine Lend.inH ?_ ?_; (solve | (repeat (first | exact List.Mem.head _ | apply List.Mem.tail)))))) (.inl rfl) ?_
  -- STOP: called; op 3: d=11 ["move", ["t", 14]] guard=None (ref.go:38)
  rintro _ _ _ ⟨b, cp, rfl, rfl, rfl⟩
  refine RL.move rfl rfl rfl rfl ?_
  refine RL.extract rfl rfl rfl rfl rfl ?_
  refine RL.extract rfl rfl rfl rfl rfl ?_
  refine RL.assign rfl rfl rfl rfl ?_
  refine RL.assign rfl rfl rfl rfl ?_
  refine RL.nil ?_
  refine NQ.seq ?_
  refine CW.only (.cons (k := 4) rfl (.cons (k := 8) rfl (.cons (k := 9) rfl .nil))) ?_
  refine CW.seq ?_
  refine CW.seq ?_
  refine CW.region (ef := []) (bk := []) ?_
  refine RL.move rfl rfl rfl rfl ?_
  refine RL.bin rfl rfl rfl rfl rfl rfl ?_
  refine RL.nil ?_
  refine NQ.seq ?_
  -- STOP: if; todo top: ["code", ["cond", ["t", 18], ["seq", ["region", 3, [{"d": 19, "op": ["move", ["t", 9]], "ty": 36, "pos": "ref.go:40", "after": [], "guard": null}, {"d": 6, "op": ["assign", ["c", ["int", "Go.IntKind.i
  refine CW.condF rfl ((by simp)) ?_
  refine CW.skip ?_
  refine NQ.seq ?_
  refine CW.seq ?_
  refine CW.seq ?_
  refine CW.region (ef := []) (bk := []) ?_
  refine RL.assign rfl rfl rfl rfl ?_
  refine RL.nil ?_
  refine NQ.seq ?_
  refine CW.block ?_
  -- STOP: loop; todo top: ["code", ["loop", ["seq", ["seq", ["region", 5, [{"d": 20, "op": ["move", ["t", 10]], "ty": 3, "pos": "ref.go:42", "after": [], "guard": null}, {"d": 21, "op": ["move", ["t", 8]], "ty": 55, "pos": "re
  refine CW.loop (γ := Nat) (fun i => i ≤ n + 1 ∧ ∀ j, j < i → ∀ x, (chainL k (n + 1))[j]? = some x → x ≠ c) (fun i => [(4, .pointer (some ⟨b2, 0, none⟩)), (8, slO (some b) (n + 1) cp), (10, .int .i64 (i : Int))]) (fun _ => [])
    (fun _ => [own (some b) cp 50 32 (n + 1) (flatK (chainL k (n + 1))), cel b2 (bytes c) 50]) (fun i => n + 1 - i) 0 ⟨Nat.zero_le _, by omega⟩ (.cons rfl (.cons rfl (.cons rfl .nil))) (fun _ h => h.rea (fun _ h => h) (by repeat (first | exact Rea.nil | (apply Rea.cons; (solve | (repeat (first | exact Del.here | apply Del.there))))))) ?_
  rintro i ⟨hi, hne⟩
  refine CW.seq ?_
  refine CW.seq ?_
  refine CW.region (ef := []) (bk := []) ?_
  refine RL.move rfl rfl rfl rfl ?_
  refine RL.move rfl rfl rfl rfl ?_
  refine RL.lenS Try.runUnderlying55 rfl rfl rfl rfl ?_
  refine RL.bin rfl rfl rfl rfl rfl rfl ?_
  refine RL.nil ?_
  refine NQ.seq ?_
  -- STOP: if; todo top: ["code", ["cond", ["t", 23], ["skip"], ["exit", 0]]]
  refine CW.cond rfl (fun hlt => ?_) (fun hlt => ?_)
  ·
    have hlt : i < n + 1 := by simp at hlt; omega
    have hg := chainL_get k hlt
    have hxl := nextN_len hk i
    generalize nextN k i = x at hg hxl
    refine CW.skip ?_
    refine NQ.seq ?_
    refine CW.seq ?_
    refine CW.block ?_
    refine CW.seq ?_
    refine CW.regionD (Sq.of [0, 1, 2, 3, 4, 5]) [] [] mixed (by kernel_rfl) ?_
    refine RL.move rfl rfl rfl rfl ?_
    refine RL.move rfl rfl rfl rfl ?_
    -- STOP: op; op 2: d=28 ["indexAddr", 55, ["t", 26], ["t", 27]] guard=None (ref.go:43)
    refine RL.idx (j := i) (p := ⟨b, 0, none⟩) Try.runUnderlying55 Try.sizeOf50 rfl rfl rfl rfl rfl rfl hlt ?_
    -- STOP: op; op 3: d=29 ["load", 50, ["t", 28]] guard=None (ref.go:43)
    refine RL.loadN (vs := bytes x) Try.isAgg50 (by rw [List.length_map, hxl]; exact Try.sizeOf50) rfl rfl rfl rfl (Rds.key (List.Mem.head _) (chainL_all hk _) hg) ?_
    -- STOP: op; op 4: d=30 ["load", 50, ["t", 4]] guard=None (ref.go:43)
    refine RL.loadW Try.isAgg50 Try.sizeOf50 rfl rfl rfl rfl (by repeat (first | exact List.Mem.head _ | apply List.Mem.tail)) (by first | rfl | assumption | (simp only [List.length_map]; assumption) | (simp only [List.length_map, List.length_replicate, padK_len, padB_len, sha_length, dig_length, macCode_len, macTag_len, nextK_len]; done) | (simp; done)) ?_
    -- STOP: op; op 5: d=31 ["binOp", "Go.BinOp.eql", 50, ["t", 29], ["t", 30], 50] guard=None (ref.go:43)
    refine RL.cmp rfl rfl rfl rfl rfl (key_eq _ _ hxl hc _ _) ?_
    refine RL.nil ?_
    refine NQ.seq ?_
    refine CW.only (.cons (k := 4) rfl (.cons (k := 8) rfl (.cons (k := 10) rfl (.cons (k := 31) rfl .nil)))) ?_
    -- STOP: if; todo top: ["code", ["cond", ["t", 31], ["seq", ["region", 8, [{"d": 32, "op": ["move", ["t", 10]], "ty": 3, "pos": "ref.go:44", "after": [], "guard": null}, {"d": 6, "op": ["assign", ["t", 32]], "ty": 3, "pos":
    refine CW.cond rfl (fun he => ?_) (fun he => ?_)
    ·
      refine CW.seq ?_
      refine CW.region (ef := []) (bk := []) ?_
      refine RL.move rfl rfl rfl rfl ?_
      refine RL.assign rfl rfl rfl rfl ?_
      refine RL.assign rfl rfl rfl rfl ?_
      refine RL.nil ?_
      refine NQ.seq ?_
      refine CW.ret ?_
      refine RQ.block ?_
      refine RQ.seq ?_
      refine RQ.seq ?_
      refine RQ.block ?_
      refine RQ.seq ?_
      -- STOP: ret; end
      have he : x = c := by simpa using he
      subst he
      have := firstAt_is hne hg
      exact RQ.post (res2 rfl rfl rfl) (Split.none _) ⟨by rw [findV, this, if_pos hlt], rfl, rfl⟩
    ·
      refine CW.skip ?_
      refine NQ.block ?_
      refine NQ.seq ?_
      refine CW.region (ef := []) (bk := []) ?_
      refine RL.move rfl rfl rfl rfl ?_
      refine RL.binX rfl rfl rfl rfl rfl rfl (wrapV_i64 (by omega) (by omega)) ?_
      refine RL.assign rfl rfl rfl rfl ?_
      refine RL.nil ?_
      -- STOP: round; todo top: ["N"]
      have he : x ≠ c := fun h => by subst h; simp at he
      refine NQ.round (g := i) (i + 1) ⟨hlt, fun j hj y hy => ?_⟩ (by omega) (.cons rfl (.cons rfl (.cons rfl .nil))) (fun _ h => h)
      by_cases hji : j = i
      · subst hji; rw [hg] at hy; cases hy; exact he
      · exact hne j (by omega) y hy
  ·
    refine CW.exit ?_
    refine XQ.seq ?_
    refine XQ.seq ?_
    refine XQ.hit ?_
    refine NQ.seq ?_
    refine CW.only .nil ?_
    refine CW.seq ?_
    refine CW.region (ef := []) (bk := []) ?_
    refine RL.assign rfl rfl rfl rfl ?_
    refine RL.assign rfl rfl rfl rfl ?_
    refine RL.nil ?_
    refine NQ.seq ?_
    refine CW.ret ?_
    -- STOP: ret; end
    have hil : i = n + 1 := by simp at hlt; omega
    subst hil
    have := firstAt_none (l := chainL k (n + 1)) (c := c) (by rw [chainL_len]; exact hne)
    rw [chainL_len] at this
    exact RQ.post (res2 rfl rfl rfl) (Split.none _) ⟨by rw [findV, this, if_neg (by omega)], rfl, rfl⟩
theorem rfind_bad (k c : List B8) (hk : k.length = 32) (_hc : c.length = 32) (n : Int) (hbad : ¬ okSteps n) : Spc Try.prog 36 #[.agg (bytes k).toArray, .agg (bytes c).toArray, .int .i64 n] [] [] (Is (.tuple #[.int .i64 0, .int .i64 2])) := by
  refine Spc.enter Try.func36 rfl rfl rfl (fun w0 hw0 => ?_)
  refine CW.seq ?_
  refine CW.region (ef := [0, 1]) (bk := []) ?_
  refine RL.box rfl rfl rfl rfl rfl rfl ?_
  intro b1
  refine RL.box rfl rfl rfl rfl rfl rfl ?_
  intro b2
  refine RL.assign rfl rfl rfl rfl ?_
  refine RL.assign rfl rfl rfl rfl ?_
  refine RL.nil ?_
  refine NQ.seq ?_
  refine CW.seq ?_
  refine CW.region (ef := []) (bk := []) ?_
  refine RL.loadW Try.isAgg50 Try.sizeOf50 rfl rfl rfl rfl (by repeat (first | exact List.Mem.head _ | apply List.Mem.tail)) (by first | rfl | assumption | (simp only [List.length_map]; assumption) | (simp only [List.length_map, List.length_replicate, padK_len, padB_len, sha_length, dig_length, macCode_len, macTag_len, nextK_len]; done) | (simp; done)) ?_
  refine RL.move rfl rfl rfl rfl ?_
  refine RL.callv (rall_bad k hk n hbad) Try.call31 rfl rfl rfl rfl (by repeat (first | exact Lend.nil | (refine Lend.inI ?_ ?_; (solve | (repeat (first | exact List.Mem.head _ | apply List.Mem.tail)))) | (refine Lend.inH ?_ ?_; (solve | (repeat (first | exact List.Mem.head _ | apply List.Mem.tail)))))) ?_
  refine RL.move rfl rfl rfl rfl ?_
  refine RL.extract rfl rfl rfl rfl rfl ?_
  refine RL.extract rfl rfl rfl rfl rfl ?_
  refine RL.assign rfl rfl rfl rfl ?_
  refine RL.assign rfl rfl rfl rfl ?_
  refine RL.nil ?_
  refine NQ.seq ?_
  refine CW.only (.cons (k := 4) rfl (.cons (k := 8) rfl (.cons (k := 9) rfl .nil))) ?_
  refine CW.seq ?_
  refine CW.seq ?_
  refine CW.region (ef := []) (bk := []) ?_
  refine RL.move rfl rfl rfl rfl ?_
  refine RL.bin rfl rfl rfl rfl rfl rfl ?_
  refine RL.nil ?_
  refine NQ.seq ?_
  -- STOP: if; todo top: ["code", ["cond", ["t", 18], ["seq", ["region", 3, [{"d": 19, "op": ["move", ["t", 9]], "ty": 36, "pos": "ref.go:40", "after": [], "guard": null}, {"d": 6, "op": ["assign", ["c", ["int", "Go.IntKind.i
  refine CW.condT rfl ((by simp)) ?_
  refine CW.seq ?_
  refine CW.region (ef := []) (bk := []) ?_
  refine RL.move rfl rfl rfl rfl ?_
  refine RL.assign rfl rfl rfl rfl ?_
  refine RL.assign rfl rfl rfl rfl ?_
  refine RL.nil ?_
  refine NQ.seq ?_
  refine CW.ret ?_
  refine RQ.seq ?_
  -- STOP: ret; end
  exact RQ.post (res2 rfl rfl rfl) (Split.none _) ⟨rfl, rfl, rfl⟩

theorem works10 : Spc Try.prog 32 #[] [] [] (Is (.bool true)) := by
  have hn : nextK key3 = nxOut := next_three
  refine Spc.enter Try.func32 rfl rfl rfl (fun w0 hw0 => ?_)
  refine CW.seq ?_
  refine CW.region (ef := []) (bk := []) ?_
  refine RL.assign rfl rfl rfl rfl ?_
  refine RL.nil ?_
  refine NQ.seq ?_
  refine CW.seq ?_
  refine CW.region (ef := [5, 6]) (bk := [6]) ?_
  -- STOP: op; op 0: d=4 ["build", 50, [[0, ["c", ["int", "Go.IntKind.u8", 3]]]]] guard=None (law.go:13)
  refine RL.buildA (bytes key3) Try.zeroValue50 Try.runUnderlying50 Try.sizeOf5 rfl rfl rfl rfl rfl ?_
  refine RL.callv (walk_ok key3 (by decide) 0 (by decide)) Try.call27 rfl rfl rfl rfl (by repeat (first | exact Lend.nil | (refine Lend.inI ?_ ?_; (solve | (repeat (first | exact List.Mem.head _ | apply List.Mem.tail)))) | (refine Lend.inH ?_ ?_; (solve | (repeat (first | exact List.Mem.head _ | apply List.Mem.tail)))))) ?_
  refine RL.move rfl rfl rfl rfl ?_
  refine RL.extract rfl rfl rfl rfl rfl ?_
  refine RL.extract rfl rfl rfl rfl rfl ?_
  refine RL.alloc (cs := List.replicate 32 (U8 0#8)) Try.zeroValue50 rfl rfl rfl rfl rfl ?_
  intro b1
  refine RL.storeW Try.sizeOf50 rfl rfl rfl rfl rfl rfl rfl (by first | rfl | exact ones_map one8 _ | exact ones_map (fun _ => rfl) _) (by repeat (first | exact Upd.here | apply Upd.there)) (by first | rfl | assumption | (simp only [List.length_map]; assumption) | (simp only [List.length_map, List.length_replicate, padK_len, padB_len, sha_length, dig_length, macCode_len, macTag_len, nextK_len]; done) | (simp; done)) (by first | rfl | assumption | (simp only [List.length_map]; assumption) | (simp only [List.length_map, List.length_replicate, padK_len, padB_len, sha_length, dig_length, macCode_len, macTag_len, nextK_len]; done) | (simp; done)) ?_
  refine RL.assign rfl rfl rfl rfl ?_
  refine RL.nil ?_
  refine NQ.seq ?_
  refine CW.only (.cons (k := 1) rfl (.cons (k := 2) rfl .nil)) ?_
  refine CW.seq ?_
  refine CW.region (ef := []) (bk := []) ?_
  refine RL.loadW Try.isAgg50 Try.sizeOf50 rfl rfl rfl rfl (by repeat (first | exact List.Mem.head _ | apply List.Mem.tail)) (by first | rfl | assumption | (simp only [List.length_map]; assumption) | (simp only [List.length_map, List.length_replicate, padK_len, padB_len, sha_length, dig_length, macCode_len, macTag_len, nextK_len]; done) | (simp; done)) ?_
  -- STOP: op; op 1: d=9 ["build", 50, [[0, ["c", ["int", "Go.IntKind.u8", 3]]]]] guard=None (law.go:14)
  refine RL.buildA (bytes key3) Try.zeroValue50 Try.runUnderlying50 Try.sizeOf5 rfl rfl rfl rfl rfl ?_
  -- STOP: op; op 2: d=10 ["binOp", "Go.BinOp.eql", 50, ["t", 8], ["t", 9], 50] guard=None (law.go:14)
  refine RL.cmp rfl rfl rfl rfl rfl (key_eq key3 key3 rfl rfl _ _) ?_
  refine RL.move rfl rfl rfl rfl ?_
  -- STOP: part 11; op 4: d=12 ["move", ["t", 2]] guard=[3, True] (law.go:14)
  refine RL.cast (d := 11) (v' := .bool true) rfl ((tag_beq _ _ rfl)) ?_
  refine RL.move rfl rfl rfl rfl ?_
  refine RL.bin rfl rfl rfl rfl rfl rfl ?_
  refine RL.pickT rfl rfl rfl rfl rfl ?_
  refine RL.move rfl rfl rfl rfl ?_
  -- STOP: part 15; op 8: d=16 ["build", 50, [[0, ["c", ["int", "Go.IntKind.u8", 3]]]]] guard=[7, True] (law.go:14)
  refine RL.cast (d := 15) (v' := .bool true) rfl (rfl) ?_
  -- STOP: op; op 8: d=16 ["build", 50, [[0, ["c", ["int", "Go.IntKind.u8", 3]]]]] guard=[7, True] (law.go:14)
  refine RL.buildA (bytes key3) Try.zeroValue50 Try.runUnderlying50 Try.sizeOf5 rfl rfl rfl rfl rfl ?_
  refine RL.callv (next_any key3 (by decide)) Try.call54 rfl rfl rfl rfl (by repeat (first | exact Lend.nil | (refine Lend.inI ?_ ?_; (solve | (repeat (first | exact List.Mem.head _ | apply List.Mem.tail)))) | (refine Lend.inH ?_ ?_; (solve | (repeat (first | exact List.Mem.head _ | apply List.Mem.tail)))))) ?_
  -- STOP: op; op 10: d=18 ["build", 50, [[0, ["c", ["int", "Go.IntKind.u8", 3]]]]] guard=[7, True] (law.go:14)
  refine RL.buildA (bytes key3) Try.zeroValue50 Try.runUnderlying50 Try.sizeOf5 rfl rfl rfl rfl rfl ?_
  refine RL.callv (rnext_any key3 (by decide)) Try.call55 rfl rfl rfl rfl (by repeat (first | exact Lend.nil | (refine Lend.inI ?_ ?_; (solve | (repeat (first | exact List.Mem.head _ | apply List.Mem.tail)))) | (refine Lend.inH ?_ ?_; (solve | (repeat (first | exact List.Mem.head _ | apply List.Mem.tail)))))) ?_
  -- STOP: op; op 12: d=20 ["binOp", "Go.BinOp.eql", 50, ["t", 17], ["t", 19], 50] guard=[7, True] (law.go:14)
  refine RL.cmp rfl rfl rfl rfl rfl (key_eq (nextK key3) (nextK key3) (nextK_len _) (nextK_len _) _ _) ?_
  refine RL.pickT rfl rfl rfl rfl rfl ?_
  refine RL.move rfl rfl rfl rfl ?_
  -- STOP: part 22; op 15: d=23 ["build", 50, [[0, ["c", ["int", "Go.IntKind.u8", 3]]]]] guard=[14, True] (law.go:14)
  refine RL.cast (d := 22) (v' := .bool true) rfl ((tag_beq _ _ rfl)) ?_
  -- STOP: op; op 15: d=23 ["build", 50, [[0, ["c", ["int", "Go.IntKind.u8", 3]]]]] guard=[14, True] (law.go:14)
  refine RL.buildA (bytes key3) Try.zeroValue50 Try.runUnderlying50 Try.sizeOf5 rfl rfl rfl rfl rfl ?_
  refine RL.callv (next_any key3 (by decide)) Try.call54 rfl rfl rfl rfl (by repeat (first | exact Lend.nil | (refine Lend.inI ?_ ?_; (solve | (repeat (first | exact List.Mem.head _ | apply List.Mem.tail)))) | (refine Lend.inH ?_ ?_; (solve | (repeat (first | exact List.Mem.head _ | apply List.Mem.tail)))))) ?_
  refine RL.buildA (List.replicate 32 (U8 0#8)) Try.zeroValue50 Try.runUnderlying50 Try.sizeOf5 rfl rfl rfl rfl rfl ?_
  -- STOP: op; op 18: d=26 ["binOp", "Go.BinOp.neq", 50, ["t", 24], ["t", 25], 50] guard=[14, True] (law.go:14)
  refine RL.cmp rfl rfl rfl rfl rfl (key_ne (nextK key3) zeros (nextK_len _) rfl _ _) ?_
  refine RL.pickT rfl rfl rfl rfl rfl ?_
  refine RL.assign rfl rfl rfl rfl ?_
  refine RL.nil ?_
  refine NQ.seq ?_
  refine CW.only (.cons (k := 0) rfl .nil) ?_
  refine CW.ret ?_
  -- STOP: ret; end
  rw [hn]
  exact RQ.post (res1 rfl rfl) (Split.none _) ⟨congrArg Value.bool (by decide), rfl, rfl⟩
end Go.Proofs.Ytpokocnnaendaaa
