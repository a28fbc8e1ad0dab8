import Derived.Test.YtpokocnnaendaaaChain1
import Derived.Test.YtpokocnnaendaaaVoid
namespace Go.Proofs.Ytpokocnnaendaaa
open Go.PK

theorem Lend.ownN {I F J : List It} {b cap sz n n' : Nat} {e : TypeId} {xs xs' : List Value} (hm : PK.own (some b) cap e sz n xs ∈ F) (hn : n = n') (hx : xs = xs') (h : Lend I F J) : Lend I F (PK.sls (some ⟨b, 0, none⟩) sz n' xs' :: J) := by
  subst hn; subst hx; exact Lend.own (ob := some b) hm h

theorem rnext_any (k : List B8) (hk : k.length = 32) : Spc Try.prog 55 #[.agg (bytes k).toArray] [] [] (Is (.agg (bytes (nextK k)).toArray)) := by
  refine Spc.enter Try.func55 rfl rfl rfl (fun w0 hw0 => ?_)
  refine CW.seq ?_
  refine CW.region (ef := [0, 1]) (bk := []) ?_
  refine RL.box rfl rfl rfl rfl rfl rfl ?_
  intro b1
  refine RL.alloc (cs := List.replicate 32 (U8 0#8)) Try.zeroValue50 rfl rfl rfl rfl rfl ?_
  intro b2
  refine RL.nil ?_
  refine NQ.seq ?_
  refine CW.seq ?_
  refine CW.region (ef := [0, 1, 3, 4, 5]) (bk := [1, 5]) ?_
  refine RL.buildSlice [_, _, _, _, _, _, _, _, _, _, _, _, _] Try.runUnderlying23 Try.sizeOf5 Try.zeroValue5 rfl rfl (by decide) (by decide) rfl rfl rfl rfl rfl rfl ?_
  intro b3
  -- STOP: op; op 1: d=4 ["convert", 23, 23, ["t", 3]] guard=None (ref.go:12)
  refine RL.stringish (e := 5) Try.runUnderlying23 Try.runUnderlying5 rfl rfl rfl rfl rfl rfl (by repeat (first | exact Pick.nil | apply Pick.take | apply Pick.leave)) rfl ?_
  refine RL.sliceAll Try.runUnderlying50 Try.sizeOf5 (by decide) rfl rfl rfl rfl ?_
  -- STOP: op; op 3: d=6 ["builtin", "Go.Builtin.append", [["t", 4], ["t", 5]], [23, 23]] guard=None (ref.go:12)
  refine RL.appendNew (xs := bytes label) (news := bytes k) el_23 rfl rfl rfl rfl rfl rfl (Src.sls (List.Mem.head _)) (Src.cel (by repeat (first | exact List.Mem.head _ | apply List.Mem.tail)) (by simp [hk])) (by decide) (by decide) (by decide) ?_
  intro b4 c4
  refine RL.callv (rof_n (some ⟨b4, 0, none⟩) 45 c4 (label ++ k) (by simp [label, hk]) (by decide)) Try.call17 rfl rfl rfl rfl (Lend.ownN (by repeat (first | exact List.Mem.head _ | apply List.Mem.tail)) rfl (by simp) .nil) ?_
  refine RL.storeW Try.sizeOf50 rfl rfl rfl rfl rfl rfl rfl (by first | rfl | exact ones_map one8 _ | exact ones_map (fun _ => rfl) _) (by repeat (first | exact Upd.here | apply Upd.there)) (by first | rfl | assumption | (simp only [List.length_map]; assumption) | (simp only [List.length_map, List.length_replicate, padK_len, padB_len, sha_length, dig_length, macCode_len, macTag_len, nextK_len]; done) | (simp; done)) (by first | rfl | assumption | (simp only [List.length_map]; assumption) | (simp only [List.length_map, List.length_replicate, padK_len, padB_len, sha_length, dig_length, macCode_len, macTag_len, nextK_len]; done) | (simp; done)) ?_
  refine RL.nil ?_
  refine NQ.seq ?_
  refine CW.only (.cons (k := 2) rfl .nil) ?_
  refine CW.ret ?_
  -- STOP: ret; end
  exact RQ.post (resW rfl rfl Try.isAgg50 Try.sizeOf50 (by repeat (first | exact List.Mem.head _ | apply List.Mem.tail)) (by first | rfl | assumption | (simp only [List.length_map]; assumption) | (simp only [List.length_map, List.length_replicate, padK_len, padB_len, sha_length, dig_length, macCode_len, macTag_len, nextK_len]; done) | (simp; done))) (Split.none _) ⟨rfl, rfl, rfl⟩

/-- So many steps may be asked for. -/
def okSteps (n : Int) : Prop := 0 ≤ n ∧ n ≤ 512

theorem walk_ok (k : List B8) (hk : k.length = 32) (n : Nat) (hn : n ≤ 512) : Spc Try.prog 27 #[.agg (bytes k).toArray, .int .i64 (n : Int)] [] [] (Is (.tuple #[.agg (bytes (nextN k n)).toArray, .int .i64 0])) := by
  refine Spc.enter Try.func27 rfl rfl rfl (fun w0 hw0 => ?_)
  refine CW.seq ?_
  refine CW.region (ef := [0, 1]) (bk := []) ?_
  refine RL.box rfl rfl rfl rfl rfl rfl ?_
  intro b1
  refine RL.alloc (cs := List.replicate 32 (U8 0#8)) Try.zeroValue50 rfl rfl rfl rfl rfl ?_
  intro b2
  refine RL.assign rfl rfl rfl rfl ?_
  refine RL.nil ?_
  refine NQ.seq ?_
  refine CW.seq ?_
  refine CW.seq ?_
  refine CW.region (ef := []) (bk := []) ?_
  refine RL.move rfl rfl rfl rfl ?_
  refine RL.bin rfl rfl rfl rfl rfl rfl ?_
  refine RL.move rfl rfl rfl rfl ?_
  -- STOP: part 8; op 3: d=9 ["move", ["t", 1]] guard=[2, False] (chain.go:35)
  refine RL.cast (d := 8) (v' := .bool false) rfl ((by simp)) ?_
  refine RL.move rfl rfl rfl rfl ?_
  refine RL.bin rfl rfl rfl rfl rfl rfl ?_
  refine RL.pickF rfl rfl rfl rfl rfl ?_
  refine RL.nil ?_
  refine NQ.seq ?_
  refine CW.only (.cons (k := 1) rfl (.cons (k := 2) rfl (.cons (k := 4) rfl (.cons (k := 5) rfl (.cons (k := 11) rfl .nil))))) ?_
  -- STOP: if; todo top: ["code", ["cond", ["t", 11], ["seq", ["region", 2, [{"d": 12, "op": ["build", 50, []], "ty": 50, "pos": "chain.go:36", "after": [], "guard": null}, {"d": null, "op": ["store", 50, ["t", 4], ["t", 12]]
  refine CW.condF rfl ((by simp; omega)) ?_
  refine CW.skip ?_
  refine NQ.seq ?_
  refine CW.seq ?_
  refine CW.seq ?_
  refine CW.region (ef := []) (bk := []) ?_
  refine RL.move rfl rfl rfl rfl ?_
  refine RL.move rfl rfl rfl rfl ?_
  refine RL.nil ?_
  refine NQ.seq ?_
  refine CW.block ?_
  -- STOP: loop; todo top: ["code", ["loop", ["seq", ["region", 4, [{"d": 15, "op": ["binOp", "Go.BinOp.lss", 3, ["t", 14], ["t", 13], 3], "ty": 4, "pos": "chain.go:38", "after": [], "guard": null}], false], ["seq", ["cond", ["
  refine CW.loop (γ := Nat) (fun i => i ≤ n) (fun i => [(2, .pointer (some ⟨b1, 0, none⟩)), (4, .pointer (some ⟨b2, 0, none⟩)), (13, .int .i64 (n : Int)), (14, .int .i64 (i : Int))]) (fun _ => [])
    (fun i => [cel b2 (List.replicate 32 (U8 0#8)) 50, cel b1 (bytes (nextN k i)) 50]) (fun i => n - i) 0 (by omega) (.cons rfl (.cons rfl (.cons rfl (.cons rfl .nil)))) (fun _ h => h) ?_
  intro i hi
  have hl := nextN_len hk i
  have hl2 := nextN_len hk (i + 1)
  refine CW.seq ?_
  refine CW.region (ef := []) (bk := []) ?_
  refine RL.bin rfl rfl rfl rfl rfl rfl ?_
  refine RL.nil ?_
  refine NQ.seq ?_
  refine CW.seq ?_
  -- STOP: if; todo top: ["code", ["cond", ["t", 15], ["skip"], ["exit", 0]]]
  refine CW.cond rfl (fun hlt => ?_) (fun hlt => ?_)
  ·
    refine CW.skip ?_
    refine NQ.seq ?_
    refine CW.seq ?_
    refine CW.block ?_
    refine CW.region (ef := [2]) (bk := [2]) ?_
    refine RL.loadW Try.isAgg50 Try.sizeOf50 rfl rfl rfl rfl (by repeat (first | exact List.Mem.head _ | apply List.Mem.tail)) (by first | rfl | assumption | (simp only [List.length_map]; assumption) | (simp only [List.length_map, List.length_replicate, padK_len, padB_len, sha_length, dig_length, macCode_len, macTag_len, nextK_len]; done) | (simp; done)) ?_
    refine RL.callv (next_any (nextN k i) (nextN_len hk i)) Try.call54 rfl rfl rfl rfl (by repeat (first | exact Lend.nil | (refine Lend.inI ?_ ?_; (solve | (repeat (first | exact List.Mem.head _ | apply List.Mem.tail)))) | (refine Lend.inH ?_ ?_; (solve | (repeat (first | exact List.Mem.head _ | apply List.Mem.tail)))))) ?_
    refine RL.storeW Try.sizeOf50 rfl rfl rfl rfl rfl rfl rfl (by first | rfl | exact ones_map one8 _ | exact ones_map (fun _ => rfl) _) (by repeat (first | exact Upd.here | apply Upd.there)) (by first | rfl | assumption | (simp only [List.length_map]; assumption) | (simp only [List.length_map, List.length_replicate, padK_len, padB_len, sha_length, dig_length, macCode_len, macTag_len, nextK_len]; done) | (simp; done)) (by first | rfl | assumption | (simp only [List.length_map]; assumption) | (simp only [List.length_map, List.length_replicate, padK_len, padB_len, sha_length, dig_length, macCode_len, macTag_len, nextK_len]; done) | (simp; done)) ?_
    refine RL.nil ?_
    refine NQ.block ?_
    refine NQ.seq ?_
    refine CW.region (ef := []) (bk := []) ?_
    refine RL.binX rfl rfl rfl rfl rfl rfl (wrapV_i64 (by omega) (by omega)) ?_
    refine RL.move rfl rfl rfl rfl ?_
    refine RL.nil ?_
    -- STOP: round; todo top: ["N"]
    have hlt : i < n := by simp at hlt; omega
    exact NQ.round (g := i) (i + 1) hlt (by omega) (.cons rfl (.cons rfl (.cons rfl (.cons rfl .nil)))) (fun _ h => h)
  ·
    refine CW.exit ?_
    refine XQ.seq ?_
    refine XQ.seq ?_
    refine XQ.hit ?_
    refine NQ.seq ?_
    refine CW.seq ?_
    refine CW.region (ef := [1]) (bk := [1]) ?_
    refine RL.loadW Try.isAgg50 Try.sizeOf50 rfl rfl rfl rfl (by repeat (first | exact List.Mem.head _ | apply List.Mem.tail)) (by first | rfl | assumption | (simp only [List.length_map]; assumption) | (simp only [List.length_map, List.length_replicate, padK_len, padB_len, sha_length, dig_length, macCode_len, macTag_len, nextK_len]; done) | (simp; done)) ?_
    refine RL.storeW Try.sizeOf50 rfl rfl rfl rfl rfl rfl rfl (by first | rfl | exact ones_map one8 _ | exact ones_map (fun _ => rfl) _) (by repeat (first | exact Upd.here | apply Upd.there)) (by first | rfl | assumption | (simp only [List.length_map]; assumption) | (simp only [List.length_map, List.length_replicate, padK_len, padB_len, sha_length, dig_length, macCode_len, macTag_len, nextK_len]; done) | (simp; done)) (by first | rfl | assumption | (simp only [List.length_map]; assumption) | (simp only [List.length_map, List.length_replicate, padK_len, padB_len, sha_length, dig_length, macCode_len, macTag_len, nextK_len]; done) | (simp; done)) ?_
    refine RL.assign rfl rfl rfl rfl ?_
    refine RL.nil ?_
    refine NQ.seq ?_
    refine CW.ret ?_
    -- STOP: ret; end
    have hin : i = n := by simp at hlt; omega
    subst hin
    exact RQ.post (resWT rfl rfl rfl Try.isAgg50 Try.sizeOf50 (by repeat (first | exact List.Mem.head _ | apply List.Mem.tail)) (by simp [hl])) (Split.none _) ⟨rfl, rfl, rfl⟩

theorem walk_bad (k : List B8) (_hk : k.length = 32) (n : Int) (hbad : ¬ okSteps n) : Spc Try.prog 27 #[.agg (bytes k).toArray, .int .i64 n] [] [] (Is (.tuple #[.agg (bytes zeros).toArray, .int .i64 2])) := by
  unfold okSteps at hbad
  refine Spc.enter Try.func27 rfl rfl rfl (fun w0 hw0 => ?_)
  refine CW.seq ?_
  refine CW.region (ef := [0, 1]) (bk := []) ?_
  refine RL.box rfl rfl rfl rfl rfl rfl ?_
  intro b1
  refine RL.alloc (cs := List.replicate 32 (U8 0#8)) Try.zeroValue50 rfl rfl rfl rfl rfl ?_
  intro b2
  refine RL.assign rfl rfl rfl rfl ?_
  refine RL.nil ?_
  refine NQ.seq ?_
  refine CW.seq ?_
  refine CW.seq ?_
  refine CW.region (ef := []) (bk := []) ?_
  refine RL.move rfl rfl rfl rfl ?_
  refine RL.bin rfl rfl rfl rfl rfl rfl ?_
  refine RL.move rfl rfl rfl rfl ?_
  -- STOP: part 8; op 3: d=9 ["move", ["t", 1]] guard=[2, False] (chain.go:35)
  refine RL.part (d := 8) rfl (fun hneg => ?_) (fun hneg => ?_)
  ·
    refine RL.skip rfl rfl rfl rfl ?_
    refine RL.skip rfl rfl rfl rfl ?_
    refine RL.pickT rfl rfl rfl rfl rfl ?_
    refine RL.nil ?_
    refine NQ.seq ?_
    refine CW.only (.cons (k := 1) rfl (.cons (k := 2) rfl (.cons (k := 4) rfl (.cons (k := 5) rfl (.cons (k := 11) rfl .nil))))) ?_
    refine CW.condT rfl rfl ?_
    refine CW.seq ?_
    refine CW.region (ef := [1]) (bk := [1]) ?_
    refine RL.buildA (List.replicate 32 (U8 0#8)) Try.zeroValue50 Try.runUnderlying50 Try.sizeOf5 rfl rfl rfl rfl rfl ?_
    refine RL.storeW Try.sizeOf50 rfl rfl rfl rfl rfl rfl rfl (by first | rfl | exact ones_map one8 _ | exact ones_map (fun _ => rfl) _) (by repeat (first | exact Upd.here | apply Upd.there)) (by first | rfl | assumption | (simp only [List.length_map]; assumption) | (simp only [List.length_map, List.length_replicate, padK_len, padB_len, sha_length, dig_length, macCode_len, macTag_len, nextK_len]; done) | (simp; done)) (by first | rfl | assumption | (simp only [List.length_map]; assumption) | (simp only [List.length_map, List.length_replicate, padK_len, padB_len, sha_length, dig_length, macCode_len, macTag_len, nextK_len]; done) | (simp; done)) ?_
    refine RL.assign rfl rfl rfl rfl ?_
    refine RL.nil ?_
    refine NQ.seq ?_
    refine CW.ret ?_
    refine RQ.seq ?_
    -- STOP: ret; end
    exact RQ.post (resWT rfl rfl rfl Try.isAgg50 Try.sizeOf50 (by repeat (first | exact List.Mem.head _ | apply List.Mem.tail)) rfl) (Split.none _) ⟨rfl, rfl, rfl⟩
  ·
    refine RL.move rfl rfl rfl rfl ?_
    refine RL.bin rfl rfl rfl rfl rfl rfl ?_
    refine RL.pickF rfl rfl rfl rfl rfl ?_
    refine RL.nil ?_
    refine NQ.seq ?_
    refine CW.only (.cons (k := 1) rfl (.cons (k := 2) rfl (.cons (k := 4) rfl (.cons (k := 5) rfl (.cons (k := 11) rfl .nil))))) ?_
    -- STOP: if; todo top: ["code", ["cond", ["t", 11], ["seq", ["region", 2, [{"d": 12, "op": ["build", 50, []], "ty": 50, "pos": "chain.go:36", "after": [], "guard": null}, {"d": null, "op": ["store", 50, ["t", 4], ["t", 12]]
    have hneg : ¬ n < 0 := by simpa using hneg
    refine CW.condT rfl ((by simp; omega)) ?_
    refine CW.seq ?_
    refine CW.region (ef := [1]) (bk := [1]) ?_
    refine RL.buildA (List.replicate 32 (U8 0#8)) Try.zeroValue50 Try.runUnderlying50 Try.sizeOf5 rfl rfl rfl rfl rfl ?_
    refine RL.storeW Try.sizeOf50 rfl rfl rfl rfl rfl rfl rfl (by first | rfl | exact ones_map one8 _ | exact ones_map (fun _ => rfl) _) (by repeat (first | exact Upd.here | apply Upd.there)) (by first | rfl | assumption | (simp only [List.length_map]; assumption) | (simp only [List.length_map, List.length_replicate, padK_len, padB_len, sha_length, dig_length, macCode_len, macTag_len, nextK_len]; done) | (simp; done)) (by first | rfl | assumption | (simp only [List.length_map]; assumption) | (simp only [List.length_map, List.length_replicate, padK_len, padB_len, sha_length, dig_length, macCode_len, macTag_len, nextK_len]; done) | (simp; done)) ?_
    refine RL.assign rfl rfl rfl rfl ?_
    refine RL.nil ?_
    refine NQ.seq ?_
    refine CW.ret ?_
    refine RQ.seq ?_
    -- STOP: ret; end
    exact RQ.post (resWT rfl rfl rfl Try.isAgg50 Try.sizeOf50 (by repeat (first | exact List.Mem.head _ | apply List.Mem.tail)) rfl) (Split.none _) ⟨rfl, rfl, rfl⟩

/-- A chain's keys, one's own. -/
def OwnK (k : List B8) (n : Nat) : Value → List It → List It → Prop := fun v I' H' => ∃ b cap, v = .tuple #[slO (some b) (n + 1) cap, .int .i64 0] ∧ I' = [] ∧ H' = [own (some b) cap 50 32 (n + 1) (flatK (chainL k (n + 1)))]
theorem flat_succ (k : List B8) (n : Nat) : flatK (chainL k n) ++ bytes (nextN k n) = flatK (chainL k (n + 1)) := by rw [chainL_succ]; simp [flatK]

theorem all_ok (k : List B8) (hk : k.length = 32) (n : Nat) (hn : n ≤ 512) : Spc Try.prog 30 #[.agg (bytes k).toArray, .int .i64 (n : Int)] [] [] (OwnK k n) := by
  refine Spc.enter Try.func30 rfl rfl rfl (fun w0 hw0 => ?_)
  refine CW.seq ?_
  refine CW.region (ef := [0]) (bk := []) ?_
  refine RL.box rfl rfl rfl rfl rfl rfl ?_
  intro b1
  refine RL.assign rfl rfl rfl rfl ?_
  refine RL.assign rfl rfl rfl rfl ?_
  refine RL.nil ?_
  refine NQ.seq ?_
  refine CW.seq ?_
  refine CW.seq ?_
  refine CW.region (ef := []) (bk := []) ?_
  refine RL.move rfl rfl rfl rfl ?_
  refine RL.bin rfl rfl rfl rfl rfl rfl ?_
  refine RL.move rfl rfl rfl rfl ?_
  -- STOP: part 9; op 3: d=10 ["move", ["t", 1]] guard=[2, False] (chain.go:22)
  refine RL.cast (d := 9) (v' := .bool false) rfl ((by simp)) ?_
  refine RL.move rfl rfl rfl rfl ?_
  refine RL.bin rfl rfl rfl rfl rfl rfl ?_
  refine RL.pickF rfl rfl rfl rfl rfl ?_
  refine RL.nil ?_
  refine NQ.seq ?_
  refine CW.only (.cons (k := 1) rfl (.cons (k := 2) rfl (.cons (k := 4) rfl (.cons (k := 5) rfl (.cons (k := 12) rfl .nil))))) ?_
  -- STOP: if; todo top: ["code", ["cond", ["t", 12], ["seq", ["region", 2, [{"d": 4, "op": ["assign", ["c", ["nilslice"]]], "ty": 55, "pos": "chain.go:23", "after": [], "guard": null}, {"d": 5, "op": ["assign", ["c", ["int",
  refine CW.condF rfl ((by simp; omega)) ?_
  refine CW.skip ?_
  refine NQ.seq ?_
  refine CW.seq ?_
  refine CW.region (ef := [1]) (bk := []) ?_
  refine RL.loadW Try.isAgg50 Try.sizeOf50 rfl rfl rfl rfl (by repeat (first | exact List.Mem.head _ | apply List.Mem.tail)) (by first | rfl | assumption | (simp only [List.length_map]; assumption) | (simp only [List.length_map, List.length_replicate, padK_len, padB_len, sha_length, dig_length, macCode_len, macTag_len, nextK_len]; done) | (simp; done)) ?_
  -- STOP: op; op 1: d=14 ["buildSlice", 55, 1, [[0, ["t", 13]]]] guard=None (chain.go:25)
  refine RL.buildOwn (bytes k) Try.runUnderlying55 Try.sizeOf50 Try.zeroValue50 rfl rfl (by decide) (by decide) (by simp [hk]) (by decide) rfl rfl rfl rfl rfl (fill_one rfl (by simp [hk])) ?_
  intro b2
  refine RL.assign rfl rfl rfl rfl ?_
  refine RL.nil ?_
  refine NQ.seq ?_
  refine CW.seq ?_
  refine CW.seq ?_
  refine CW.region (ef := []) (bk := []) ?_
  refine RL.move rfl rfl rfl rfl ?_
  refine RL.move rfl rfl rfl rfl ?_
  refine RL.nil ?_
  refine NQ.seq ?_
  refine CW.block ?_
  -- STOP: loop; todo top: ["code", ["loop", ["seq", ["region", 5, [{"d": 17, "op": ["binOp", "Go.BinOp.lss", 3, ["t", 16], ["t", 15], 3], "ty": 4, "pos": "chain.go:26", "after": [], "guard": null}], false], ["seq", ["cond", ["
  refine CW.loop (γ := Nat × Option Nat × Nat) (fun g => g.1 ≤ n ∧ g.2.1.isSome = true) (fun g => [(2, .pointer (some ⟨b1, 0, none⟩)), (6, slO g.2.1 (g.1 + 1) g.2.2), (15, .int .i64 (n : Int)), (16, .int .i64 (g.1 : Int))]) (fun _ => [])
    (fun g => [own g.2.1 g.2.2 50 32 (g.1 + 1) (flatK (chainL k (g.1 + 1))), cel b1 (bytes (nextN k g.1)) 50]) (fun g => n - g.1) (0, some b2, 1) ⟨by omega, rfl⟩ (.cons rfl (.cons rfl (.cons rfl (.cons rfl .nil))))
    (fun _ h => by rw [own_is (ob := some b2) (n' := 0 + 1) (xs' := flatK (chainL k (0 + 1))) rfl (by simp [flatK, chainL, nextN])] at h; exact h) ?_
  rintro ⟨i, ob, c⟩ ⟨hi, hob⟩
  dsimp only at hi hob ⊢
  have hl := nextN_len hk i
  have hl2 := nextN_len hk (i + 1)
  refine CW.seq ?_
  refine CW.region (ef := []) (bk := []) ?_
  refine RL.bin rfl rfl rfl rfl rfl rfl ?_
  refine RL.nil ?_
  refine NQ.seq ?_
  refine CW.seq ?_
  -- STOP: if; todo top: ["code", ["cond", ["t", 17], ["skip"], ["exit", 0]]]
  refine CW.cond rfl (fun hlt => ?_) (fun hlt => ?_)
  ·
    refine CW.skip ?_
    refine NQ.seq ?_
    refine CW.seq ?_
    refine CW.block ?_
    refine CW.seq ?_
    refine CW.region (ef := [2]) (bk := [2]) ?_
    refine RL.loadW Try.isAgg50 Try.sizeOf50 rfl rfl rfl rfl (by repeat (first | exact List.Mem.head _ | apply List.Mem.tail)) (by first | rfl | assumption | (simp only [List.length_map]; assumption) | (simp only [List.length_map, List.length_replicate, padK_len, padB_len, sha_length, dig_length, macCode_len, macTag_len, nextK_len]; done) | (simp; done)) ?_
    refine RL.callv (next_any (nextN k i) hl) Try.call54 rfl rfl rfl rfl (by repeat (first | exact Lend.nil | (refine Lend.inI ?_ ?_; (solve | (repeat (first | exact List.Mem.head _ | apply List.Mem.tail)))) | (refine Lend.inH ?_ ?_; (solve | (repeat (first | exact List.Mem.head _ | apply List.Mem.tail)))))) ?_
    refine RL.storeW Try.sizeOf50 rfl rfl rfl rfl rfl rfl rfl (by first | rfl | exact ones_map one8 _ | exact ones_map (fun _ => rfl) _) (by repeat (first | exact Upd.here | apply Upd.there)) (by first | rfl | assumption | (simp only [List.length_map]; assumption) | (simp only [List.length_map, List.length_replicate, padK_len, padB_len, sha_length, dig_length, macCode_len, macTag_len, nextK_len]; done) | (simp; done)) (by first | rfl | assumption | (simp only [List.length_map]; assumption) | (simp only [List.length_map, List.length_replicate, padK_len, padB_len, sha_length, dig_length, macCode_len, macTag_len, nextK_len]; done) | (simp; done)) ?_
    refine RL.nil ?_
    refine NQ.seq ?_
    refine CW.region (ef := [2, 3]) (bk := [3]) ?_
    refine RL.move rfl rfl rfl rfl ?_
    refine RL.loadW Try.isAgg50 Try.sizeOf50 rfl rfl rfl rfl (by repeat (first | exact List.Mem.head _ | apply List.Mem.tail)) (by first | rfl | assumption | (simp only [List.length_map]; assumption) | (simp only [List.length_map, List.length_replicate, padK_len, padB_len, sha_length, dig_length, macCode_len, macTag_len, nextK_len]; done) | (simp; done)) ?_
    -- STOP: op; op 2: d=22 ["buildSlice", 55, 1, [[0, ["t", 21]]]] guard=None (chain.go:28)
    have hlt : i < n := by simp at hlt; omega
    refine RL.buildOwn (bytes (nextN k (i + 1))) Try.runUnderlying55 Try.sizeOf50 Try.zeroValue50 rfl rfl (by decide) (by decide) (by simp [nextN, nextK_len]) (by decide) rfl rfl rfl rfl rfl (fill_one rfl (by simp [nextN, nextK_len])) ?_
    intro b3
    refine RL.appendA el_55 rfl rfl rfl rfl rfl rfl rfl (by first | exact ⟨(.take (Pick.none _)), rfl⟩ | exact ⟨(.leave (.take (Pick.none _))), rfl⟩ | exact ⟨(.leave (.leave (.take (Pick.none _)))), rfl⟩ | exact ⟨(.leave (.leave (.leave (.take (Pick.none _))))), rfl⟩ | exact ⟨(.leave (.leave (.leave (.leave (.take (Pick.none _)))))), rfl⟩ | exact ⟨(.leave (.leave (.leave (.leave (.leave (.take (Pick.none _))))))), rfl⟩ | exact ⟨(.leave (.leave (.leave (.leave (.leave (.leave (.take (Pick.none _)))))))), rfl⟩ | exact ⟨(.leave (.leave (.leave (.leave (.leave (.leave (.leave (.take (Pick.none _))))))))), rfl⟩ | exact ⟨(.leave (.leave (.leave (.leave (.leave (.leave (.leave (.leave (.take (Pick.none _)))))))))), rfl⟩ | exact ⟨(.leave (.leave (.leave (.leave (.leave (.leave (.leave (.leave (.leave (.take (Pick.none _))))))))))), rfl⟩) (by first | (exact Src.cel (by (solve | (repeat (first | exact List.Mem.head _ | apply List.Mem.tail)))) (by first | rfl | assumption | (simp only [List.length_map]; assumption) | (simp only [List.length_map, List.length_replicate, padK_len, padB_len, sha_length, dig_length, macCode_len, macTag_len, nextK_len]; done) | (simp; done))) | (exact Src.ownS (by (solve | (repeat (first | exact List.Mem.head _ | apply List.Mem.tail))))) | (exact Src.own (by (solve | (repeat (first | exact List.Mem.head _ | apply List.Mem.tail))))) | (exact Src.sls (by (solve | (repeat (first | exact List.Mem.head _ | apply List.Mem.tail)))))) (by first | exact one_map one8 _ | exact ones_spec rfl | exact one_map (fun _ => rfl) _ | (intro u hu; simp at hu; simp [hu, Value.oneCell'])) (by first | omega | (simp only [maxLen]; omega)) (by first | omega | (simp only [maxLen]; omega)) ?_
    intro ob1 cap1 ho1
    refine RL.assign rfl rfl rfl rfl ?_
    refine RL.nil ?_
    refine NQ.block ?_
    refine NQ.seq ?_
    refine CW.only (.cons (k := 2) rfl (.cons (k := 6) rfl (.cons (k := 15) rfl (.cons (k := 16) rfl .nil)))) ?_
    refine CW.region (ef := []) (bk := []) ?_
    refine RL.binX rfl rfl rfl rfl rfl rfl (wrapV_i64 (by omega) (by omega)) ?_
    refine RL.move rfl rfl rfl rfl ?_
    refine RL.nil ?_
    -- STOP: round; todo top: ["N"]
    refine NQ.round (g := (i, ob, c)) (i + 1, ob1, cap1) ⟨hlt, ho1.resolve_left (by omega)⟩ (by show n - (i + 1) < n - i; omega) (.cons rfl (.cons rfl (.cons rfl (.cons rfl .nil)))) (fun _ h => ?_)
    rw [own_is (ob := ob1) (n' := i + 1 + 1) (xs' := flatK (chainL k (i + 1 + 1))) rfl (flat_succ k (i + 1))] at h
    exact h.rea (fun _ h => h) (by repeat (first | exact Rea.nil | (apply Rea.cons; (solve | (repeat (first | exact Del.here | apply Del.there))))))
  ·
    refine CW.exit ?_
    refine XQ.seq ?_
    refine XQ.seq ?_
    refine XQ.hit ?_
    refine NQ.seq ?_
    refine CW.seq ?_
    refine CW.region (ef := []) (bk := []) ?_
    refine RL.move rfl rfl rfl rfl ?_
    refine RL.assign rfl rfl rfl rfl ?_
    refine RL.assign rfl rfl rfl rfl ?_
    refine RL.nil ?_
    refine NQ.seq ?_
    refine CW.only (.cons (k := 4) rfl (.cons (k := 5) rfl .nil)) ?_
    refine CW.ret ?_
    -- STOP: ret; end
    have hin : i = n := by simp at hlt; omega
    subst hin
    obtain ⟨b, rfl⟩ : ∃ b, ob = some b := by
      cases ob with
      | none => cases hob
      | some b => exact ⟨b, rfl⟩
    exact RQ.post (res2 rfl rfl rfl) (.keep (.drop .nil)) ⟨b, c, rfl, rfl, rfl⟩
theorem all_bad (k : List B8) (_hk : k.length = 32) (n : Int) (hbad : ¬ okSteps n) : Spc Try.prog 30 #[.agg (bytes k).toArray, .int .i64 n] [] [] (Is (.tuple #[.slice none 0 0, .int .i64 2])) := by
  unfold okSteps at hbad
  refine Spc.enter Try.func30 rfl rfl rfl (fun w0 hw0 => ?_)
  refine CW.seq ?_
  refine CW.region (ef := [0]) (bk := []) ?_
  refine RL.box rfl rfl rfl rfl rfl rfl ?_
  intro b1
  refine RL.assign rfl rfl rfl rfl ?_
  refine RL.assign rfl rfl rfl rfl ?_
  refine RL.nil ?_
  refine NQ.seq ?_
  refine CW.seq ?_
  refine CW.seq ?_
  refine CW.region (ef := []) (bk := []) ?_
  refine RL.move rfl rfl rfl rfl ?_
  refine RL.bin rfl rfl rfl rfl rfl rfl ?_
  refine RL.move rfl rfl rfl rfl ?_
  -- STOP: part 9; op 3: d=10 ["move", ["t", 1]] guard=[2, False] (chain.go:22)
  refine RL.part (d := 9) rfl (fun hneg => ?_) (fun hneg => ?_)
  ·
    refine RL.skip rfl rfl rfl rfl ?_
    refine RL.skip rfl rfl rfl rfl ?_
    refine RL.pickT rfl rfl rfl rfl rfl ?_
    refine RL.nil ?_
    refine NQ.seq ?_
    refine CW.only (.cons (k := 1) rfl (.cons (k := 2) rfl (.cons (k := 4) rfl (.cons (k := 5) rfl (.cons (k := 12) rfl .nil))))) ?_
    refine CW.condT rfl rfl ?_
    refine CW.seq ?_
    refine CW.region (ef := []) (bk := []) ?_
    refine RL.assign rfl rfl rfl rfl ?_
    refine RL.assign rfl rfl rfl rfl ?_
    refine RL.nil ?_
    refine NQ.seq ?_
    refine CW.ret ?_
    refine RQ.seq ?_
    -- STOP: ret; end
    exact RQ.post (res2 rfl rfl rfl) (Split.none _) ⟨rfl, rfl, rfl⟩
  ·
    refine RL.move rfl rfl rfl rfl ?_
    refine RL.bin rfl rfl rfl rfl rfl rfl ?_
    refine RL.pickF rfl rfl rfl rfl rfl ?_
    refine RL.nil ?_
    refine NQ.seq ?_
    refine CW.only (.cons (k := 1) rfl (.cons (k := 2) rfl (.cons (k := 4) rfl (.cons (k := 5) rfl (.cons (k := 12) rfl .nil))))) ?_
    -- STOP: if; todo top: ["code", ["cond", ["t", 12], ["seq", ["region", 2, [{"d": 4, "op": ["assign", ["c", ["nilslice"]]], "ty": 55, "pos": "chain.go:23", "after": [], "guard": null}, {"d": 5, "op": ["assign", ["c", ["int",
    have hneg : ¬ n < 0 := by simpa using hneg
    refine CW.condT rfl ((by simp; omega)) ?_
    refine CW.seq ?_
    refine CW.region (ef := []) (bk := []) ?_
    refine RL.assign rfl rfl rfl rfl ?_
    refine RL.assign rfl rfl rfl rfl ?_
    refine RL.nil ?_
    refine NQ.seq ?_
    refine CW.ret ?_
    refine RQ.seq ?_
    -- STOP: ret; end
    exact RQ.post (res2 rfl rfl rfl) (Split.none _) ⟨rfl, rfl, rfl⟩

theorem Rds.key {I H : List It} {b cap n i : Nat} {l : List (List B8)} {x : List B8} (hm : PK.own (some b) cap 50 32 n (flatK l) ∈ H) (hl : ∀ x ∈ l, x.length = 32) (hi : l[i]? = some x) : Rds I H ((⟨b, 0, none⟩ : Addr).add (i * 32)) (bytes x) :=
  Rds.part (Rds.own hm) (flatK_get hl hi)
theorem Rds.keyI {I H : List It} {p : Addr} {n i : Nat} {l : List (List B8)} {x : List B8} (hm : PK.sls (some p) 32 n (flatK l) ∈ I) (hl : ∀ x ∈ l, x.length = 32) (hi : l[i]? = some x) : Rds I H (p.add (i * 32)) (bytes x) :=
  Rds.part (Rds.sls hm) (flatK_get hl hi)

theorem rall_ok (k : List B8) (hk : k.length = 32) (n : Nat) (hn : n ≤ 512) : Spc Try.prog 31 #[.agg (bytes k).toArray, .int .i64 (n : Int)] [] [] (OwnK k n) := by
  refine Spc.enter Try.func31 rfl rfl rfl (fun w0 hw0 => ?_)
  refine CW.seq ?_
  refine CW.region (ef := [0]) (bk := []) ?_
  refine RL.box rfl rfl rfl rfl rfl rfl ?_
  intro b1
  refine RL.assign rfl rfl rfl rfl ?_
  refine RL.assign rfl rfl rfl rfl ?_
  refine RL.nil ?_
  refine NQ.seq ?_
  refine CW.seq ?_
  refine CW.seq ?_
  refine CW.region (ef := []) (bk := []) ?_
  refine RL.move rfl rfl rfl rfl ?_
  refine RL.bin rfl rfl rfl rfl rfl rfl ?_
  refine RL.move rfl rfl rfl rfl ?_
  -- STOP: part 10; op 3: d=11 ["move", ["t", 1]] guard=[2, False] (ref.go:17)
  refine RL.cast (d := 10) (v' := .bool false) rfl ((by simp)) ?_
  refine RL.move rfl rfl rfl rfl ?_
  refine RL.bin rfl rfl rfl rfl rfl rfl ?_
  refine RL.pickF rfl rfl rfl rfl rfl ?_
  refine RL.nil ?_
  refine NQ.seq ?_
  refine CW.only (.cons (k := 1) rfl (.cons (k := 2) rfl (.cons (k := 4) rfl (.cons (k := 5) rfl (.cons (k := 13) rfl .nil))))) ?_
  -- STOP: if; todo top: ["code", ["cond", ["t", 13], ["seq", ["region", 2, [{"d": 4, "op": ["assign", ["c", ["nilslice"]]], "ty": 55, "pos": "ref.go:18", "after": [], "guard": null}, {"d": 5, "op": ["assign", ["c", ["int", "
  refine CW.condF rfl ((by simp; omega)) ?_
  refine CW.skip ?_
  refine NQ.seq ?_
  refine CW.seq ?_
  refine CW.region (ef := [1]) (bk := []) ?_
  refine RL.loadW Try.isAgg50 Try.sizeOf50 rfl rfl rfl rfl (by repeat (first | exact List.Mem.head _ | apply List.Mem.tail)) (by first | rfl | assumption | (simp only [List.length_map]; assumption) | (simp only [List.length_map, List.length_replicate, padK_len, padB_len, sha_length, dig_length, macCode_len, macTag_len, nextK_len]; done) | (simp; done)) ?_
  -- STOP: op; op 1: d=15 ["buildSlice", 55, 1, [[0, ["t", 14]]]] guard=None (ref.go:20)
  refine RL.buildOwn (bytes k) Try.runUnderlying55 Try.sizeOf50 Try.zeroValue50 rfl rfl (by decide) (by decide) (by simp [hk]) (by decide) rfl rfl rfl rfl rfl (fill_one rfl (by simp [hk])) ?_
  intro b2
  refine RL.assign rfl rfl rfl rfl ?_
  refine RL.nil ?_
  refine NQ.seq ?_
  refine CW.only (.cons (k := 1) rfl (.cons (k := 6) rfl .nil)) ?_
  refine CW.seq ?_
  refine CW.seq ?_
  refine CW.region (ef := []) (bk := []) ?_
  refine RL.assign rfl rfl rfl rfl ?_
  refine RL.nil ?_
  refine NQ.seq ?_
  refine CW.block ?_
  -- STOP: loop; todo top: ["code", ["loop", ["seq", ["seq", ["region", 5, [{"d": 16, "op": ["move", ["t", 7]], "ty": 3, "pos": "ref.go:21", "after": [], "guard": null}, {"d": 17, "op": ["move", ["t", 1]], "ty": 3, "pos": "ref.
  refine CW.loop (γ := Nat × Option Nat × Nat) (fun g => g.1 ≤ n ∧ g.2.1.isSome = true) (fun g => [(1, .int .i64 (n : Int)), (6, slO g.2.1 (g.1 + 1) g.2.2), (7, .int .i64 (g.1 : Int))]) (fun _ => [])
    (fun g => [own g.2.1 g.2.2 50 32 (g.1 + 1) (flatK (chainL k (g.1 + 1)))]) (fun g => n - g.1) (0, some b2, 1) ⟨by omega, rfl⟩ (.cons rfl (.cons rfl (.cons rfl .nil)))
    (fun _ h => by rw [own_is (ob := some b2) (n' := 0 + 1) (xs' := flatK (chainL k (0 + 1))) rfl (by simp [flatK, chainL, nextN])] at h; exact h.rea (fun _ h => h) (by repeat (first | exact Rea.nil | (apply Rea.cons; (solve | (repeat (first | exact Del.here | apply Del.there))))))) ?_
  rintro ⟨i, ob, c⟩ ⟨hi, hob⟩
  dsimp only at hi hob ⊢
  obtain ⟨b, rfl⟩ : ∃ b, ob = some b := by
    cases ob with
    | none => cases hob
    | some b => exact ⟨b, rfl⟩
  have hl := nextN_len hk i
  have hl2 := nextN_len hk (i + 1)
  refine CW.seq ?_
  refine CW.seq ?_
  refine CW.region (ef := []) (bk := []) ?_
  refine RL.move rfl rfl rfl rfl ?_
  refine RL.move rfl rfl rfl rfl ?_
  refine RL.bin rfl rfl rfl rfl rfl rfl ?_
  refine RL.nil ?_
  refine NQ.seq ?_
  -- STOP: if; todo top: ["code", ["cond", ["t", 18], ["skip"], ["exit", 0]]]
  refine CW.cond rfl (fun hlt => ?_) (fun hlt => ?_)
  ·
    refine CW.skip ?_
    refine NQ.seq ?_
    refine CW.seq ?_
    refine CW.block ?_
    refine CW.region (ef := [6, 7]) (bk := [7]) ?_
    refine RL.move rfl rfl rfl rfl ?_
    refine RL.move rfl rfl rfl rfl ?_
    refine RL.move rfl rfl rfl rfl ?_
    -- STOP: op; op 3: d=24 ["indexAddr", 55, ["t", 22], ["t", 23]] guard=None (ref.go:22)
    have hlt : i < n := by simp at hlt; omega
    refine RL.idx (j := i) (p := ⟨b, 0, none⟩) Try.runUnderlying55 Try.sizeOf50 rfl rfl rfl rfl rfl rfl (by omega) ?_
    -- STOP: op; op 4: d=25 ["load", 50, ["t", 24]] guard=None (ref.go:22)
    refine RL.loadN (vs := bytes (nextN k i)) Try.isAgg50 (by rw [List.length_map, hl]; exact Try.sizeOf50) rfl rfl rfl rfl (Rds.key (List.Mem.head _) (chainL_all hk _) (chainL_get k (by omega))) ?_
    refine RL.callv (rnext_any (nextN k i) hl) Try.call55 rfl rfl rfl rfl (by repeat (first | exact Lend.nil | (refine Lend.inI ?_ ?_; (solve | (repeat (first | exact List.Mem.head _ | apply List.Mem.tail)))) | (refine Lend.inH ?_ ?_; (solve | (repeat (first | exact List.Mem.head _ | apply List.Mem.tail)))))) ?_
    -- STOP: op; op 6: d=27 ["buildSlice", 55, 1, [[0, ["t", 26]]]] guard=None (ref.go:22)
    refine RL.buildOwn (bytes (nextN k (i + 1))) Try.runUnderlying55 Try.sizeOf50 Try.zeroValue50 rfl rfl (by decide) (by decide) (by simp [nextN, nextK_len]) (by decide) rfl rfl rfl rfl rfl (fill_one rfl (by simp [nextN, nextK_len])) ?_
    intro b3
    refine RL.appendA el_55 rfl rfl rfl rfl rfl rfl rfl (by first | exact ⟨(.take (Pick.none _)), rfl⟩ | exact ⟨(.leave (.take (Pick.none _))), rfl⟩ | exact ⟨(.leave (.leave (.take (Pick.none _)))), rfl⟩ | exact ⟨(.leave (.leave (.leave (.take (Pick.none _))))), rfl⟩ | exact ⟨(.leave (.leave (.leave (.leave (.take (Pick.none _)))))), rfl⟩ | exact ⟨(.leave (.leave (.leave (.leave (.leave (.take (Pick.none _))))))), rfl⟩ | exact ⟨(.leave (.leave (.leave (.leave (.leave (.leave (.take (Pick.none _)))))))), rfl⟩ | exact ⟨(.leave (.leave (.leave (.leave (.leave (.leave (.leave (.take (Pick.none _))))))))), rfl⟩ | exact ⟨(.leave (.leave (.leave (.leave (.leave (.leave (.leave (.leave (.take (Pick.none _)))))))))), rfl⟩ | exact ⟨(.leave (.leave (.leave (.leave (.leave (.leave (.leave (.leave (.leave (.take (Pick.none _))))))))))), rfl⟩) (by first | (exact Src.cel (by (solve | (repeat (first | exact List.Mem.head _ | apply List.Mem.tail)))) (by first | rfl | assumption | (simp only [List.length_map]; assumption) | (simp only [List.length_map, List.length_replicate, padK_len, padB_len, sha_length, dig_length, macCode_len, macTag_len, nextK_len]; done) | (simp; done))) | (exact Src.ownS (by (solve | (repeat (first | exact List.Mem.head _ | apply List.Mem.tail))))) | (exact Src.own (by (solve | (repeat (first | exact List.Mem.head _ | apply List.Mem.tail))))) | (exact Src.sls (by (solve | (repeat (first | exact List.Mem.head _ | apply List.Mem.tail)))))) (by first | exact one_map one8 _ | exact ones_spec rfl | exact one_map (fun _ => rfl) _ | (intro u hu; simp at hu; simp [hu, Value.oneCell'])) (by first | omega | (simp only [maxLen]; omega)) (by first | omega | (simp only [maxLen]; omega)) ?_
    intro ob1 cap1 ho1
    refine RL.assign rfl rfl rfl rfl ?_
    refine RL.nil ?_
    refine NQ.block ?_
    refine NQ.seq ?_
    refine CW.only (.cons (k := 1) rfl (.cons (k := 6) rfl (.cons (k := 7) rfl .nil))) ?_
    refine CW.region (ef := []) (bk := []) ?_
    refine RL.move rfl rfl rfl rfl ?_
    refine RL.binX rfl rfl rfl rfl rfl rfl (wrapV_i64 (by omega) (by omega)) ?_
    refine RL.assign rfl rfl rfl rfl ?_
    refine RL.nil ?_
    -- STOP: round; todo top: ["N"]
    refine NQ.round (g := (i, some b, c)) (i + 1, ob1, cap1) ⟨hlt, ho1.resolve_left (by omega)⟩ (by show n - (i + 1) < n - i; omega) (.cons rfl (.cons rfl (.cons rfl .nil))) (fun _ h => ?_)
    rw [own_is (ob := ob1) (n' := i + 1 + 1) (xs' := flatK (chainL k (i + 1 + 1))) rfl (flat_succ k (i + 1))] at h
    exact h.rea (fun _ h => h) (by repeat (first | exact Rea.nil | (apply Rea.cons; (solve | (repeat (first | exact Del.here | apply Del.there))))))
  ·
    refine CW.exit ?_
    refine XQ.seq ?_
    refine XQ.seq ?_
    refine XQ.hit ?_
    refine NQ.seq ?_
    refine CW.seq ?_
    refine CW.region (ef := []) (bk := []) ?_
    refine RL.move rfl rfl rfl rfl ?_
    refine RL.assign rfl rfl rfl rfl ?_
    refine RL.assign rfl rfl rfl rfl ?_
    refine RL.nil ?_
    refine NQ.seq ?_
    refine CW.only (.cons (k := 4) rfl (.cons (k := 5) rfl .nil)) ?_
    refine CW.ret ?_
    -- STOP: ret; end
    have hin : i = n := by simp at hlt; omega
    subst hin
    exact RQ.post (res2 rfl rfl rfl) (.keep .nil) ⟨b, c, rfl, rfl, rfl⟩
theorem rall_bad (k : List B8) (_hk : k.length = 32) (n : Int) (hbad : ¬ okSteps n) : Spc Try.prog 31 #[.agg (bytes k).toArray, .int .i64 n] [] [] (Is (.tuple #[.slice none 0 0, .int .i64 2])) := by
  unfold okSteps at hbad
  refine Spc.enter Try.func31 rfl rfl rfl (fun w0 hw0 => ?_)
  refine CW.seq ?_
  refine CW.region (ef := [0]) (bk := []) ?_
  refine RL.box rfl rfl rfl rfl rfl rfl ?_
  intro b1
  refine RL.assign rfl rfl rfl rfl ?_
  refine RL.assign rfl rfl rfl rfl ?_
  refine RL.nil ?_
  refine NQ.seq ?_
  refine CW.seq ?_
  refine CW.seq ?_
  refine CW.region (ef := []) (bk := []) ?_
  refine RL.move rfl rfl rfl rfl ?_
  refine RL.bin rfl rfl rfl rfl rfl rfl ?_
  refine RL.move rfl rfl rfl rfl ?_
  -- STOP: part 10; op 3: d=11 ["move", ["t", 1]] guard=[2, False] (ref.go:17)
  refine RL.part (d := 10) rfl (fun hneg => ?_) (fun hneg => ?_)
  ·
    refine RL.skip rfl rfl rfl rfl ?_
    refine RL.skip rfl rfl rfl rfl ?_
    refine RL.pickT rfl rfl rfl rfl rfl ?_
    refine RL.nil ?_
    refine NQ.seq ?_
    refine CW.only (.cons (k := 1) rfl (.cons (k := 2) rfl (.cons (k := 4) rfl (.cons (k := 5) rfl (.cons (k := 13) rfl .nil))))) ?_
    refine CW.condT rfl rfl ?_
    refine CW.seq ?_
    refine CW.region (ef := []) (bk := []) ?_
    refine RL.assign rfl rfl rfl rfl ?_
    refine RL.assign rfl rfl rfl rfl ?_
    refine RL.nil ?_
    refine NQ.seq ?_
    refine CW.ret ?_
    refine RQ.seq ?_
    -- STOP: ret; end
    exact RQ.post (res2 rfl rfl rfl) (Split.none _) ⟨rfl, rfl, rfl⟩
  ·
    refine RL.move rfl rfl rfl rfl ?_
    refine RL.bin rfl rfl rfl rfl rfl rfl ?_
    refine RL.pickF rfl rfl rfl rfl rfl ?_
    refine RL.nil ?_
    refine NQ.seq ?_
    refine CW.only (.cons (k := 1) rfl (.cons (k := 2) rfl (.cons (k := 4) rfl (.cons (k := 5) rfl (.cons (k := 13) rfl .nil))))) ?_
    -- STOP: if; todo top: ["code", ["cond", ["t", 13], ["seq", ["region", 2, [{"d": 4, "op": ["assign", ["c", ["nilslice"]]], "ty": 55, "pos": "ref.go:18", "after": [], "guard": null}, {"d": 5, "op": ["assign", ["c", ["int", "
    have hneg : ¬ n < 0 := by simpa using hneg
    refine CW.condT rfl ((by simp; omega)) ?_
    refine CW.seq ?_
    refine CW.region (ef := []) (bk := []) ?_
    refine RL.assign rfl rfl rfl rfl ?_
    refine RL.assign rfl rfl rfl rfl ?_
    refine RL.nil ?_
    refine NQ.seq ?_
    refine CW.ret ?_
    refine RQ.seq ?_
    -- STOP: ret; end
    exact RQ.post (res2 rfl rfl rfl) (Split.none _) ⟨rfl, rfl, rfl⟩
end Go.Proofs.Ytpokocnnaendaaa
