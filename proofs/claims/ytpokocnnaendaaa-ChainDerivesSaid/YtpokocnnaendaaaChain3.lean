import Derived.Test.YtpokocnnaendaaaChain2
namespace Go.Proofs.Ytpokocnnaendaaa
open Go.PK

theorem rwalk_ok (k : List B8) (hk : k.length = 32) (n : Nat) (hn : n ≤ 512) : Spc Try.prog 28 #[.agg (bytes k).toArray, .int .i64 (n : Int)] [] [] (Is (.tuple #[.agg (bytes (nextN k n)).toArray, .int .i64 0])) := by
  have hl := nextN_len hk n
  refine Spc.enter Try.func28 rfl rfl rfl (fun w0 hw0 => ?_)
  refine CW.seq ?_
  refine CW.region (ef := [0, 1]) (bk := []) ?_
  refine RL.box rfl rfl rfl rfl rfl rfl ?_
  intro b1
  refine RL.alloc (cs := List.replicate 32 (U8 0#8)) Try.zeroValue50 rfl rfl rfl rfl rfl ?_
  intro b2
  refine RL.assign rfl rfl rfl rfl ?_
  refine RL.nil ?_
  refine NQ.seq ?_
  refine CW.seq ?_
  refine CW.region (ef := [2]) (bk := []) ?_
  refine RL.loadW Try.isAgg50 Try.sizeOf50 rfl rfl rfl rfl (by repeat (first | exact List.Mem.head _ | apply List.Mem.tail)) (by first | rfl | assumption | (simp only [List.length_map]; assumption) | (simp only [List.length_map, List.length_replicate, padK_len, padB_len, sha_length, dig_length, macCode_len, macTag_len, nextK_len]; done) | (simp; done)) ?_
  refine RL.move rfl rfl rfl rfl ?_
  refine RL.call (rall_ok k hk n hn) Try.call31 rfl rfl rfl rfl rfl (by repeat (first | exact Pick.nil | apply Pick.take | apply Pick.leave)) (by repeat (first | exact Lend.nil | (refine Lend.inI ?_ ?_; (solve | (repeat (first | exact List.Mem.head _ | apply List.Mem.tail)))) | (refine Lend.inH ?_ ?_; (solve | (repeat (first | exact List.Mem.head _ | apply List.Mem.tail)))))) (.inl rfl) ?_
  -- STOP: called; op 3: d=8 ["move", ["t", 11]] guard=None (ref.go:29)
  rintro _ _ _ ⟨b, c, rfl, rfl, rfl⟩
  refine RL.move rfl rfl rfl rfl ?_
  refine RL.extract rfl rfl rfl rfl rfl ?_
  refine RL.extract rfl rfl rfl rfl rfl ?_
  refine RL.assign rfl rfl rfl rfl ?_
  refine RL.assign rfl rfl rfl rfl ?_
  refine RL.nil ?_
  refine NQ.seq ?_
  refine CW.only (.cons (k := 1) rfl (.cons (k := 4) rfl (.cons (k := 6) rfl (.cons (k := 7) rfl .nil)))) ?_
  refine CW.seq ?_
  refine CW.seq ?_
  refine CW.region (ef := []) (bk := []) ?_
  refine RL.move rfl rfl rfl rfl ?_
  refine RL.bin rfl rfl rfl rfl rfl rfl ?_
  refine RL.nil ?_
  refine NQ.seq ?_
  -- STOP: if; todo top: ["code", ["cond", ["t", 15], ["seq", ["region", 3, [{"d": 16, "op": ["build", 50, []], "ty": 50, "pos": "ref.go:31", "after": [], "guard": null}, {"d": 17, "op": ["move", ["t", 7]], "ty": 36, "pos": "
  refine CW.condF rfl ((by simp)) ?_
  refine CW.skip ?_
  refine NQ.seq ?_
  refine CW.seq ?_
  refine CW.region (ef := [4]) (bk := [4]) ?_
  refine RL.move rfl rfl rfl rfl ?_
  refine RL.move rfl rfl rfl rfl ?_
  -- STOP: op; op 2: d=20 ["indexAddr", 55, ["t", 18], ["t", 19]] guard=None (ref.go:33)
  refine RL.idx (j := n) (p := ⟨b, 0, none⟩) Try.runUnderlying55 Try.sizeOf50 rfl rfl rfl rfl rfl rfl (by omega) ?_
  -- STOP: op; op 3: d=21 ["load", 50, ["t", 20]] guard=None (ref.go:33)
  refine RL.loadN (vs := bytes (nextN k n)) Try.isAgg50 (by rw [List.length_map, hl]; exact Try.sizeOf50) rfl rfl rfl rfl (Rds.key (by repeat (first | exact List.Mem.head _ | apply List.Mem.tail)) (chainL_all hk _) (chainL_get k (by omega))) ?_
  refine RL.storeW Try.sizeOf50 rfl rfl rfl rfl rfl rfl rfl (by first | rfl | exact ones_map one8 _ | exact ones_map (fun _ => rfl) _) (by repeat (first | exact Upd.here | apply Upd.there)) (by first | rfl | assumption | (simp only [List.length_map]; assumption) | (simp only [List.length_map, List.length_replicate, padK_len, padB_len, sha_length, dig_length, macCode_len, macTag_len, nextK_len]; done) | (simp; done)) (by first | rfl | assumption | (simp only [List.length_map]; assumption) | (simp only [List.length_map, List.length_replicate, padK_len, padB_len, sha_length, dig_length, macCode_len, macTag_len, nextK_len]; done) | (simp; done)) ?_
  refine RL.assign rfl rfl rfl rfl ?_
  refine RL.nil ?_
  refine NQ.seq ?_
  refine CW.only (.cons (k := 4) rfl (.cons (k := 5) rfl .nil)) ?_
  refine CW.ret ?_
  -- STOP: ret; end
  exact RQ.post (resWT rfl rfl rfl Try.isAgg50 Try.sizeOf50 (by repeat (first | exact List.Mem.head _ | apply List.Mem.tail)) (by first | rfl | assumption | (simp only [List.length_map]; assumption) | (simp only [List.length_map, List.length_replicate, padK_len, padB_len, sha_length, dig_length, macCode_len, macTag_len, nextK_len]; done) | (simp; done))) (Split.none _) ⟨rfl, rfl, rfl⟩
theorem rwalk_bad (k : List B8) (hk : k.length = 32) (n : Int) (hbad : ¬ okSteps n) : Spc Try.prog 28 #[.agg (bytes k).toArray, .int .i64 n] [] [] (Is (.tuple #[.agg (bytes zeros).toArray, .int .i64 2])) := by
  refine Spc.enter Try.func28 rfl rfl rfl (fun w0 hw0 => ?_)
  refine CW.seq ?_
  refine CW.region (ef := [0, 1]) (bk := []) ?_
  refine RL.box rfl rfl rfl rfl rfl rfl ?_
  intro b1
  refine RL.alloc (cs := List.replicate 32 (U8 0#8)) Try.zeroValue50 rfl rfl rfl rfl rfl ?_
  intro b2
  refine RL.assign rfl rfl rfl rfl ?_
  refine RL.nil ?_
  refine NQ.seq ?_
  refine CW.seq ?_
  refine CW.region (ef := []) (bk := []) ?_
  refine RL.loadW Try.isAgg50 Try.sizeOf50 rfl rfl rfl rfl (by repeat (first | exact List.Mem.head _ | apply List.Mem.tail)) (by first | rfl | assumption | (simp only [List.length_map]; assumption) | (simp only [List.length_map, List.length_replicate, padK_len, padB_len, sha_length, dig_length, macCode_len, macTag_len, nextK_len]; done) | (simp; done)) ?_
  refine RL.move rfl rfl rfl rfl ?_
  refine RL.callv (rall_bad k hk n hbad) Try.call31 rfl rfl rfl rfl (by repeat (first | exact Lend.nil | (refine Lend.inI ?_ ?_; (solve | (repeat (first | exact List.Mem.head _ | apply List.Mem.tail)))) | (refine Lend.inH ?_ ?_; (solve | (repeat (first | exact List.Mem.head _ | apply List.Mem.tail)))))) ?_
  refine RL.move rfl rfl rfl rfl ?_
  refine RL.extract rfl rfl rfl rfl rfl ?_
  refine RL.extract rfl rfl rfl rfl rfl ?_
  refine RL.assign rfl rfl rfl rfl ?_
  refine RL.assign rfl rfl rfl rfl ?_
  refine RL.nil ?_
  refine NQ.seq ?_
  refine CW.only (.cons (k := 1) rfl (.cons (k := 4) rfl (.cons (k := 6) rfl (.cons (k := 7) rfl .nil)))) ?_
  refine CW.seq ?_
  refine CW.seq ?_
  refine CW.region (ef := []) (bk := []) ?_
  refine RL.move rfl rfl rfl rfl ?_
  refine RL.bin rfl rfl rfl rfl rfl rfl ?_
  refine RL.nil ?_
  refine NQ.seq ?_
  -- STOP: if; todo top: ["code", ["cond", ["t", 15], ["seq", ["region", 3, [{"d": 16, "op": ["build", 50, []], "ty": 50, "pos": "ref.go:31", "after": [], "guard": null}, {"d": 17, "op": ["move", ["t", 7]], "ty": 36, "pos": "
  refine CW.condT rfl ((by simp)) ?_
  refine CW.seq ?_
  refine CW.region (ef := [2]) (bk := [2]) ?_
  refine RL.buildA (List.replicate 32 (U8 0#8)) Try.zeroValue50 Try.runUnderlying50 Try.sizeOf5 rfl rfl rfl rfl rfl ?_
  refine RL.move rfl rfl rfl rfl ?_
  refine RL.storeW Try.sizeOf50 rfl rfl rfl rfl rfl rfl rfl (by first | rfl | exact ones_map one8 _ | exact ones_map (fun _ => rfl) _) (by repeat (first | exact Upd.here | apply Upd.there)) (by first | rfl | assumption | (simp only [List.length_map]; assumption) | (simp only [List.length_map, List.length_replicate, padK_len, padB_len, sha_length, dig_length, macCode_len, macTag_len, nextK_len]; done) | (simp; done)) (by first | rfl | assumption | (simp only [List.length_map]; assumption) | (simp only [List.length_map, List.length_replicate, padK_len, padB_len, sha_length, dig_length, macCode_len, macTag_len, nextK_len]; done) | (simp; done)) ?_
  refine RL.assign rfl rfl rfl rfl ?_
  refine RL.nil ?_
  refine NQ.seq ?_
  refine CW.ret ?_
  refine RQ.seq ?_
  -- STOP: ret; end
  exact RQ.post (resWT rfl rfl rfl Try.isAgg50 Try.sizeOf50 (by repeat (first | exact List.Mem.head _ | apply List.Mem.tail)) rfl) (Split.none _) ⟨rfl, rfl, rfl⟩

theorem leads_ok (k c : List B8) (hk : k.length = 32) (hc : c.length = 32) (n : Nat) (hn : n ≤ 512) : Spc Try.prog 29 #[.agg (bytes k).toArray, .agg (bytes c).toArray, .int .i64 (n : Int)] [] [] (Is (.tuple #[.bool (nextN k n == c), .int .i64 0])) := by
  have hl := nextN_len hk n
  refine Spc.enter Try.func29 rfl rfl rfl (fun w0 hw0 => ?_)
  refine CW.seq ?_
  refine CW.region (ef := [0, 1]) (bk := []) ?_
  refine RL.box rfl rfl rfl rfl rfl rfl ?_
  intro b1
  refine RL.box rfl rfl rfl rfl rfl rfl ?_
  intro b2
  refine RL.assign rfl rfl rfl rfl ?_
  refine RL.assign rfl rfl rfl rfl ?_
  refine RL.nil ?_
  refine NQ.seq ?_
  refine CW.seq ?_
  refine CW.region (ef := [6, 7]) (bk := [7]) ?_
  refine RL.loadW Try.isAgg50 Try.sizeOf50 rfl rfl rfl rfl (by repeat (first | exact List.Mem.head _ | apply List.Mem.tail)) (by first | rfl | assumption | (simp only [List.length_map]; assumption) | (simp only [List.length_map, List.length_replicate, padK_len, padB_len, sha_length, dig_length, macCode_len, macTag_len, nextK_len]; done) | (simp; done)) ?_
  refine RL.move rfl rfl rfl rfl ?_
  refine RL.callv (walk_ok k hk n hn) Try.call27 rfl rfl rfl rfl (by repeat (first | exact Lend.nil | (refine Lend.inI ?_ ?_; (solve | (repeat (first | exact List.Mem.head _ | apply List.Mem.tail)))) | (refine Lend.inH ?_ ?_; (solve | (repeat (first | exact List.Mem.head _ | apply List.Mem.tail)))))) ?_
  refine RL.move rfl rfl rfl rfl ?_
  refine RL.extract rfl rfl rfl rfl rfl ?_
  refine RL.extract rfl rfl rfl rfl rfl ?_
  refine RL.alloc (cs := List.replicate 32 (U8 0#8)) Try.zeroValue50 rfl rfl rfl rfl rfl ?_
  intro b3
  refine RL.storeW Try.sizeOf50 rfl rfl rfl rfl rfl rfl rfl (by first | rfl | exact ones_map one8 _ | exact ones_map (fun _ => rfl) _) (by repeat (first | exact Upd.here | apply Upd.there)) (by first | rfl | assumption | (simp only [List.length_map]; assumption) | (simp only [List.length_map, List.length_replicate, padK_len, padB_len, sha_length, dig_length, macCode_len, macTag_len, nextK_len]; done) | (simp; done)) (by first | rfl | assumption | (simp only [List.length_map]; assumption) | (simp only [List.length_map, List.length_replicate, padK_len, padB_len, sha_length, dig_length, macCode_len, macTag_len, nextK_len]; done) | (simp; done)) ?_
  refine RL.assign rfl rfl rfl rfl ?_
  refine RL.nil ?_
  refine NQ.seq ?_
  refine CW.only (.cons (k := 4) rfl (.cons (k := 8) rfl (.cons (k := 9) rfl .nil))) ?_
  refine CW.seq ?_
  refine CW.regionD (Sq.of [0, 1, 2, 3, 4, 5, 6, 7, 8, 9]) [] [] mixed (by kernel_rfl) ?_
  refine RL.move rfl rfl rfl rfl ?_
  refine RL.bin rfl rfl rfl rfl rfl rfl ?_
  refine RL.move rfl rfl rfl rfl ?_
  -- STOP: part 18; op 3: d=19 ["slice", 50, ["t", 8], null, null, null] guard=[2, True] (chain.go:47)
  refine RL.cast (d := 18) (v' := .bool true) rfl ((by simp)) ?_
  refine RL.sliceAll Try.runUnderlying50 Try.sizeOf5 (by decide) rfl rfl rfl rfl ?_
  refine RL.sliceAll Try.runUnderlying50 Try.sizeOf5 (by decide) rfl rfl rfl rfl ?_
  refine RL.callv (equal_any (some ⟨b3, 0, none⟩) (some ⟨b2, 0, none⟩) 32 32 32 32 (nextN k n) c hl hc (by decide)) Try.call44 rfl rfl rfl rfl (Lend.all (by repeat (first | exact List.Mem.head _ | apply List.Mem.tail)) (by simp [hl]) (Lend.all (by repeat (first | exact List.Mem.head _ | apply List.Mem.tail)) (by simp [hc]) .nil)) ?_
  refine RL.pickT rfl rfl rfl rfl rfl ?_
  refine RL.move rfl rfl rfl rfl ?_
  refine RL.assign rfl rfl rfl rfl ?_
  refine RL.assign rfl rfl rfl rfl ?_
  refine RL.nil ?_
  refine NQ.seq ?_
  refine CW.only (.cons (k := 6) rfl (.cons (k := 7) rfl .nil)) ?_
  refine CW.ret ?_
  -- STOP: ret; end
  exact RQ.post (res2 rfl rfl rfl) (Split.none _) ⟨rfl, rfl, rfl⟩
theorem leads_bad (k c : List B8) (hk : k.length = 32) (hc : c.length = 32) (n : Int) (hbad : ¬ okSteps n) : Spc Try.prog 29 #[.agg (bytes k).toArray, .agg (bytes c).toArray, .int .i64 n] [] [] (Is (.tuple #[.bool false, .int .i64 2])) := by
  refine Spc.enter Try.func29 rfl rfl rfl (fun w0 hw0 => ?_)
  refine CW.seq ?_
  refine CW.region (ef := [0, 1]) (bk := []) ?_
  refine RL.box rfl rfl rfl rfl rfl rfl ?_
  intro b1
  refine RL.box rfl rfl rfl rfl rfl rfl ?_
  intro b2
  refine RL.assign rfl rfl rfl rfl ?_
  refine RL.assign rfl rfl rfl rfl ?_
  refine RL.nil ?_
  refine NQ.seq ?_
  refine CW.seq ?_
  refine CW.region (ef := [6, 7]) (bk := [7]) ?_
  refine RL.loadW Try.isAgg50 Try.sizeOf50 rfl rfl rfl rfl (by repeat (first | exact List.Mem.head _ | apply List.Mem.tail)) (by first | rfl | assumption | (simp only [List.length_map]; assumption) | (simp only [List.length_map, List.length_replicate, padK_len, padB_len, sha_length, dig_length, macCode_len, macTag_len, nextK_len]; done) | (simp; done)) ?_
  refine RL.move rfl rfl rfl rfl ?_
  refine RL.callv (walk_bad k hk n hbad) Try.call27 rfl rfl rfl rfl (by repeat (first | exact Lend.nil | (refine Lend.inI ?_ ?_; (solve | (repeat (first | exact List.Mem.head _ | apply List.Mem.tail)))) | (refine Lend.inH ?_ ?_; (solve | (repeat (first | exact List.Mem.head _ | apply List.Mem.tail)))))) ?_
  refine RL.move rfl rfl rfl rfl ?_
  refine RL.extract rfl rfl rfl rfl rfl ?_
  refine RL.extract rfl rfl rfl rfl rfl ?_
  refine RL.alloc (cs := List.replicate 32 (U8 0#8)) Try.zeroValue50 rfl rfl rfl rfl rfl ?_
  intro b3
  refine RL.storeW Try.sizeOf50 rfl rfl rfl rfl rfl rfl rfl (by first | rfl | exact ones_map one8 _ | exact ones_map (fun _ => rfl) _) (by repeat (first | exact Upd.here | apply Upd.there)) (by first | rfl | assumption | (simp only [List.length_map]; assumption) | (simp only [List.length_map, List.length_replicate, padK_len, padB_len, sha_length, dig_length, macCode_len, macTag_len, nextK_len]; done) | (simp; done)) (by first | rfl | assumption | (simp only [List.length_map]; assumption) | (simp only [List.length_map, List.length_replicate, padK_len, padB_len, sha_length, dig_length, macCode_len, macTag_len, nextK_len]; done) | (simp; done)) ?_
  refine RL.assign rfl rfl rfl rfl ?_
  refine RL.nil ?_
  refine NQ.seq ?_
  refine CW.only (.cons (k := 4) rfl (.cons (k := 8) rfl (.cons (k := 9) rfl .nil))) ?_
  refine CW.seq ?_
  refine CW.regionD (Sq.of [0, 1, 2, 3, 4, 5, 6, 7, 8, 9]) [] [] mixed (by kernel_rfl) ?_
  refine RL.move rfl rfl rfl rfl ?_
  refine RL.bin rfl rfl rfl rfl rfl rfl ?_
  refine RL.move rfl rfl rfl rfl ?_
  -- STOP: part 18; op 3: d=19 ["slice", 50, ["t", 8], null, null, null] guard=[2, True] (chain.go:47)
  refine RL.cast (d := 18) (v' := .bool false) rfl ((by simp)) ?_
  refine RL.skip rfl rfl rfl rfl ?_
  refine RL.skip rfl rfl rfl rfl ?_
  refine RL.skip rfl rfl rfl rfl ?_
  refine RL.pickF rfl rfl rfl rfl rfl ?_
  refine RL.move rfl rfl rfl rfl ?_
  refine RL.assign rfl rfl rfl rfl ?_
  refine RL.assign rfl rfl rfl rfl ?_
  refine RL.nil ?_
  refine NQ.seq ?_
  refine CW.only (.cons (k := 6) rfl (.cons (k := 7) rfl .nil)) ?_
  refine CW.ret ?_
  -- STOP: ret; end
  exact RQ.post (res2 rfl rfl rfl) (Split.none _) ⟨rfl, rfl, rfl⟩

/-- The first place where it stands. -/
def firstAt (l : List (List B8)) (c : List B8) : Nat := l.findIdx (· == c)
theorem firstAt_is {l : List (List B8)} {c : List B8} {i : Nat} (h : ∀ j, j < i → ∀ x, l[j]? = some x → x ≠ c) (hx : l[i]? = some c) : firstAt l c = i := by
  have hi : i < l.length := (List.getElem?_eq_some_iff.1 hx).1
  rw [firstAt, List.findIdx_eq hi]
  refine ⟨by rw [(List.getElem?_eq_some_iff.1 hx).2]; simp, fun j hj => ?_⟩
  have := h j hj (l[j]'(by omega)) (by simp [show j < l.length by omega])
  simpa using this
theorem firstAt_none {l : List (List B8)} {c : List B8} (h : ∀ j, j < l.length → ∀ x, l[j]? = some x → x ≠ c) : firstAt l c = l.length := by
  rw [firstAt, List.findIdx_eq_length]
  intro x hx
  obtain ⟨j, hj⟩ := List.getElem?_of_mem hx
  have := h j (List.getElem?_eq_some_iff.1 hj).1 x hj
  simpa using this
def indexV (l : List (List B8)) (c : List B8) : Int := if firstAt l c < l.length then (firstAt l c : Int) else -1

theorem index_any (p : Option Addr) (cap n : Nat) (l : List (List B8)) (hn : l.length = n) (hb : n ≤ 1000000) (hl : ∀ x ∈ l, x.length = 32) (c : List B8) (hc : c.length = 32) :
    Spc Try.prog 56 #[.slice p n cap, .agg (bytes c).toArray] [sls p 32 n (flatK l)] [] (Is (.int .i64 (indexV l c))) := by
  subst hn
  refine Spc.enter Try.func56 rfl rfl rfl (fun w0 hw0 => ?_)
  refine CW.seq ?_
  refine CW.region (ef := [0]) (bk := []) ?_
  refine RL.box rfl rfl rfl rfl rfl rfl ?_
  intro b1
  refine RL.assign rfl rfl rfl rfl ?_
  refine RL.nil ?_
  refine NQ.seq ?_
  refine CW.seq ?_
  refine CW.seq ?_
  refine CW.region (ef := []) (bk := []) ?_
  refine RL.move rfl rfl rfl rfl ?_
  refine RL.lenS Try.runUnderlying55 rfl rfl rfl rfl ?_
  refine RL.move rfl rfl rfl rfl ?_
  refine RL.nil ?_
  refine NQ.seq ?_
  refine CW.block ?_
  -- STOP: loop; todo top: ["code", ["loop", ["seq", ["region", 2, [{"d": 9, "op": ["binOp", "Go.BinOp.lss", 3, ["t", 8], ["t", 7], 3], "ty": 0, "pos": "slices.go:97", "after": [], "guard": null}], false], ["seq", ["cond", ["t"
  refine CW.loop (γ := Nat) (fun i => i ≤ l.length ∧ ∀ j, j < i → ∀ x, l[j]? = some x → x ≠ c) (fun i => [(0, .slice p l.length cap), (3, .pointer (some ⟨b1, 0, none⟩)), (7, .int .i64 (l.length : Int)), (8, .int .i64 (i : Int))]) (fun _ => [sls p 32 l.length (flatK l)])
    (fun _ => [cel b1 (bytes c) 50]) (fun i => l.length - i) 0 ⟨Nat.zero_le _, by omega⟩ (.cons rfl (.cons rfl (.cons rfl (.cons rfl .nil)))) (fun _ h => h) ?_
  rintro i ⟨hi, hne⟩
  refine CW.fact (p := p = none → l.length = 0) (fun w hC e => sls_nil (hC.s.i _ (List.Mem.head _)) e) (fun hpp => ?_)
  refine CW.seq ?_
  refine CW.region (ef := []) (bk := []) ?_
  refine RL.bin rfl rfl rfl rfl rfl rfl ?_
  refine RL.nil ?_
  refine NQ.seq ?_
  refine CW.seq ?_
  -- STOP: if; todo top: ["code", ["cond", ["t", 9], ["skip"], ["exit", 0]]]
  refine CW.cond rfl (fun hlt => ?_) (fun hlt => ?_)
  ·
    have hlt : i < l.length := by simp at hlt; omega
    obtain ⟨a, rfl⟩ := sls_some hpp (by omega)
    have hg : l[i]? = some l[i] := by simp [hlt]
    have hxl := hl l[i] (List.getElem_mem hlt)
    generalize l[i] = x at hg hxl
    refine CW.skip ?_
    refine NQ.seq ?_
    refine CW.seq ?_
    refine CW.block ?_
    refine CW.seq ?_
    refine CW.region (ef := []) (bk := []) ?_
    refine RL.move rfl rfl rfl rfl ?_
    refine RL.assign rfl rfl rfl rfl ?_
    refine RL.nil ?_
    refine NQ.seq ?_
    refine CW.seq ?_
    refine CW.regionD (Sq.of [0, 1, 2, 3, 4, 5]) [] [] mixed (by kernel_rfl) ?_
    -- STOP: op; op 0: d=11 ["load", 50, ["t", 3]] guard=None (slices.go:98)
    refine RL.loadW Try.isAgg50 Try.sizeOf50 rfl rfl rfl rfl (by repeat (first | exact List.Mem.head _ | apply List.Mem.tail)) (by first | rfl | assumption | (simp only [List.length_map]; assumption) | (simp only [List.length_map, List.length_replicate, padK_len, padB_len, sha_length, dig_length, macCode_len, macTag_len, nextK_len]; done) | (simp; done)) ?_
    refine RL.move rfl rfl rfl rfl ?_
    refine RL.move rfl rfl rfl rfl ?_
    -- STOP: op; op 3: d=14 ["indexAddr", 55, ["t", 12], ["t", 13]] guard=None (slices.go:98)
    refine RL.idx (j := i) Try.runUnderlying55 Try.sizeOf50 rfl rfl rfl rfl rfl rfl hlt ?_
    -- STOP: op; op 4: d=15 ["load", 50, ["t", 14]] guard=None (slices.go:98)
    refine RL.loadN (vs := bytes x) Try.isAgg50 (by rw [List.length_map, hxl]; exact Try.sizeOf50) rfl rfl rfl rfl (Rds.keyI (List.Mem.head _) hl hg) ?_
    -- STOP: op; op 5: d=16 ["binOp", "Go.BinOp.eql", 50, ["t", 11], ["t", 15], 50] guard=None (slices.go:98)
    refine RL.cmp rfl rfl rfl rfl rfl (key_eq _ _ hc hxl _ _) ?_
    refine RL.nil ?_
    refine NQ.seq ?_
    refine CW.only (.cons (k := 0) rfl (.cons (k := 3) rfl (.cons (k := 5) rfl (.cons (k := 7) rfl (.cons (k := 8) rfl (.cons (k := 16) rfl .nil)))))) ?_
    -- STOP: if; todo top: ["code", ["cond", ["t", 16], ["seq", ["region", 5, [{"d": 17, "op": ["move", ["t", 5]], "ty": 3, "pos": "slices.go:99", "after": [], "guard": null}, {"d": 4, "op": ["assign", ["t", 17]], "ty": 3, "pos
    refine CW.cond rfl (fun he => ?_) (fun he => ?_)
    ·
      refine CW.seq ?_
      refine CW.region (ef := []) (bk := []) ?_
      refine RL.move rfl rfl rfl rfl ?_
      refine RL.assign rfl rfl rfl rfl ?_
      refine RL.nil ?_
      refine NQ.seq ?_
      refine CW.ret ?_
      refine RQ.block ?_
      refine RQ.seq ?_
      refine RQ.seq ?_
      refine RQ.block ?_
      refine RQ.seq ?_
      -- STOP: ret; end
      have he : x = c := by simpa using (eq_comm.1 (by simpa using he : c = x))
      subst he
      have := firstAt_is hne hg
      exact RQ.post (res1 rfl rfl) (Split.none _) ⟨by rw [indexV, this, if_pos hlt], rfl, rfl⟩
    ·
      refine CW.skip ?_
      refine NQ.block ?_
      refine NQ.seq ?_
      refine CW.region (ef := []) (bk := []) ?_
      refine RL.binX rfl rfl rfl rfl rfl rfl (wrapV_i64 (by omega) (by omega)) ?_
      refine RL.move rfl rfl rfl rfl ?_
      refine RL.nil ?_
      -- STOP: round; todo top: ["N"]
      have he : x ≠ c := fun h => by subst h; simp at he
      refine NQ.round (g := i) (i + 1) ⟨hlt, fun j hj y hy => ?_⟩ (by omega) (.cons rfl (.cons rfl (.cons rfl (.cons rfl .nil)))) (fun _ h => h)
      by_cases hji : j = i
      · subst hji; rw [hg] at hy; cases hy; exact he
      · exact hne j (by omega) y hy
  ·
    refine CW.exit ?_
    refine XQ.seq ?_
    refine XQ.seq ?_
    refine XQ.hit ?_
    refine NQ.seq ?_
    refine CW.seq ?_
    refine CW.region (ef := []) (bk := []) ?_
    refine RL.assign rfl rfl rfl rfl ?_
    refine RL.nil ?_
    refine NQ.seq ?_
    refine CW.ret ?_
    -- STOP: ret; end
    have hil : i = l.length := by simp at hlt; omega
    subst hil
    have := firstAt_none hne
    exact RQ.post (res1 rfl rfl) (Split.none _) ⟨by rw [indexV, this, if_neg (by omega)], rfl, rfl⟩

def findV (k c : List B8) (n : Nat) : Int × Int := if firstAt (chainL k (n + 1)) c < n + 1 then ((firstAt (chainL k (n + 1)) c : Int), 0) else (0, 5)
theorem find_ok (k c : List B8) (hk : k.length = 32) (hc : c.length = 32) (n : Nat) (hn : n ≤ 512) : Spc Try.prog 35 #[.agg (bytes k).toArray, .agg (bytes c).toArray, .int .i64 (n : Int)] [] [] (Is (.tuple #[.int .i64 (findV k c n).1, .int .i64 (findV k c n).2])) := by
  refine Spc.enter Try.func35 rfl rfl rfl (fun w0 hw0 => ?_)
  refine CW.seq ?_
  refine CW.region (ef := [0, 1]) (bk := []) ?_
  refine RL.box rfl rfl rfl rfl rfl rfl ?_
  intro b1
  refine RL.box rfl rfl rfl rfl rfl rfl ?_
  intro b2
  refine RL.assign rfl rfl rfl rfl ?_
  refine RL.assign rfl rfl rfl rfl ?_
  refine RL.nil ?_
  refine NQ.seq ?_
  refine CW.seq ?_
  refine CW.region (ef := [2]) (bk := []) ?_
  refine RL.loadW Try.isAgg50 Try.sizeOf50 rfl rfl rfl rfl (by repeat (first | exact List.Mem.head _ | apply List.Mem.tail)) (by first | rfl | assumption | (simp only [List.length_map]; assumption) | (simp only [List.length_map, List.length_replicate, padK_len, padB_len, sha_length, dig_length, macCode_len, macTag_len, nextK_len]; done) | (simp; done)) ?_
  refine RL.move rfl rfl rfl rfl ?_
  refine RL.call (all_ok k hk n hn) Try.call30 rfl rfl rfl rfl rfl (by repeat (first | exact Pick.nil | apply Pick.take | apply Pick.leave)) (by repeat (first | exact Lend.nil | (refine Lend.inI ?_ ?_; (solve | (repeat (first | exact List.Mem.head _ | apply List.Mem.tail)))) | (refine Lend.inH ?_ ?_; (solve | (repeat (first | exact List.Mem.head _ | apply List.Mem.tail)))))) (.inl rfl) ?_
  -- STOP: called; op 3: d=11 ["move", ["t", 14]] guard=None (chain.go:52)
  rintro _ _ _ ⟨b, cp, rfl, rfl, rfl⟩
  refine RL.move rfl rfl rfl rfl ?_
  refine RL.extract rfl rfl rfl rfl rfl ?_
  refine RL.extract rfl rfl rfl rfl rfl ?_
  refine RL.assign rfl rfl rfl rfl ?_
  refine RL.assign rfl rfl rfl rfl ?_
  refine RL.nil ?_
  refine NQ.seq ?_
  refine CW.only (.cons (k := 4) rfl (.cons (k := 8) rfl (.cons (k := 9) rfl .nil))) ?_
  refine CW.seq ?_
  refine CW.seq ?_
  refine CW.region (ef := []) (bk := []) ?_
  refine RL.move rfl rfl rfl rfl ?_
  refine RL.bin rfl rfl rfl rfl rfl rfl ?_
  refine RL.nil ?_
  refine NQ.seq ?_
  -- STOP: if; todo top: ["code", ["cond", ["t", 18], ["seq", ["region", 3, [{"d": 19, "op": ["move", ["t", 9]], "ty": 36, "pos": "chain.go:54", "after": [], "guard": null}, {"d": 6, "op": ["assign", ["c", ["int", "Go.IntKind
  refine CW.condF rfl ((by simp)) ?_
  refine CW.skip ?_
  refine NQ.seq ?_
  refine CW.seq ?_
  refine CW.region (ef := []) (bk := []) ?_
  refine RL.move rfl rfl rfl rfl ?_
  refine RL.loadW Try.isAgg50 Try.sizeOf50 rfl rfl rfl rfl (by repeat (first | exact List.Mem.head _ | apply List.Mem.tail)) (by first | rfl | assumption | (simp only [List.length_map]; assumption) | (simp only [List.length_map, List.length_replicate, padK_len, padB_len, sha_length, dig_length, macCode_len, macTag_len, nextK_len]; done) | (simp; done)) ?_
  refine RL.callv (index_any (some ⟨b, 0, none⟩) cp (n + 1) (chainL k (n + 1)) (chainL_len _ _) (by omega) (chainL_all hk _) c hc) Try.call56 rfl rfl rfl rfl (Lend.own (ob := some b) (by repeat (first | exact List.Mem.head _ | apply List.Mem.tail)) .nil) ?_
  refine RL.assign rfl rfl rfl rfl ?_
  refine RL.nil ?_
  refine NQ.seq ?_
  refine CW.only (.cons (k := 10) rfl .nil) ?_
  refine CW.seq ?_
  refine CW.seq ?_
  refine CW.region (ef := []) (bk := []) ?_
  refine RL.move rfl rfl rfl rfl ?_
  refine RL.bin rfl rfl rfl rfl rfl rfl ?_
  refine RL.nil ?_
  refine NQ.seq ?_
  -- STOP: if; todo top: ["code", ["cond", ["t", 24], ["seq", ["region", 6, [{"d": 6, "op": ["assign", ["c", ["int", "Go.IntKind.i64", 0]]], "ty": 3, "pos": "chain.go:58", "after": [], "guard": null}, {"d": 7, "op": ["assign"
  refine CW.cond rfl (fun hneg => ?_) (fun hneg => ?_)
  ·
    refine CW.seq ?_
    refine CW.region (ef := []) (bk := []) ?_
    refine RL.assign rfl rfl rfl rfl ?_
    refine RL.assign rfl rfl rfl rfl ?_
    refine RL.nil ?_
    refine NQ.seq ?_
    refine CW.ret ?_
    refine RQ.seq ?_
    -- STOP: ret; end
    have hneg : ¬ firstAt (chainL k (n + 1)) c < (chainL k (n + 1)).length := by
      intro h; simp [indexV, h] at hneg; omega
    rw [chainL_len] at hneg
    exact RQ.post (res2 rfl rfl rfl) (Split.none _) ⟨by rw [findV, if_neg hneg], rfl, rfl⟩
  ·
    refine CW.skip ?_
    refine NQ.seq ?_
    refine CW.seq ?_
    refine CW.region (ef := []) (bk := []) ?_
    refine RL.move rfl rfl rfl rfl ?_
    refine RL.assign rfl rfl rfl rfl ?_
    refine RL.assign rfl rfl rfl rfl ?_
    refine RL.nil ?_
    refine NQ.seq ?_
    refine CW.ret ?_
    -- STOP: ret; end
    have hpos : firstAt (chainL k (n + 1)) c < (chainL k (n + 1)).length := by
      refine Classical.byContradiction fun h => ?_
      simp [indexV, h] at hneg
    have hpos' := hpos
    rw [chainL_len] at hpos'
    exact RQ.post (res2 rfl rfl rfl) (Split.none _) ⟨by rw [findV, if_pos hpos', indexV, if_pos hpos], rfl, rfl⟩
theorem find_bad (k c : List B8) (hk : k.length = 32) (_hc : c.length = 32) (n : Int) (hbad : ¬ okSteps n) : Spc Try.prog 35 #[.agg (bytes k).toArray, .agg (bytes c).toArray, .int .i64 n] [] [] (Is (.tuple #[.int .i64 0, .int .i64 2])) := by
  refine Spc.enter Try.func35 rfl rfl rfl (fun w0 hw0 => ?_)
  refine CW.seq ?_
  refine CW.region (ef := [0, 1]) (bk := []) ?_
  refine RL.box rfl rfl rfl rfl rfl rfl ?_
  intro b1
  refine RL.box rfl rfl rfl rfl rfl rfl ?_
  intro b2
  refine RL.assign rfl rfl rfl rfl ?_
  refine RL.assign rfl rfl rfl rfl ?_
  refine RL.nil ?_
  refine NQ.seq ?_
  refine CW.seq ?_
  refine CW.region (ef := []) (bk := []) ?_
  refine RL.loadW Try.isAgg50 Try.sizeOf50 rfl rfl rfl rfl (by repeat (first | exact List.Mem.head _ | apply List.Mem.tail)) (by first | rfl | assumption | (simp only [List.length_map]; assumption) | (simp only [List.length_map, List.length_replicate, padK_len, padB_len, sha_length, dig_length, macCode_len, macTag_len, nextK_len]; done) | (simp; done)) ?_
  refine RL.move rfl rfl rfl rfl ?_
  refine RL.callv (all_bad k hk n hbad) Try.call30 rfl rfl rfl rfl (by repeat (first | exact Lend.nil | (refine Lend.inI ?_ ?_; (solve | (repeat (first | exact List.Mem.head _ | apply List.Mem.tail)))) | (refine Lend.inH ?_ ?_; (solve | (repeat (first | exact List.Mem.head _ | apply List.Mem.tail)))))) ?_
  refine RL.move rfl rfl rfl rfl ?_
  refine RL.extract rfl rfl rfl rfl rfl ?_
  refine RL.extract rfl rfl rfl rfl rfl ?_
  refine RL.assign rfl rfl rfl rfl ?_
  refine RL.assign rfl rfl rfl rfl ?_
  refine RL.nil ?_
  refine NQ.seq ?_
  refine CW.only (.cons (k := 4) rfl (.cons (k := 8) rfl (.cons (k := 9) rfl .nil))) ?_
  refine CW.seq ?_
  refine CW.seq ?_
  refine CW.region (ef := []) (bk := []) ?_
  refine RL.move rfl rfl rfl rfl ?_
  refine RL.bin rfl rfl rfl rfl rfl rfl ?_
  refine RL.nil ?_
  refine NQ.seq ?_
  -- STOP: if; todo top: ["code", ["cond", ["t", 18], ["seq", ["region", 3, [{"d": 19, "op": ["move", ["t", 9]], "ty": 36, "pos": "chain.go:54", "after": [], "guard": null}, {"d": 6, "op": ["assign", ["c", ["int", "Go.IntKind
  refine CW.condT rfl ((by simp)) ?_
  refine CW.seq ?_
  refine CW.region (ef := []) (bk := []) ?_
  refine RL.move rfl rfl rfl rfl ?_
  refine RL.assign rfl rfl rfl rfl ?_
  refine RL.assign rfl rfl rfl rfl ?_
  refine RL.nil ?_
  refine NQ.seq ?_
  refine CW.ret ?_
  refine RQ.seq ?_
  -- STOP: ret; end
  exact RQ.post (res2 rfl rfl rfl) (Split.none _) ⟨rfl, rfl, rfl⟩
end Go.Proofs.Ytpokocnnaendaaa
