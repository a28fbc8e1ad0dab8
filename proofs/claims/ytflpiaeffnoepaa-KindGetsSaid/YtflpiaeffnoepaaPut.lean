import Derived.Test.YtflpiaeffnoepaaWPut
import Derived.Test.YtflpiaeffnoepaaRdgOk
namespace Go.Proofs.Ytflpiaeffnoepaa
open Go.PK

theorem bodyR_len (r : Rdg) : (bodyR r).length ≤ 100 := by
  unfold bodyR
  by_cases h1 : r.kind = 1
  · rw [if_pos h1]; simp [beN_length, be4_length, be8'_length, keyL]
  rw [if_neg h1]
  by_cases h2 : r.kind = 2
  · rw [if_pos h2]; simp [beN_length, be4_length, be8'_length, keyL]
  rw [if_neg h2]
  by_cases h3 : r.kind = 3
  · rw [if_pos h3]; simp [beN_length, be4_length, be8'_length, keyL]
  rw [if_neg h3]
  by_cases h4 : r.kind = 4
  · rw [if_pos h4]; simp [beN_length, be4_length, be8'_length, keyL]
  rw [if_neg h4]
  by_cases h5 : r.kind = 5
  · rw [if_pos h5]; simp [beN_length, be4_length, be8'_length, keyL]
  rw [if_neg h5]
  by_cases h6 : r.kind = 6
  · rw [if_pos h6]; simp [beN_length, be4_length, be8'_length, keyL]
  rw [if_neg h6]
  by_cases h7 : r.kind = 7
  · rw [if_pos h7]; simp [beN_length, be4_length, be8'_length, keyL]
  rw [if_neg h7]
  by_cases h8 : r.kind = 8
  · rw [if_pos h8]; simp [beN_length, be4_length, be8'_length, keyL]
  rw [if_neg h8]
  by_cases h10 : r.kind = 10
  · rw [if_pos h10]; simp [beN_length, be4_length, be8'_length, keyL]
  rw [if_neg h10]
  by_cases h12 : r.kind = 12
  · rw [if_pos h12]; simp [beN_length, be4_length, be8'_length, keyL]
  rw [if_neg h12]
  by_cases h13 : r.kind = 13
  · rw [if_pos h13]; simp [beN_length, be4_length, be8'_length, keyL]
  rw [if_neg h13]
  by_cases h14 : r.kind = 14
  · rw [if_pos h14]; simp [beN_length, be4_length, be8'_length, keyL]
  rw [if_neg h14]
  simp
theorem not_okP {r : Rdg} (h : ¬ (1 ≤ r.kind ∧ r.kind ≤ 14)) : ¬ okP r := by
  rintro ⟨x, hx, -⟩
  rw [gotR, if_neg (by omega)] at hx
  cases hx
theorem got_ok {k : Int} (hk : wfk .i64 k) {l : List B8} {x : Rdg} (h : gotR k l = some x) : x.Ok := by
  unfold gotR at h
  split at h
  · cases h; exact getR_ok hk l
  · cases h

theorem put_bad (r : Rdg) (hk : ¬ (1 ≤ r.kind ∧ r.kind ≤ 14)) : Spc Try.prog 15 #[.agg r.cells.toArray] [] [] (PutR r) := by
  have hs : sizeV r.kind = .tuple #[.int .i64 0, .int .i64 120] := by rw [sizeV, if_neg hk]
  obtain ⟨e1, e2⟩ := put_no (not_okP hk)
  refine Spc.enter Try.func15 rfl rfl rfl (fun w0 hw0 => ?_)
  refine CW.seq ?_
  refine CW.region (ef := [0]) (bk := []) ?_
  refine RL.box rfl rfl rfl rfl rfl rfl ?_
  intro b1
  refine RL.assign rfl rfl rfl rfl ?_
  refine RL.assign rfl rfl rfl rfl ?_
  refine RL.nil ?_
  refine NQ.seq ?_
  refine CW.seq ?_
  refine CW.seq ?_
  refine CW.region (ef := []) (bk := []) ?_
  refine RL.fieldAddr fa_33_0 rfl rfl rfl rfl ?_
  refine RL.load Try.isAgg3 rfl rfl rfl rfl (by first | assumption | (apply Rd.get; (solve | (repeat (first | exact List.Mem.head _ | apply List.Mem.tail))); assumption) | (apply Rd.getS; (solve | (repeat (first | exact List.Mem.head _ | apply List.Mem.tail))); assumption) | (apply Rd.getO; (solve | (repeat (first | exact List.Mem.head _ | apply List.Mem.tail))); assumption) | (apply Rd.getI; (solve | (repeat (first | exact List.Mem.head _ | apply List.Mem.tail))); assumption) | (apply Rd.cel; (solve | (repeat (first | exact List.Mem.head _ | apply List.Mem.tail))); exact rfl) | (apply Rd.celI; (solve | (repeat (first | exact List.Mem.head _ | apply List.Mem.tail))); exact rfl)) ?_
  refine RL.callv (size_any r.kind) Try.call17 rfl rfl rfl rfl (by repeat (first | exact Lend.nil | (refine Lend.inI ?_ ?_; (solve | (repeat (first | exact List.Mem.head _ | apply List.Mem.tail)))) | (refine Lend.inH ?_ ?_; (solve | (repeat (first | exact List.Mem.head _ | apply List.Mem.tail)))))) ?_
  refine RL.move rfl rfl rfl rfl ?_
  -- STOP: op; op 4: d=13 ["extract", ["t", 9], 0] guard=None (kind.go:123)
  rw [hs]
  refine RL.extract rfl rfl rfl rfl rfl ?_
  refine RL.extract rfl rfl rfl rfl rfl ?_
  refine RL.assign rfl rfl rfl rfl ?_
  refine RL.assign rfl rfl rfl rfl ?_
  refine RL.nil ?_
  refine NQ.seq ?_
  refine CW.only (.cons (k := 1) rfl (.cons (k := 2) rfl (.cons (k := 3) rfl (.cons (k := 5) rfl .nil)))) ?_
  refine CW.seq ?_
  refine CW.region (ef := []) (bk := []) ?_
  refine RL.move rfl rfl rfl rfl ?_
  refine RL.bin rfl rfl rfl rfl rfl rfl ?_
  refine RL.nil ?_
  refine NQ.seq ?_
  -- STOP: if; todo top: ["code", ["cond", ["t", 16], ["seq", ["region", 3, [{"d": 17, "op": ["move", ["t", 5]], "ty": 35, "pos": "kind.go:124", "after": [], "guard": null}, {"d": 2, "op": ["assign", ["c", ["nilslice"]]], "ty
  refine CW.condT rfl (rfl) ?_
  refine CW.seq ?_
  refine CW.region (ef := []) (bk := []) ?_
  refine RL.move rfl rfl rfl rfl ?_
  refine RL.assign rfl rfl rfl rfl ?_
  refine RL.assign rfl rfl rfl rfl ?_
  refine RL.nil ?_
  refine NQ.seq ?_
  refine CW.ret ?_
  refine RQ.seq ?_
  -- STOP: ret; end
  refine RQ.ownNone (e := 5) 1 ?_
  unfold PutR
  rw [e1, e2]
  exact RQ.post (res2 rfl rfl rfl) (.keep (Split.none _)) ⟨none, 0, rfl, rfl, rfl⟩

theorem put_none (r : Rdg) (hr : r.Ok) (hk : 1 ≤ r.kind ∧ r.kind ≤ 14) (hg : gotR r.kind (bodyR r) = none) : Spc Try.prog 15 #[.agg r.cells.toArray] [] [] (PutR r) := by
  have hs : sizeV r.kind = .tuple #[.int .i64 (sizeR r.kind : Int), .int .i64 0] := by rw [sizeV, if_pos hk]
  have hbl := bodyR_len r
  have hno : ¬ okP r := by
    rintro ⟨x, hx, -⟩
    rw [hg] at hx
    cases hx
  obtain ⟨e1, e2⟩ := put_no hno
  refine Spc.enter Try.func15 rfl rfl rfl (fun w0 hw0 => ?_)
  refine CW.seq ?_
  refine CW.region (ef := [0]) (bk := []) ?_
  refine RL.box rfl rfl rfl rfl rfl rfl ?_
  intro b1
  refine RL.assign rfl rfl rfl rfl ?_
  refine RL.assign rfl rfl rfl rfl ?_
  refine RL.nil ?_
  refine NQ.seq ?_
  refine CW.seq ?_
  refine CW.seq ?_
  refine CW.region (ef := []) (bk := []) ?_
  refine RL.fieldAddr fa_33_0 rfl rfl rfl rfl ?_
  refine RL.load Try.isAgg3 rfl rfl rfl rfl (by first | assumption | (apply Rd.get; (solve | (repeat (first | exact List.Mem.head _ | apply List.Mem.tail))); assumption) | (apply Rd.getS; (solve | (repeat (first | exact List.Mem.head _ | apply List.Mem.tail))); assumption) | (apply Rd.getO; (solve | (repeat (first | exact List.Mem.head _ | apply List.Mem.tail))); assumption) | (apply Rd.getI; (solve | (repeat (first | exact List.Mem.head _ | apply List.Mem.tail))); assumption) | (apply Rd.cel; (solve | (repeat (first | exact List.Mem.head _ | apply List.Mem.tail))); exact rfl) | (apply Rd.celI; (solve | (repeat (first | exact List.Mem.head _ | apply List.Mem.tail))); exact rfl)) ?_
  refine RL.callv (size_any r.kind) Try.call17 rfl rfl rfl rfl (by repeat (first | exact Lend.nil | (refine Lend.inI ?_ ?_; (solve | (repeat (first | exact List.Mem.head _ | apply List.Mem.tail)))) | (refine Lend.inH ?_ ?_; (solve | (repeat (first | exact List.Mem.head _ | apply List.Mem.tail)))))) ?_
  refine RL.move rfl rfl rfl rfl ?_
  -- STOP: op; op 4: d=13 ["extract", ["t", 9], 0] guard=None (kind.go:123)
  rw [hs]
  refine RL.extract rfl rfl rfl rfl rfl ?_
  refine RL.extract rfl rfl rfl rfl rfl ?_
  refine RL.assign rfl rfl rfl rfl ?_
  refine RL.assign rfl rfl rfl rfl ?_
  refine RL.nil ?_
  refine NQ.seq ?_
  refine CW.only (.cons (k := 1) rfl (.cons (k := 2) rfl (.cons (k := 3) rfl (.cons (k := 5) rfl .nil)))) ?_
  refine CW.seq ?_
  refine CW.region (ef := []) (bk := []) ?_
  refine RL.move rfl rfl rfl rfl ?_
  refine RL.bin rfl rfl rfl rfl rfl rfl ?_
  refine RL.nil ?_
  refine NQ.seq ?_
  -- STOP: if; todo top: ["code", ["cond", ["t", 16], ["seq", ["region", 3, [{"d": 17, "op": ["move", ["t", 5]], "ty": 35, "pos": "kind.go:124", "after": [], "guard": null}, {"d": 2, "op": ["assign", ["c", ["nilslice"]]], "ty
  refine CW.condF rfl (rfl) ?_
  refine CW.skip ?_
  refine NQ.seq ?_
  refine CW.seq ?_
  -- STOP: region; todo top: ["code", ["region", 4, [{"d": 18, "op": ["build", 175, []], "ty": 175, "pos": "kind.go:126", "after": [], "guard": null}, {"d": 19, "op": ["box", 175, ["t", 18]], "ty": 173, "pos": "kind.go:126", "aft
  refine CW.ownNone (e := 5) 1 ?_
  refine CW.region (ef := [1]) (bk := []) ?_
  refine RL.buildS _ Try.zeroValue175 pl_175 rfl rfl rfl rfl rfl ?_
  refine RL.box rfl rfl rfl rfl rfl rfl ?_
  intro b2
  refine RL.assign rfl rfl rfl rfl ?_
  refine RL.nil ?_
  refine NQ.seq ?_
  refine CW.only (.cons (k := 1) rfl (.cons (k := 6) rfl .nil)) ?_
  refine CW.seq ?_
  refine CW.region (ef := [2]) (bk := [2]) ?_
  refine RL.move rfl rfl rfl rfl ?_
  refine RL.loadW Try.isAgg33 Try.sizeOf33 rfl rfl rfl rfl (by repeat (first | exact List.Mem.head _ | apply List.Mem.tail)) (by first | rfl | assumption | (simp only [List.length_map]; assumption) | (simp only [List.length_map, List.length_replicate]; done) | (simp; done)) ?_
  refine RL.call (wput_all b2 r hk hr) Try.call81 rfl rfl rfl rfl rfl (by repeat (first | exact Pick.nil | apply Pick.take | apply Pick.leave)) (by repeat (first | exact Lend.nil | (refine Lend.inI ?_ ?_; (solve | (repeat (first | exact List.Mem.head _ | apply List.Mem.tail)))) | (refine Lend.inH ?_ ?_; (solve | (repeat (first | exact List.Mem.head _ | apply List.Mem.tail)))))) (.inr rfl) ?_
  -- STOP: called; todo top: ["code", ["region", 5, [{"d": 20, "op": ["move", ["t", 6]], "ty": 173, "pos": "kind.go:127", "after": [], "guard": null}, {"d": 21, "op": ["load", 33, ["t", 1]], "ty": 33, "pos": "kind.go:127", "after
  rintro _ _ _ ⟨rfl, ob, cap, rfl⟩
  refine RL.nil ?_
  refine NQ.seq ?_
  refine CW.seq ?_
  refine CW.seq ?_
  -- STOP: region; todo top: ["code", ["region", 6, [{"d": 24, "op": ["fieldAddr", 33, ["t", 1], 0], "ty": 0, "pos": "kind.go:129", "after": [], "guard": null}, {"d": 25, "op": ["load", 3, ["t", 24]], "ty": 3, "pos": "kind.go:129
  refine CW.fact (p := (bodyR r).length ≤ cap) (fun w hC => own_cap (hC.s.h (own ob cap 5 1 (bodyR r).length (bytes (bodyR r))) (by repeat (first | exact List.Mem.head _ | apply List.Mem.tail)))) (fun hcap => ?_)
  refine CW.regionD (Sq.of [0, 1, 2, 3, 4, 5, 6, 7, 8, 9, 10, 11, 12]) [10, 11] [11] [0, 2, 3, 4, 7, 8, 9, 12] mixed (by kernel_rfl) ?_
  refine RL.fieldAddr fa_33_0 rfl rfl rfl rfl ?_
  refine RL.load Try.isAgg3 rfl rfl rfl rfl (by first | assumption | (apply Rd.get; (solve | (repeat (first | exact List.Mem.head _ | apply List.Mem.tail))); assumption) | (apply Rd.getS; (solve | (repeat (first | exact List.Mem.head _ | apply List.Mem.tail))); assumption) | (apply Rd.getO; (solve | (repeat (first | exact List.Mem.head _ | apply List.Mem.tail))); assumption) | (apply Rd.getI; (solve | (repeat (first | exact List.Mem.head _ | apply List.Mem.tail))); assumption) | (apply Rd.cel; (solve | (repeat (first | exact List.Mem.head _ | apply List.Mem.tail))); exact rfl) | (apply Rd.celI; (solve | (repeat (first | exact List.Mem.head _ | apply List.Mem.tail))); exact rfl)) ?_
  refine RL.move rfl rfl rfl rfl ?_
  refine RL.nilCheck rfl rfl rfl rfl ?_
  refine RL.fieldAddr fa_175_0 rfl rfl rfl rfl ?_
  refine RL.load Try.isAgg34 rfl rfl rfl rfl (by first | assumption | (apply Rd.get; (solve | (repeat (first | exact List.Mem.head _ | apply List.Mem.tail))); assumption) | (apply Rd.getS; (solve | (repeat (first | exact List.Mem.head _ | apply List.Mem.tail))); assumption) | (apply Rd.getO; (solve | (repeat (first | exact List.Mem.head _ | apply List.Mem.tail))); assumption) | (apply Rd.getI; (solve | (repeat (first | exact List.Mem.head _ | apply List.Mem.tail))); assumption) | (apply Rd.cel; (solve | (repeat (first | exact List.Mem.head _ | apply List.Mem.tail))); exact rfl) | (apply Rd.celI; (solve | (repeat (first | exact List.Mem.head _ | apply List.Mem.tail))); exact rfl)) ?_
  refine RL.callv (get_any r.kind (ob.map fun b => ⟨b, 0, none⟩) (bodyR r).length cap (bodyR r) rfl hcap (by omega)) Try.call23 rfl rfl rfl rfl (Lend.own (by repeat (first | exact List.Mem.head _ | apply List.Mem.tail)) .nil) ?_
  refine RL.move rfl rfl rfl rfl ?_
  -- STOP: op; op 8: d=31 ["extract", ["t", 23], 0] guard=None (kind.go:129)
  rw [hg]
  unfold gotV
  refine RL.extract rfl rfl rfl rfl rfl ?_
  refine RL.extract rfl rfl rfl rfl rfl ?_
  refine RL.alloc Try.zeroValue33 rfl rfl rfl rfl rfl ?_
  intro b3
  refine RL.storeW Try.sizeOf33 rfl rfl rfl rfl rfl rfl rfl (by first | rfl | exact ones_map one8 _ | exact ones_map (fun _ => rfl) _) (by repeat (first | exact Upd.here | apply Upd.there)) (by first | rfl | assumption | (simp only [List.length_map]; assumption) | (simp only [List.length_map, List.length_replicate]; done) | (simp; done)) (by first | rfl | assumption | (simp only [List.length_map]; assumption) | (simp only [List.length_map, List.length_replicate]; done) | (simp; done)) ?_
  refine RL.assign rfl rfl rfl rfl ?_
  refine RL.nil ?_
  refine NQ.seq ?_
  refine CW.only (.cons (k := 1) rfl (.cons (k := 6) rfl (.cons (k := 7) rfl (.cons (k := 8) rfl .nil)))) ?_
  refine CW.seq ?_
  refine CW.region (ef := []) (bk := []) ?_
  refine RL.move rfl rfl rfl rfl ?_
  refine RL.bin rfl rfl rfl rfl rfl rfl ?_
  refine RL.move rfl rfl rfl rfl ?_
  -- STOP: part 35; op 3: d=36 ["load", 33, ["t", 7]] guard=[2, False] (kind.go:129)
  refine RL.cast (d := 35) (v' := .bool true) rfl (rfl) ?_
  refine RL.skip rfl rfl rfl rfl ?_
  refine RL.skip rfl rfl rfl rfl ?_
  refine RL.skip rfl rfl rfl rfl ?_
  refine RL.pickT rfl rfl rfl rfl rfl ?_
  refine RL.nil ?_
  refine NQ.seq ?_
  refine CW.only (.cons (k := 6) rfl (.cons (k := 39) rfl .nil)) ?_
  refine CW.condT rfl rfl ?_
  refine CW.seq ?_
  refine CW.region (ef := []) (bk := []) ?_
  refine RL.assign rfl rfl rfl rfl ?_
  refine RL.assign rfl rfl rfl rfl ?_
  refine RL.nil ?_
  refine NQ.seq ?_
  refine CW.ret ?_
  refine RQ.seq ?_
  -- STOP: ret; end
  refine RQ.ownNone (e := 5) 1 ?_
  unfold PutR
  rw [e1, e2]
  exact RQ.post (res2 rfl rfl rfl) (.keep (Split.none _)) ⟨none, 0, rfl, rfl, rfl⟩
theorem put_some (r x : Rdg) (hr : r.Ok) (hk : 1 ≤ r.kind ∧ r.kind ≤ 14) (hg : gotR r.kind (bodyR r) = some x) : Spc Try.prog 15 #[.agg r.cells.toArray] [] [] (PutR r) := by
  have hs : sizeV r.kind = .tuple #[.int .i64 (sizeR r.kind : Int), .int .i64 0] := by rw [sizeV, if_pos hk]
  have hbl := bodyR_len r
  have hx := got_ok hr.kind hg
  have hok : okP r ↔ x.cells = r.cells := ⟨fun ⟨y, h1, h2⟩ => by rw [hg] at h1; cases h1; exact h2, fun h => ⟨x, hg, h⟩⟩
  refine Spc.enter Try.func15 rfl rfl rfl (fun w0 hw0 => ?_)
  refine CW.seq ?_
  refine CW.region (ef := [0]) (bk := []) ?_
  refine RL.box rfl rfl rfl rfl rfl rfl ?_
  intro b1
  refine RL.assign rfl rfl rfl rfl ?_
  refine RL.assign rfl rfl rfl rfl ?_
  refine RL.nil ?_
  refine NQ.seq ?_
  refine CW.seq ?_
  refine CW.seq ?_
  refine CW.region (ef := []) (bk := []) ?_
  refine RL.fieldAddr fa_33_0 rfl rfl rfl rfl ?_
  refine RL.load Try.isAgg3 rfl rfl rfl rfl (by first | assumption | (apply Rd.get; (solve | (repeat (first | exact List.Mem.head _ | apply List.Mem.tail))); assumption) | (apply Rd.getS; (solve | (repeat (first | exact List.Mem.head _ | apply List.Mem.tail))); assumption) | (apply Rd.getO; (solve | (repeat (first | exact List.Mem.head _ | apply List.Mem.tail))); assumption) | (apply Rd.getI; (solve | (repeat (first | exact List.Mem.head _ | apply List.Mem.tail))); assumption) | (apply Rd.cel; (solve | (repeat (first | exact List.Mem.head _ | apply List.Mem.tail))); exact rfl) | (apply Rd.celI; (solve | (repeat (first | exact List.Mem.head _ | apply List.Mem.tail))); exact rfl)) ?_
  refine RL.callv (size_any r.kind) Try.call17 rfl rfl rfl rfl (by repeat (first | exact Lend.nil | (refine Lend.inI ?_ ?_; (solve | (repeat (first | exact List.Mem.head _ | apply List.Mem.tail)))) | (refine Lend.inH ?_ ?_; (solve | (repeat (first | exact List.Mem.head _ | apply List.Mem.tail)))))) ?_
  refine RL.move rfl rfl rfl rfl ?_
  -- STOP: op; op 4: d=13 ["extract", ["t", 9], 0] guard=None (kind.go:123)
  rw [hs]
  refine RL.extract rfl rfl rfl rfl rfl ?_
  refine RL.extract rfl rfl rfl rfl rfl ?_
  refine RL.assign rfl rfl rfl rfl ?_
  refine RL.assign rfl rfl rfl rfl ?_
  refine RL.nil ?_
  refine NQ.seq ?_
  refine CW.only (.cons (k := 1) rfl (.cons (k := 2) rfl (.cons (k := 3) rfl (.cons (k := 5) rfl .nil)))) ?_
  refine CW.seq ?_
  refine CW.region (ef := []) (bk := []) ?_
  refine RL.move rfl rfl rfl rfl ?_
  refine RL.bin rfl rfl rfl rfl rfl rfl ?_
  refine RL.nil ?_
  refine NQ.seq ?_
  -- STOP: if; todo top: ["code", ["cond", ["t", 16], ["seq", ["region", 3, [{"d": 17, "op": ["move", ["t", 5]], "ty": 35, "pos": "kind.go:124", "after": [], "guard": null}, {"d": 2, "op": ["assign", ["c", ["nilslice"]]], "ty
  refine CW.condF rfl (rfl) ?_
  refine CW.skip ?_
  refine NQ.seq ?_
  refine CW.seq ?_
  -- STOP: region; todo top: ["code", ["region", 4, [{"d": 18, "op": ["build", 175, []], "ty": 175, "pos": "kind.go:126", "after": [], "guard": null}, {"d": 19, "op": ["box", 175, ["t", 18]], "ty": 173, "pos": "kind.go:126", "aft
  refine CW.ownNone (e := 5) 1 ?_
  refine CW.region (ef := [1]) (bk := []) ?_
  refine RL.buildS _ Try.zeroValue175 pl_175 rfl rfl rfl rfl rfl ?_
  refine RL.box rfl rfl rfl rfl rfl rfl ?_
  intro b2
  refine RL.assign rfl rfl rfl rfl ?_
  refine RL.nil ?_
  refine NQ.seq ?_
  refine CW.only (.cons (k := 1) rfl (.cons (k := 6) rfl .nil)) ?_
  refine CW.seq ?_
  refine CW.region (ef := [2]) (bk := [2]) ?_
  refine RL.move rfl rfl rfl rfl ?_
  refine RL.loadW Try.isAgg33 Try.sizeOf33 rfl rfl rfl rfl (by repeat (first | exact List.Mem.head _ | apply List.Mem.tail)) (by first | rfl | assumption | (simp only [List.length_map]; assumption) | (simp only [List.length_map, List.length_replicate]; done) | (simp; done)) ?_
  refine RL.call (wput_all b2 r hk hr) Try.call81 rfl rfl rfl rfl rfl (by repeat (first | exact Pick.nil | apply Pick.take | apply Pick.leave)) (by repeat (first | exact Lend.nil | (refine Lend.inI ?_ ?_; (solve | (repeat (first | exact List.Mem.head _ | apply List.Mem.tail)))) | (refine Lend.inH ?_ ?_; (solve | (repeat (first | exact List.Mem.head _ | apply List.Mem.tail)))))) (.inr rfl) ?_
  -- STOP: called; todo top: ["code", ["region", 5, [{"d": 20, "op": ["move", ["t", 6]], "ty": 173, "pos": "kind.go:127", "after": [], "guard": null}, {"d": 21, "op": ["load", 33, ["t", 1]], "ty": 33, "pos": "kind.go:127", "after
  rintro _ _ _ ⟨rfl, ob, cap, rfl⟩
  refine RL.nil ?_
  refine NQ.seq ?_
  refine CW.seq ?_
  refine CW.seq ?_
  -- STOP: region; todo top: ["code", ["region", 6, [{"d": 24, "op": ["fieldAddr", 33, ["t", 1], 0], "ty": 0, "pos": "kind.go:129", "after": [], "guard": null}, {"d": 25, "op": ["load", 3, ["t", 24]], "ty": 3, "pos": "kind.go:129
  refine CW.fact (p := (bodyR r).length ≤ cap) (fun w hC => own_cap (hC.s.h (own ob cap 5 1 (bodyR r).length (bytes (bodyR r))) (by repeat (first | exact List.Mem.head _ | apply List.Mem.tail)))) (fun hcap => ?_)
  refine CW.regionD (Sq.of [0, 1, 2, 3, 4, 5, 6, 7, 8, 9, 10, 11, 12]) [10, 11] [11] [0, 2, 3, 4, 7, 8, 9, 12] mixed (by kernel_rfl) ?_
  refine RL.fieldAddr fa_33_0 rfl rfl rfl rfl ?_
  refine RL.load Try.isAgg3 rfl rfl rfl rfl (by first | assumption | (apply Rd.get; (solve | (repeat (first | exact List.Mem.head _ | apply List.Mem.tail))); assumption) | (apply Rd.getS; (solve | (repeat (first | exact List.Mem.head _ | apply List.Mem.tail))); assumption) | (apply Rd.getO; (solve | (repeat (first | exact List.Mem.head _ | apply List.Mem.tail))); assumption) | (apply Rd.getI; (solve | (repeat (first | exact List.Mem.head _ | apply List.Mem.tail))); assumption) | (apply Rd.cel; (solve | (repeat (first | exact List.Mem.head _ | apply List.Mem.tail))); exact rfl) | (apply Rd.celI; (solve | (repeat (first | exact List.Mem.head _ | apply List.Mem.tail))); exact rfl)) ?_
  refine RL.move rfl rfl rfl rfl ?_
  refine RL.nilCheck rfl rfl rfl rfl ?_
  refine RL.fieldAddr fa_175_0 rfl rfl rfl rfl ?_
  refine RL.load Try.isAgg34 rfl rfl rfl rfl (by first | assumption | (apply Rd.get; (solve | (repeat (first | exact List.Mem.head _ | apply List.Mem.tail))); assumption) | (apply Rd.getS; (solve | (repeat (first | exact List.Mem.head _ | apply List.Mem.tail))); assumption) | (apply Rd.getO; (solve | (repeat (first | exact List.Mem.head _ | apply List.Mem.tail))); assumption) | (apply Rd.getI; (solve | (repeat (first | exact List.Mem.head _ | apply List.Mem.tail))); assumption) | (apply Rd.cel; (solve | (repeat (first | exact List.Mem.head _ | apply List.Mem.tail))); exact rfl) | (apply Rd.celI; (solve | (repeat (first | exact List.Mem.head _ | apply List.Mem.tail))); exact rfl)) ?_
  refine RL.callv (get_any r.kind (ob.map fun b => ⟨b, 0, none⟩) (bodyR r).length cap (bodyR r) rfl hcap (by omega)) Try.call23 rfl rfl rfl rfl (Lend.own (by repeat (first | exact List.Mem.head _ | apply List.Mem.tail)) .nil) ?_
  refine RL.move rfl rfl rfl rfl ?_
  -- STOP: op; op 8: d=31 ["extract", ["t", 23], 0] guard=None (kind.go:129)
  rw [hg]
  unfold gotV
  refine RL.extract rfl rfl rfl rfl rfl ?_
  refine RL.extract rfl rfl rfl rfl rfl ?_
  refine RL.alloc Try.zeroValue33 rfl rfl rfl rfl rfl ?_
  intro b3
  refine RL.storeW Try.sizeOf33 rfl rfl rfl rfl rfl rfl rfl (by first | rfl | exact ones_map one8 _ | exact ones_map (fun _ => rfl) _) (by repeat (first | exact Upd.here | apply Upd.there)) (by first | rfl | assumption | (simp only [List.length_map]; assumption) | (simp only [List.length_map, List.length_replicate]; done) | (simp; done)) (by first | rfl | assumption | (simp only [List.length_map]; assumption) | (simp only [List.length_map, List.length_replicate]; done) | (simp; done)) ?_
  refine RL.assign rfl rfl rfl rfl ?_
  refine RL.nil ?_
  refine NQ.seq ?_
  refine CW.only (.cons (k := 1) rfl (.cons (k := 6) rfl (.cons (k := 7) rfl (.cons (k := 8) rfl .nil)))) ?_
  refine CW.seq ?_
  refine CW.region (ef := []) (bk := []) ?_
  refine RL.move rfl rfl rfl rfl ?_
  refine RL.bin rfl rfl rfl rfl rfl rfl ?_
  refine RL.move rfl rfl rfl rfl ?_
  -- STOP: part 35; op 3: d=36 ["load", 33, ["t", 7]] guard=[2, False] (kind.go:129)
  refine RL.cast (d := 35) (v' := .bool false) rfl (rfl) ?_
  refine RL.loadW Try.isAgg33 Try.sizeOf33 rfl rfl rfl rfl (by repeat (first | exact List.Mem.head _ | apply List.Mem.tail)) (by first | rfl | assumption | (simp only [List.length_map]; assumption) | (simp only [List.length_map, List.length_replicate]; done) | (simp; done)) ?_
  refine RL.loadW Try.isAgg33 Try.sizeOf33 rfl rfl rfl rfl (by repeat (first | exact List.Mem.head _ | apply List.Mem.tail)) (by first | rfl | assumption | (simp only [List.length_map]; assumption) | (simp only [List.length_map, List.length_replicate]; done) | (simp; done)) ?_
  -- STOP: op; op 5: d=38 ["binOp", "Go.BinOp.neq", 33, ["t", 36], ["t", 37], 33] guard=[2, False] (kind.go:129)
  obtain ⟨c, hc⟩ : ∃ c : Bool, c = true ↔ x.cells = r.cells := ⟨@decide _ (Classical.propDecidable (x.cells = r.cells)), by simp⟩
  refine RL.cmp rfl rfl rfl rfl rfl (neq_rdg (r := c) hx hr hc _ _) ?_
  refine RL.pickF rfl rfl rfl rfl rfl ?_
  refine RL.nil ?_
  refine NQ.seq ?_
  refine CW.only (.cons (k := 6) rfl (.cons (k := 39) rfl .nil)) ?_
  -- STOP: if; todo top: ["code", ["cond", ["t", 39], ["seq", ["region", 8, [{"d": 2, "op": ["assign", ["c", ["nilslice"]]], "ty": 34, "pos": "kind.go:130", "after": [], "guard": null}, {"d": 3, "op": ["assign", ["c", ["int",
  refine CW.cond rfl (fun hne => ?_) (fun hne => ?_)
  ·
    refine CW.seq ?_
    refine CW.region (ef := []) (bk := []) ?_
    refine RL.assign rfl rfl rfl rfl ?_
    refine RL.assign rfl rfl rfl rfl ?_
    refine RL.nil ?_
    refine NQ.seq ?_
    refine CW.ret ?_
    refine RQ.seq ?_
    -- STOP: ret; end
    have hno : ¬ okP r := by
      rw [hok, ← hc]
      intro e
      rw [e] at hne
      cases hne
    obtain ⟨e1, e2⟩ := put_no hno
    refine RQ.ownNone (e := 5) 1 ?_
    unfold PutR
    rw [e1, e2]
    exact RQ.post (res2 rfl rfl rfl) (.keep (Split.none _)) ⟨none, 0, rfl, rfl, rfl⟩
  ·
    refine CW.skip ?_
    refine NQ.seq ?_
    refine CW.seq ?_
    refine CW.region (ef := []) (bk := []) ?_
    refine RL.move rfl rfl rfl rfl ?_
    refine RL.nilCheck rfl rfl rfl rfl ?_
    refine RL.fieldAddr fa_175_0 rfl rfl rfl rfl ?_
    refine RL.load Try.isAgg34 rfl rfl rfl rfl (by first | assumption | (apply Rd.get; (solve | (repeat (first | exact List.Mem.head _ | apply List.Mem.tail))); assumption) | (apply Rd.getS; (solve | (repeat (first | exact List.Mem.head _ | apply List.Mem.tail))); assumption) | (apply Rd.getO; (solve | (repeat (first | exact List.Mem.head _ | apply List.Mem.tail))); assumption) | (apply Rd.getI; (solve | (repeat (first | exact List.Mem.head _ | apply List.Mem.tail))); assumption) | (apply Rd.cel; (solve | (repeat (first | exact List.Mem.head _ | apply List.Mem.tail))); exact rfl) | (apply Rd.celI; (solve | (repeat (first | exact List.Mem.head _ | apply List.Mem.tail))); exact rfl)) ?_
    refine RL.assign rfl rfl rfl rfl ?_
    refine RL.assign rfl rfl rfl rfl ?_
    refine RL.nil ?_
    refine NQ.seq ?_
    refine CW.only (.cons (k := 2) rfl (.cons (k := 3) rfl .nil)) ?_
    refine CW.ret ?_
    -- STOP: ret; end
    have hyes : okP r := by
      rw [hok, ← hc]
      cases c with
      | true => rfl
      | false => cases hne
    obtain ⟨e1, e2⟩ := put_yes hyes
    unfold PutR
    rw [e1, e2]
    exact RQ.post (res2 rfl rfl rfl) (.drop (.drop (.keep (Split.none _)))) ⟨ob, cap, rfl, rfl, rfl⟩
theorem put_any (r : Rdg) (hr : r.Ok) : Spc Try.prog 15 #[.agg r.cells.toArray] [] [] (PutR r) := by
  by_cases hk : 1 ≤ r.kind ∧ r.kind ≤ 14
  · cases hg : gotR r.kind (bodyR r) with
    | none => exact put_none r hr hk hg
    | some x => exact put_some r x hr hk hg
  · exact put_bad r hk
end Go.Proofs.Ytflpiaeffnoepaa
