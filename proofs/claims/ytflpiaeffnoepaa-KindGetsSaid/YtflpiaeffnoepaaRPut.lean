import Derived.Test.YtflpiaeffnoepaaRBody1
import Derived.Test.YtflpiaeffnoepaaSize
namespace Go.Proofs.Ytflpiaeffnoepaa
open Go.PK

theorem rbody_any (r : Rdg) (hr : r.Ok) : Spc Try.prog 82 #[.agg r.cells.toArray] [] [] (OwnB (bodyR r)) := by
  by_cases h1 : r.kind = 1
  · exact rbody_1 r h1 hr
  by_cases h2 : r.kind = 2
  · exact rbody_2 r h2 hr
  by_cases h3 : r.kind = 3
  · exact rbody_3 r h3 hr
  by_cases h4 : r.kind = 4
  · exact rbody_4 r h4 hr
  by_cases h5 : r.kind = 5
  · exact rbody_5 r h5 hr
  by_cases h6 : r.kind = 6
  · exact rbody_6 r h6 hr
  by_cases h7 : r.kind = 7
  · exact rbody_7 r h7 hr
  by_cases h8 : r.kind = 8
  · exact rbody_8 r h8 hr
  by_cases h10 : r.kind = 10
  · exact rbody_10 r h10 hr
  by_cases h12 : r.kind = 12
  · exact rbody_12 r h12 hr
  by_cases h13 : r.kind = 13
  · exact rbody_13 r h13 hr
  by_cases h14 : r.kind = 14
  · exact rbody_14 r h14 hr
  exact rbody_none r ⟨h1, h2, h3, h4, h5, h6, h7, h8, h10, h12, h13, h14⟩

theorem rput_bad (r : Rdg) (hk : ¬ (1 ≤ r.kind ∧ r.kind ≤ 14)) : Spc Try.prog 16 #[.agg r.cells.toArray] [] [] (PutR r) := by
  have hs : sizeV r.kind = .tuple #[.int .i64 0, .int .i64 120] := by rw [sizeV, if_neg hk]
  obtain ⟨e1, e2⟩ := put_no (not_okP hk)
  refine Spc.enter Try.func16 rfl rfl rfl (fun w0 hw0 => ?_)
  refine CW.seq ?_
  refine CW.region (ef := [0]) (bk := []) ?_
  refine RL.box rfl rfl rfl rfl rfl rfl ?_
  intro b1
  refine RL.assign rfl rfl rfl rfl ?_
  refine RL.assign rfl rfl rfl rfl ?_
  refine RL.nil ?_
  refine NQ.seq ?_
  refine CW.seq ?_
  refine CW.seq ?_
  refine CW.region (ef := []) (bk := []) ?_
  refine RL.fieldAddr fa_33_0 rfl rfl rfl rfl ?_
  refine RL.load Try.isAgg3 rfl rfl rfl rfl (by first | assumption | (apply Rd.get; (solve | (repeat (first | exact List.Mem.head _ | apply List.Mem.tail))); assumption) | (apply Rd.getS; (solve | (repeat (first | exact List.Mem.head _ | apply List.Mem.tail))); assumption) | (apply Rd.getO; (solve | (repeat (first | exact List.Mem.head _ | apply List.Mem.tail))); assumption) | (apply Rd.getI; (solve | (repeat (first | exact List.Mem.head _ | apply List.Mem.tail))); assumption) | (apply Rd.cel; (solve | (repeat (first | exact List.Mem.head _ | apply List.Mem.tail))); exact rfl) | (apply Rd.celI; (solve | (repeat (first | exact List.Mem.head _ | apply List.Mem.tail))); exact rfl)) ?_
  refine RL.callv (rsize_any r.kind) Try.call18 rfl rfl rfl rfl (by repeat (first | exact Lend.nil | (refine Lend.inI ?_ ?_; (solve | (repeat (first | exact List.Mem.head _ | apply List.Mem.tail)))) | (refine Lend.inH ?_ ?_; (solve | (repeat (first | exact List.Mem.head _ | apply List.Mem.tail)))))) ?_
  refine RL.move rfl rfl rfl rfl ?_
  -- STOP: op; op 4: d=13 ["extract", ["t", 9], 0] guard=None (ref.go:132)
  rw [hs]
  refine RL.extract rfl rfl rfl rfl rfl ?_
  refine RL.extract rfl rfl rfl rfl rfl ?_
  refine RL.assign rfl rfl rfl rfl ?_
  refine RL.assign rfl rfl rfl rfl ?_
  refine RL.nil ?_
  refine NQ.seq ?_
  refine CW.only (.cons (k := 1) rfl (.cons (k := 2) rfl (.cons (k := 3) rfl (.cons (k := 5) rfl .nil)))) ?_
  refine CW.seq ?_
  refine CW.region (ef := []) (bk := []) ?_
  refine RL.move rfl rfl rfl rfl ?_
  refine RL.bin rfl rfl rfl rfl rfl rfl ?_
  refine RL.nil ?_
  refine NQ.seq ?_
  -- STOP: if; todo top: ["code", ["cond", ["t", 16], ["seq", ["region", 3, [{"d": 17, "op": ["move", ["t", 5]], "ty": 35, "pos": "ref.go:133", "after": [], "guard": null}, {"d": 2, "op": ["assign", ["c", ["nilslice"]]], "ty"
  refine CW.condT rfl (rfl) ?_
  refine CW.seq ?_
  refine CW.region (ef := []) (bk := []) ?_
  refine RL.move rfl rfl rfl rfl ?_
  refine RL.assign rfl rfl rfl rfl ?_
  refine RL.assign rfl rfl rfl rfl ?_
  refine RL.nil ?_
  refine NQ.seq ?_
  refine CW.ret ?_
  refine RQ.seq ?_
  -- STOP: ret; end
  refine RQ.ownNone (e := 5) 1 ?_
  unfold PutR
  rw [e1, e2]
  exact RQ.post (res2 rfl rfl rfl) (.keep (Split.none _)) ⟨none, 0, rfl, rfl, rfl⟩

theorem rput_none (r : Rdg) (hr : r.Ok) (hk : 1 ≤ r.kind ∧ r.kind ≤ 14) (hg : gotR r.kind (bodyR r) = none) : Spc Try.prog 16 #[.agg r.cells.toArray] [] [] (PutR r) := by
  have hs : sizeV r.kind = .tuple #[.int .i64 (sizeR r.kind : Int), .int .i64 0] := by rw [sizeV, if_pos hk]
  have hbl := bodyR_len r
  have hno : ¬ okP r := by
    rintro ⟨x, hx, -⟩
    rw [hg] at hx
    cases hx
  obtain ⟨e1, e2⟩ := put_no hno
  refine Spc.enter Try.func16 rfl rfl rfl (fun w0 hw0 => ?_)
  refine CW.seq ?_
  refine CW.region (ef := [0]) (bk := []) ?_
  refine RL.box rfl rfl rfl rfl rfl rfl ?_
  intro b1
  refine RL.assign rfl rfl rfl rfl ?_
  refine RL.assign rfl rfl rfl rfl ?_
  refine RL.nil ?_
  refine NQ.seq ?_
  refine CW.seq ?_
  refine CW.seq ?_
  refine CW.region (ef := []) (bk := []) ?_
  refine RL.fieldAddr fa_33_0 rfl rfl rfl rfl ?_
  refine RL.load Try.isAgg3 rfl rfl rfl rfl (by first | assumption | (apply Rd.get; (solve | (repeat (first | exact List.Mem.head _ | apply List.Mem.tail))); assumption) | (apply Rd.getS; (solve | (repeat (first | exact List.Mem.head _ | apply List.Mem.tail))); assumption) | (apply Rd.getO; (solve | (repeat (first | exact List.Mem.head _ | apply List.Mem.tail))); assumption) | (apply Rd.getI; (solve | (repeat (first | exact List.Mem.head _ | apply List.Mem.tail))); assumption) | (apply Rd.cel; (solve | (repeat (first | exact List.Mem.head _ | apply List.Mem.tail))); exact rfl) | (apply Rd.celI; (solve | (repeat (first | exact List.Mem.head _ | apply List.Mem.tail))); exact rfl)) ?_
  refine RL.callv (rsize_any r.kind) Try.call18 rfl rfl rfl rfl (by repeat (first | exact Lend.nil | (refine Lend.inI ?_ ?_; (solve | (repeat (first | exact List.Mem.head _ | apply List.Mem.tail)))) | (refine Lend.inH ?_ ?_; (solve | (repeat (first | exact List.Mem.head _ | apply List.Mem.tail)))))) ?_
  refine RL.move rfl rfl rfl rfl ?_
  -- STOP: op; op 4: d=13 ["extract", ["t", 9], 0] guard=None (ref.go:132)
  rw [hs]
  refine RL.extract rfl rfl rfl rfl rfl ?_
  refine RL.extract rfl rfl rfl rfl rfl ?_
  refine RL.assign rfl rfl rfl rfl ?_
  refine RL.assign rfl rfl rfl rfl ?_
  refine RL.nil ?_
  refine NQ.seq ?_
  refine CW.only (.cons (k := 1) rfl (.cons (k := 2) rfl (.cons (k := 3) rfl (.cons (k := 5) rfl .nil)))) ?_
  refine CW.seq ?_
  refine CW.region (ef := []) (bk := []) ?_
  refine RL.move rfl rfl rfl rfl ?_
  refine RL.bin rfl rfl rfl rfl rfl rfl ?_
  refine RL.nil ?_
  refine NQ.seq ?_
  -- STOP: if; todo top: ["code", ["cond", ["t", 16], ["seq", ["region", 3, [{"d": 17, "op": ["move", ["t", 5]], "ty": 35, "pos": "ref.go:133", "after": [], "guard": null}, {"d": 2, "op": ["assign", ["c", ["nilslice"]]], "ty"
  refine CW.condF rfl (rfl) ?_
  refine CW.skip ?_
  refine NQ.seq ?_
  refine CW.seq ?_
  refine CW.region (ef := [1]) (bk := []) ?_
  refine RL.loadW Try.isAgg33 Try.sizeOf33 rfl rfl rfl rfl (by repeat (first | exact List.Mem.head _ | apply List.Mem.tail)) (by first | rfl | assumption | (simp only [List.length_map]; assumption) | (simp only [List.length_map, List.length_replicate]; done) | (simp; done)) ?_
  refine RL.call (rbody_any r hr) Try.call82 rfl rfl rfl rfl rfl (by repeat (first | exact Pick.nil | apply Pick.take | apply Pick.leave)) (by repeat (first | exact Lend.nil | (refine Lend.inI ?_ ?_; (solve | (repeat (first | exact List.Mem.head _ | apply List.Mem.tail)))) | (refine Lend.inH ?_ ?_; (solve | (repeat (first | exact List.Mem.head _ | apply List.Mem.tail)))))) (.inl rfl) ?_
  rintro _ _ _ ⟨ob1, cap1, rfl, rfl, rfl, ho1⟩
  refine RL.assign rfl rfl rfl rfl ?_
  refine RL.nil ?_
  refine NQ.seq ?_
  refine CW.only (.cons (k := 1) rfl (.cons (k := 6) rfl .nil)) ?_
  refine CW.seq ?_
  -- STOP: region; todo top: ["code", ["region", 5, [{"d": 21, "op": ["fieldAddr", 33, ["t", 1], 0], "ty": 0, "pos": "ref.go:136", "after": [], "guard": null}, {"d": 22, "op": ["load", 3, ["t", 21]], "ty": 3, "pos": "ref.go:136",
  refine CW.region (ef := [7, 8]) (bk := [8]) ?_
  refine RL.fieldAddr fa_33_0 rfl rfl rfl rfl ?_
  refine RL.load Try.isAgg3 rfl rfl rfl rfl (by first | assumption | (apply Rd.get; (solve | (repeat (first | exact List.Mem.head _ | apply List.Mem.tail))); assumption) | (apply Rd.getS; (solve | (repeat (first | exact List.Mem.head _ | apply List.Mem.tail))); assumption) | (apply Rd.getO; (solve | (repeat (first | exact List.Mem.head _ | apply List.Mem.tail))); assumption) | (apply Rd.getI; (solve | (repeat (first | exact List.Mem.head _ | apply List.Mem.tail))); assumption) | (apply Rd.cel; (solve | (repeat (first | exact List.Mem.head _ | apply List.Mem.tail))); exact rfl) | (apply Rd.celI; (solve | (repeat (first | exact List.Mem.head _ | apply List.Mem.tail))); exact rfl)) ?_
  refine RL.move rfl rfl rfl rfl ?_
  refine RL.callv (rgot_any r.kind (ob1.map fun b => ⟨b, 0, none⟩) (bodyR r).length cap1 (bodyR r) rfl (by omega)) Try.call25 rfl rfl rfl rfl (Lend.own (by repeat (first | exact List.Mem.head _ | apply List.Mem.tail)) .nil) ?_
  refine RL.move rfl rfl rfl rfl ?_
  -- STOP: op; op 5: d=25 ["extract", ["t", 20], 0] guard=None (ref.go:136)
  rw [hg]
  unfold gotV
  refine RL.extract rfl rfl rfl rfl rfl ?_
  refine RL.extract rfl rfl rfl rfl rfl ?_
  refine RL.alloc Try.zeroValue33 rfl rfl rfl rfl rfl ?_
  intro b2
  refine RL.storeW Try.sizeOf33 rfl rfl rfl rfl rfl rfl rfl (by first | rfl | exact ones_map one8 _ | exact ones_map (fun _ => rfl) _) (by repeat (first | exact Upd.here | apply Upd.there)) (by first | rfl | assumption | (simp only [List.length_map]; assumption) | (simp only [List.length_map, List.length_replicate]; done) | (simp; done)) (by first | rfl | assumption | (simp only [List.length_map]; assumption) | (simp only [List.length_map, List.length_replicate]; done) | (simp; done)) ?_
  refine RL.assign rfl rfl rfl rfl ?_
  refine RL.nil ?_
  refine NQ.seq ?_
  refine CW.only (.cons (k := 1) rfl (.cons (k := 6) rfl (.cons (k := 7) rfl (.cons (k := 8) rfl .nil)))) ?_
  refine CW.seq ?_
  refine CW.seq ?_
  refine CW.region (ef := []) (bk := []) ?_
  refine RL.move rfl rfl rfl rfl ?_
  refine RL.bin rfl rfl rfl rfl rfl rfl ?_
  refine RL.move rfl rfl rfl rfl ?_
  -- STOP: part 29; op 3: d=30 ["load", 33, ["t", 7]] guard=[2, False] (ref.go:137)
  refine RL.cast (d := 29) (v' := .bool true) rfl (rfl) ?_
  refine RL.skip rfl rfl rfl rfl ?_
  refine RL.skip rfl rfl rfl rfl ?_
  refine RL.skip rfl rfl rfl rfl ?_
  refine RL.pickT rfl rfl rfl rfl rfl ?_
  refine RL.nil ?_
  refine NQ.seq ?_
  refine CW.only (.cons (k := 6) rfl (.cons (k := 33) rfl .nil)) ?_
  refine CW.condT rfl rfl ?_
  refine CW.seq ?_
  refine CW.region (ef := []) (bk := []) ?_
  refine RL.assign rfl rfl rfl rfl ?_
  refine RL.assign rfl rfl rfl rfl ?_
  refine RL.nil ?_
  refine NQ.seq ?_
  refine CW.ret ?_
  refine RQ.seq ?_
  -- STOP: ret; end
  refine RQ.ownNone (e := 5) 1 ?_
  unfold PutR
  rw [e1, e2]
  exact RQ.post (res2 rfl rfl rfl) (.keep (Split.none _)) ⟨none, 0, rfl, rfl, rfl⟩
theorem rput_some (r x : Rdg) (hr : r.Ok) (hk : 1 ≤ r.kind ∧ r.kind ≤ 14) (hg : gotR r.kind (bodyR r) = some x) : Spc Try.prog 16 #[.agg r.cells.toArray] [] [] (PutR r) := by
  have hs : sizeV r.kind = .tuple #[.int .i64 (sizeR r.kind : Int), .int .i64 0] := by rw [sizeV, if_pos hk]
  have hbl := bodyR_len r
  have hx := got_ok hr.kind hg
  have hok : okP r ↔ x.cells = r.cells := ⟨fun ⟨y, h1, h2⟩ => by rw [hg] at h1; cases h1; exact h2, fun h => ⟨x, hg, h⟩⟩
  refine Spc.enter Try.func16 rfl rfl rfl (fun w0 hw0 => ?_)
  refine CW.seq ?_
  refine CW.region (ef := [0]) (bk := []) ?_
  refine RL.box rfl rfl rfl rfl rfl rfl ?_
  intro b1
  refine RL.assign rfl rfl rfl rfl ?_
  refine RL.assign rfl rfl rfl rfl ?_
  refine RL.nil ?_
  refine NQ.seq ?_
  refine CW.seq ?_
  refine CW.seq ?_
  refine CW.region (ef := []) (bk := []) ?_
  refine RL.fieldAddr fa_33_0 rfl rfl rfl rfl ?_
  refine RL.load Try.isAgg3 rfl rfl rfl rfl (by first | assumption | (apply Rd.get; (solve | (repeat (first | exact List.Mem.head _ | apply List.Mem.tail))); assumption) | (apply Rd.getS; (solve | (repeat (first | exact List.Mem.head _ | apply List.Mem.tail))); assumption) | (apply Rd.getO; (solve | (repeat (first | exact List.Mem.head _ | apply List.Mem.tail))); assumption) | (apply Rd.getI; (solve | (repeat (first | exact List.Mem.head _ | apply List.Mem.tail))); assumption) | (apply Rd.cel; (solve | (repeat (first | exact List.Mem.head _ | apply List.Mem.tail))); exact rfl) | (apply Rd.celI; (solve | (repeat (first | exact List.Mem.head _ | apply List.Mem.tail))); exact rfl)) ?_
  refine RL.callv (rsize_any r.kind) Try.call18 rfl rfl rfl rfl (by repeat (first | exact Lend.nil | (refine Lend.inI ?_ ?_; (solve | (repeat (first | exact List.Mem.head _ | apply List.Mem.tail)))) | (refine Lend.inH ?_ ?_; (solve | (repeat (first | exact List.Mem.head _ | apply List.Mem.tail)))))) ?_
  refine RL.move rfl rfl rfl rfl ?_
  -- STOP: op; op 4: d=13 ["extract", ["t", 9], 0] guard=None (ref.go:132)
  rw [hs]
  refine RL.extract rfl rfl rfl rfl rfl ?_
  refine RL.extract rfl rfl rfl rfl rfl ?_
  refine RL.assign rfl rfl rfl rfl ?_
  refine RL.assign rfl rfl rfl rfl ?_
  refine RL.nil ?_
  refine NQ.seq ?_
  refine CW.only (.cons (k := 1) rfl (.cons (k := 2) rfl (.cons (k := 3) rfl (.cons (k := 5) rfl .nil)))) ?_
  refine CW.seq ?_
  refine CW.region (ef := []) (bk := []) ?_
  refine RL.move rfl rfl rfl rfl ?_
  refine RL.bin rfl rfl rfl rfl rfl rfl ?_
  refine RL.nil ?_
  refine NQ.seq ?_
  -- STOP: if; todo top: ["code", ["cond", ["t", 16], ["seq", ["region", 3, [{"d": 17, "op": ["move", ["t", 5]], "ty": 35, "pos": "ref.go:133", "after": [], "guard": null}, {"d": 2, "op": ["assign", ["c", ["nilslice"]]], "ty"
  refine CW.condF rfl (rfl) ?_
  refine CW.skip ?_
  refine NQ.seq ?_
  refine CW.seq ?_
  refine CW.region (ef := [1]) (bk := []) ?_
  refine RL.loadW Try.isAgg33 Try.sizeOf33 rfl rfl rfl rfl (by repeat (first | exact List.Mem.head _ | apply List.Mem.tail)) (by first | rfl | assumption | (simp only [List.length_map]; assumption) | (simp only [List.length_map, List.length_replicate]; done) | (simp; done)) ?_
  refine RL.call (rbody_any r hr) Try.call82 rfl rfl rfl rfl rfl (by repeat (first | exact Pick.nil | apply Pick.take | apply Pick.leave)) (by repeat (first | exact Lend.nil | (refine Lend.inI ?_ ?_; (solve | (repeat (first | exact List.Mem.head _ | apply List.Mem.tail)))) | (refine Lend.inH ?_ ?_; (solve | (repeat (first | exact List.Mem.head _ | apply List.Mem.tail)))))) (.inl rfl) ?_
  rintro _ _ _ ⟨ob1, cap1, rfl, rfl, rfl, ho1⟩
  refine RL.assign rfl rfl rfl rfl ?_
  refine RL.nil ?_
  refine NQ.seq ?_
  refine CW.only (.cons (k := 1) rfl (.cons (k := 6) rfl .nil)) ?_
  refine CW.seq ?_
  -- STOP: region; todo top: ["code", ["region", 5, [{"d": 21, "op": ["fieldAddr", 33, ["t", 1], 0], "ty": 0, "pos": "ref.go:136", "after": [], "guard": null}, {"d": 22, "op": ["load", 3, ["t", 21]], "ty": 3, "pos": "ref.go:136",
  refine CW.region (ef := [7, 8]) (bk := [8]) ?_
  refine RL.fieldAddr fa_33_0 rfl rfl rfl rfl ?_
  refine RL.load Try.isAgg3 rfl rfl rfl rfl (by first | assumption | (apply Rd.get; (solve | (repeat (first | exact List.Mem.head _ | apply List.Mem.tail))); assumption) | (apply Rd.getS; (solve | (repeat (first | exact List.Mem.head _ | apply List.Mem.tail))); assumption) | (apply Rd.getO; (solve | (repeat (first | exact List.Mem.head _ | apply List.Mem.tail))); assumption) | (apply Rd.getI; (solve | (repeat (first | exact List.Mem.head _ | apply List.Mem.tail))); assumption) | (apply Rd.cel; (solve | (repeat (first | exact List.Mem.head _ | apply List.Mem.tail))); exact rfl) | (apply Rd.celI; (solve | (repeat (first | exact List.Mem.head _ | apply List.Mem.tail))); exact rfl)) ?_
  refine RL.move rfl rfl rfl rfl ?_
  refine RL.callv (rgot_any r.kind (ob1.map fun b => ⟨b, 0, none⟩) (bodyR r).length cap1 (bodyR r) rfl (by omega)) Try.call25 rfl rfl rfl rfl (Lend.own (by repeat (first | exact List.Mem.head _ | apply List.Mem.tail)) .nil) ?_
  refine RL.move rfl rfl rfl rfl ?_
  -- STOP: op; op 5: d=25 ["extract", ["t", 20], 0] guard=None (ref.go:136)
  rw [hg]
  unfold gotV
  refine RL.extract rfl rfl rfl rfl rfl ?_
  refine RL.extract rfl rfl rfl rfl rfl ?_
  refine RL.alloc Try.zeroValue33 rfl rfl rfl rfl rfl ?_
  intro b2
  refine RL.storeW Try.sizeOf33 rfl rfl rfl rfl rfl rfl rfl (by first | rfl | exact ones_map one8 _ | exact ones_map (fun _ => rfl) _) (by repeat (first | exact Upd.here | apply Upd.there)) (by first | rfl | assumption | (simp only [List.length_map]; assumption) | (simp only [List.length_map, List.length_replicate]; done) | (simp; done)) (by first | rfl | assumption | (simp only [List.length_map]; assumption) | (simp only [List.length_map, List.length_replicate]; done) | (simp; done)) ?_
  refine RL.assign rfl rfl rfl rfl ?_
  refine RL.nil ?_
  refine NQ.seq ?_
  refine CW.only (.cons (k := 1) rfl (.cons (k := 6) rfl (.cons (k := 7) rfl (.cons (k := 8) rfl .nil)))) ?_
  refine CW.seq ?_
  refine CW.seq ?_
  refine CW.region (ef := []) (bk := []) ?_
  refine RL.move rfl rfl rfl rfl ?_
  refine RL.bin rfl rfl rfl rfl rfl rfl ?_
  refine RL.move rfl rfl rfl rfl ?_
  -- STOP: part 29; op 3: d=30 ["load", 33, ["t", 7]] guard=[2, False] (ref.go:137)
  refine RL.cast (d := 29) (v' := .bool false) rfl (rfl) ?_
  refine RL.loadW Try.isAgg33 Try.sizeOf33 rfl rfl rfl rfl (by repeat (first | exact List.Mem.head _ | apply List.Mem.tail)) (by first | rfl | assumption | (simp only [List.length_map]; assumption) | (simp only [List.length_map, List.length_replicate]; done) | (simp; done)) ?_
  refine RL.loadW Try.isAgg33 Try.sizeOf33 rfl rfl rfl rfl (by repeat (first | exact List.Mem.head _ | apply List.Mem.tail)) (by first | rfl | assumption | (simp only [List.length_map]; assumption) | (simp only [List.length_map, List.length_replicate]; done) | (simp; done)) ?_
  -- STOP: op; op 5: d=32 ["binOp", "Go.BinOp.neq", 33, ["t", 30], ["t", 31], 33] guard=[2, False] (ref.go:137)
  obtain ⟨c, hc⟩ : ∃ c : Bool, c = true ↔ x.cells = r.cells := ⟨@decide _ (Classical.propDecidable (x.cells = r.cells)), by simp⟩
  refine RL.cmp rfl rfl rfl rfl rfl (neq_rdg (r := c) hx hr hc _ _) ?_
  refine RL.pickF rfl rfl rfl rfl rfl ?_
  refine RL.nil ?_
  refine NQ.seq ?_
  refine CW.only (.cons (k := 6) rfl (.cons (k := 33) rfl .nil)) ?_
  -- STOP: if; todo top: ["code", ["cond", ["t", 33], ["seq", ["region", 7, [{"d": 2, "op": ["assign", ["c", ["nilslice"]]], "ty": 34, "pos": "ref.go:138", "after": [], "guard": null}, {"d": 3, "op": ["assign", ["c", ["int", 
  refine CW.cond rfl (fun hne => ?_) (fun hne => ?_)
  ·
    refine CW.seq ?_
    refine CW.region (ef := []) (bk := []) ?_
    refine RL.assign rfl rfl rfl rfl ?_
    refine RL.assign rfl rfl rfl rfl ?_
    refine RL.nil ?_
    refine NQ.seq ?_
    refine CW.ret ?_
    refine RQ.seq ?_
    -- STOP: ret; end
    have hno : ¬ okP r := by
      rw [hok, ← hc]
      intro e
      rw [e] at hne
      cases hne
    obtain ⟨e1, e2⟩ := put_no hno
    refine RQ.ownNone (e := 5) 1 ?_
    unfold PutR
    rw [e1, e2]
    exact RQ.post (res2 rfl rfl rfl) (.keep (Split.none _)) ⟨none, 0, rfl, rfl, rfl⟩
  ·
    refine CW.skip ?_
    refine NQ.seq ?_
    refine CW.seq ?_
    refine CW.region (ef := []) (bk := []) ?_
    refine RL.move rfl rfl rfl rfl ?_
    refine RL.assign rfl rfl rfl rfl ?_
    refine RL.assign rfl rfl rfl rfl ?_
    refine RL.nil ?_
    refine NQ.seq ?_
    refine CW.ret ?_
    -- STOP: ret; end
    have hyes : okP r := by
      rw [hok, ← hc]
      cases c with
      | true => rfl
      | false => cases hne
    obtain ⟨e1, e2⟩ := put_yes hyes
    unfold PutR
    rw [e1, e2]
    exact RQ.post (res2 rfl rfl rfl) (.drop (.keep (Split.none _))) ⟨ob1, cap1, rfl, rfl, rfl⟩
theorem rput_any (r : Rdg) (hr : r.Ok) : Spc Try.prog 16 #[.agg r.cells.toArray] [] [] (PutR r) := by
  by_cases hk : 1 ≤ r.kind ∧ r.kind ≤ 14
  · cases hg : gotR r.kind (bodyR r) with
    | none => exact rput_none r hr hk hg
    | some x => exact rput_some r x hr hk hg
  · exact rput_bad r hk
end Go.Proofs.Ytflpiaeffnoepaa
