import Derived.Test.YtflpiaeffnoepaaRPlace
namespace Go.Proofs.Ytflpiaeffnoepaa
open Go.PK

theorem rput4 (a : Int) : Spc Try.prog 132 #[.int .i32 a] [] [] (OwnN 4 (be4 a)) := OwnB.n (be4_length a) (rsput_any a)
theorem rnum (a : Int) (n : Nat) (hn : n ≤ 8) : Spc Try.prog 134 #[.int .u64 (IntKind.u64.wrap a), .int .i64 (n : Int)] [] [] (OwnN n (beN n (w64 a))) := by
  rw [← w64_eq]
  exact OwnB.n (beN_length _ _) (num12 (w64 a) n (w64_lt a) hn)
theorem rnumT (a : Int) (ha : wfk .u64 a) (n : Nat) (hn : n ≤ 8) : Spc Try.prog 134 #[.int .u64 a, .int .i64 (n : Int)] [] [] (OwnN n (beN n a.toNat)) := by
  have h := wf_u64 ha
  rw [congrArg (Value.int .u64) h.1]
  exact OwnB.n (beN_length _ _) (num12 a.toNat n h.2 hn)
theorem rplace (a b c : Int) : Spc Try.prog 135 #[.agg #[.int .i64 a, .int .i64 b, .int .i64 c]] [] [] (OwnN 24 ([a, b, c].flatMap be8')) := OwnB.n (by simp [be8'_length]) (place_any a b c)
theorem key_in (r : Rdg) : ∀ (j : Nat) (u : Value), (bytes (keyL r.key))[j]? = some u → r.cells[0 + 16 + j]? = some u := by
  intro j u h
  have hl : j < 32 := (List.getElem?_eq_some_iff.1 h).1
  unfold Rdg.cells
  rw [List.getElem?_append_right (by simp), show 0 + 16 + j - List.length _ = j from by simp, List.getElem?_append_left (by exact hl)]
  exact h
attribute [local irreducible] be8' be4 beN
set_option maxHeartbeats 4000000 in
theorem rbody_2 (r : Rdg) (hk : r.kind = 2) (hr : r.Ok) : Spc Try.prog 82 #[.agg r.cells.toArray] [] [] (OwnB (bodyR r)) := by
  refine Spc.enter Try.func82 rfl rfl rfl (fun w0 hw0 => ?_)
  refine CW.seq ?_
  refine CW.region (ef := [0]) (bk := []) ?_
  refine RL.box rfl rfl rfl rfl rfl rfl ?_
  intro b1
  refine RL.assign rfl rfl rfl rfl ?_
  refine RL.nil ?_
  refine NQ.seq ?_
  refine CW.seq ?_
  -- STOP: region; todo top: ["code", ["region", 1, [{"d": 6, "op": ["buildSlice", 34, 0, []], "ty": 34, "pos": "ref.go:35", "after": [], "guard": null}, {"d": 3, "op": ["assign", ["t", 6]], "ty": 34, "pos": "ref.go:35", "after":
  refine CW.freezeAll rfl ?_
  simp only [List.cons_append, List.nil_append]
  refine CW.region (ef := [0]) (bk := []) ?_
  refine RL.buildOwn [] Try.runUnderlying34 Try.sizeOf5 Try.zeroValue5 rfl rfl (by decide) (by decide) rfl (by decide) rfl rfl rfl rfl rfl rfl ?_
  intro b2
  refine RL.assign rfl rfl rfl rfl ?_
  refine RL.nil ?_
  refine NQ.seq ?_
  refine CW.seq ?_
  refine CW.region (ef := []) (bk := []) ?_
  refine RL.fieldAddr fa_33_0 rfl rfl rfl rfl ?_
  refine RL.load Try.isAgg3 rfl rfl rfl rfl (by first | assumption | (apply Rd.get; (solve | (repeat (first | exact List.Mem.head _ | apply List.Mem.tail))); assumption) | (apply Rd.getS; (solve | (repeat (first | exact List.Mem.head _ | apply List.Mem.tail))); assumption) | (apply Rd.getO; (solve | (repeat (first | exact List.Mem.head _ | apply List.Mem.tail))); assumption) | (apply Rd.getI; (solve | (repeat (first | exact List.Mem.head _ | apply List.Mem.tail))); assumption) | (apply Rd.cel; (solve | (repeat (first | exact List.Mem.head _ | apply List.Mem.tail))); exact rfl) | (apply Rd.celI; (solve | (repeat (first | exact List.Mem.head _ | apply List.Mem.tail))); exact rfl)) ?_
  refine RL.nil ?_
  refine NQ.seq ?_
  refine CW.block ?_
  refine CW.seq ?_
  refine CW.region (ef := []) (bk := []) ?_
  refine RL.bin rfl rfl rfl rfl rfl rfl ?_
  refine RL.assign rfl rfl rfl rfl ?_
  refine RL.nil ?_
  refine NQ.seq ?_
  -- STOP: if; todo top: ["code", ["cond", ["t", 10], ["seq", ["seq", ["region", 5, [{"d": 4, "op": ["assign", ["c", ["int", "Go.IntKind.i64", 0]]], "ty": 3, "pos": "ref.go:38", "after": [], "guard": null}], false], ["block",
  refine CW.condF rfl ((by rw [hk]; rfl)) ?_
  refine CW.seq ?_
  refine CW.region (ef := []) (bk := []) ?_
  refine RL.bin rfl rfl rfl rfl rfl rfl ?_
  refine RL.assign rfl rfl rfl rfl ?_
  refine RL.nil ?_
  refine NQ.seq ?_
  refine CW.only (.cons (k := 1) rfl (.cons (k := 3) rfl (.cons (k := 8) rfl (.cons (k := 35) rfl .nil)))) ?_
  -- STOP: if; todo top: ["code", ["cond", ["t", 35], ["seq", ["region", 15, [{"d": 37, "op": ["fieldAddr", 33, ["t", 1], 3], "ty": 0, "pos": "ref.go:46", "after": [], "guard": null}, {"d": 38, "op": ["load", 24, ["t", 37]], 
  refine CW.condT rfl ((by rw [hk]; rfl)) ?_
  refine CW.seq ?_
  refine CW.region (ef := [2]) (bk := []) ?_
  refine RL.fieldAddr fa_33_3 rfl rfl rfl rfl ?_
  refine RL.load Try.isAgg24 rfl rfl rfl rfl (by first | assumption | (apply Rd.get; (solve | (repeat (first | exact List.Mem.head _ | apply List.Mem.tail))); assumption) | (apply Rd.getS; (solve | (repeat (first | exact List.Mem.head _ | apply List.Mem.tail))); assumption) | (apply Rd.getO; (solve | (repeat (first | exact List.Mem.head _ | apply List.Mem.tail))); assumption) | (apply Rd.getI; (solve | (repeat (first | exact List.Mem.head _ | apply List.Mem.tail))); assumption) | (apply Rd.cel; (solve | (repeat (first | exact List.Mem.head _ | apply List.Mem.tail))); exact rfl) | (apply Rd.celI; (solve | (repeat (first | exact List.Mem.head _ | apply List.Mem.tail))); exact rfl)) ?_
  refine RL.call (rsputfix8 r.height) Try.call133 rfl rfl rfl rfl rfl (by repeat (first | exact Pick.nil | apply Pick.take | apply Pick.leave)) (by repeat (first | exact Lend.nil | (refine Lend.inI ?_ ?_; (solve | (repeat (first | exact List.Mem.head _ | apply List.Mem.tail)))) | (refine Lend.inH ?_ ?_; (solve | (repeat (first | exact List.Mem.head _ | apply List.Mem.tail)))))) (.inl rfl) ?_
  rintro _ _ _ ⟨ob1, cap1, rfl, rfl, rfl, ho1⟩
  refine RL.assign rfl rfl rfl rfl ?_
  refine RL.nil ?_
  refine NQ.seq ?_
  refine CW.only (.cons (k := 2) rfl .nil) ?_
  refine CW.ret ?_
  refine RQ.block ?_
  -- STOP: ret; end
  exact RQ.ownB (l := bodyR r) rfl rfl (by first | exact .keep (Split.none _) | exact .drop (.keep (Split.none _)) | exact .drop (.drop (.keep (Split.none _)))) (by unfold bodyR; simp [hk, beN_length, be4_length, be8'_length, keyL]) (by unfold bodyR; simp [hk, keyL]) (by first | assumption | (right; rfl))
set_option maxHeartbeats 4000000 in
theorem rbody_3 (r : Rdg) (hk : r.kind = 3) (hr : r.Ok) : Spc Try.prog 82 #[.agg r.cells.toArray] [] [] (OwnB (bodyR r)) := by
  refine Spc.enter Try.func82 rfl rfl rfl (fun w0 hw0 => ?_)
  refine CW.seq ?_
  refine CW.region (ef := [0]) (bk := []) ?_
  refine RL.box rfl rfl rfl rfl rfl rfl ?_
  intro b1
  refine RL.assign rfl rfl rfl rfl ?_
  refine RL.nil ?_
  refine NQ.seq ?_
  refine CW.seq ?_
  -- STOP: region; todo top: ["code", ["region", 1, [{"d": 6, "op": ["buildSlice", 34, 0, []], "ty": 34, "pos": "ref.go:35", "after": [], "guard": null}, {"d": 3, "op": ["assign", ["t", 6]], "ty": 34, "pos": "ref.go:35", "after":
  refine CW.freezeAll rfl ?_
  simp only [List.cons_append, List.nil_append]
  refine CW.region (ef := [0]) (bk := []) ?_
  refine RL.buildOwn [] Try.runUnderlying34 Try.sizeOf5 Try.zeroValue5 rfl rfl (by decide) (by decide) rfl (by decide) rfl rfl rfl rfl rfl rfl ?_
  intro b2
  refine RL.assign rfl rfl rfl rfl ?_
  refine RL.nil ?_
  refine NQ.seq ?_
  refine CW.seq ?_
  refine CW.region (ef := []) (bk := []) ?_
  refine RL.fieldAddr fa_33_0 rfl rfl rfl rfl ?_
  refine RL.load Try.isAgg3 rfl rfl rfl rfl (by first | assumption | (apply Rd.get; (solve | (repeat (first | exact List.Mem.head _ | apply List.Mem.tail))); assumption) | (apply Rd.getS; (solve | (repeat (first | exact List.Mem.head _ | apply List.Mem.tail))); assumption) | (apply Rd.getO; (solve | (repeat (first | exact List.Mem.head _ | apply List.Mem.tail))); assumption) | (apply Rd.getI; (solve | (repeat (first | exact List.Mem.head _ | apply List.Mem.tail))); assumption) | (apply Rd.cel; (solve | (repeat (first | exact List.Mem.head _ | apply List.Mem.tail))); exact rfl) | (apply Rd.celI; (solve | (repeat (first | exact List.Mem.head _ | apply List.Mem.tail))); exact rfl)) ?_
  refine RL.nil ?_
  refine NQ.seq ?_
  refine CW.block ?_
  refine CW.seq ?_
  refine CW.region (ef := []) (bk := []) ?_
  refine RL.bin rfl rfl rfl rfl rfl rfl ?_
  refine RL.assign rfl rfl rfl rfl ?_
  refine RL.nil ?_
  refine NQ.seq ?_
  -- STOP: if; todo top: ["code", ["cond", ["t", 10], ["seq", ["seq", ["region", 5, [{"d": 4, "op": ["assign", ["c", ["int", "Go.IntKind.i64", 0]]], "ty": 3, "pos": "ref.go:38", "after": [], "guard": null}], false], ["block",
  refine CW.condF rfl ((by rw [hk]; rfl)) ?_
  refine CW.seq ?_
  refine CW.region (ef := []) (bk := []) ?_
  refine RL.bin rfl rfl rfl rfl rfl rfl ?_
  refine RL.assign rfl rfl rfl rfl ?_
  refine RL.nil ?_
  refine NQ.seq ?_
  refine CW.only (.cons (k := 1) rfl (.cons (k := 3) rfl (.cons (k := 8) rfl (.cons (k := 35) rfl .nil)))) ?_
  -- STOP: if; todo top: ["code", ["cond", ["t", 35], ["seq", ["region", 15, [{"d": 37, "op": ["fieldAddr", 33, ["t", 1], 3], "ty": 0, "pos": "ref.go:46", "after": [], "guard": null}, {"d": 38, "op": ["load", 24, ["t", 37]], 
  refine CW.condF rfl ((by rw [hk]; rfl)) ?_
  refine CW.seq ?_
  refine CW.region (ef := []) (bk := []) ?_
  refine RL.bin rfl rfl rfl rfl rfl rfl ?_
  refine RL.assign rfl rfl rfl rfl ?_
  refine RL.nil ?_
  refine NQ.seq ?_
  -- STOP: if; todo top: ["code", ["cond", ["t", 40], ["seq", ["region", 17, [{"d": 42, "op": ["fieldAddr", 33, ["t", 1], 4], "ty": 0, "pos": "ref.go:48", "after": [], "guard": null}, {"d": 43, "op": ["load", 25, ["t", 42]], 
  refine CW.condT rfl ((by rw [hk]; rfl)) ?_
  refine CW.seq ?_
  refine CW.region (ef := [3]) (bk := []) ?_
  refine RL.fieldAddr fa_33_4 rfl rfl rfl rfl ?_
  refine RL.load Try.isAgg25 rfl rfl rfl rfl (by first | assumption | (apply Rd.get; (solve | (repeat (first | exact List.Mem.head _ | apply List.Mem.tail))); assumption) | (apply Rd.getS; (solve | (repeat (first | exact List.Mem.head _ | apply List.Mem.tail))); assumption) | (apply Rd.getO; (solve | (repeat (first | exact List.Mem.head _ | apply List.Mem.tail))); assumption) | (apply Rd.getI; (solve | (repeat (first | exact List.Mem.head _ | apply List.Mem.tail))); assumption) | (apply Rd.cel; (solve | (repeat (first | exact List.Mem.head _ | apply List.Mem.tail))); exact rfl) | (apply Rd.celI; (solve | (repeat (first | exact List.Mem.head _ | apply List.Mem.tail))); exact rfl)) ?_
  refine RL.conv Try.runUnderlying25 Try.runUnderlying30 rfl rfl rfl rfl ?_
  refine RL.call (rnum r.heading 4 (by decide)) Try.call134 rfl rfl rfl rfl rfl (by repeat (first | exact Pick.nil | apply Pick.take | apply Pick.leave)) (by repeat (first | exact Lend.nil | (refine Lend.inI ?_ ?_; (solve | (repeat (first | exact List.Mem.head _ | apply List.Mem.tail)))) | (refine Lend.inH ?_ ?_; (solve | (repeat (first | exact List.Mem.head _ | apply List.Mem.tail)))))) (.inl rfl) ?_
  rintro _ _ _ ⟨ob1, cap1, rfl, rfl, rfl, ho1⟩
  refine RL.assign rfl rfl rfl rfl ?_
  refine RL.nil ?_
  refine NQ.seq ?_
  refine CW.only (.cons (k := 2) rfl .nil) ?_
  refine CW.ret ?_
  refine RQ.block ?_
  -- STOP: ret; end
  exact RQ.ownB (l := bodyR r) rfl rfl (by first | exact .keep (Split.none _) | exact .drop (.keep (Split.none _)) | exact .drop (.drop (.keep (Split.none _)))) (by unfold bodyR; simp [hk, beN_length, be4_length, be8'_length, keyL]) (by unfold bodyR; simp [hk, keyL]) (by first | assumption | (right; rfl))
set_option maxHeartbeats 4000000 in
theorem rbody_4 (r : Rdg) (hk : r.kind = 4) (hr : r.Ok) : Spc Try.prog 82 #[.agg r.cells.toArray] [] [] (OwnB (bodyR r)) := by
  refine Spc.enter Try.func82 rfl rfl rfl (fun w0 hw0 => ?_)
  refine CW.seq ?_
  refine CW.region (ef := [0]) (bk := []) ?_
  refine RL.box rfl rfl rfl rfl rfl rfl ?_
  intro b1
  refine RL.assign rfl rfl rfl rfl ?_
  refine RL.nil ?_
  refine NQ.seq ?_
  refine CW.seq ?_
  -- STOP: region; todo top: ["code", ["region", 1, [{"d": 6, "op": ["buildSlice", 34, 0, []], "ty": 34, "pos": "ref.go:35", "after": [], "guard": null}, {"d": 3, "op": ["assign", ["t", 6]], "ty": 34, "pos": "ref.go:35", "after":
  refine CW.freezeAll rfl ?_
  simp only [List.cons_append, List.nil_append]
  refine CW.region (ef := [0]) (bk := []) ?_
  refine RL.buildOwn [] Try.runUnderlying34 Try.sizeOf5 Try.zeroValue5 rfl rfl (by decide) (by decide) rfl (by decide) rfl rfl rfl rfl rfl rfl ?_
  intro b2
  refine RL.assign rfl rfl rfl rfl ?_
  refine RL.nil ?_
  refine NQ.seq ?_
  refine CW.seq ?_
  refine CW.region (ef := []) (bk := []) ?_
  refine RL.fieldAddr fa_33_0 rfl rfl rfl rfl ?_
  refine RL.load Try.isAgg3 rfl rfl rfl rfl (by first | assumption | (apply Rd.get; (solve | (repeat (first | exact List.Mem.head _ | apply List.Mem.tail))); assumption) | (apply Rd.getS; (solve | (repeat (first | exact List.Mem.head _ | apply List.Mem.tail))); assumption) | (apply Rd.getO; (solve | (repeat (first | exact List.Mem.head _ | apply List.Mem.tail))); assumption) | (apply Rd.getI; (solve | (repeat (first | exact List.Mem.head _ | apply List.Mem.tail))); assumption) | (apply Rd.cel; (solve | (repeat (first | exact List.Mem.head _ | apply List.Mem.tail))); exact rfl) | (apply Rd.celI; (solve | (repeat (first | exact List.Mem.head _ | apply List.Mem.tail))); exact rfl)) ?_
  refine RL.nil ?_
  refine NQ.seq ?_
  refine CW.block ?_
  refine CW.seq ?_
  refine CW.region (ef := []) (bk := []) ?_
  refine RL.bin rfl rfl rfl rfl rfl rfl ?_
  refine RL.assign rfl rfl rfl rfl ?_
  refine RL.nil ?_
  refine NQ.seq ?_
  -- STOP: if; todo top: ["code", ["cond", ["t", 10], ["seq", ["seq", ["region", 5, [{"d": 4, "op": ["assign", ["c", ["int", "Go.IntKind.i64", 0]]], "ty": 3, "pos": "ref.go:38", "after": [], "guard": null}], false], ["block",
  refine CW.condF rfl ((by rw [hk]; rfl)) ?_
  refine CW.seq ?_
  refine CW.region (ef := []) (bk := []) ?_
  refine RL.bin rfl rfl rfl rfl rfl rfl ?_
  refine RL.assign rfl rfl rfl rfl ?_
  refine RL.nil ?_
  refine NQ.seq ?_
  refine CW.only (.cons (k := 1) rfl (.cons (k := 3) rfl (.cons (k := 8) rfl (.cons (k := 35) rfl .nil)))) ?_
  -- STOP: if; todo top: ["code", ["cond", ["t", 35], ["seq", ["region", 15, [{"d": 37, "op": ["fieldAddr", 33, ["t", 1], 3], "ty": 0, "pos": "ref.go:46", "after": [], "guard": null}, {"d": 38, "op": ["load", 24, ["t", 37]], 
  refine CW.condF rfl ((by rw [hk]; rfl)) ?_
  refine CW.seq ?_
  refine CW.region (ef := []) (bk := []) ?_
  refine RL.bin rfl rfl rfl rfl rfl rfl ?_
  refine RL.assign rfl rfl rfl rfl ?_
  refine RL.nil ?_
  refine NQ.seq ?_
  -- STOP: if; todo top: ["code", ["cond", ["t", 40], ["seq", ["region", 17, [{"d": 42, "op": ["fieldAddr", 33, ["t", 1], 4], "ty": 0, "pos": "ref.go:48", "after": [], "guard": null}, {"d": 43, "op": ["load", 25, ["t", 42]], 
  refine CW.condF rfl ((by rw [hk]; rfl)) ?_
  refine CW.seq ?_
  refine CW.region (ef := []) (bk := []) ?_
  refine RL.bin rfl rfl rfl rfl rfl rfl ?_
  refine RL.assign rfl rfl rfl rfl ?_
  refine RL.nil ?_
  refine NQ.seq ?_
  -- STOP: if; todo top: ["code", ["cond", ["t", 46], ["seq", ["region", 19, [{"d": 48, "op": ["fieldAddr", 33, ["t", 1], 5], "ty": 0, "pos": "ref.go:50", "after": [], "guard": null}, {"d": 49, "op": ["load", 22, ["t", 48]], 
  refine CW.condT rfl ((by rw [hk]; rfl)) ?_
  refine CW.seq ?_
  refine CW.regionD (Sq.of [0, 1, 3, 4, 5, 2, 6, 7, 8]) [2, 6, 7] [7] [0, 1, 3, 4, 5, 8] mixed (by kernel_rfl) ?_
  refine RL.fieldAddr fa_33_5 rfl rfl rfl rfl ?_
  refine RL.loadT Try.isAgg22 rfl rfl rfl rfl (by first | assumption | (apply Rd.get; (solve | (repeat (first | exact List.Mem.head _ | apply List.Mem.tail))); assumption) | (apply Rd.getS; (solve | (repeat (first | exact List.Mem.head _ | apply List.Mem.tail))); assumption) | (apply Rd.getO; (solve | (repeat (first | exact List.Mem.head _ | apply List.Mem.tail))); assumption) | (apply Rd.getI; (solve | (repeat (first | exact List.Mem.head _ | apply List.Mem.tail))); assumption) | (apply Rd.cel; (solve | (repeat (first | exact List.Mem.head _ | apply List.Mem.tail))); exact rfl) | (apply Rd.celI; (solve | (repeat (first | exact List.Mem.head _ | apply List.Mem.tail))); exact rfl)) ?_
  refine RL.fieldAddr fa_33_6 rfl rfl rfl rfl ?_
  refine RL.loadT Try.isAgg25 rfl rfl rfl rfl (by first | assumption | (apply Rd.get; (solve | (repeat (first | exact List.Mem.head _ | apply List.Mem.tail))); assumption) | (apply Rd.getS; (solve | (repeat (first | exact List.Mem.head _ | apply List.Mem.tail))); assumption) | (apply Rd.getO; (solve | (repeat (first | exact List.Mem.head _ | apply List.Mem.tail))); assumption) | (apply Rd.getI; (solve | (repeat (first | exact List.Mem.head _ | apply List.Mem.tail))); assumption) | (apply Rd.cel; (solve | (repeat (first | exact List.Mem.head _ | apply List.Mem.tail))); exact rfl) | (apply Rd.celI; (solve | (repeat (first | exact List.Mem.head _ | apply List.Mem.tail))); exact rfl)) ?_
  refine RL.conv Try.runUnderlying25 Try.runUnderlying30 rfl rfl rfl rfl ?_
  refine RL.call (rput4 r.speed) Try.call132 rfl rfl rfl rfl rfl (by repeat (first | exact Pick.nil | apply Pick.take | apply Pick.leave)) (by repeat (first | exact Lend.nil | (refine Lend.inI ?_ ?_; (solve | (repeat (first | exact List.Mem.head _ | apply List.Mem.tail)))) | (refine Lend.inH ?_ ?_; (solve | (repeat (first | exact List.Mem.head _ | apply List.Mem.tail)))))) (.inl rfl) ?_
  rintro _ _ _ ⟨ob1, cap1, rfl, rfl, rfl, ho1⟩
  refine RL.call (rnum r.steps 4 (by decide)) Try.call134 rfl rfl rfl rfl rfl (by repeat (first | exact Pick.nil | apply Pick.take | apply Pick.leave)) (by repeat (first | exact Lend.nil | (refine Lend.inI ?_ ?_; (solve | (repeat (first | exact List.Mem.head _ | apply List.Mem.tail)))) | (refine Lend.inH ?_ ?_; (solve | (repeat (first | exact List.Mem.head _ | apply List.Mem.tail)))))) (.inl rfl) ?_
  rintro _ _ _ ⟨ob2, cap2, rfl, rfl, rfl, ho2⟩
  refine RL.appendA el_34 rfl rfl rfl rfl rfl rfl rfl (by first | exact ⟨(.take (Pick.none _)), rfl⟩ | exact ⟨(.leave (.take (Pick.none _))), rfl⟩ | exact ⟨(.leave (.leave (.take (Pick.none _)))), rfl⟩ | exact ⟨(.leave (.leave (.leave (.take (Pick.none _))))), rfl⟩ | exact ⟨(.leave (.leave (.leave (.leave (.take (Pick.none _)))))), rfl⟩ | exact ⟨(.leave (.leave (.leave (.leave (.leave (.take (Pick.none _))))))), rfl⟩ | exact ⟨(.leave (.leave (.leave (.leave (.leave (.leave (.take (Pick.none _)))))))), rfl⟩ | exact ⟨(.leave (.leave (.leave (.leave (.leave (.leave (.leave (.take (Pick.none _))))))))), rfl⟩ | exact ⟨(.leave (.leave (.leave (.leave (.leave (.leave (.leave (.leave (.take (Pick.none _)))))))))), rfl⟩ | exact ⟨(.leave (.leave (.leave (.leave (.leave (.leave (.leave (.leave (.leave (.take (Pick.none _))))))))))), rfl⟩) (by first | (exact Src.cel (by (solve | (repeat (first | exact List.Mem.head _ | apply List.Mem.tail)))) (by first | rfl | assumption | (simp only [List.length_map]; assumption) | (simp only [List.length_map, List.length_replicate]; done) | (simp; done))) | (exact Src.ownS (by (solve | (repeat (first | exact List.Mem.head _ | apply List.Mem.tail))))) | (exact Src.own (by (solve | (repeat (first | exact List.Mem.head _ | apply List.Mem.tail))))) | (exact Src.sls (by (solve | (repeat (first | exact List.Mem.head _ | apply List.Mem.tail)))))) (by first | exact one_map one8 _ | exact ones_spec rfl | exact one_map (fun _ => rfl) _ | (intro u hu; simp at hu; simp [hu, Value.oneCell'])) (by first | omega | (simp only [maxLen]; omega)) (by first | omega | (simp only [maxLen]; omega)) ?_
  intro ob3 cap3 ho3
  refine RL.assign rfl rfl rfl rfl ?_
  refine RL.nil ?_
  refine NQ.seq ?_
  refine CW.only (.cons (k := 2) rfl .nil) ?_
  refine CW.ret ?_
  refine RQ.block ?_
  -- STOP: ret; end
  exact RQ.ownB (l := bodyR r) rfl rfl (by first | exact .keep (Split.none _) | exact .drop (.keep (Split.none _)) | exact .drop (.drop (.keep (Split.none _)))) (by unfold bodyR; simp [hk, beN_length, be4_length, be8'_length, keyL]) (by unfold bodyR; simp [hk, keyL]) (by first | assumption | (right; rfl))
set_option maxHeartbeats 4000000 in
theorem rbody_5 (r : Rdg) (hk : r.kind = 5) (hr : r.Ok) : Spc Try.prog 82 #[.agg r.cells.toArray] [] [] (OwnB (bodyR r)) := by
  refine Spc.enter Try.func82 rfl rfl rfl (fun w0 hw0 => ?_)
  refine CW.seq ?_
  refine CW.region (ef := [0]) (bk := []) ?_
  refine RL.box rfl rfl rfl rfl rfl rfl ?_
  intro b1
  refine RL.assign rfl rfl rfl rfl ?_
  refine RL.nil ?_
  refine NQ.seq ?_
  refine CW.seq ?_
  -- STOP: region; todo top: ["code", ["region", 1, [{"d": 6, "op": ["buildSlice", 34, 0, []], "ty": 34, "pos": "ref.go:35", "after": [], "guard": null}, {"d": 3, "op": ["assign", ["t", 6]], "ty": 34, "pos": "ref.go:35", "after":
  refine CW.freezeAll rfl ?_
  simp only [List.cons_append, List.nil_append]
  refine CW.region (ef := [0]) (bk := []) ?_
  refine RL.buildOwn [] Try.runUnderlying34 Try.sizeOf5 Try.zeroValue5 rfl rfl (by decide) (by decide) rfl (by decide) rfl rfl rfl rfl rfl rfl ?_
  intro b2
  refine RL.assign rfl rfl rfl rfl ?_
  refine RL.nil ?_
  refine NQ.seq ?_
  refine CW.seq ?_
  refine CW.region (ef := []) (bk := []) ?_
  refine RL.fieldAddr fa_33_0 rfl rfl rfl rfl ?_
  refine RL.load Try.isAgg3 rfl rfl rfl rfl (by first | assumption | (apply Rd.get; (solve | (repeat (first | exact List.Mem.head _ | apply List.Mem.tail))); assumption) | (apply Rd.getS; (solve | (repeat (first | exact List.Mem.head _ | apply List.Mem.tail))); assumption) | (apply Rd.getO; (solve | (repeat (first | exact List.Mem.head _ | apply List.Mem.tail))); assumption) | (apply Rd.getI; (solve | (repeat (first | exact List.Mem.head _ | apply List.Mem.tail))); assumption) | (apply Rd.cel; (solve | (repeat (first | exact List.Mem.head _ | apply List.Mem.tail))); exact rfl) | (apply Rd.celI; (solve | (repeat (first | exact List.Mem.head _ | apply List.Mem.tail))); exact rfl)) ?_
  refine RL.nil ?_
  refine NQ.seq ?_
  refine CW.block ?_
  refine CW.seq ?_
  refine CW.region (ef := []) (bk := []) ?_
  refine RL.bin rfl rfl rfl rfl rfl rfl ?_
  refine RL.assign rfl rfl rfl rfl ?_
  refine RL.nil ?_
  refine NQ.seq ?_
  -- STOP: if; todo top: ["code", ["cond", ["t", 10], ["seq", ["seq", ["region", 5, [{"d": 4, "op": ["assign", ["c", ["int", "Go.IntKind.i64", 0]]], "ty": 3, "pos": "ref.go:38", "after": [], "guard": null}], false], ["block",
  refine CW.condF rfl ((by rw [hk]; rfl)) ?_
  refine CW.seq ?_
  refine CW.region (ef := []) (bk := []) ?_
  refine RL.bin rfl rfl rfl rfl rfl rfl ?_
  refine RL.assign rfl rfl rfl rfl ?_
  refine RL.nil ?_
  refine NQ.seq ?_
  refine CW.only (.cons (k := 1) rfl (.cons (k := 3) rfl (.cons (k := 8) rfl (.cons (k := 35) rfl .nil)))) ?_
  -- STOP: if; todo top: ["code", ["cond", ["t", 35], ["seq", ["region", 15, [{"d": 37, "op": ["fieldAddr", 33, ["t", 1], 3], "ty": 0, "pos": "ref.go:46", "after": [], "guard": null}, {"d": 38, "op": ["load", 24, ["t", 37]], 
  refine CW.condF rfl ((by rw [hk]; rfl)) ?_
  refine CW.seq ?_
  refine CW.region (ef := []) (bk := []) ?_
  refine RL.bin rfl rfl rfl rfl rfl rfl ?_
  refine RL.assign rfl rfl rfl rfl ?_
  refine RL.nil ?_
  refine NQ.seq ?_
  -- STOP: if; todo top: ["code", ["cond", ["t", 40], ["seq", ["region", 17, [{"d": 42, "op": ["fieldAddr", 33, ["t", 1], 4], "ty": 0, "pos": "ref.go:48", "after": [], "guard": null}, {"d": 43, "op": ["load", 25, ["t", 42]], 
  refine CW.condF rfl ((by rw [hk]; rfl)) ?_
  refine CW.seq ?_
  refine CW.region (ef := []) (bk := []) ?_
  refine RL.bin rfl rfl rfl rfl rfl rfl ?_
  refine RL.assign rfl rfl rfl rfl ?_
  refine RL.nil ?_
  refine NQ.seq ?_
  -- STOP: if; todo top: ["code", ["cond", ["t", 46], ["seq", ["region", 19, [{"d": 48, "op": ["fieldAddr", 33, ["t", 1], 5], "ty": 0, "pos": "ref.go:50", "after": [], "guard": null}, {"d": 49, "op": ["load", 22, ["t", 48]], 
  refine CW.condF rfl ((by rw [hk]; rfl)) ?_
  refine CW.seq ?_
  refine CW.region (ef := []) (bk := []) ?_
  refine RL.bin rfl rfl rfl rfl rfl rfl ?_
  refine RL.assign rfl rfl rfl rfl ?_
  refine RL.nil ?_
  refine NQ.seq ?_
  refine CW.only (.cons (k := 1) rfl (.cons (k := 3) rfl (.cons (k := 8) rfl (.cons (k := 56) rfl .nil)))) ?_
  -- STOP: if; todo top: ["code", ["cond", ["t", 56], ["seq", ["region", 21, [{"d": 58, "op": ["fieldAddr", 33, ["t", 1], 7], "ty": 0, "pos": "ref.go:52", "after": [], "guard": null}, {"d": 59, "op": ["load", 25, ["t", 58]], 
  refine CW.condT rfl ((by rw [hk]; rfl)) ?_
  refine CW.seq ?_
  refine CW.regionD (.cons 0 (.cons 1 (.cons 2 (.cons 4 (.cons 5 (.cons 8 (.cons 9 (.fork [3, 6] (fun k => (bif Nat.beq k 3 then (Sq.of [6, 7, 10, 11, 12]) else (Sq.of [3, 7, 10, 11, 12]))))))))))) [3, 6, 7, 10, 11] [7, 11] [0, 1, 2, 4, 5, 8, 9, 12] mixed (by kernel_rfl) ?_
  refine RL.fieldAddr fa_33_7 rfl rfl rfl rfl ?_
  refine RL.loadT Try.isAgg25 rfl rfl rfl rfl (by first | assumption | (apply Rd.get; (solve | (repeat (first | exact List.Mem.head _ | apply List.Mem.tail))); assumption) | (apply Rd.getS; (solve | (repeat (first | exact List.Mem.head _ | apply List.Mem.tail))); assumption) | (apply Rd.getO; (solve | (repeat (first | exact List.Mem.head _ | apply List.Mem.tail))); assumption) | (apply Rd.getI; (solve | (repeat (first | exact List.Mem.head _ | apply List.Mem.tail))); assumption) | (apply Rd.cel; (solve | (repeat (first | exact List.Mem.head _ | apply List.Mem.tail))); exact rfl) | (apply Rd.celI; (solve | (repeat (first | exact List.Mem.head _ | apply List.Mem.tail))); exact rfl)) ?_
  refine RL.conv Try.runUnderlying25 Try.runUnderlying30 rfl rfl rfl rfl ?_
  refine RL.fieldAddr fa_33_8 rfl rfl rfl rfl ?_
  refine RL.loadT Try.isAgg5 rfl rfl rfl rfl (by first | assumption | (apply Rd.get; (solve | (repeat (first | exact List.Mem.head _ | apply List.Mem.tail))); assumption) | (apply Rd.getS; (solve | (repeat (first | exact List.Mem.head _ | apply List.Mem.tail))); assumption) | (apply Rd.getO; (solve | (repeat (first | exact List.Mem.head _ | apply List.Mem.tail))); assumption) | (apply Rd.getI; (solve | (repeat (first | exact List.Mem.head _ | apply List.Mem.tail))); assumption) | (apply Rd.cel; (solve | (repeat (first | exact List.Mem.head _ | apply List.Mem.tail))); exact rfl) | (apply Rd.celI; (solve | (repeat (first | exact List.Mem.head _ | apply List.Mem.tail))); exact rfl)) ?_
  refine RL.fieldAddr fa_33_9 rfl rfl rfl rfl ?_
  refine RL.loadNT (vs := [_, _, _]) Try.isAgg27 Try.sizeOf27 rfl rfl rfl rfl (by first | (apply Rds.cel; (solve | (repeat (first | exact List.Mem.head _ | apply List.Mem.tail))); exact at_spec ⟨rfl, rfl, rfl, trivial⟩) | (apply Rds.celI; (solve | (repeat (first | exact List.Mem.head _ | apply List.Mem.tail))); exact at_spec ⟨rfl, rfl, rfl, trivial⟩) | assumption) ?_
  -- STOP: fork; todo top: ["code", ["region", 21, [{"d": 58, "op": ["fieldAddr", 33, ["t", 1], 7], "ty": 0, "pos": "ref.go:52", "after": [], "guard": null}, {"d": 59, "op": ["load", 25, ["t", 58]], "ty": 25, "pos": "ref.go:52"
  refine RL.fork ⟨?_, ?_, trivial⟩
  ·
    refine RL.call (rnum r.interval 4 (by decide)) Try.call134 rfl rfl rfl rfl rfl (by repeat (first | exact Pick.nil | apply Pick.take | apply Pick.leave)) (by repeat (first | exact Lend.nil | (refine Lend.inI ?_ ?_; (solve | (repeat (first | exact List.Mem.head _ | apply List.Mem.tail)))) | (refine Lend.inH ?_ ?_; (solve | (repeat (first | exact List.Mem.head _ | apply List.Mem.tail)))))) (.inl rfl) ?_
    rintro _ _ _ ⟨ob1, cap1, rfl, rfl, rfl, ho1⟩
    refine RL.buildOwn [_] Try.runUnderlying34 Try.sizeOf5 Try.zeroValue5 rfl rfl (by decide) (by decide) rfl (by decide) rfl rfl rfl rfl rfl rfl ?_
    intro b3
    refine RL.appendA el_34 rfl rfl rfl rfl rfl rfl rfl (by first | exact ⟨(.take (Pick.none _)), rfl⟩ | exact ⟨(.leave (.take (Pick.none _))), rfl⟩ | exact ⟨(.leave (.leave (.take (Pick.none _)))), rfl⟩ | exact ⟨(.leave (.leave (.leave (.take (Pick.none _))))), rfl⟩ | exact ⟨(.leave (.leave (.leave (.leave (.take (Pick.none _)))))), rfl⟩ | exact ⟨(.leave (.leave (.leave (.leave (.leave (.take (Pick.none _))))))), rfl⟩ | exact ⟨(.leave (.leave (.leave (.leave (.leave (.leave (.take (Pick.none _)))))))), rfl⟩ | exact ⟨(.leave (.leave (.leave (.leave (.leave (.leave (.leave (.take (Pick.none _))))))))), rfl⟩ | exact ⟨(.leave (.leave (.leave (.leave (.leave (.leave (.leave (.leave (.take (Pick.none _)))))))))), rfl⟩ | exact ⟨(.leave (.leave (.leave (.leave (.leave (.leave (.leave (.leave (.leave (.take (Pick.none _))))))))))), rfl⟩) (by first | (exact Src.cel (by (solve | (repeat (first | exact List.Mem.head _ | apply List.Mem.tail)))) (by first | rfl | assumption | (simp only [List.length_map]; assumption) | (simp only [List.length_map, List.length_replicate]; done) | (simp; done))) | (exact Src.ownS (by (solve | (repeat (first | exact List.Mem.head _ | apply List.Mem.tail))))) | (exact Src.own (by (solve | (repeat (first | exact List.Mem.head _ | apply List.Mem.tail))))) | (exact Src.sls (by (solve | (repeat (first | exact List.Mem.head _ | apply List.Mem.tail)))))) (by first | exact one_map one8 _ | exact ones_spec rfl | exact one_map (fun _ => rfl) _ | (intro u hu; simp at hu; simp [hu, Value.oneCell'])) (by first | omega | (simp only [maxLen]; omega)) (by first | omega | (simp only [maxLen]; omega)) ?_
    intro ob2 cap2 ho2
    refine RL.call (rplace r.p0 r.p1 r.p2) Try.call135 rfl rfl rfl rfl rfl (by repeat (first | exact Pick.nil | apply Pick.take | apply Pick.leave)) (by repeat (first | exact Lend.nil | (refine Lend.inI ?_ ?_; (solve | (repeat (first | exact List.Mem.head _ | apply List.Mem.tail)))) | (refine Lend.inH ?_ ?_; (solve | (repeat (first | exact List.Mem.head _ | apply List.Mem.tail)))))) (.inl rfl) ?_
    rintro _ _ _ ⟨ob3, cap3, rfl, rfl, rfl, ho3⟩
    refine RL.appendA el_34 rfl rfl rfl rfl rfl rfl rfl (by first | exact ⟨(.take (Pick.none _)), rfl⟩ | exact ⟨(.leave (.take (Pick.none _))), rfl⟩ | exact ⟨(.leave (.leave (.take (Pick.none _)))), rfl⟩ | exact ⟨(.leave (.leave (.leave (.take (Pick.none _))))), rfl⟩ | exact ⟨(.leave (.leave (.leave (.leave (.take (Pick.none _)))))), rfl⟩ | exact ⟨(.leave (.leave (.leave (.leave (.leave (.take (Pick.none _))))))), rfl⟩ | exact ⟨(.leave (.leave (.leave (.leave (.leave (.leave (.take (Pick.none _)))))))), rfl⟩ | exact ⟨(.leave (.leave (.leave (.leave (.leave (.leave (.leave (.take (Pick.none _))))))))), rfl⟩ | exact ⟨(.leave (.leave (.leave (.leave (.leave (.leave (.leave (.leave (.take (Pick.none _)))))))))), rfl⟩ | exact ⟨(.leave (.leave (.leave (.leave (.leave (.leave (.leave (.leave (.leave (.take (Pick.none _))))))))))), rfl⟩) (by first | (exact Src.cel (by (solve | (repeat (first | exact List.Mem.head _ | apply List.Mem.tail)))) (by first | rfl | assumption | (simp only [List.length_map]; assumption) | (simp only [List.length_map, List.length_replicate]; done) | (simp; done))) | (exact Src.ownS (by (solve | (repeat (first | exact List.Mem.head _ | apply List.Mem.tail))))) | (exact Src.own (by (solve | (repeat (first | exact List.Mem.head _ | apply List.Mem.tail))))) | (exact Src.sls (by (solve | (repeat (first | exact List.Mem.head _ | apply List.Mem.tail)))))) (by first | exact one_map one8 _ | exact ones_spec rfl | exact one_map (fun _ => rfl) _ | (intro u hu; simp at hu; simp [hu, Value.oneCell'])) (by first | omega | (simp only [maxLen]; omega)) (by first | omega | (simp only [maxLen]; omega)) ?_
    intro ob4 cap4 ho4
    refine RL.assign rfl rfl rfl rfl ?_
    refine RL.nil ?_
    refine NQ.seq ?_
    refine CW.only (.cons (k := 2) rfl .nil) ?_
    refine CW.ret ?_
    refine RQ.block ?_
    exact RQ.ownB (l := bodyR r) rfl rfl (by first | exact .keep (Split.none _) | exact .drop (.keep (Split.none _)) | exact .drop (.drop (.keep (Split.none _)))) (by unfold bodyR; simp [hk, beN_length, be4_length, be8'_length, keyL]) (by unfold bodyR; simp [hk, keyL]) (by first | assumption | (right; rfl))
  ·
    refine RL.buildOwn [_] Try.runUnderlying34 Try.sizeOf5 Try.zeroValue5 rfl rfl (by decide) (by decide) rfl (by decide) rfl rfl rfl rfl rfl rfl ?_
    intro b3
    refine RL.call (rnum r.interval 4 (by decide)) Try.call134 rfl rfl rfl rfl rfl (by repeat (first | exact Pick.nil | apply Pick.take | apply Pick.leave)) (by repeat (first | exact Lend.nil | (refine Lend.inI ?_ ?_; (solve | (repeat (first | exact List.Mem.head _ | apply List.Mem.tail)))) | (refine Lend.inH ?_ ?_; (solve | (repeat (first | exact List.Mem.head _ | apply List.Mem.tail)))))) (.inl rfl) ?_
    rintro _ _ _ ⟨ob1, cap1, rfl, rfl, rfl, ho1⟩
    refine RL.appendA el_34 rfl rfl rfl rfl rfl rfl rfl (by first | exact ⟨(.take (Pick.none _)), rfl⟩ | exact ⟨(.leave (.take (Pick.none _))), rfl⟩ | exact ⟨(.leave (.leave (.take (Pick.none _)))), rfl⟩ | exact ⟨(.leave (.leave (.leave (.take (Pick.none _))))), rfl⟩ | exact ⟨(.leave (.leave (.leave (.leave (.take (Pick.none _)))))), rfl⟩ | exact ⟨(.leave (.leave (.leave (.leave (.leave (.take (Pick.none _))))))), rfl⟩ | exact ⟨(.leave (.leave (.leave (.leave (.leave (.leave (.take (Pick.none _)))))))), rfl⟩ | exact ⟨(.leave (.leave (.leave (.leave (.leave (.leave (.leave (.take (Pick.none _))))))))), rfl⟩ | exact ⟨(.leave (.leave (.leave (.leave (.leave (.leave (.leave (.leave (.take (Pick.none _)))))))))), rfl⟩ | exact ⟨(.leave (.leave (.leave (.leave (.leave (.leave (.leave (.leave (.leave (.take (Pick.none _))))))))))), rfl⟩) (by first | (exact Src.cel (by (solve | (repeat (first | exact List.Mem.head _ | apply List.Mem.tail)))) (by first | rfl | assumption | (simp only [List.length_map]; assumption) | (simp only [List.length_map, List.length_replicate]; done) | (simp; done))) | (exact Src.ownS (by (solve | (repeat (first | exact List.Mem.head _ | apply List.Mem.tail))))) | (exact Src.own (by (solve | (repeat (first | exact List.Mem.head _ | apply List.Mem.tail))))) | (exact Src.sls (by (solve | (repeat (first | exact List.Mem.head _ | apply List.Mem.tail)))))) (by first | exact one_map one8 _ | exact ones_spec rfl | exact one_map (fun _ => rfl) _ | (intro u hu; simp at hu; simp [hu, Value.oneCell'])) (by first | omega | (simp only [maxLen]; omega)) (by first | omega | (simp only [maxLen]; omega)) ?_
    intro ob2 cap2 ho2
    refine RL.call (rplace r.p0 r.p1 r.p2) Try.call135 rfl rfl rfl rfl rfl (by repeat (first | exact Pick.nil | apply Pick.take | apply Pick.leave)) (by repeat (first | exact Lend.nil | (refine Lend.inI ?_ ?_; (solve | (repeat (first | exact List.Mem.head _ | apply List.Mem.tail)))) | (refine Lend.inH ?_ ?_; (solve | (repeat (first | exact List.Mem.head _ | apply List.Mem.tail)))))) (.inl rfl) ?_
    rintro _ _ _ ⟨ob3, cap3, rfl, rfl, rfl, ho3⟩
    refine RL.appendA el_34 rfl rfl rfl rfl rfl rfl rfl (by first | exact ⟨(.take (Pick.none _)), rfl⟩ | exact ⟨(.leave (.take (Pick.none _))), rfl⟩ | exact ⟨(.leave (.leave (.take (Pick.none _)))), rfl⟩ | exact ⟨(.leave (.leave (.leave (.take (Pick.none _))))), rfl⟩ | exact ⟨(.leave (.leave (.leave (.leave (.take (Pick.none _)))))), rfl⟩ | exact ⟨(.leave (.leave (.leave (.leave (.leave (.take (Pick.none _))))))), rfl⟩ | exact ⟨(.leave (.leave (.leave (.leave (.leave (.leave (.take (Pick.none _)))))))), rfl⟩ | exact ⟨(.leave (.leave (.leave (.leave (.leave (.leave (.leave (.take (Pick.none _))))))))), rfl⟩ | exact ⟨(.leave (.leave (.leave (.leave (.leave (.leave (.leave (.leave (.take (Pick.none _)))))))))), rfl⟩ | exact ⟨(.leave (.leave (.leave (.leave (.leave (.leave (.leave (.leave (.leave (.take (Pick.none _))))))))))), rfl⟩) (by first | (exact Src.cel (by (solve | (repeat (first | exact List.Mem.head _ | apply List.Mem.tail)))) (by first | rfl | assumption | (simp only [List.length_map]; assumption) | (simp only [List.length_map, List.length_replicate]; done) | (simp; done))) | (exact Src.ownS (by (solve | (repeat (first | exact List.Mem.head _ | apply List.Mem.tail))))) | (exact Src.own (by (solve | (repeat (first | exact List.Mem.head _ | apply List.Mem.tail))))) | (exact Src.sls (by (solve | (repeat (first | exact List.Mem.head _ | apply List.Mem.tail)))))) (by first | exact one_map one8 _ | exact ones_spec rfl | exact one_map (fun _ => rfl) _ | (intro u hu; simp at hu; simp [hu, Value.oneCell'])) (by first | omega | (simp only [maxLen]; omega)) (by first | omega | (simp only [maxLen]; omega)) ?_
    intro ob4 cap4 ho4
    refine RL.assign rfl rfl rfl rfl ?_
    refine RL.nil ?_
    refine NQ.seq ?_
    refine CW.only (.cons (k := 2) rfl .nil) ?_
    refine CW.ret ?_
    refine RQ.block ?_
    exact RQ.ownB (l := bodyR r) rfl rfl (by first | exact .keep (Split.none _) | exact .drop (.keep (Split.none _)) | exact .drop (.drop (.keep (Split.none _)))) (by unfold bodyR; simp [hk, beN_length, be4_length, be8'_length, keyL]) (by unfold bodyR; simp [hk, keyL]) (by first | assumption | (right; rfl))
set_option maxHeartbeats 4000000 in
theorem rbody_6 (r : Rdg) (hk : r.kind = 6) (hr : r.Ok) : Spc Try.prog 82 #[.agg r.cells.toArray] [] [] (OwnB (bodyR r)) := by
  refine Spc.enter Try.func82 rfl rfl rfl (fun w0 hw0 => ?_)
  refine CW.seq ?_
  refine CW.region (ef := [0]) (bk := []) ?_
  refine RL.box rfl rfl rfl rfl rfl rfl ?_
  intro b1
  refine RL.assign rfl rfl rfl rfl ?_
  refine RL.nil ?_
  refine NQ.seq ?_
  refine CW.seq ?_
  -- STOP: region; todo top: ["code", ["region", 1, [{"d": 6, "op": ["buildSlice", 34, 0, []], "ty": 34, "pos": "ref.go:35", "after": [], "guard": null}, {"d": 3, "op": ["assign", ["t", 6]], "ty": 34, "pos": "ref.go:35", "after":
  refine CW.freezeAll rfl ?_
  simp only [List.cons_append, List.nil_append]
  refine CW.region (ef := [0]) (bk := []) ?_
  refine RL.buildOwn [] Try.runUnderlying34 Try.sizeOf5 Try.zeroValue5 rfl rfl (by decide) (by decide) rfl (by decide) rfl rfl rfl rfl rfl rfl ?_
  intro b2
  refine RL.assign rfl rfl rfl rfl ?_
  refine RL.nil ?_
  refine NQ.seq ?_
  refine CW.seq ?_
  refine CW.region (ef := []) (bk := []) ?_
  refine RL.fieldAddr fa_33_0 rfl rfl rfl rfl ?_
  refine RL.load Try.isAgg3 rfl rfl rfl rfl (by first | assumption | (apply Rd.get; (solve | (repeat (first | exact List.Mem.head _ | apply List.Mem.tail))); assumption) | (apply Rd.getS; (solve | (repeat (first | exact List.Mem.head _ | apply List.Mem.tail))); assumption) | (apply Rd.getO; (solve | (repeat (first | exact List.Mem.head _ | apply List.Mem.tail))); assumption) | (apply Rd.getI; (solve | (repeat (first | exact List.Mem.head _ | apply List.Mem.tail))); assumption) | (apply Rd.cel; (solve | (repeat (first | exact List.Mem.head _ | apply List.Mem.tail))); exact rfl) | (apply Rd.celI; (solve | (repeat (first | exact List.Mem.head _ | apply List.Mem.tail))); exact rfl)) ?_
  refine RL.nil ?_
  refine NQ.seq ?_
  refine CW.block ?_
  refine CW.seq ?_
  refine CW.region (ef := []) (bk := []) ?_
  refine RL.bin rfl rfl rfl rfl rfl rfl ?_
  refine RL.assign rfl rfl rfl rfl ?_
  refine RL.nil ?_
  refine NQ.seq ?_
  -- STOP: if; todo top: ["code", ["cond", ["t", 10], ["seq", ["seq", ["region", 5, [{"d": 4, "op": ["assign", ["c", ["int", "Go.IntKind.i64", 0]]], "ty": 3, "pos": "ref.go:38", "after": [], "guard": null}], false], ["block",
  refine CW.condF rfl ((by rw [hk]; rfl)) ?_
  refine CW.seq ?_
  refine CW.region (ef := []) (bk := []) ?_
  refine RL.bin rfl rfl rfl rfl rfl rfl ?_
  refine RL.assign rfl rfl rfl rfl ?_
  refine RL.nil ?_
  refine NQ.seq ?_
  refine CW.only (.cons (k := 1) rfl (.cons (k := 3) rfl (.cons (k := 8) rfl (.cons (k := 35) rfl .nil)))) ?_
  -- STOP: if; todo top: ["code", ["cond", ["t", 35], ["seq", ["region", 15, [{"d": 37, "op": ["fieldAddr", 33, ["t", 1], 3], "ty": 0, "pos": "ref.go:46", "after": [], "guard": null}, {"d": 38, "op": ["load", 24, ["t", 37]], 
  refine CW.condF rfl ((by rw [hk]; rfl)) ?_
  refine CW.seq ?_
  refine CW.region (ef := []) (bk := []) ?_
  refine RL.bin rfl rfl rfl rfl rfl rfl ?_
  refine RL.assign rfl rfl rfl rfl ?_
  refine RL.nil ?_
  refine NQ.seq ?_
  -- STOP: if; todo top: ["code", ["cond", ["t", 40], ["seq", ["region", 17, [{"d": 42, "op": ["fieldAddr", 33, ["t", 1], 4], "ty": 0, "pos": "ref.go:48", "after": [], "guard": null}, {"d": 43, "op": ["load", 25, ["t", 42]], 
  refine CW.condF rfl ((by rw [hk]; rfl)) ?_
  refine CW.seq ?_
  refine CW.region (ef := []) (bk := []) ?_
  refine RL.bin rfl rfl rfl rfl rfl rfl ?_
  refine RL.assign rfl rfl rfl rfl ?_
  refine RL.nil ?_
  refine NQ.seq ?_
  -- STOP: if; todo top: ["code", ["cond", ["t", 46], ["seq", ["region", 19, [{"d": 48, "op": ["fieldAddr", 33, ["t", 1], 5], "ty": 0, "pos": "ref.go:50", "after": [], "guard": null}, {"d": 49, "op": ["load", 22, ["t", 48]], 
  refine CW.condF rfl ((by rw [hk]; rfl)) ?_
  refine CW.seq ?_
  refine CW.region (ef := []) (bk := []) ?_
  refine RL.bin rfl rfl rfl rfl rfl rfl ?_
  refine RL.assign rfl rfl rfl rfl ?_
  refine RL.nil ?_
  refine NQ.seq ?_
  refine CW.only (.cons (k := 1) rfl (.cons (k := 3) rfl (.cons (k := 8) rfl (.cons (k := 56) rfl .nil)))) ?_
  -- STOP: if; todo top: ["code", ["cond", ["t", 56], ["seq", ["region", 21, [{"d": 58, "op": ["fieldAddr", 33, ["t", 1], 7], "ty": 0, "pos": "ref.go:52", "after": [], "guard": null}, {"d": 59, "op": ["load", 25, ["t", 58]], 
  refine CW.condF rfl ((by rw [hk]; rfl)) ?_
  refine CW.seq ?_
  refine CW.region (ef := []) (bk := []) ?_
  refine RL.bin rfl rfl rfl rfl rfl rfl ?_
  refine RL.assign rfl rfl rfl rfl ?_
  refine RL.nil ?_
  refine NQ.seq ?_
  -- STOP: if; todo top: ["code", ["cond", ["t", 70], ["seq", ["region", 23, [{"d": 72, "op": ["fieldAddr", 33, ["t", 1], 7], "ty": 0, "pos": "ref.go:54", "after": [], "guard": null}, {"d": 73, "op": ["load", 25, ["t", 72]], 
  refine CW.condT rfl ((by rw [hk]; rfl)) ?_
  refine CW.also (sls (some ⟨b1, 0 + 16, none⟩) 1 32 (bytes (keyL r.key))) (fun w hw => cel_sls (hw.i _ (by repeat (first | exact List.Mem.head _ | apply List.Mem.tail))) rfl (key_in r)) (fun c hc => by simpa [sls, cel] using hc) ?_
  refine CW.seq ?_
  refine CW.regionD (Sq.of [0, 1, 2, 4, 5, 3, 6, 7]) [3, 6] [6] [0, 1, 2, 4, 5, 7] mixed (by kernel_rfl) ?_
  refine RL.fieldAddr fa_33_7 rfl rfl rfl rfl ?_
  refine RL.loadT Try.isAgg25 rfl rfl rfl rfl (by first | assumption | (apply Rd.get; (solve | (repeat (first | exact List.Mem.head _ | apply List.Mem.tail))); assumption) | (apply Rd.getS; (solve | (repeat (first | exact List.Mem.head _ | apply List.Mem.tail))); assumption) | (apply Rd.getO; (solve | (repeat (first | exact List.Mem.head _ | apply List.Mem.tail))); assumption) | (apply Rd.getI; (solve | (repeat (first | exact List.Mem.head _ | apply List.Mem.tail))); assumption) | (apply Rd.cel; (solve | (repeat (first | exact List.Mem.head _ | apply List.Mem.tail))); exact rfl) | (apply Rd.celI; (solve | (repeat (first | exact List.Mem.head _ | apply List.Mem.tail))); exact rfl)) ?_
  refine RL.conv Try.runUnderlying25 Try.runUnderlying30 rfl rfl rfl rfl ?_
  refine RL.fieldAddr fa_33_10 rfl rfl rfl rfl ?_
  refine RL.sliceAll Try.runUnderlying29 Try.sizeOf5 (by decide) rfl rfl rfl rfl ?_
  refine RL.call (rnum r.interval 4 (by decide)) Try.call134 rfl rfl rfl rfl rfl (by repeat (first | exact Pick.nil | apply Pick.take | apply Pick.leave)) (by repeat (first | exact Lend.nil | (refine Lend.inI ?_ ?_; (solve | (repeat (first | exact List.Mem.head _ | apply List.Mem.tail)))) | (refine Lend.inH ?_ ?_; (solve | (repeat (first | exact List.Mem.head _ | apply List.Mem.tail)))))) (.inl rfl) ?_
  rintro _ _ _ ⟨ob1, cap1, rfl, rfl, rfl, ho1⟩
  refine RL.appendA el_34 rfl rfl rfl rfl rfl rfl rfl (by first | exact ⟨(.take (Pick.none _)), rfl⟩ | exact ⟨(.leave (.take (Pick.none _))), rfl⟩ | exact ⟨(.leave (.leave (.take (Pick.none _)))), rfl⟩ | exact ⟨(.leave (.leave (.leave (.take (Pick.none _))))), rfl⟩ | exact ⟨(.leave (.leave (.leave (.leave (.take (Pick.none _)))))), rfl⟩ | exact ⟨(.leave (.leave (.leave (.leave (.leave (.take (Pick.none _))))))), rfl⟩ | exact ⟨(.leave (.leave (.leave (.leave (.leave (.leave (.take (Pick.none _)))))))), rfl⟩ | exact ⟨(.leave (.leave (.leave (.leave (.leave (.leave (.leave (.take (Pick.none _))))))))), rfl⟩ | exact ⟨(.leave (.leave (.leave (.leave (.leave (.leave (.leave (.leave (.take (Pick.none _)))))))))), rfl⟩ | exact ⟨(.leave (.leave (.leave (.leave (.leave (.leave (.leave (.leave (.leave (.take (Pick.none _))))))))))), rfl⟩) (by first | (exact Src.cel (by (solve | (repeat (first | exact List.Mem.head _ | apply List.Mem.tail)))) (by first | rfl | assumption | (simp only [List.length_map]; assumption) | (simp only [List.length_map, List.length_replicate]; done) | (simp; done))) | (exact Src.ownS (by (solve | (repeat (first | exact List.Mem.head _ | apply List.Mem.tail))))) | (exact Src.own (by (solve | (repeat (first | exact List.Mem.head _ | apply List.Mem.tail))))) | (exact Src.sls (by (solve | (repeat (first | exact List.Mem.head _ | apply List.Mem.tail)))))) (by first | exact one_map one8 _ | exact ones_spec rfl | exact one_map (fun _ => rfl) _ | (intro u hu; simp at hu; simp [hu, Value.oneCell'])) (by first | omega | (simp only [maxLen]; omega)) (by first | omega | (simp only [maxLen]; omega)) ?_
  intro ob2 cap2 ho2
  refine RL.assign rfl rfl rfl rfl ?_
  refine RL.nil ?_
  refine NQ.seq ?_
  refine CW.only (.cons (k := 2) rfl .nil) ?_
  refine CW.ret ?_
  refine RQ.block ?_
  -- STOP: ret; end
  exact RQ.ownB (l := bodyR r) rfl rfl (by first | exact .keep (Split.none _) | exact .drop (.keep (Split.none _)) | exact .drop (.drop (.keep (Split.none _)))) (by unfold bodyR; simp [hk, beN_length, be4_length, be8'_length, keyL]) (by unfold bodyR; simp [hk, keyL]) (by first | assumption | (right; rfl))
set_option maxHeartbeats 4000000 in
theorem rbody_7 (r : Rdg) (hk : r.kind = 7) (hr : r.Ok) : Spc Try.prog 82 #[.agg r.cells.toArray] [] [] (OwnB (bodyR r)) := by
  refine Spc.enter Try.func82 rfl rfl rfl (fun w0 hw0 => ?_)
  refine CW.seq ?_
  refine CW.region (ef := [0]) (bk := []) ?_
  refine RL.box rfl rfl rfl rfl rfl rfl ?_
  intro b1
  refine RL.assign rfl rfl rfl rfl ?_
  refine RL.nil ?_
  refine NQ.seq ?_
  refine CW.seq ?_
  -- STOP: region; todo top: ["code", ["region", 1, [{"d": 6, "op": ["buildSlice", 34, 0, []], "ty": 34, "pos": "ref.go:35", "after": [], "guard": null}, {"d": 3, "op": ["assign", ["t", 6]], "ty": 34, "pos": "ref.go:35", "after":
  refine CW.freezeAll rfl ?_
  simp only [List.cons_append, List.nil_append]
  refine CW.region (ef := [0]) (bk := []) ?_
  refine RL.buildOwn [] Try.runUnderlying34 Try.sizeOf5 Try.zeroValue5 rfl rfl (by decide) (by decide) rfl (by decide) rfl rfl rfl rfl rfl rfl ?_
  intro b2
  refine RL.assign rfl rfl rfl rfl ?_
  refine RL.nil ?_
  refine NQ.seq ?_
  refine CW.seq ?_
  refine CW.region (ef := []) (bk := []) ?_
  refine RL.fieldAddr fa_33_0 rfl rfl rfl rfl ?_
  refine RL.load Try.isAgg3 rfl rfl rfl rfl (by first | assumption | (apply Rd.get; (solve | (repeat (first | exact List.Mem.head _ | apply List.Mem.tail))); assumption) | (apply Rd.getS; (solve | (repeat (first | exact List.Mem.head _ | apply List.Mem.tail))); assumption) | (apply Rd.getO; (solve | (repeat (first | exact List.Mem.head _ | apply List.Mem.tail))); assumption) | (apply Rd.getI; (solve | (repeat (first | exact List.Mem.head _ | apply List.Mem.tail))); assumption) | (apply Rd.cel; (solve | (repeat (first | exact List.Mem.head _ | apply List.Mem.tail))); exact rfl) | (apply Rd.celI; (solve | (repeat (first | exact List.Mem.head _ | apply List.Mem.tail))); exact rfl)) ?_
  refine RL.nil ?_
  refine NQ.seq ?_
  refine CW.block ?_
  refine CW.seq ?_
  refine CW.region (ef := []) (bk := []) ?_
  refine RL.bin rfl rfl rfl rfl rfl rfl ?_
  refine RL.assign rfl rfl rfl rfl ?_
  refine RL.nil ?_
  refine NQ.seq ?_
  -- STOP: if; todo top: ["code", ["cond", ["t", 10], ["seq", ["seq", ["region", 5, [{"d": 4, "op": ["assign", ["c", ["int", "Go.IntKind.i64", 0]]], "ty": 3, "pos": "ref.go:38", "after": [], "guard": null}], false], ["block",
  refine CW.condF rfl ((by rw [hk]; rfl)) ?_
  refine CW.seq ?_
  refine CW.region (ef := []) (bk := []) ?_
  refine RL.bin rfl rfl rfl rfl rfl rfl ?_
  refine RL.assign rfl rfl rfl rfl ?_
  refine RL.nil ?_
  refine NQ.seq ?_
  refine CW.only (.cons (k := 1) rfl (.cons (k := 3) rfl (.cons (k := 8) rfl (.cons (k := 35) rfl .nil)))) ?_
  -- STOP: if; todo top: ["code", ["cond", ["t", 35], ["seq", ["region", 15, [{"d": 37, "op": ["fieldAddr", 33, ["t", 1], 3], "ty": 0, "pos": "ref.go:46", "after": [], "guard": null}, {"d": 38, "op": ["load", 24, ["t", 37]], 
  refine CW.condF rfl ((by rw [hk]; rfl)) ?_
  refine CW.seq ?_
  refine CW.region (ef := []) (bk := []) ?_
  refine RL.bin rfl rfl rfl rfl rfl rfl ?_
  refine RL.assign rfl rfl rfl rfl ?_
  refine RL.nil ?_
  refine NQ.seq ?_
  -- STOP: if; todo top: ["code", ["cond", ["t", 40], ["seq", ["region", 17, [{"d": 42, "op": ["fieldAddr", 33, ["t", 1], 4], "ty": 0, "pos": "ref.go:48", "after": [], "guard": null}, {"d": 43, "op": ["load", 25, ["t", 42]], 
  refine CW.condF rfl ((by rw [hk]; rfl)) ?_
  refine CW.seq ?_
  refine CW.region (ef := []) (bk := []) ?_
  refine RL.bin rfl rfl rfl rfl rfl rfl ?_
  refine RL.assign rfl rfl rfl rfl ?_
  refine RL.nil ?_
  refine NQ.seq ?_
  -- STOP: if; todo top: ["code", ["cond", ["t", 46], ["seq", ["region", 19, [{"d": 48, "op": ["fieldAddr", 33, ["t", 1], 5], "ty": 0, "pos": "ref.go:50", "after": [], "guard": null}, {"d": 49, "op": ["load", 22, ["t", 48]], 
  refine CW.condF rfl ((by rw [hk]; rfl)) ?_
  refine CW.seq ?_
  refine CW.region (ef := []) (bk := []) ?_
  refine RL.bin rfl rfl rfl rfl rfl rfl ?_
  refine RL.assign rfl rfl rfl rfl ?_
  refine RL.nil ?_
  refine NQ.seq ?_
  refine CW.only (.cons (k := 1) rfl (.cons (k := 3) rfl (.cons (k := 8) rfl (.cons (k := 56) rfl .nil)))) ?_
  -- STOP: if; todo top: ["code", ["cond", ["t", 56], ["seq", ["region", 21, [{"d": 58, "op": ["fieldAddr", 33, ["t", 1], 7], "ty": 0, "pos": "ref.go:52", "after": [], "guard": null}, {"d": 59, "op": ["load", 25, ["t", 58]], 
  refine CW.condF rfl ((by rw [hk]; rfl)) ?_
  refine CW.seq ?_
  refine CW.region (ef := []) (bk := []) ?_
  refine RL.bin rfl rfl rfl rfl rfl rfl ?_
  refine RL.assign rfl rfl rfl rfl ?_
  refine RL.nil ?_
  refine NQ.seq ?_
  -- STOP: if; todo top: ["code", ["cond", ["t", 70], ["seq", ["region", 23, [{"d": 72, "op": ["fieldAddr", 33, ["t", 1], 7], "ty": 0, "pos": "ref.go:54", "after": [], "guard": null}, {"d": 73, "op": ["load", 25, ["t", 72]], 
  refine CW.condF rfl ((by rw [hk]; rfl)) ?_
  refine CW.seq ?_
  refine CW.region (ef := []) (bk := []) ?_
  refine RL.bin rfl rfl rfl rfl rfl rfl ?_
  refine RL.assign rfl rfl rfl rfl ?_
  refine RL.nil ?_
  refine NQ.seq ?_
  -- STOP: if; todo top: ["code", ["cond", ["t", 79], ["seq", ["region", 25, [{"d": 81, "op": ["fieldAddr", 33, ["t", 1], 11], "ty": 0, "pos": "ref.go:56", "after": [], "guard": null}, {"d": 82, "op": ["load", 30, ["t", 81]],
  refine CW.condT rfl ((by rw [hk]; rfl)) ?_
  refine CW.seq ?_
  refine CW.region (ef := [2]) (bk := []) ?_
  refine RL.fieldAddr fa_33_11 rfl rfl rfl rfl ?_
  refine RL.load Try.isAgg30 rfl rfl rfl rfl (by first | assumption | (apply Rd.get; (solve | (repeat (first | exact List.Mem.head _ | apply List.Mem.tail))); assumption) | (apply Rd.getS; (solve | (repeat (first | exact List.Mem.head _ | apply List.Mem.tail))); assumption) | (apply Rd.getO; (solve | (repeat (first | exact List.Mem.head _ | apply List.Mem.tail))); assumption) | (apply Rd.getI; (solve | (repeat (first | exact List.Mem.head _ | apply List.Mem.tail))); assumption) | (apply Rd.cel; (solve | (repeat (first | exact List.Mem.head _ | apply List.Mem.tail))); exact rfl) | (apply Rd.celI; (solve | (repeat (first | exact List.Mem.head _ | apply List.Mem.tail))); exact rfl)) ?_
  refine RL.call (rnumT r.tick hr.tick 8 (by decide)) Try.call134 rfl rfl rfl rfl rfl (by repeat (first | exact Pick.nil | apply Pick.take | apply Pick.leave)) (by repeat (first | exact Lend.nil | (refine Lend.inI ?_ ?_; (solve | (repeat (first | exact List.Mem.head _ | apply List.Mem.tail)))) | (refine Lend.inH ?_ ?_; (solve | (repeat (first | exact List.Mem.head _ | apply List.Mem.tail)))))) (.inl rfl) ?_
  rintro _ _ _ ⟨ob1, cap1, rfl, rfl, rfl, ho1⟩
  refine RL.assign rfl rfl rfl rfl ?_
  refine RL.nil ?_
  refine NQ.seq ?_
  refine CW.only (.cons (k := 2) rfl .nil) ?_
  refine CW.ret ?_
  refine RQ.block ?_
  -- STOP: ret; end
  exact RQ.ownB (l := bodyR r) rfl rfl (by first | exact .keep (Split.none _) | exact .drop (.keep (Split.none _)) | exact .drop (.drop (.keep (Split.none _)))) (by unfold bodyR; simp [hk, beN_length, be4_length, be8'_length, keyL]) (by unfold bodyR; simp [hk, keyL]) (by first | assumption | (right; rfl))
set_option maxHeartbeats 4000000 in
theorem rbody_8 (r : Rdg) (hk : r.kind = 8) (hr : r.Ok) : Spc Try.prog 82 #[.agg r.cells.toArray] [] [] (OwnB (bodyR r)) := by
  refine Spc.enter Try.func82 rfl rfl rfl (fun w0 hw0 => ?_)
  refine CW.seq ?_
  refine CW.region (ef := [0]) (bk := []) ?_
  refine RL.box rfl rfl rfl rfl rfl rfl ?_
  intro b1
  refine RL.assign rfl rfl rfl rfl ?_
  refine RL.nil ?_
  refine NQ.seq ?_
  refine CW.seq ?_
  -- STOP: region; todo top: ["code", ["region", 1, [{"d": 6, "op": ["buildSlice", 34, 0, []], "ty": 34, "pos": "ref.go:35", "after": [], "guard": null}, {"d": 3, "op": ["assign", ["t", 6]], "ty": 34, "pos": "ref.go:35", "after":
  refine CW.freezeAll rfl ?_
  simp only [List.cons_append, List.nil_append]
  refine CW.region (ef := [0]) (bk := []) ?_
  refine RL.buildOwn [] Try.runUnderlying34 Try.sizeOf5 Try.zeroValue5 rfl rfl (by decide) (by decide) rfl (by decide) rfl rfl rfl rfl rfl rfl ?_
  intro b2
  refine RL.assign rfl rfl rfl rfl ?_
  refine RL.nil ?_
  refine NQ.seq ?_
  refine CW.seq ?_
  refine CW.region (ef := []) (bk := []) ?_
  refine RL.fieldAddr fa_33_0 rfl rfl rfl rfl ?_
  refine RL.load Try.isAgg3 rfl rfl rfl rfl (by first | assumption | (apply Rd.get; (solve | (repeat (first | exact List.Mem.head _ | apply List.Mem.tail))); assumption) | (apply Rd.getS; (solve | (repeat (first | exact List.Mem.head _ | apply List.Mem.tail))); assumption) | (apply Rd.getO; (solve | (repeat (first | exact List.Mem.head _ | apply List.Mem.tail))); assumption) | (apply Rd.getI; (solve | (repeat (first | exact List.Mem.head _ | apply List.Mem.tail))); assumption) | (apply Rd.cel; (solve | (repeat (first | exact List.Mem.head _ | apply List.Mem.tail))); exact rfl) | (apply Rd.celI; (solve | (repeat (first | exact List.Mem.head _ | apply List.Mem.tail))); exact rfl)) ?_
  refine RL.nil ?_
  refine NQ.seq ?_
  refine CW.block ?_
  refine CW.seq ?_
  refine CW.region (ef := []) (bk := []) ?_
  refine RL.bin rfl rfl rfl rfl rfl rfl ?_
  refine RL.assign rfl rfl rfl rfl ?_
  refine RL.nil ?_
  refine NQ.seq ?_
  -- STOP: if; todo top: ["code", ["cond", ["t", 10], ["seq", ["seq", ["region", 5, [{"d": 4, "op": ["assign", ["c", ["int", "Go.IntKind.i64", 0]]], "ty": 3, "pos": "ref.go:38", "after": [], "guard": null}], false], ["block",
  refine CW.condF rfl ((by rw [hk]; rfl)) ?_
  refine CW.seq ?_
  refine CW.region (ef := []) (bk := []) ?_
  refine RL.bin rfl rfl rfl rfl rfl rfl ?_
  refine RL.assign rfl rfl rfl rfl ?_
  refine RL.nil ?_
  refine NQ.seq ?_
  refine CW.only (.cons (k := 1) rfl (.cons (k := 3) rfl (.cons (k := 8) rfl (.cons (k := 35) rfl .nil)))) ?_
  -- STOP: if; todo top: ["code", ["cond", ["t", 35], ["seq", ["region", 15, [{"d": 37, "op": ["fieldAddr", 33, ["t", 1], 3], "ty": 0, "pos": "ref.go:46", "after": [], "guard": null}, {"d": 38, "op": ["load", 24, ["t", 37]], 
  refine CW.condF rfl ((by rw [hk]; rfl)) ?_
  refine CW.seq ?_
  refine CW.region (ef := []) (bk := []) ?_
  refine RL.bin rfl rfl rfl rfl rfl rfl ?_
  refine RL.assign rfl rfl rfl rfl ?_
  refine RL.nil ?_
  refine NQ.seq ?_
  -- STOP: if; todo top: ["code", ["cond", ["t", 40], ["seq", ["region", 17, [{"d": 42, "op": ["fieldAddr", 33, ["t", 1], 4], "ty": 0, "pos": "ref.go:48", "after": [], "guard": null}, {"d": 43, "op": ["load", 25, ["t", 42]], 
  refine CW.condF rfl ((by rw [hk]; rfl)) ?_
  refine CW.seq ?_
  refine CW.region (ef := []) (bk := []) ?_
  refine RL.bin rfl rfl rfl rfl rfl rfl ?_
  refine RL.assign rfl rfl rfl rfl ?_
  refine RL.nil ?_
  refine NQ.seq ?_
  -- STOP: if; todo top: ["code", ["cond", ["t", 46], ["seq", ["region", 19, [{"d": 48, "op": ["fieldAddr", 33, ["t", 1], 5], "ty": 0, "pos": "ref.go:50", "after": [], "guard": null}, {"d": 49, "op": ["load", 22, ["t", 48]], 
  refine CW.condF rfl ((by rw [hk]; rfl)) ?_
  refine CW.seq ?_
  refine CW.region (ef := []) (bk := []) ?_
  refine RL.bin rfl rfl rfl rfl rfl rfl ?_
  refine RL.assign rfl rfl rfl rfl ?_
  refine RL.nil ?_
  refine NQ.seq ?_
  refine CW.only (.cons (k := 1) rfl (.cons (k := 3) rfl (.cons (k := 8) rfl (.cons (k := 56) rfl .nil)))) ?_
  -- STOP: if; todo top: ["code", ["cond", ["t", 56], ["seq", ["region", 21, [{"d": 58, "op": ["fieldAddr", 33, ["t", 1], 7], "ty": 0, "pos": "ref.go:52", "after": [], "guard": null}, {"d": 59, "op": ["load", 25, ["t", 58]], 
  refine CW.condF rfl ((by rw [hk]; rfl)) ?_
  refine CW.seq ?_
  refine CW.region (ef := []) (bk := []) ?_
  refine RL.bin rfl rfl rfl rfl rfl rfl ?_
  refine RL.assign rfl rfl rfl rfl ?_
  refine RL.nil ?_
  refine NQ.seq ?_
  -- STOP: if; todo top: ["code", ["cond", ["t", 70], ["seq", ["region", 23, [{"d": 72, "op": ["fieldAddr", 33, ["t", 1], 7], "ty": 0, "pos": "ref.go:54", "after": [], "guard": null}, {"d": 73, "op": ["load", 25, ["t", 72]], 
  refine CW.condF rfl ((by rw [hk]; rfl)) ?_
  refine CW.seq ?_
  refine CW.region (ef := []) (bk := []) ?_
  refine RL.bin rfl rfl rfl rfl rfl rfl ?_
  refine RL.assign rfl rfl rfl rfl ?_
  refine RL.nil ?_
  refine NQ.seq ?_
  -- STOP: if; todo top: ["code", ["cond", ["t", 79], ["seq", ["region", 25, [{"d": 81, "op": ["fieldAddr", 33, ["t", 1], 11], "ty": 0, "pos": "ref.go:56", "after": [], "guard": null}, {"d": 82, "op": ["load", 30, ["t", 81]],
  refine CW.condF rfl ((by rw [hk]; rfl)) ?_
  refine CW.seq ?_
  refine CW.region (ef := []) (bk := []) ?_
  refine RL.bin rfl rfl rfl rfl rfl rfl ?_
  refine RL.assign rfl rfl rfl rfl ?_
  refine RL.nil ?_
  refine NQ.seq ?_
  refine CW.only (.cons (k := 1) rfl (.cons (k := 3) rfl (.cons (k := 8) rfl (.cons (k := 84) rfl .nil)))) ?_
  -- STOP: if; todo top: ["code", ["cond", ["t", 84], ["seq", ["region", 27, [{"d": 86, "op": ["fieldAddr", 33, ["t", 1], 12], "ty": 0, "pos": "ref.go:58", "after": [], "guard": null}, {"d": 87, "op": ["load", 5, ["t", 86]], 
  refine CW.condT rfl ((by rw [hk]; rfl)) ?_
  refine CW.seq ?_
  refine CW.region (ef := [2]) (bk := []) ?_
  refine RL.fieldAddr fa_33_12 rfl rfl rfl rfl ?_
  refine RL.load Try.isAgg5 rfl rfl rfl rfl (by first | assumption | (apply Rd.get; (solve | (repeat (first | exact List.Mem.head _ | apply List.Mem.tail))); assumption) | (apply Rd.getS; (solve | (repeat (first | exact List.Mem.head _ | apply List.Mem.tail))); assumption) | (apply Rd.getO; (solve | (repeat (first | exact List.Mem.head _ | apply List.Mem.tail))); assumption) | (apply Rd.getI; (solve | (repeat (first | exact List.Mem.head _ | apply List.Mem.tail))); assumption) | (apply Rd.cel; (solve | (repeat (first | exact List.Mem.head _ | apply List.Mem.tail))); exact rfl) | (apply Rd.celI; (solve | (repeat (first | exact List.Mem.head _ | apply List.Mem.tail))); exact rfl)) ?_
  refine RL.buildOwn [_] Try.runUnderlying34 Try.sizeOf5 Try.zeroValue5 rfl rfl (by decide) (by decide) rfl (by decide) rfl rfl rfl rfl rfl rfl ?_
  intro b3
  refine RL.assign rfl rfl rfl rfl ?_
  refine RL.nil ?_
  refine NQ.seq ?_
  refine CW.only (.cons (k := 2) rfl .nil) ?_
  refine CW.ret ?_
  refine RQ.block ?_
  -- STOP: ret; end
  exact RQ.ownB (l := bodyR r) rfl rfl (by first | exact .keep (Split.none _) | exact .drop (.keep (Split.none _)) | exact .drop (.drop (.keep (Split.none _)))) (by unfold bodyR; simp [hk, beN_length, be4_length, be8'_length, keyL]) (by unfold bodyR; simp [hk, keyL]) (by first | assumption | (right; rfl))
set_option maxHeartbeats 4000000 in
theorem rbody_10 (r : Rdg) (hk : r.kind = 10) (hr : r.Ok) : Spc Try.prog 82 #[.agg r.cells.toArray] [] [] (OwnB (bodyR r)) := by
  refine Spc.enter Try.func82 rfl rfl rfl (fun w0 hw0 => ?_)
  refine CW.seq ?_
  refine CW.region (ef := [0]) (bk := []) ?_
  refine RL.box rfl rfl rfl rfl rfl rfl ?_
  intro b1
  refine RL.assign rfl rfl rfl rfl ?_
  refine RL.nil ?_
  refine NQ.seq ?_
  refine CW.seq ?_
  -- STOP: region; todo top: ["code", ["region", 1, [{"d": 6, "op": ["buildSlice", 34, 0, []], "ty": 34, "pos": "ref.go:35", "after": [], "guard": null}, {"d": 3, "op": ["assign", ["t", 6]], "ty": 34, "pos": "ref.go:35", "after":
  refine CW.freezeAll rfl ?_
  simp only [List.cons_append, List.nil_append]
  refine CW.region (ef := [0]) (bk := []) ?_
  refine RL.buildOwn [] Try.runUnderlying34 Try.sizeOf5 Try.zeroValue5 rfl rfl (by decide) (by decide) rfl (by decide) rfl rfl rfl rfl rfl rfl ?_
  intro b2
  refine RL.assign rfl rfl rfl rfl ?_
  refine RL.nil ?_
  refine NQ.seq ?_
  refine CW.seq ?_
  refine CW.region (ef := []) (bk := []) ?_
  refine RL.fieldAddr fa_33_0 rfl rfl rfl rfl ?_
  refine RL.load Try.isAgg3 rfl rfl rfl rfl (by first | assumption | (apply Rd.get; (solve | (repeat (first | exact List.Mem.head _ | apply List.Mem.tail))); assumption) | (apply Rd.getS; (solve | (repeat (first | exact List.Mem.head _ | apply List.Mem.tail))); assumption) | (apply Rd.getO; (solve | (repeat (first | exact List.Mem.head _ | apply List.Mem.tail))); assumption) | (apply Rd.getI; (solve | (repeat (first | exact List.Mem.head _ | apply List.Mem.tail))); assumption) | (apply Rd.cel; (solve | (repeat (first | exact List.Mem.head _ | apply List.Mem.tail))); exact rfl) | (apply Rd.celI; (solve | (repeat (first | exact List.Mem.head _ | apply List.Mem.tail))); exact rfl)) ?_
  refine RL.nil ?_
  refine NQ.seq ?_
  refine CW.block ?_
  refine CW.seq ?_
  refine CW.region (ef := []) (bk := []) ?_
  refine RL.bin rfl rfl rfl rfl rfl rfl ?_
  refine RL.assign rfl rfl rfl rfl ?_
  refine RL.nil ?_
  refine NQ.seq ?_
  -- STOP: if; todo top: ["code", ["cond", ["t", 10], ["seq", ["seq", ["region", 5, [{"d": 4, "op": ["assign", ["c", ["int", "Go.IntKind.i64", 0]]], "ty": 3, "pos": "ref.go:38", "after": [], "guard": null}], false], ["block",
  refine CW.condF rfl ((by rw [hk]; rfl)) ?_
  refine CW.seq ?_
  refine CW.region (ef := []) (bk := []) ?_
  refine RL.bin rfl rfl rfl rfl rfl rfl ?_
  refine RL.assign rfl rfl rfl rfl ?_
  refine RL.nil ?_
  refine NQ.seq ?_
  refine CW.only (.cons (k := 1) rfl (.cons (k := 3) rfl (.cons (k := 8) rfl (.cons (k := 35) rfl .nil)))) ?_
  -- STOP: if; todo top: ["code", ["cond", ["t", 35], ["seq", ["region", 15, [{"d": 37, "op": ["fieldAddr", 33, ["t", 1], 3], "ty": 0, "pos": "ref.go:46", "after": [], "guard": null}, {"d": 38, "op": ["load", 24, ["t", 37]], 
  refine CW.condF rfl ((by rw [hk]; rfl)) ?_
  refine CW.seq ?_
  refine CW.region (ef := []) (bk := []) ?_
  refine RL.bin rfl rfl rfl rfl rfl rfl ?_
  refine RL.assign rfl rfl rfl rfl ?_
  refine RL.nil ?_
  refine NQ.seq ?_
  -- STOP: if; todo top: ["code", ["cond", ["t", 40], ["seq", ["region", 17, [{"d": 42, "op": ["fieldAddr", 33, ["t", 1], 4], "ty": 0, "pos": "ref.go:48", "after": [], "guard": null}, {"d": 43, "op": ["load", 25, ["t", 42]], 
  refine CW.condF rfl ((by rw [hk]; rfl)) ?_
  refine CW.seq ?_
  refine CW.region (ef := []) (bk := []) ?_
  refine RL.bin rfl rfl rfl rfl rfl rfl ?_
  refine RL.assign rfl rfl rfl rfl ?_
  refine RL.nil ?_
  refine NQ.seq ?_
  -- STOP: if; todo top: ["code", ["cond", ["t", 46], ["seq", ["region", 19, [{"d": 48, "op": ["fieldAddr", 33, ["t", 1], 5], "ty": 0, "pos": "ref.go:50", "after": [], "guard": null}, {"d": 49, "op": ["load", 22, ["t", 48]], 
  refine CW.condF rfl ((by rw [hk]; rfl)) ?_
  refine CW.seq ?_
  refine CW.region (ef := []) (bk := []) ?_
  refine RL.bin rfl rfl rfl rfl rfl rfl ?_
  refine RL.assign rfl rfl rfl rfl ?_
  refine RL.nil ?_
  refine NQ.seq ?_
  refine CW.only (.cons (k := 1) rfl (.cons (k := 3) rfl (.cons (k := 8) rfl (.cons (k := 56) rfl .nil)))) ?_
  -- STOP: if; todo top: ["code", ["cond", ["t", 56], ["seq", ["region", 21, [{"d": 58, "op": ["fieldAddr", 33, ["t", 1], 7], "ty": 0, "pos": "ref.go:52", "after": [], "guard": null}, {"d": 59, "op": ["load", 25, ["t", 58]], 
  refine CW.condF rfl ((by rw [hk]; rfl)) ?_
  refine CW.seq ?_
  refine CW.region (ef := []) (bk := []) ?_
  refine RL.bin rfl rfl rfl rfl rfl rfl ?_
  refine RL.assign rfl rfl rfl rfl ?_
  refine RL.nil ?_
  refine NQ.seq ?_
  -- STOP: if; todo top: ["code", ["cond", ["t", 70], ["seq", ["region", 23, [{"d": 72, "op": ["fieldAddr", 33, ["t", 1], 7], "ty": 0, "pos": "ref.go:54", "after": [], "guard": null}, {"d": 73, "op": ["load", 25, ["t", 72]], 
  refine CW.condF rfl ((by rw [hk]; rfl)) ?_
  refine CW.seq ?_
  refine CW.region (ef := []) (bk := []) ?_
  refine RL.bin rfl rfl rfl rfl rfl rfl ?_
  refine RL.assign rfl rfl rfl rfl ?_
  refine RL.nil ?_
  refine NQ.seq ?_
  -- STOP: if; todo top: ["code", ["cond", ["t", 79], ["seq", ["region", 25, [{"d": 81, "op": ["fieldAddr", 33, ["t", 1], 11], "ty": 0, "pos": "ref.go:56", "after": [], "guard": null}, {"d": 82, "op": ["load", 30, ["t", 81]],
  refine CW.condF rfl ((by rw [hk]; rfl)) ?_
  refine CW.seq ?_
  refine CW.region (ef := []) (bk := []) ?_
  refine RL.bin rfl rfl rfl rfl rfl rfl ?_
  refine RL.assign rfl rfl rfl rfl ?_
  refine RL.nil ?_
  refine NQ.seq ?_
  refine CW.only (.cons (k := 1) rfl (.cons (k := 3) rfl (.cons (k := 8) rfl (.cons (k := 84) rfl .nil)))) ?_
  -- STOP: if; todo top: ["code", ["cond", ["t", 84], ["seq", ["region", 27, [{"d": 86, "op": ["fieldAddr", 33, ["t", 1], 12], "ty": 0, "pos": "ref.go:58", "after": [], "guard": null}, {"d": 87, "op": ["load", 5, ["t", 86]], 
  refine CW.condF rfl ((by rw [hk]; rfl)) ?_
  refine CW.seq ?_
  refine CW.region (ef := []) (bk := []) ?_
  refine RL.bin rfl rfl rfl rfl rfl rfl ?_
  refine RL.assign rfl rfl rfl rfl ?_
  refine RL.nil ?_
  refine NQ.seq ?_
  -- STOP: if; todo top: ["code", ["cond", ["t", 89], ["seq", ["region", 29, [{"d": 91, "op": ["fieldAddr", 33, ["t", 1], 13], "ty": 0, "pos": "ref.go:60", "after": [], "guard": null}, {"d": 92, "op": ["load", 25, ["t", 91]],
  refine CW.condT rfl ((by rw [hk]; rfl)) ?_
  refine CW.seq ?_
  refine CW.region (ef := [3]) (bk := []) ?_
  refine RL.fieldAddr fa_33_13 rfl rfl rfl rfl ?_
  refine RL.load Try.isAgg25 rfl rfl rfl rfl (by first | assumption | (apply Rd.get; (solve | (repeat (first | exact List.Mem.head _ | apply List.Mem.tail))); assumption) | (apply Rd.getS; (solve | (repeat (first | exact List.Mem.head _ | apply List.Mem.tail))); assumption) | (apply Rd.getO; (solve | (repeat (first | exact List.Mem.head _ | apply List.Mem.tail))); assumption) | (apply Rd.getI; (solve | (repeat (first | exact List.Mem.head _ | apply List.Mem.tail))); assumption) | (apply Rd.cel; (solve | (repeat (first | exact List.Mem.head _ | apply List.Mem.tail))); exact rfl) | (apply Rd.celI; (solve | (repeat (first | exact List.Mem.head _ | apply List.Mem.tail))); exact rfl)) ?_
  refine RL.conv Try.runUnderlying25 Try.runUnderlying30 rfl rfl rfl rfl ?_
  refine RL.call (rnum r.epoch 4 (by decide)) Try.call134 rfl rfl rfl rfl rfl (by repeat (first | exact Pick.nil | apply Pick.take | apply Pick.leave)) (by repeat (first | exact Lend.nil | (refine Lend.inI ?_ ?_; (solve | (repeat (first | exact List.Mem.head _ | apply List.Mem.tail)))) | (refine Lend.inH ?_ ?_; (solve | (repeat (first | exact List.Mem.head _ | apply List.Mem.tail)))))) (.inl rfl) ?_
  rintro _ _ _ ⟨ob1, cap1, rfl, rfl, rfl, ho1⟩
  refine RL.assign rfl rfl rfl rfl ?_
  refine RL.nil ?_
  refine NQ.seq ?_
  refine CW.only (.cons (k := 2) rfl .nil) ?_
  refine CW.ret ?_
  refine RQ.block ?_
  -- STOP: ret; end
  exact RQ.ownB (l := bodyR r) rfl rfl (by first | exact .keep (Split.none _) | exact .drop (.keep (Split.none _)) | exact .drop (.drop (.keep (Split.none _)))) (by unfold bodyR; simp [hk, beN_length, be4_length, be8'_length, keyL]) (by unfold bodyR; simp [hk, keyL]) (by first | assumption | (right; rfl))
set_option maxHeartbeats 4000000 in
theorem rbody_12 (r : Rdg) (hk : r.kind = 12) (hr : r.Ok) : Spc Try.prog 82 #[.agg r.cells.toArray] [] [] (OwnB (bodyR r)) := by
  refine Spc.enter Try.func82 rfl rfl rfl (fun w0 hw0 => ?_)
  refine CW.seq ?_
  refine CW.region (ef := [0]) (bk := []) ?_
  refine RL.box rfl rfl rfl rfl rfl rfl ?_
  intro b1
  refine RL.assign rfl rfl rfl rfl ?_
  refine RL.nil ?_
  refine NQ.seq ?_
  refine CW.seq ?_
  -- STOP: region; todo top: ["code", ["region", 1, [{"d": 6, "op": ["buildSlice", 34, 0, []], "ty": 34, "pos": "ref.go:35", "after": [], "guard": null}, {"d": 3, "op": ["assign", ["t", 6]], "ty": 34, "pos": "ref.go:35", "after":
  refine CW.freezeAll rfl ?_
  simp only [List.cons_append, List.nil_append]
  refine CW.region (ef := [0]) (bk := []) ?_
  refine RL.buildOwn [] Try.runUnderlying34 Try.sizeOf5 Try.zeroValue5 rfl rfl (by decide) (by decide) rfl (by decide) rfl rfl rfl rfl rfl rfl ?_
  intro b2
  refine RL.assign rfl rfl rfl rfl ?_
  refine RL.nil ?_
  refine NQ.seq ?_
  refine CW.seq ?_
  refine CW.region (ef := []) (bk := []) ?_
  refine RL.fieldAddr fa_33_0 rfl rfl rfl rfl ?_
  refine RL.load Try.isAgg3 rfl rfl rfl rfl (by first | assumption | (apply Rd.get; (solve | (repeat (first | exact List.Mem.head _ | apply List.Mem.tail))); assumption) | (apply Rd.getS; (solve | (repeat (first | exact List.Mem.head _ | apply List.Mem.tail))); assumption) | (apply Rd.getO; (solve | (repeat (first | exact List.Mem.head _ | apply List.Mem.tail))); assumption) | (apply Rd.getI; (solve | (repeat (first | exact List.Mem.head _ | apply List.Mem.tail))); assumption) | (apply Rd.cel; (solve | (repeat (first | exact List.Mem.head _ | apply List.Mem.tail))); exact rfl) | (apply Rd.celI; (solve | (repeat (first | exact List.Mem.head _ | apply List.Mem.tail))); exact rfl)) ?_
  refine RL.nil ?_
  refine NQ.seq ?_
  refine CW.block ?_
  refine CW.seq ?_
  refine CW.region (ef := []) (bk := []) ?_
  refine RL.bin rfl rfl rfl rfl rfl rfl ?_
  refine RL.assign rfl rfl rfl rfl ?_
  refine RL.nil ?_
  refine NQ.seq ?_
  -- STOP: if; todo top: ["code", ["cond", ["t", 10], ["seq", ["seq", ["region", 5, [{"d": 4, "op": ["assign", ["c", ["int", "Go.IntKind.i64", 0]]], "ty": 3, "pos": "ref.go:38", "after": [], "guard": null}], false], ["block",
  refine CW.condF rfl ((by rw [hk]; rfl)) ?_
  refine CW.seq ?_
  refine CW.region (ef := []) (bk := []) ?_
  refine RL.bin rfl rfl rfl rfl rfl rfl ?_
  refine RL.assign rfl rfl rfl rfl ?_
  refine RL.nil ?_
  refine NQ.seq ?_
  refine CW.only (.cons (k := 1) rfl (.cons (k := 3) rfl (.cons (k := 8) rfl (.cons (k := 35) rfl .nil)))) ?_
  -- STOP: if; todo top: ["code", ["cond", ["t", 35], ["seq", ["region", 15, [{"d": 37, "op": ["fieldAddr", 33, ["t", 1], 3], "ty": 0, "pos": "ref.go:46", "after": [], "guard": null}, {"d": 38, "op": ["load", 24, ["t", 37]], 
  refine CW.condF rfl ((by rw [hk]; rfl)) ?_
  refine CW.seq ?_
  refine CW.region (ef := []) (bk := []) ?_
  refine RL.bin rfl rfl rfl rfl rfl rfl ?_
  refine RL.assign rfl rfl rfl rfl ?_
  refine RL.nil ?_
  refine NQ.seq ?_
  -- STOP: if; todo top: ["code", ["cond", ["t", 40], ["seq", ["region", 17, [{"d": 42, "op": ["fieldAddr", 33, ["t", 1], 4], "ty": 0, "pos": "ref.go:48", "after": [], "guard": null}, {"d": 43, "op": ["load", 25, ["t", 42]], 
  refine CW.condF rfl ((by rw [hk]; rfl)) ?_
  refine CW.seq ?_
  refine CW.region (ef := []) (bk := []) ?_
  refine RL.bin rfl rfl rfl rfl rfl rfl ?_
  refine RL.assign rfl rfl rfl rfl ?_
  refine RL.nil ?_
  refine NQ.seq ?_
  -- STOP: if; todo top: ["code", ["cond", ["t", 46], ["seq", ["region", 19, [{"d": 48, "op": ["fieldAddr", 33, ["t", 1], 5], "ty": 0, "pos": "ref.go:50", "after": [], "guard": null}, {"d": 49, "op": ["load", 22, ["t", 48]], 
  refine CW.condF rfl ((by rw [hk]; rfl)) ?_
  refine CW.seq ?_
  refine CW.region (ef := []) (bk := []) ?_
  refine RL.bin rfl rfl rfl rfl rfl rfl ?_
  refine RL.assign rfl rfl rfl rfl ?_
  refine RL.nil ?_
  refine NQ.seq ?_
  refine CW.only (.cons (k := 1) rfl (.cons (k := 3) rfl (.cons (k := 8) rfl (.cons (k := 56) rfl .nil)))) ?_
  -- STOP: if; todo top: ["code", ["cond", ["t", 56], ["seq", ["region", 21, [{"d": 58, "op": ["fieldAddr", 33, ["t", 1], 7], "ty": 0, "pos": "ref.go:52", "after": [], "guard": null}, {"d": 59, "op": ["load", 25, ["t", 58]], 
  refine CW.condF rfl ((by rw [hk]; rfl)) ?_
  refine CW.seq ?_
  refine CW.region (ef := []) (bk := []) ?_
  refine RL.bin rfl rfl rfl rfl rfl rfl ?_
  refine RL.assign rfl rfl rfl rfl ?_
  refine RL.nil ?_
  refine NQ.seq ?_
  -- STOP: if; todo top: ["code", ["cond", ["t", 70], ["seq", ["region", 23, [{"d": 72, "op": ["fieldAddr", 33, ["t", 1], 7], "ty": 0, "pos": "ref.go:54", "after": [], "guard": null}, {"d": 73, "op": ["load", 25, ["t", 72]], 
  refine CW.condF rfl ((by rw [hk]; rfl)) ?_
  refine CW.seq ?_
  refine CW.region (ef := []) (bk := []) ?_
  refine RL.bin rfl rfl rfl rfl rfl rfl ?_
  refine RL.assign rfl rfl rfl rfl ?_
  refine RL.nil ?_
  refine NQ.seq ?_
  -- STOP: if; todo top: ["code", ["cond", ["t", 79], ["seq", ["region", 25, [{"d": 81, "op": ["fieldAddr", 33, ["t", 1], 11], "ty": 0, "pos": "ref.go:56", "after": [], "guard": null}, {"d": 82, "op": ["load", 30, ["t", 81]],
  refine CW.condF rfl ((by rw [hk]; rfl)) ?_
  refine CW.seq ?_
  refine CW.region (ef := []) (bk := []) ?_
  refine RL.bin rfl rfl rfl rfl rfl rfl ?_
  refine RL.assign rfl rfl rfl rfl ?_
  refine RL.nil ?_
  refine NQ.seq ?_
  refine CW.only (.cons (k := 1) rfl (.cons (k := 3) rfl (.cons (k := 8) rfl (.cons (k := 84) rfl .nil)))) ?_
  -- STOP: if; todo top: ["code", ["cond", ["t", 84], ["seq", ["region", 27, [{"d": 86, "op": ["fieldAddr", 33, ["t", 1], 12], "ty": 0, "pos": "ref.go:58", "after": [], "guard": null}, {"d": 87, "op": ["load", 5, ["t", 86]], 
  refine CW.condF rfl ((by rw [hk]; rfl)) ?_
  refine CW.seq ?_
  refine CW.region (ef := []) (bk := []) ?_
  refine RL.bin rfl rfl rfl rfl rfl rfl ?_
  refine RL.assign rfl rfl rfl rfl ?_
  refine RL.nil ?_
  refine NQ.seq ?_
  -- STOP: if; todo top: ["code", ["cond", ["t", 89], ["seq", ["region", 29, [{"d": 91, "op": ["fieldAddr", 33, ["t", 1], 13], "ty": 0, "pos": "ref.go:60", "after": [], "guard": null}, {"d": 92, "op": ["load", 25, ["t", 91]],
  refine CW.condF rfl ((by rw [hk]; rfl)) ?_
  refine CW.seq ?_
  refine CW.region (ef := []) (bk := []) ?_
  refine RL.bin rfl rfl rfl rfl rfl rfl ?_
  refine RL.assign rfl rfl rfl rfl ?_
  refine RL.nil ?_
  refine NQ.seq ?_
  -- STOP: if; todo top: ["code", ["cond", ["t", 95], ["seq", ["region", 31, [{"d": 97, "op": ["fieldAddr", 33, ["t", 1], 16], "ty": 0, "pos": "ref.go:62", "after": [], "guard": null}, {"d": 98, "op": ["load", 5, ["t", 97]], 
  refine CW.condT rfl ((by rw [hk]; rfl)) ?_
  refine CW.seq ?_
  refine CW.region (ef := [2]) (bk := []) ?_
  refine RL.fieldAddr fa_33_16 rfl rfl rfl rfl ?_
  refine RL.load Try.isAgg5 rfl rfl rfl rfl (by first | assumption | (apply Rd.get; (solve | (repeat (first | exact List.Mem.head _ | apply List.Mem.tail))); assumption) | (apply Rd.getS; (solve | (repeat (first | exact List.Mem.head _ | apply List.Mem.tail))); assumption) | (apply Rd.getO; (solve | (repeat (first | exact List.Mem.head _ | apply List.Mem.tail))); assumption) | (apply Rd.getI; (solve | (repeat (first | exact List.Mem.head _ | apply List.Mem.tail))); assumption) | (apply Rd.cel; (solve | (repeat (first | exact List.Mem.head _ | apply List.Mem.tail))); exact rfl) | (apply Rd.celI; (solve | (repeat (first | exact List.Mem.head _ | apply List.Mem.tail))); exact rfl)) ?_
  refine RL.buildOwn [_] Try.runUnderlying34 Try.sizeOf5 Try.zeroValue5 rfl rfl (by decide) (by decide) rfl (by decide) rfl rfl rfl rfl rfl rfl ?_
  intro b3
  refine RL.assign rfl rfl rfl rfl ?_
  refine RL.nil ?_
  refine NQ.seq ?_
  refine CW.only (.cons (k := 2) rfl .nil) ?_
  refine CW.ret ?_
  refine RQ.block ?_
  -- STOP: ret; end
  exact RQ.ownB (l := bodyR r) rfl rfl (by first | exact .keep (Split.none _) | exact .drop (.keep (Split.none _)) | exact .drop (.drop (.keep (Split.none _)))) (by unfold bodyR; simp [hk, beN_length, be4_length, be8'_length, keyL]) (by unfold bodyR; simp [hk, keyL]) (by first | assumption | (right; rfl))
set_option maxHeartbeats 4000000 in
theorem rbody_13 (r : Rdg) (hk : r.kind = 13) (hr : r.Ok) : Spc Try.prog 82 #[.agg r.cells.toArray] [] [] (OwnB (bodyR r)) := by
  refine Spc.enter Try.func82 rfl rfl rfl (fun w0 hw0 => ?_)
  refine CW.seq ?_
  refine CW.region (ef := [0]) (bk := []) ?_
  refine RL.box rfl rfl rfl rfl rfl rfl ?_
  intro b1
  refine RL.assign rfl rfl rfl rfl ?_
  refine RL.nil ?_
  refine NQ.seq ?_
  refine CW.seq ?_
  -- STOP: region; todo top: ["code", ["region", 1, [{"d": 6, "op": ["buildSlice", 34, 0, []], "ty": 34, "pos": "ref.go:35", "after": [], "guard": null}, {"d": 3, "op": ["assign", ["t", 6]], "ty": 34, "pos": "ref.go:35", "after":
  refine CW.freezeAll rfl ?_
  simp only [List.cons_append, List.nil_append]
  refine CW.region (ef := [0]) (bk := []) ?_
  refine RL.buildOwn [] Try.runUnderlying34 Try.sizeOf5 Try.zeroValue5 rfl rfl (by decide) (by decide) rfl (by decide) rfl rfl rfl rfl rfl rfl ?_
  intro b2
  refine RL.assign rfl rfl rfl rfl ?_
  refine RL.nil ?_
  refine NQ.seq ?_
  refine CW.seq ?_
  refine CW.region (ef := []) (bk := []) ?_
  refine RL.fieldAddr fa_33_0 rfl rfl rfl rfl ?_
  refine RL.load Try.isAgg3 rfl rfl rfl rfl (by first | assumption | (apply Rd.get; (solve | (repeat (first | exact List.Mem.head _ | apply List.Mem.tail))); assumption) | (apply Rd.getS; (solve | (repeat (first | exact List.Mem.head _ | apply List.Mem.tail))); assumption) | (apply Rd.getO; (solve | (repeat (first | exact List.Mem.head _ | apply List.Mem.tail))); assumption) | (apply Rd.getI; (solve | (repeat (first | exact List.Mem.head _ | apply List.Mem.tail))); assumption) | (apply Rd.cel; (solve | (repeat (first | exact List.Mem.head _ | apply List.Mem.tail))); exact rfl) | (apply Rd.celI; (solve | (repeat (first | exact List.Mem.head _ | apply List.Mem.tail))); exact rfl)) ?_
  refine RL.nil ?_
  refine NQ.seq ?_
  refine CW.block ?_
  refine CW.seq ?_
  refine CW.region (ef := []) (bk := []) ?_
  refine RL.bin rfl rfl rfl rfl rfl rfl ?_
  refine RL.assign rfl rfl rfl rfl ?_
  refine RL.nil ?_
  refine NQ.seq ?_
  -- STOP: if; todo top: ["code", ["cond", ["t", 10], ["seq", ["seq", ["region", 5, [{"d": 4, "op": ["assign", ["c", ["int", "Go.IntKind.i64", 0]]], "ty": 3, "pos": "ref.go:38", "after": [], "guard": null}], false], ["block",
  refine CW.condF rfl ((by rw [hk]; rfl)) ?_
  refine CW.seq ?_
  refine CW.region (ef := []) (bk := []) ?_
  refine RL.bin rfl rfl rfl rfl rfl rfl ?_
  refine RL.assign rfl rfl rfl rfl ?_
  refine RL.nil ?_
  refine NQ.seq ?_
  refine CW.only (.cons (k := 1) rfl (.cons (k := 3) rfl (.cons (k := 8) rfl (.cons (k := 35) rfl .nil)))) ?_
  -- STOP: if; todo top: ["code", ["cond", ["t", 35], ["seq", ["region", 15, [{"d": 37, "op": ["fieldAddr", 33, ["t", 1], 3], "ty": 0, "pos": "ref.go:46", "after": [], "guard": null}, {"d": 38, "op": ["load", 24, ["t", 37]], 
  refine CW.condF rfl ((by rw [hk]; rfl)) ?_
  refine CW.seq ?_
  refine CW.region (ef := []) (bk := []) ?_
  refine RL.bin rfl rfl rfl rfl rfl rfl ?_
  refine RL.assign rfl rfl rfl rfl ?_
  refine RL.nil ?_
  refine NQ.seq ?_
  -- STOP: if; todo top: ["code", ["cond", ["t", 40], ["seq", ["region", 17, [{"d": 42, "op": ["fieldAddr", 33, ["t", 1], 4], "ty": 0, "pos": "ref.go:48", "after": [], "guard": null}, {"d": 43, "op": ["load", 25, ["t", 42]], 
  refine CW.condF rfl ((by rw [hk]; rfl)) ?_
  refine CW.seq ?_
  refine CW.region (ef := []) (bk := []) ?_
  refine RL.bin rfl rfl rfl rfl rfl rfl ?_
  refine RL.assign rfl rfl rfl rfl ?_
  refine RL.nil ?_
  refine NQ.seq ?_
  -- STOP: if; todo top: ["code", ["cond", ["t", 46], ["seq", ["region", 19, [{"d": 48, "op": ["fieldAddr", 33, ["t", 1], 5], "ty": 0, "pos": "ref.go:50", "after": [], "guard": null}, {"d": 49, "op": ["load", 22, ["t", 48]], 
  refine CW.condF rfl ((by rw [hk]; rfl)) ?_
  refine CW.seq ?_
  refine CW.region (ef := []) (bk := []) ?_
  refine RL.bin rfl rfl rfl rfl rfl rfl ?_
  refine RL.assign rfl rfl rfl rfl ?_
  refine RL.nil ?_
  refine NQ.seq ?_
  refine CW.only (.cons (k := 1) rfl (.cons (k := 3) rfl (.cons (k := 8) rfl (.cons (k := 56) rfl .nil)))) ?_
  -- STOP: if; todo top: ["code", ["cond", ["t", 56], ["seq", ["region", 21, [{"d": 58, "op": ["fieldAddr", 33, ["t", 1], 7], "ty": 0, "pos": "ref.go:52", "after": [], "guard": null}, {"d": 59, "op": ["load", 25, ["t", 58]], 
  refine CW.condF rfl ((by rw [hk]; rfl)) ?_
  refine CW.seq ?_
  refine CW.region (ef := []) (bk := []) ?_
  refine RL.bin rfl rfl rfl rfl rfl rfl ?_
  refine RL.assign rfl rfl rfl rfl ?_
  refine RL.nil ?_
  refine NQ.seq ?_
  -- STOP: if; todo top: ["code", ["cond", ["t", 70], ["seq", ["region", 23, [{"d": 72, "op": ["fieldAddr", 33, ["t", 1], 7], "ty": 0, "pos": "ref.go:54", "after": [], "guard": null}, {"d": 73, "op": ["load", 25, ["t", 72]], 
  refine CW.condF rfl ((by rw [hk]; rfl)) ?_
  refine CW.seq ?_
  refine CW.region (ef := []) (bk := []) ?_
  refine RL.bin rfl rfl rfl rfl rfl rfl ?_
  refine RL.assign rfl rfl rfl rfl ?_
  refine RL.nil ?_
  refine NQ.seq ?_
  -- STOP: if; todo top: ["code", ["cond", ["t", 79], ["seq", ["region", 25, [{"d": 81, "op": ["fieldAddr", 33, ["t", 1], 11], "ty": 0, "pos": "ref.go:56", "after": [], "guard": null}, {"d": 82, "op": ["load", 30, ["t", 81]],
  refine CW.condF rfl ((by rw [hk]; rfl)) ?_
  refine CW.seq ?_
  refine CW.region (ef := []) (bk := []) ?_
  refine RL.bin rfl rfl rfl rfl rfl rfl ?_
  refine RL.assign rfl rfl rfl rfl ?_
  refine RL.nil ?_
  refine NQ.seq ?_
  refine CW.only (.cons (k := 1) rfl (.cons (k := 3) rfl (.cons (k := 8) rfl (.cons (k := 84) rfl .nil)))) ?_
  -- STOP: if; todo top: ["code", ["cond", ["t", 84], ["seq", ["region", 27, [{"d": 86, "op": ["fieldAddr", 33, ["t", 1], 12], "ty": 0, "pos": "ref.go:58", "after": [], "guard": null}, {"d": 87, "op": ["load", 5, ["t", 86]], 
  refine CW.condF rfl ((by rw [hk]; rfl)) ?_
  refine CW.seq ?_
  refine CW.region (ef := []) (bk := []) ?_
  refine RL.bin rfl rfl rfl rfl rfl rfl ?_
  refine RL.assign rfl rfl rfl rfl ?_
  refine RL.nil ?_
  refine NQ.seq ?_
  -- STOP: if; todo top: ["code", ["cond", ["t", 89], ["seq", ["region", 29, [{"d": 91, "op": ["fieldAddr", 33, ["t", 1], 13], "ty": 0, "pos": "ref.go:60", "after": [], "guard": null}, {"d": 92, "op": ["load", 25, ["t", 91]],
  refine CW.condF rfl ((by rw [hk]; rfl)) ?_
  refine CW.seq ?_
  refine CW.region (ef := []) (bk := []) ?_
  refine RL.bin rfl rfl rfl rfl rfl rfl ?_
  refine RL.assign rfl rfl rfl rfl ?_
  refine RL.nil ?_
  refine NQ.seq ?_
  -- STOP: if; todo top: ["code", ["cond", ["t", 95], ["seq", ["region", 31, [{"d": 97, "op": ["fieldAddr", 33, ["t", 1], 16], "ty": 0, "pos": "ref.go:62", "after": [], "guard": null}, {"d": 98, "op": ["load", 5, ["t", 97]], 
  refine CW.condF rfl ((by rw [hk]; rfl)) ?_
  refine CW.seq ?_
  refine CW.region (ef := []) (bk := []) ?_
  refine RL.bin rfl rfl rfl rfl rfl rfl ?_
  refine RL.assign rfl rfl rfl rfl ?_
  refine RL.nil ?_
  refine NQ.seq ?_
  refine CW.only (.cons (k := 1) rfl (.cons (k := 3) rfl (.cons (k := 8) rfl (.cons (k := 100) rfl .nil)))) ?_
  -- STOP: if; todo top: ["code", ["cond", ["t", 100], ["seq", ["region", 33, [{"d": 102, "op": ["fieldAddr", 33, ["t", 1], 12], "ty": 0, "pos": "ref.go:64", "after": [], "guard": null}, {"d": 103, "op": ["load", 5, ["t", 102
  refine CW.condT rfl ((by rw [hk]; rfl)) ?_
  refine CW.seq ?_
  refine CW.regionD (.cons 0 (.cons 1 (.cons 3 (.cons 4 (.cons 7 (.cons 8 (.cons 11 (.cons 12 (.cons 13 (.fork [2, 5] (fun k => (bif Nat.beq k 2 then (Sq.of [5, 6, 9, 10, 14, 15, 16]) else (Sq.of [2, 6, 9, 10, 14, 15, 16]))))))))))))) [2, 5, 6, 9, 10, 14, 15] [6, 10, 15] [0, 1, 3, 4, 7, 8, 11, 12, 13, 16] mixed (by kernel_rfl) ?_
  refine RL.fieldAddr fa_33_12 rfl rfl rfl rfl ?_
  refine RL.loadT Try.isAgg5 rfl rfl rfl rfl (by first | assumption | (apply Rd.get; (solve | (repeat (first | exact List.Mem.head _ | apply List.Mem.tail))); assumption) | (apply Rd.getS; (solve | (repeat (first | exact List.Mem.head _ | apply List.Mem.tail))); assumption) | (apply Rd.getO; (solve | (repeat (first | exact List.Mem.head _ | apply List.Mem.tail))); assumption) | (apply Rd.getI; (solve | (repeat (first | exact List.Mem.head _ | apply List.Mem.tail))); assumption) | (apply Rd.cel; (solve | (repeat (first | exact List.Mem.head _ | apply List.Mem.tail))); exact rfl) | (apply Rd.celI; (solve | (repeat (first | exact List.Mem.head _ | apply List.Mem.tail))); exact rfl)) ?_
  refine RL.fieldAddr fa_33_9 rfl rfl rfl rfl ?_
  refine RL.loadNT (vs := [_, _, _]) Try.isAgg27 Try.sizeOf27 rfl rfl rfl rfl (by first | (apply Rds.cel; (solve | (repeat (first | exact List.Mem.head _ | apply List.Mem.tail))); exact at_spec ⟨rfl, rfl, rfl, trivial⟩) | (apply Rds.celI; (solve | (repeat (first | exact List.Mem.head _ | apply List.Mem.tail))); exact at_spec ⟨rfl, rfl, rfl, trivial⟩) | assumption) ?_
  refine RL.fieldAddr fa_33_14 rfl rfl rfl rfl ?_
  refine RL.loadT Try.isAgg24 rfl rfl rfl rfl (by first | assumption | (apply Rd.get; (solve | (repeat (first | exact List.Mem.head _ | apply List.Mem.tail))); assumption) | (apply Rd.getS; (solve | (repeat (first | exact List.Mem.head _ | apply List.Mem.tail))); assumption) | (apply Rd.getO; (solve | (repeat (first | exact List.Mem.head _ | apply List.Mem.tail))); assumption) | (apply Rd.getI; (solve | (repeat (first | exact List.Mem.head _ | apply List.Mem.tail))); assumption) | (apply Rd.cel; (solve | (repeat (first | exact List.Mem.head _ | apply List.Mem.tail))); exact rfl) | (apply Rd.celI; (solve | (repeat (first | exact List.Mem.head _ | apply List.Mem.tail))); exact rfl)) ?_
  refine RL.fieldAddr fa_33_15 rfl rfl rfl rfl ?_
  refine RL.loadT Try.isAgg25 rfl rfl rfl rfl (by first | assumption | (apply Rd.get; (solve | (repeat (first | exact List.Mem.head _ | apply List.Mem.tail))); assumption) | (apply Rd.getS; (solve | (repeat (first | exact List.Mem.head _ | apply List.Mem.tail))); assumption) | (apply Rd.getO; (solve | (repeat (first | exact List.Mem.head _ | apply List.Mem.tail))); assumption) | (apply Rd.getI; (solve | (repeat (first | exact List.Mem.head _ | apply List.Mem.tail))); assumption) | (apply Rd.cel; (solve | (repeat (first | exact List.Mem.head _ | apply List.Mem.tail))); exact rfl) | (apply Rd.celI; (solve | (repeat (first | exact List.Mem.head _ | apply List.Mem.tail))); exact rfl)) ?_
  refine RL.conv Try.runUnderlying25 Try.runUnderlying30 rfl rfl rfl rfl ?_
  -- STOP: fork; todo top: ["code", ["region", 33, [{"d": 102, "op": ["fieldAddr", 33, ["t", 1], 12], "ty": 0, "pos": "ref.go:64", "after": [], "guard": null}, {"d": 103, "op": ["load", 5, ["t", 102]], "ty": 5, "pos": "ref.go:6
  refine RL.fork ⟨?_, ?_, trivial⟩
  ·
    refine RL.buildOwn [_] Try.runUnderlying34 Try.sizeOf5 Try.zeroValue5 rfl rfl (by decide) (by decide) rfl (by decide) rfl rfl rfl rfl rfl rfl ?_
    intro b3
    refine RL.call (rplace r.p0 r.p1 r.p2) Try.call135 rfl rfl rfl rfl rfl (by repeat (first | exact Pick.nil | apply Pick.take | apply Pick.leave)) (by repeat (first | exact Lend.nil | (refine Lend.inI ?_ ?_; (solve | (repeat (first | exact List.Mem.head _ | apply List.Mem.tail)))) | (refine Lend.inH ?_ ?_; (solve | (repeat (first | exact List.Mem.head _ | apply List.Mem.tail)))))) (.inl rfl) ?_
    rintro _ _ _ ⟨ob1, cap1, rfl, rfl, rfl, ho1⟩
    refine RL.appendA el_34 rfl rfl rfl rfl rfl rfl rfl (by first | exact ⟨(.take (Pick.none _)), rfl⟩ | exact ⟨(.leave (.take (Pick.none _))), rfl⟩ | exact ⟨(.leave (.leave (.take (Pick.none _)))), rfl⟩ | exact ⟨(.leave (.leave (.leave (.take (Pick.none _))))), rfl⟩ | exact ⟨(.leave (.leave (.leave (.leave (.take (Pick.none _)))))), rfl⟩ | exact ⟨(.leave (.leave (.leave (.leave (.leave (.take (Pick.none _))))))), rfl⟩ | exact ⟨(.leave (.leave (.leave (.leave (.leave (.leave (.take (Pick.none _)))))))), rfl⟩ | exact ⟨(.leave (.leave (.leave (.leave (.leave (.leave (.leave (.take (Pick.none _))))))))), rfl⟩ | exact ⟨(.leave (.leave (.leave (.leave (.leave (.leave (.leave (.leave (.take (Pick.none _)))))))))), rfl⟩ | exact ⟨(.leave (.leave (.leave (.leave (.leave (.leave (.leave (.leave (.leave (.take (Pick.none _))))))))))), rfl⟩) (by first | (exact Src.cel (by (solve | (repeat (first | exact List.Mem.head _ | apply List.Mem.tail)))) (by first | rfl | assumption | (simp only [List.length_map]; assumption) | (simp only [List.length_map, List.length_replicate]; done) | (simp; done))) | (exact Src.ownS (by (solve | (repeat (first | exact List.Mem.head _ | apply List.Mem.tail))))) | (exact Src.own (by (solve | (repeat (first | exact List.Mem.head _ | apply List.Mem.tail))))) | (exact Src.sls (by (solve | (repeat (first | exact List.Mem.head _ | apply List.Mem.tail)))))) (by first | exact one_map one8 _ | exact ones_spec rfl | exact one_map (fun _ => rfl) _ | (intro u hu; simp at hu; simp [hu, Value.oneCell'])) (by first | omega | (simp only [maxLen]; omega)) (by first | omega | (simp only [maxLen]; omega)) ?_
    intro ob2 cap2 ho2
    refine RL.call (rsputfix8 r.bound) Try.call133 rfl rfl rfl rfl rfl (by repeat (first | exact Pick.nil | apply Pick.take | apply Pick.leave)) (by repeat (first | exact Lend.nil | (refine Lend.inI ?_ ?_; (solve | (repeat (first | exact List.Mem.head _ | apply List.Mem.tail)))) | (refine Lend.inH ?_ ?_; (solve | (repeat (first | exact List.Mem.head _ | apply List.Mem.tail)))))) (.inl rfl) ?_
    rintro _ _ _ ⟨ob3, cap3, rfl, rfl, rfl, ho3⟩
    refine RL.appendA el_34 rfl rfl rfl rfl rfl rfl rfl (by first | exact ⟨(.take (Pick.none _)), rfl⟩ | exact ⟨(.leave (.take (Pick.none _))), rfl⟩ | exact ⟨(.leave (.leave (.take (Pick.none _)))), rfl⟩ | exact ⟨(.leave (.leave (.leave (.take (Pick.none _))))), rfl⟩ | exact ⟨(.leave (.leave (.leave (.leave (.take (Pick.none _)))))), rfl⟩ | exact ⟨(.leave (.leave (.leave (.leave (.leave (.take (Pick.none _))))))), rfl⟩ | exact ⟨(.leave (.leave (.leave (.leave (.leave (.leave (.take (Pick.none _)))))))), rfl⟩ | exact ⟨(.leave (.leave (.leave (.leave (.leave (.leave (.leave (.take (Pick.none _))))))))), rfl⟩ | exact ⟨(.leave (.leave (.leave (.leave (.leave (.leave (.leave (.leave (.take (Pick.none _)))))))))), rfl⟩ | exact ⟨(.leave (.leave (.leave (.leave (.leave (.leave (.leave (.leave (.leave (.take (Pick.none _))))))))))), rfl⟩) (by first | (exact Src.cel (by (solve | (repeat (first | exact List.Mem.head _ | apply List.Mem.tail)))) (by first | rfl | assumption | (simp only [List.length_map]; assumption) | (simp only [List.length_map, List.length_replicate]; done) | (simp; done))) | (exact Src.ownS (by (solve | (repeat (first | exact List.Mem.head _ | apply List.Mem.tail))))) | (exact Src.own (by (solve | (repeat (first | exact List.Mem.head _ | apply List.Mem.tail))))) | (exact Src.sls (by (solve | (repeat (first | exact List.Mem.head _ | apply List.Mem.tail)))))) (by first | exact one_map one8 _ | exact ones_spec rfl | exact one_map (fun _ => rfl) _ | (intro u hu; simp at hu; simp [hu, Value.oneCell'])) (by first | omega | (simp only [maxLen]; omega)) (by first | omega | (simp only [maxLen]; omega)) ?_
    intro ob4 cap4 ho4
    refine RL.call (rnum r.flags 4 (by decide)) Try.call134 rfl rfl rfl rfl rfl (by repeat (first | exact Pick.nil | apply Pick.take | apply Pick.leave)) (by repeat (first | exact Lend.nil | (refine Lend.inI ?_ ?_; (solve | (repeat (first | exact List.Mem.head _ | apply List.Mem.tail)))) | (refine Lend.inH ?_ ?_; (solve | (repeat (first | exact List.Mem.head _ | apply List.Mem.tail)))))) (.inl rfl) ?_
    rintro _ _ _ ⟨ob5, cap5, rfl, rfl, rfl, ho5⟩
    refine RL.appendA el_34 rfl rfl rfl rfl rfl rfl rfl (by first | exact ⟨(.take (Pick.none _)), rfl⟩ | exact ⟨(.leave (.take (Pick.none _))), rfl⟩ | exact ⟨(.leave (.leave (.take (Pick.none _)))), rfl⟩ | exact ⟨(.leave (.leave (.leave (.take (Pick.none _))))), rfl⟩ | exact ⟨(.leave (.leave (.leave (.leave (.take (Pick.none _)))))), rfl⟩ | exact ⟨(.leave (.leave (.leave (.leave (.leave (.take (Pick.none _))))))), rfl⟩ | exact ⟨(.leave (.leave (.leave (.leave (.leave (.leave (.take (Pick.none _)))))))), rfl⟩ | exact ⟨(.leave (.leave (.leave (.leave (.leave (.leave (.leave (.take (Pick.none _))))))))), rfl⟩ | exact ⟨(.leave (.leave (.leave (.leave (.leave (.leave (.leave (.leave (.take (Pick.none _)))))))))), rfl⟩ | exact ⟨(.leave (.leave (.leave (.leave (.leave (.leave (.leave (.leave (.leave (.take (Pick.none _))))))))))), rfl⟩) (by first | (exact Src.cel (by (solve | (repeat (first | exact List.Mem.head _ | apply List.Mem.tail)))) (by first | rfl | assumption | (simp only [List.length_map]; assumption) | (simp only [List.length_map, List.length_replicate]; done) | (simp; done))) | (exact Src.ownS (by (solve | (repeat (first | exact List.Mem.head _ | apply List.Mem.tail))))) | (exact Src.own (by (solve | (repeat (first | exact List.Mem.head _ | apply List.Mem.tail))))) | (exact Src.sls (by (solve | (repeat (first | exact List.Mem.head _ | apply List.Mem.tail)))))) (by first | exact one_map one8 _ | exact ones_spec rfl | exact one_map (fun _ => rfl) _ | (intro u hu; simp at hu; simp [hu, Value.oneCell'])) (by first | omega | (simp only [maxLen]; omega)) (by first | omega | (simp only [maxLen]; omega)) ?_
    intro ob6 cap6 ho6
    refine RL.assign rfl rfl rfl rfl ?_
    refine RL.nil ?_
    refine NQ.seq ?_
    refine CW.only (.cons (k := 2) rfl .nil) ?_
    refine CW.ret ?_
    refine RQ.block ?_
    exact RQ.ownB (l := bodyR r) rfl rfl (by first | exact .keep (Split.none _) | exact .drop (.keep (Split.none _)) | exact .drop (.drop (.keep (Split.none _)))) (by unfold bodyR; simp [hk, beN_length, be4_length, be8'_length, keyL]) (by unfold bodyR; simp [hk, keyL]) (by first | assumption | (right; rfl))
  ·
    refine RL.call (rplace r.p0 r.p1 r.p2) Try.call135 rfl rfl rfl rfl rfl (by repeat (first | exact Pick.nil | apply Pick.take | apply Pick.leave)) (by repeat (first | exact Lend.nil | (refine Lend.inI ?_ ?_; (solve | (repeat (first | exact List.Mem.head _ | apply List.Mem.tail)))) | (refine Lend.inH ?_ ?_; (solve | (repeat (first | exact List.Mem.head _ | apply List.Mem.tail)))))) (.inl rfl) ?_
    rintro _ _ _ ⟨ob1, cap1, rfl, rfl, rfl, ho1⟩
    refine RL.buildOwn [_] Try.runUnderlying34 Try.sizeOf5 Try.zeroValue5 rfl rfl (by decide) (by decide) rfl (by decide) rfl rfl rfl rfl rfl rfl ?_
    intro b3
    refine RL.appendA el_34 rfl rfl rfl rfl rfl rfl rfl (by first | exact ⟨(.take (Pick.none _)), rfl⟩ | exact ⟨(.leave (.take (Pick.none _))), rfl⟩ | exact ⟨(.leave (.leave (.take (Pick.none _)))), rfl⟩ | exact ⟨(.leave (.leave (.leave (.take (Pick.none _))))), rfl⟩ | exact ⟨(.leave (.leave (.leave (.leave (.take (Pick.none _)))))), rfl⟩ | exact ⟨(.leave (.leave (.leave (.leave (.leave (.take (Pick.none _))))))), rfl⟩ | exact ⟨(.leave (.leave (.leave (.leave (.leave (.leave (.take (Pick.none _)))))))), rfl⟩ | exact ⟨(.leave (.leave (.leave (.leave (.leave (.leave (.leave (.take (Pick.none _))))))))), rfl⟩ | exact ⟨(.leave (.leave (.leave (.leave (.leave (.leave (.leave (.leave (.take (Pick.none _)))))))))), rfl⟩ | exact ⟨(.leave (.leave (.leave (.leave (.leave (.leave (.leave (.leave (.leave (.take (Pick.none _))))))))))), rfl⟩) (by first | (exact Src.cel (by (solve | (repeat (first | exact List.Mem.head _ | apply List.Mem.tail)))) (by first | rfl | assumption | (simp only [List.length_map]; assumption) | (simp only [List.length_map, List.length_replicate]; done) | (simp; done))) | (exact Src.ownS (by (solve | (repeat (first | exact List.Mem.head _ | apply List.Mem.tail))))) | (exact Src.own (by (solve | (repeat (first | exact List.Mem.head _ | apply List.Mem.tail))))) | (exact Src.sls (by (solve | (repeat (first | exact List.Mem.head _ | apply List.Mem.tail)))))) (by first | exact one_map one8 _ | exact ones_spec rfl | exact one_map (fun _ => rfl) _ | (intro u hu; simp at hu; simp [hu, Value.oneCell'])) (by first | omega | (simp only [maxLen]; omega)) (by first | omega | (simp only [maxLen]; omega)) ?_
    intro ob2 cap2 ho2
    refine RL.call (rsputfix8 r.bound) Try.call133 rfl rfl rfl rfl rfl (by repeat (first | exact Pick.nil | apply Pick.take | apply Pick.leave)) (by repeat (first | exact Lend.nil | (refine Lend.inI ?_ ?_; (solve | (repeat (first | exact List.Mem.head _ | apply List.Mem.tail)))) | (refine Lend.inH ?_ ?_; (solve | (repeat (first | exact List.Mem.head _ | apply List.Mem.tail)))))) (.inl rfl) ?_
    rintro _ _ _ ⟨ob3, cap3, rfl, rfl, rfl, ho3⟩
    refine RL.appendA el_34 rfl rfl rfl rfl rfl rfl rfl (by first | exact ⟨(.take (Pick.none _)), rfl⟩ | exact ⟨(.leave (.take (Pick.none _))), rfl⟩ | exact ⟨(.leave (.leave (.take (Pick.none _)))), rfl⟩ | exact ⟨(.leave (.leave (.leave (.take (Pick.none _))))), rfl⟩ | exact ⟨(.leave (.leave (.leave (.leave (.take (Pick.none _)))))), rfl⟩ | exact ⟨(.leave (.leave (.leave (.leave (.leave (.take (Pick.none _))))))), rfl⟩ | exact ⟨(.leave (.leave (.leave (.leave (.leave (.leave (.take (Pick.none _)))))))), rfl⟩ | exact ⟨(.leave (.leave (.leave (.leave (.leave (.leave (.leave (.take (Pick.none _))))))))), rfl⟩ | exact ⟨(.leave (.leave (.leave (.leave (.leave (.leave (.leave (.leave (.take (Pick.none _)))))))))), rfl⟩ | exact ⟨(.leave (.leave (.leave (.leave (.leave (.leave (.leave (.leave (.leave (.take (Pick.none _))))))))))), rfl⟩) (by first | (exact Src.cel (by (solve | (repeat (first | exact List.Mem.head _ | apply List.Mem.tail)))) (by first | rfl | assumption | (simp only [List.length_map]; assumption) | (simp only [List.length_map, List.length_replicate]; done) | (simp; done))) | (exact Src.ownS (by (solve | (repeat (first | exact List.Mem.head _ | apply List.Mem.tail))))) | (exact Src.own (by (solve | (repeat (first | exact List.Mem.head _ | apply List.Mem.tail))))) | (exact Src.sls (by (solve | (repeat (first | exact List.Mem.head _ | apply List.Mem.tail)))))) (by first | exact one_map one8 _ | exact ones_spec rfl | exact one_map (fun _ => rfl) _ | (intro u hu; simp at hu; simp [hu, Value.oneCell'])) (by first | omega | (simp only [maxLen]; omega)) (by first | omega | (simp only [maxLen]; omega)) ?_
    intro ob4 cap4 ho4
    refine RL.call (rnum r.flags 4 (by decide)) Try.call134 rfl rfl rfl rfl rfl (by repeat (first | exact Pick.nil | apply Pick.take | apply Pick.leave)) (by repeat (first | exact Lend.nil | (refine Lend.inI ?_ ?_; (solve | (repeat (first | exact List.Mem.head _ | apply List.Mem.tail)))) | (refine Lend.inH ?_ ?_; (solve | (repeat (first | exact List.Mem.head _ | apply List.Mem.tail)))))) (.inl rfl) ?_
    rintro _ _ _ ⟨ob5, cap5, rfl, rfl, rfl, ho5⟩
    refine RL.appendA el_34 rfl rfl rfl rfl rfl rfl rfl (by first | exact ⟨(.take (Pick.none _)), rfl⟩ | exact ⟨(.leave (.take (Pick.none _))), rfl⟩ | exact ⟨(.leave (.leave (.take (Pick.none _)))), rfl⟩ | exact ⟨(.leave (.leave (.leave (.take (Pick.none _))))), rfl⟩ | exact ⟨(.leave (.leave (.leave (.leave (.take (Pick.none _)))))), rfl⟩ | exact ⟨(.leave (.leave (.leave (.leave (.leave (.take (Pick.none _))))))), rfl⟩ | exact ⟨(.leave (.leave (.leave (.leave (.leave (.leave (.take (Pick.none _)))))))), rfl⟩ | exact ⟨(.leave (.leave (.leave (.leave (.leave (.leave (.leave (.take (Pick.none _))))))))), rfl⟩ | exact ⟨(.leave (.leave (.leave (.leave (.leave (.leave (.leave (.leave (.take (Pick.none _)))))))))), rfl⟩ | exact ⟨(.leave (.leave (.leave (.leave (.leave (.leave (.leave (.leave (.leave (.take (Pick.none _))))))))))), rfl⟩) (by first | (exact Src.cel (by (solve | (repeat (first | exact List.Mem.head _ | apply List.Mem.tail)))) (by first | rfl | assumption | (simp only [List.length_map]; assumption) | (simp only [List.length_map, List.length_replicate]; done) | (simp; done))) | (exact Src.ownS (by (solve | (repeat (first | exact List.Mem.head _ | apply List.Mem.tail))))) | (exact Src.own (by (solve | (repeat (first | exact List.Mem.head _ | apply List.Mem.tail))))) | (exact Src.sls (by (solve | (repeat (first | exact List.Mem.head _ | apply List.Mem.tail)))))) (by first | exact one_map one8 _ | exact ones_spec rfl | exact one_map (fun _ => rfl) _ | (intro u hu; simp at hu; simp [hu, Value.oneCell'])) (by first | omega | (simp only [maxLen]; omega)) (by first | omega | (simp only [maxLen]; omega)) ?_
    intro ob6 cap6 ho6
    refine RL.assign rfl rfl rfl rfl ?_
    refine RL.nil ?_
    refine NQ.seq ?_
    refine CW.only (.cons (k := 2) rfl .nil) ?_
    refine CW.ret ?_
    refine RQ.block ?_
    exact RQ.ownB (l := bodyR r) rfl rfl (by first | exact .keep (Split.none _) | exact .drop (.keep (Split.none _)) | exact .drop (.drop (.keep (Split.none _)))) (by unfold bodyR; simp [hk, beN_length, be4_length, be8'_length, keyL]) (by unfold bodyR; simp [hk, keyL]) (by first | assumption | (right; rfl))
set_option maxHeartbeats 4000000 in
theorem rbody_14 (r : Rdg) (hk : r.kind = 14) (hr : r.Ok) : Spc Try.prog 82 #[.agg r.cells.toArray] [] [] (OwnB (bodyR r)) := by
  refine Spc.enter Try.func82 rfl rfl rfl (fun w0 hw0 => ?_)
  refine CW.seq ?_
  refine CW.region (ef := [0]) (bk := []) ?_
  refine RL.box rfl rfl rfl rfl rfl rfl ?_
  intro b1
  refine RL.assign rfl rfl rfl rfl ?_
  refine RL.nil ?_
  refine NQ.seq ?_
  refine CW.seq ?_
  -- STOP: region; todo top: ["code", ["region", 1, [{"d": 6, "op": ["buildSlice", 34, 0, []], "ty": 34, "pos": "ref.go:35", "after": [], "guard": null}, {"d": 3, "op": ["assign", ["t", 6]], "ty": 34, "pos": "ref.go:35", "after":
  refine CW.freezeAll rfl ?_
  simp only [List.cons_append, List.nil_append]
  refine CW.region (ef := [0]) (bk := []) ?_
  refine RL.buildOwn [] Try.runUnderlying34 Try.sizeOf5 Try.zeroValue5 rfl rfl (by decide) (by decide) rfl (by decide) rfl rfl rfl rfl rfl rfl ?_
  intro b2
  refine RL.assign rfl rfl rfl rfl ?_
  refine RL.nil ?_
  refine NQ.seq ?_
  refine CW.seq ?_
  refine CW.region (ef := []) (bk := []) ?_
  refine RL.fieldAddr fa_33_0 rfl rfl rfl rfl ?_
  refine RL.load Try.isAgg3 rfl rfl rfl rfl (by first | assumption | (apply Rd.get; (solve | (repeat (first | exact List.Mem.head _ | apply List.Mem.tail))); assumption) | (apply Rd.getS; (solve | (repeat (first | exact List.Mem.head _ | apply List.Mem.tail))); assumption) | (apply Rd.getO; (solve | (repeat (first | exact List.Mem.head _ | apply List.Mem.tail))); assumption) | (apply Rd.getI; (solve | (repeat (first | exact List.Mem.head _ | apply List.Mem.tail))); assumption) | (apply Rd.cel; (solve | (repeat (first | exact List.Mem.head _ | apply List.Mem.tail))); exact rfl) | (apply Rd.celI; (solve | (repeat (first | exact List.Mem.head _ | apply List.Mem.tail))); exact rfl)) ?_
  refine RL.nil ?_
  refine NQ.seq ?_
  refine CW.block ?_
  refine CW.seq ?_
  refine CW.region (ef := []) (bk := []) ?_
  refine RL.bin rfl rfl rfl rfl rfl rfl ?_
  refine RL.assign rfl rfl rfl rfl ?_
  refine RL.nil ?_
  refine NQ.seq ?_
  -- STOP: if; todo top: ["code", ["cond", ["t", 10], ["seq", ["seq", ["region", 5, [{"d": 4, "op": ["assign", ["c", ["int", "Go.IntKind.i64", 0]]], "ty": 3, "pos": "ref.go:38", "after": [], "guard": null}], false], ["block",
  refine CW.condF rfl ((by rw [hk]; rfl)) ?_
  refine CW.seq ?_
  refine CW.region (ef := []) (bk := []) ?_
  refine RL.bin rfl rfl rfl rfl rfl rfl ?_
  refine RL.assign rfl rfl rfl rfl ?_
  refine RL.nil ?_
  refine NQ.seq ?_
  refine CW.only (.cons (k := 1) rfl (.cons (k := 3) rfl (.cons (k := 8) rfl (.cons (k := 35) rfl .nil)))) ?_
  -- STOP: if; todo top: ["code", ["cond", ["t", 35], ["seq", ["region", 15, [{"d": 37, "op": ["fieldAddr", 33, ["t", 1], 3], "ty": 0, "pos": "ref.go:46", "after": [], "guard": null}, {"d": 38, "op": ["load", 24, ["t", 37]], 
  refine CW.condF rfl ((by rw [hk]; rfl)) ?_
  refine CW.seq ?_
  refine CW.region (ef := []) (bk := []) ?_
  refine RL.bin rfl rfl rfl rfl rfl rfl ?_
  refine RL.assign rfl rfl rfl rfl ?_
  refine RL.nil ?_
  refine NQ.seq ?_
  -- STOP: if; todo top: ["code", ["cond", ["t", 40], ["seq", ["region", 17, [{"d": 42, "op": ["fieldAddr", 33, ["t", 1], 4], "ty": 0, "pos": "ref.go:48", "after": [], "guard": null}, {"d": 43, "op": ["load", 25, ["t", 42]], 
  refine CW.condF rfl ((by rw [hk]; rfl)) ?_
  refine CW.seq ?_
  refine CW.region (ef := []) (bk := []) ?_
  refine RL.bin rfl rfl rfl rfl rfl rfl ?_
  refine RL.assign rfl rfl rfl rfl ?_
  refine RL.nil ?_
  refine NQ.seq ?_
  -- STOP: if; todo top: ["code", ["cond", ["t", 46], ["seq", ["region", 19, [{"d": 48, "op": ["fieldAddr", 33, ["t", 1], 5], "ty": 0, "pos": "ref.go:50", "after": [], "guard": null}, {"d": 49, "op": ["load", 22, ["t", 48]], 
  refine CW.condF rfl ((by rw [hk]; rfl)) ?_
  refine CW.seq ?_
  refine CW.region (ef := []) (bk := []) ?_
  refine RL.bin rfl rfl rfl rfl rfl rfl ?_
  refine RL.assign rfl rfl rfl rfl ?_
  refine RL.nil ?_
  refine NQ.seq ?_
  refine CW.only (.cons (k := 1) rfl (.cons (k := 3) rfl (.cons (k := 8) rfl (.cons (k := 56) rfl .nil)))) ?_
  -- STOP: if; todo top: ["code", ["cond", ["t", 56], ["seq", ["region", 21, [{"d": 58, "op": ["fieldAddr", 33, ["t", 1], 7], "ty": 0, "pos": "ref.go:52", "after": [], "guard": null}, {"d": 59, "op": ["load", 25, ["t", 58]], 
  refine CW.condF rfl ((by rw [hk]; rfl)) ?_
  refine CW.seq ?_
  refine CW.region (ef := []) (bk := []) ?_
  refine RL.bin rfl rfl rfl rfl rfl rfl ?_
  refine RL.assign rfl rfl rfl rfl ?_
  refine RL.nil ?_
  refine NQ.seq ?_
  -- STOP: if; todo top: ["code", ["cond", ["t", 70], ["seq", ["region", 23, [{"d": 72, "op": ["fieldAddr", 33, ["t", 1], 7], "ty": 0, "pos": "ref.go:54", "after": [], "guard": null}, {"d": 73, "op": ["load", 25, ["t", 72]], 
  refine CW.condF rfl ((by rw [hk]; rfl)) ?_
  refine CW.seq ?_
  refine CW.region (ef := []) (bk := []) ?_
  refine RL.bin rfl rfl rfl rfl rfl rfl ?_
  refine RL.assign rfl rfl rfl rfl ?_
  refine RL.nil ?_
  refine NQ.seq ?_
  -- STOP: if; todo top: ["code", ["cond", ["t", 79], ["seq", ["region", 25, [{"d": 81, "op": ["fieldAddr", 33, ["t", 1], 11], "ty": 0, "pos": "ref.go:56", "after": [], "guard": null}, {"d": 82, "op": ["load", 30, ["t", 81]],
  refine CW.condF rfl ((by rw [hk]; rfl)) ?_
  refine CW.seq ?_
  refine CW.region (ef := []) (bk := []) ?_
  refine RL.bin rfl rfl rfl rfl rfl rfl ?_
  refine RL.assign rfl rfl rfl rfl ?_
  refine RL.nil ?_
  refine NQ.seq ?_
  refine CW.only (.cons (k := 1) rfl (.cons (k := 3) rfl (.cons (k := 8) rfl (.cons (k := 84) rfl .nil)))) ?_
  -- STOP: if; todo top: ["code", ["cond", ["t", 84], ["seq", ["region", 27, [{"d": 86, "op": ["fieldAddr", 33, ["t", 1], 12], "ty": 0, "pos": "ref.go:58", "after": [], "guard": null}, {"d": 87, "op": ["load", 5, ["t", 86]], 
  refine CW.condF rfl ((by rw [hk]; rfl)) ?_
  refine CW.seq ?_
  refine CW.region (ef := []) (bk := []) ?_
  refine RL.bin rfl rfl rfl rfl rfl rfl ?_
  refine RL.assign rfl rfl rfl rfl ?_
  refine RL.nil ?_
  refine NQ.seq ?_
  -- STOP: if; todo top: ["code", ["cond", ["t", 89], ["seq", ["region", 29, [{"d": 91, "op": ["fieldAddr", 33, ["t", 1], 13], "ty": 0, "pos": "ref.go:60", "after": [], "guard": null}, {"d": 92, "op": ["load", 25, ["t", 91]],
  refine CW.condF rfl ((by rw [hk]; rfl)) ?_
  refine CW.seq ?_
  refine CW.region (ef := []) (bk := []) ?_
  refine RL.bin rfl rfl rfl rfl rfl rfl ?_
  refine RL.assign rfl rfl rfl rfl ?_
  refine RL.nil ?_
  refine NQ.seq ?_
  -- STOP: if; todo top: ["code", ["cond", ["t", 95], ["seq", ["region", 31, [{"d": 97, "op": ["fieldAddr", 33, ["t", 1], 16], "ty": 0, "pos": "ref.go:62", "after": [], "guard": null}, {"d": 98, "op": ["load", 5, ["t", 97]], 
  refine CW.condF rfl ((by rw [hk]; rfl)) ?_
  refine CW.seq ?_
  refine CW.region (ef := []) (bk := []) ?_
  refine RL.bin rfl rfl rfl rfl rfl rfl ?_
  refine RL.assign rfl rfl rfl rfl ?_
  refine RL.nil ?_
  refine NQ.seq ?_
  refine CW.only (.cons (k := 1) rfl (.cons (k := 3) rfl (.cons (k := 8) rfl (.cons (k := 100) rfl .nil)))) ?_
  -- STOP: if; todo top: ["code", ["cond", ["t", 100], ["seq", ["region", 33, [{"d": 102, "op": ["fieldAddr", 33, ["t", 1], 12], "ty": 0, "pos": "ref.go:64", "after": [], "guard": null}, {"d": 103, "op": ["load", 5, ["t", 102
  refine CW.condF rfl ((by rw [hk]; rfl)) ?_
  refine CW.seq ?_
  refine CW.region (ef := []) (bk := []) ?_
  refine RL.bin rfl rfl rfl rfl rfl rfl ?_
  refine RL.assign rfl rfl rfl rfl ?_
  refine RL.nil ?_
  refine NQ.seq ?_
  -- STOP: if; todo top: ["code", ["cond", ["t", 118], ["seq", ["region", 35, [{"d": 120, "op": ["fieldAddr", 33, ["t", 1], 16], "ty": 0, "pos": "ref.go:66", "after": [], "guard": null}, {"d": 121, "op": ["load", 5, ["t", 120
  refine CW.condT rfl ((by rw [hk]; rfl)) ?_
  refine CW.seq ?_
  refine CW.regionD (.cons 0 (.cons 1 (.cons 2 (.cons 3 (.cons 5 (.cons 6 (.cons 7 (.cons 10 (.cons 11 (.cons 14 (.cons 15 (.cons 16 (.fork [4, 8] (fun k => (bif Nat.beq k 4 then (Sq.of [8, 9, 12, 13, 17, 18, 19]) else (Sq.of [4, 9, 12, 13, 17, 18, 19])))))))))))))))) [4, 8, 9, 12, 13, 17, 18] [9, 13, 18] [0, 1, 2, 3, 5, 6, 7, 10, 11, 14, 15, 16, 19] mixed (by kernel_rfl) ?_
  refine RL.fieldAddr fa_33_16 rfl rfl rfl rfl ?_
  refine RL.loadT Try.isAgg5 rfl rfl rfl rfl (by first | assumption | (apply Rd.get; (solve | (repeat (first | exact List.Mem.head _ | apply List.Mem.tail))); assumption) | (apply Rd.getS; (solve | (repeat (first | exact List.Mem.head _ | apply List.Mem.tail))); assumption) | (apply Rd.getO; (solve | (repeat (first | exact List.Mem.head _ | apply List.Mem.tail))); assumption) | (apply Rd.getI; (solve | (repeat (first | exact List.Mem.head _ | apply List.Mem.tail))); assumption) | (apply Rd.cel; (solve | (repeat (first | exact List.Mem.head _ | apply List.Mem.tail))); exact rfl) | (apply Rd.celI; (solve | (repeat (first | exact List.Mem.head _ | apply List.Mem.tail))); exact rfl)) ?_
  refine RL.fieldAddr fa_33_17 rfl rfl rfl rfl ?_
  refine RL.loadT Try.isAgg5 rfl rfl rfl rfl (by first | assumption | (apply Rd.get; (solve | (repeat (first | exact List.Mem.head _ | apply List.Mem.tail))); assumption) | (apply Rd.getS; (solve | (repeat (first | exact List.Mem.head _ | apply List.Mem.tail))); assumption) | (apply Rd.getO; (solve | (repeat (first | exact List.Mem.head _ | apply List.Mem.tail))); assumption) | (apply Rd.getI; (solve | (repeat (first | exact List.Mem.head _ | apply List.Mem.tail))); assumption) | (apply Rd.cel; (solve | (repeat (first | exact List.Mem.head _ | apply List.Mem.tail))); exact rfl) | (apply Rd.celI; (solve | (repeat (first | exact List.Mem.head _ | apply List.Mem.tail))); exact rfl)) ?_
  refine RL.fieldAddr fa_33_18 rfl rfl rfl rfl ?_
  refine RL.loadT Try.isAgg31 rfl rfl rfl rfl (by first | assumption | (apply Rd.get; (solve | (repeat (first | exact List.Mem.head _ | apply List.Mem.tail))); assumption) | (apply Rd.getS; (solve | (repeat (first | exact List.Mem.head _ | apply List.Mem.tail))); assumption) | (apply Rd.getO; (solve | (repeat (first | exact List.Mem.head _ | apply List.Mem.tail))); assumption) | (apply Rd.getI; (solve | (repeat (first | exact List.Mem.head _ | apply List.Mem.tail))); assumption) | (apply Rd.cel; (solve | (repeat (first | exact List.Mem.head _ | apply List.Mem.tail))); exact rfl) | (apply Rd.celI; (solve | (repeat (first | exact List.Mem.head _ | apply List.Mem.tail))); exact rfl)) ?_
  refine RL.conv Try.runUnderlying31 Try.runUnderlying30 rfl rfl rfl rfl ?_
  refine RL.fieldAddr fa_33_19 rfl rfl rfl rfl ?_
  refine RL.loadT Try.isAgg30 rfl rfl rfl rfl (by first | assumption | (apply Rd.get; (solve | (repeat (first | exact List.Mem.head _ | apply List.Mem.tail))); assumption) | (apply Rd.getS; (solve | (repeat (first | exact List.Mem.head _ | apply List.Mem.tail))); assumption) | (apply Rd.getO; (solve | (repeat (first | exact List.Mem.head _ | apply List.Mem.tail))); assumption) | (apply Rd.getI; (solve | (repeat (first | exact List.Mem.head _ | apply List.Mem.tail))); assumption) | (apply Rd.cel; (solve | (repeat (first | exact List.Mem.head _ | apply List.Mem.tail))); exact rfl) | (apply Rd.celI; (solve | (repeat (first | exact List.Mem.head _ | apply List.Mem.tail))); exact rfl)) ?_
  refine RL.fieldAddr fa_33_13 rfl rfl rfl rfl ?_
  refine RL.loadT Try.isAgg25 rfl rfl rfl rfl (by first | assumption | (apply Rd.get; (solve | (repeat (first | exact List.Mem.head _ | apply List.Mem.tail))); assumption) | (apply Rd.getS; (solve | (repeat (first | exact List.Mem.head _ | apply List.Mem.tail))); assumption) | (apply Rd.getO; (solve | (repeat (first | exact List.Mem.head _ | apply List.Mem.tail))); assumption) | (apply Rd.getI; (solve | (repeat (first | exact List.Mem.head _ | apply List.Mem.tail))); assumption) | (apply Rd.cel; (solve | (repeat (first | exact List.Mem.head _ | apply List.Mem.tail))); exact rfl) | (apply Rd.celI; (solve | (repeat (first | exact List.Mem.head _ | apply List.Mem.tail))); exact rfl)) ?_
  refine RL.conv Try.runUnderlying25 Try.runUnderlying30 rfl rfl rfl rfl ?_
  -- STOP: fork; todo top: ["code", ["region", 35, [{"d": 120, "op": ["fieldAddr", 33, ["t", 1], 16], "ty": 0, "pos": "ref.go:66", "after": [], "guard": null}, {"d": 121, "op": ["load", 5, ["t", 120]], "ty": 5, "pos": "ref.go:6
  refine RL.fork ⟨?_, ?_, trivial⟩
  ·
    refine RL.buildOwn [_, _] Try.runUnderlying34 Try.sizeOf5 Try.zeroValue5 rfl rfl (by decide) (by decide) rfl (by decide) rfl rfl rfl rfl rfl rfl ?_
    intro b3
    refine RL.call (rnum r.fails 2 (by decide)) Try.call134 rfl rfl rfl rfl rfl (by repeat (first | exact Pick.nil | apply Pick.take | apply Pick.leave)) (by repeat (first | exact Lend.nil | (refine Lend.inI ?_ ?_; (solve | (repeat (first | exact List.Mem.head _ | apply List.Mem.tail)))) | (refine Lend.inH ?_ ?_; (solve | (repeat (first | exact List.Mem.head _ | apply List.Mem.tail)))))) (.inl rfl) ?_
    rintro _ _ _ ⟨ob1, cap1, rfl, rfl, rfl, ho1⟩
    refine RL.appendA el_34 rfl rfl rfl rfl rfl rfl rfl (by first | exact ⟨(.take (Pick.none _)), rfl⟩ | exact ⟨(.leave (.take (Pick.none _))), rfl⟩ | exact ⟨(.leave (.leave (.take (Pick.none _)))), rfl⟩ | exact ⟨(.leave (.leave (.leave (.take (Pick.none _))))), rfl⟩ | exact ⟨(.leave (.leave (.leave (.leave (.take (Pick.none _)))))), rfl⟩ | exact ⟨(.leave (.leave (.leave (.leave (.leave (.take (Pick.none _))))))), rfl⟩ | exact ⟨(.leave (.leave (.leave (.leave (.leave (.leave (.take (Pick.none _)))))))), rfl⟩ | exact ⟨(.leave (.leave (.leave (.leave (.leave (.leave (.leave (.take (Pick.none _))))))))), rfl⟩ | exact ⟨(.leave (.leave (.leave (.leave (.leave (.leave (.leave (.leave (.take (Pick.none _)))))))))), rfl⟩ | exact ⟨(.leave (.leave (.leave (.leave (.leave (.leave (.leave (.leave (.leave (.take (Pick.none _))))))))))), rfl⟩) (by first | (exact Src.cel (by (solve | (repeat (first | exact List.Mem.head _ | apply List.Mem.tail)))) (by first | rfl | assumption | (simp only [List.length_map]; assumption) | (simp only [List.length_map, List.length_replicate]; done) | (simp; done))) | (exact Src.ownS (by (solve | (repeat (first | exact List.Mem.head _ | apply List.Mem.tail))))) | (exact Src.own (by (solve | (repeat (first | exact List.Mem.head _ | apply List.Mem.tail))))) | (exact Src.sls (by (solve | (repeat (first | exact List.Mem.head _ | apply List.Mem.tail)))))) (by first | exact one_map one8 _ | exact ones_spec rfl | exact one_map (fun _ => rfl) _ | (intro u hu; simp at hu; simp [hu, Value.oneCell'])) (by first | omega | (simp only [maxLen]; omega)) (by first | omega | (simp only [maxLen]; omega)) ?_
    intro ob2 cap2 ho2
    refine RL.call (rnumT r.counter hr.counter 8 (by decide)) Try.call134 rfl rfl rfl rfl rfl (by repeat (first | exact Pick.nil | apply Pick.take | apply Pick.leave)) (by repeat (first | exact Lend.nil | (refine Lend.inI ?_ ?_; (solve | (repeat (first | exact List.Mem.head _ | apply List.Mem.tail)))) | (refine Lend.inH ?_ ?_; (solve | (repeat (first | exact List.Mem.head _ | apply List.Mem.tail)))))) (.inl rfl) ?_
    rintro _ _ _ ⟨ob3, cap3, rfl, rfl, rfl, ho3⟩
    refine RL.appendA el_34 rfl rfl rfl rfl rfl rfl rfl (by first | exact ⟨(.take (Pick.none _)), rfl⟩ | exact ⟨(.leave (.take (Pick.none _))), rfl⟩ | exact ⟨(.leave (.leave (.take (Pick.none _)))), rfl⟩ | exact ⟨(.leave (.leave (.leave (.take (Pick.none _))))), rfl⟩ | exact ⟨(.leave (.leave (.leave (.leave (.take (Pick.none _)))))), rfl⟩ | exact ⟨(.leave (.leave (.leave (.leave (.leave (.take (Pick.none _))))))), rfl⟩ | exact ⟨(.leave (.leave (.leave (.leave (.leave (.leave (.take (Pick.none _)))))))), rfl⟩ | exact ⟨(.leave (.leave (.leave (.leave (.leave (.leave (.leave (.take (Pick.none _))))))))), rfl⟩ | exact ⟨(.leave (.leave (.leave (.leave (.leave (.leave (.leave (.leave (.take (Pick.none _)))))))))), rfl⟩ | exact ⟨(.leave (.leave (.leave (.leave (.leave (.leave (.leave (.leave (.leave (.take (Pick.none _))))))))))), rfl⟩) (by first | (exact Src.cel (by (solve | (repeat (first | exact List.Mem.head _ | apply List.Mem.tail)))) (by first | rfl | assumption | (simp only [List.length_map]; assumption) | (simp only [List.length_map, List.length_replicate]; done) | (simp; done))) | (exact Src.ownS (by (solve | (repeat (first | exact List.Mem.head _ | apply List.Mem.tail))))) | (exact Src.own (by (solve | (repeat (first | exact List.Mem.head _ | apply List.Mem.tail))))) | (exact Src.sls (by (solve | (repeat (first | exact List.Mem.head _ | apply List.Mem.tail)))))) (by first | exact one_map one8 _ | exact ones_spec rfl | exact one_map (fun _ => rfl) _ | (intro u hu; simp at hu; simp [hu, Value.oneCell'])) (by first | omega | (simp only [maxLen]; omega)) (by first | omega | (simp only [maxLen]; omega)) ?_
    intro ob4 cap4 ho4
    refine RL.call (rnum r.epoch 4 (by decide)) Try.call134 rfl rfl rfl rfl rfl (by repeat (first | exact Pick.nil | apply Pick.take | apply Pick.leave)) (by repeat (first | exact Lend.nil | (refine Lend.inI ?_ ?_; (solve | (repeat (first | exact List.Mem.head _ | apply List.Mem.tail)))) | (refine Lend.inH ?_ ?_; (solve | (repeat (first | exact List.Mem.head _ | apply List.Mem.tail)))))) (.inl rfl) ?_
    rintro _ _ _ ⟨ob5, cap5, rfl, rfl, rfl, ho5⟩
    refine RL.appendA el_34 rfl rfl rfl rfl rfl rfl rfl (by first | exact ⟨(.take (Pick.none _)), rfl⟩ | exact ⟨(.leave (.take (Pick.none _))), rfl⟩ | exact ⟨(.leave (.leave (.take (Pick.none _)))), rfl⟩ | exact ⟨(.leave (.leave (.leave (.take (Pick.none _))))), rfl⟩ | exact ⟨(.leave (.leave (.leave (.leave (.take (Pick.none _)))))), rfl⟩ | exact ⟨(.leave (.leave (.leave (.leave (.leave (.take (Pick.none _))))))), rfl⟩ | exact ⟨(.leave (.leave (.leave (.leave (.leave (.leave (.take (Pick.none _)))))))), rfl⟩ | exact ⟨(.leave (.leave (.leave (.leave (.leave (.leave (.leave (.take (Pick.none _))))))))), rfl⟩ | exact ⟨(.leave (.leave (.leave (.leave (.leave (.leave (.leave (.leave (.take (Pick.none _)))))))))), rfl⟩ | exact ⟨(.leave (.leave (.leave (.leave (.leave (.leave (.leave (.leave (.leave (.take (Pick.none _))))))))))), rfl⟩) (by first | (exact Src.cel (by (solve | (repeat (first | exact List.Mem.head _ | apply List.Mem.tail)))) (by first | rfl | assumption | (simp only [List.length_map]; assumption) | (simp only [List.length_map, List.length_replicate]; done) | (simp; done))) | (exact Src.ownS (by (solve | (repeat (first | exact List.Mem.head _ | apply List.Mem.tail))))) | (exact Src.own (by (solve | (repeat (first | exact List.Mem.head _ | apply List.Mem.tail))))) | (exact Src.sls (by (solve | (repeat (first | exact List.Mem.head _ | apply List.Mem.tail)))))) (by first | exact one_map one8 _ | exact ones_spec rfl | exact one_map (fun _ => rfl) _ | (intro u hu; simp at hu; simp [hu, Value.oneCell'])) (by first | omega | (simp only [maxLen]; omega)) (by first | omega | (simp only [maxLen]; omega)) ?_
    intro ob6 cap6 ho6
    refine RL.assign rfl rfl rfl rfl ?_
    refine RL.nil ?_
    refine NQ.seq ?_
    refine CW.only (.cons (k := 2) rfl .nil) ?_
    refine CW.ret ?_
    refine RQ.block ?_
    exact RQ.ownB (l := bodyR r) rfl rfl (by first | exact .keep (Split.none _) | exact .drop (.keep (Split.none _)) | exact .drop (.drop (.keep (Split.none _)))) (by unfold bodyR; simp [hk, beN_length, be4_length, be8'_length, keyL]) (by unfold bodyR; simp [hk, keyL]) (by first | assumption | (right; rfl))
  ·
    refine RL.call (rnum r.fails 2 (by decide)) Try.call134 rfl rfl rfl rfl rfl (by repeat (first | exact Pick.nil | apply Pick.take | apply Pick.leave)) (by repeat (first | exact Lend.nil | (refine Lend.inI ?_ ?_; (solve | (repeat (first | exact List.Mem.head _ | apply List.Mem.tail)))) | (refine Lend.inH ?_ ?_; (solve | (repeat (first | exact List.Mem.head _ | apply List.Mem.tail)))))) (.inl rfl) ?_
    rintro _ _ _ ⟨ob1, cap1, rfl, rfl, rfl, ho1⟩
    refine RL.buildOwn [_, _] Try.runUnderlying34 Try.sizeOf5 Try.zeroValue5 rfl rfl (by decide) (by decide) rfl (by decide) rfl rfl rfl rfl rfl rfl ?_
    intro b3
    refine RL.appendA el_34 rfl rfl rfl rfl rfl rfl rfl (by first | exact ⟨(.take (Pick.none _)), rfl⟩ | exact ⟨(.leave (.take (Pick.none _))), rfl⟩ | exact ⟨(.leave (.leave (.take (Pick.none _)))), rfl⟩ | exact ⟨(.leave (.leave (.leave (.take (Pick.none _))))), rfl⟩ | exact ⟨(.leave (.leave (.leave (.leave (.take (Pick.none _)))))), rfl⟩ | exact ⟨(.leave (.leave (.leave (.leave (.leave (.take (Pick.none _))))))), rfl⟩ | exact ⟨(.leave (.leave (.leave (.leave (.leave (.leave (.take (Pick.none _)))))))), rfl⟩ | exact ⟨(.leave (.leave (.leave (.leave (.leave (.leave (.leave (.take (Pick.none _))))))))), rfl⟩ | exact ⟨(.leave (.leave (.leave (.leave (.leave (.leave (.leave (.leave (.take (Pick.none _)))))))))), rfl⟩ | exact ⟨(.leave (.leave (.leave (.leave (.leave (.leave (.leave (.leave (.leave (.take (Pick.none _))))))))))), rfl⟩) (by first | (exact Src.cel (by (solve | (repeat (first | exact List.Mem.head _ | apply List.Mem.tail)))) (by first | rfl | assumption | (simp only [List.length_map]; assumption) | (simp only [List.length_map, List.length_replicate]; done) | (simp; done))) | (exact Src.ownS (by (solve | (repeat (first | exact List.Mem.head _ | apply List.Mem.tail))))) | (exact Src.own (by (solve | (repeat (first | exact List.Mem.head _ | apply List.Mem.tail))))) | (exact Src.sls (by (solve | (repeat (first | exact List.Mem.head _ | apply List.Mem.tail)))))) (by first | exact one_map one8 _ | exact ones_spec rfl | exact one_map (fun _ => rfl) _ | (intro u hu; simp at hu; simp [hu, Value.oneCell'])) (by first | omega | (simp only [maxLen]; omega)) (by first | omega | (simp only [maxLen]; omega)) ?_
    intro ob2 cap2 ho2
    refine RL.call (rnumT r.counter hr.counter 8 (by decide)) Try.call134 rfl rfl rfl rfl rfl (by repeat (first | exact Pick.nil | apply Pick.take | apply Pick.leave)) (by repeat (first | exact Lend.nil | (refine Lend.inI ?_ ?_; (solve | (repeat (first | exact List.Mem.head _ | apply List.Mem.tail)))) | (refine Lend.inH ?_ ?_; (solve | (repeat (first | exact List.Mem.head _ | apply List.Mem.tail)))))) (.inl rfl) ?_
    rintro _ _ _ ⟨ob3, cap3, rfl, rfl, rfl, ho3⟩
    refine RL.appendA el_34 rfl rfl rfl rfl rfl rfl rfl (by first | exact ⟨(.take (Pick.none _)), rfl⟩ | exact ⟨(.leave (.take (Pick.none _))), rfl⟩ | exact ⟨(.leave (.leave (.take (Pick.none _)))), rfl⟩ | exact ⟨(.leave (.leave (.leave (.take (Pick.none _))))), rfl⟩ | exact ⟨(.leave (.leave (.leave (.leave (.take (Pick.none _)))))), rfl⟩ | exact ⟨(.leave (.leave (.leave (.leave (.leave (.take (Pick.none _))))))), rfl⟩ | exact ⟨(.leave (.leave (.leave (.leave (.leave (.leave (.take (Pick.none _)))))))), rfl⟩ | exact ⟨(.leave (.leave (.leave (.leave (.leave (.leave (.leave (.take (Pick.none _))))))))), rfl⟩ | exact ⟨(.leave (.leave (.leave (.leave (.leave (.leave (.leave (.leave (.take (Pick.none _)))))))))), rfl⟩ | exact ⟨(.leave (.leave (.leave (.leave (.leave (.leave (.leave (.leave (.leave (.take (Pick.none _))))))))))), rfl⟩) (by first | (exact Src.cel (by (solve | (repeat (first | exact List.Mem.head _ | apply List.Mem.tail)))) (by first | rfl | assumption | (simp only [List.length_map]; assumption) | (simp only [List.length_map, List.length_replicate]; done) | (simp; done))) | (exact Src.ownS (by (solve | (repeat (first | exact List.Mem.head _ | apply List.Mem.tail))))) | (exact Src.own (by (solve | (repeat (first | exact List.Mem.head _ | apply List.Mem.tail))))) | (exact Src.sls (by (solve | (repeat (first | exact List.Mem.head _ | apply List.Mem.tail)))))) (by first | exact one_map one8 _ | exact ones_spec rfl | exact one_map (fun _ => rfl) _ | (intro u hu; simp at hu; simp [hu, Value.oneCell'])) (by first | omega | (simp only [maxLen]; omega)) (by first | omega | (simp only [maxLen]; omega)) ?_
    intro ob4 cap4 ho4
    refine RL.call (rnum r.epoch 4 (by decide)) Try.call134 rfl rfl rfl rfl rfl (by repeat (first | exact Pick.nil | apply Pick.take | apply Pick.leave)) (by repeat (first | exact Lend.nil | (refine Lend.inI ?_ ?_; (solve | (repeat (first | exact List.Mem.head _ | apply List.Mem.tail)))) | (refine Lend.inH ?_ ?_; (solve | (repeat (first | exact List.Mem.head _ | apply List.Mem.tail)))))) (.inl rfl) ?_
    rintro _ _ _ ⟨ob5, cap5, rfl, rfl, rfl, ho5⟩
    refine RL.appendA el_34 rfl rfl rfl rfl rfl rfl rfl (by first | exact ⟨(.take (Pick.none _)), rfl⟩ | exact ⟨(.leave (.take (Pick.none _))), rfl⟩ | exact ⟨(.leave (.leave (.take (Pick.none _)))), rfl⟩ | exact ⟨(.leave (.leave (.leave (.take (Pick.none _))))), rfl⟩ | exact ⟨(.leave (.leave (.leave (.leave (.take (Pick.none _)))))), rfl⟩ | exact ⟨(.leave (.leave (.leave (.leave (.leave (.take (Pick.none _))))))), rfl⟩ | exact ⟨(.leave (.leave (.leave (.leave (.leave (.leave (.take (Pick.none _)))))))), rfl⟩ | exact ⟨(.leave (.leave (.leave (.leave (.leave (.leave (.leave (.take (Pick.none _))))))))), rfl⟩ | exact ⟨(.leave (.leave (.leave (.leave (.leave (.leave (.leave (.leave (.take (Pick.none _)))))))))), rfl⟩ | exact ⟨(.leave (.leave (.leave (.leave (.leave (.leave (.leave (.leave (.leave (.take (Pick.none _))))))))))), rfl⟩) (by first | (exact Src.cel (by (solve | (repeat (first | exact List.Mem.head _ | apply List.Mem.tail)))) (by first | rfl | assumption | (simp only [List.length_map]; assumption) | (simp only [List.length_map, List.length_replicate]; done) | (simp; done))) | (exact Src.ownS (by (solve | (repeat (first | exact List.Mem.head _ | apply List.Mem.tail))))) | (exact Src.own (by (solve | (repeat (first | exact List.Mem.head _ | apply List.Mem.tail))))) | (exact Src.sls (by (solve | (repeat (first | exact List.Mem.head _ | apply List.Mem.tail)))))) (by first | exact one_map one8 _ | exact ones_spec rfl | exact one_map (fun _ => rfl) _ | (intro u hu; simp at hu; simp [hu, Value.oneCell'])) (by first | omega | (simp only [maxLen]; omega)) (by first | omega | (simp only [maxLen]; omega)) ?_
    intro ob6 cap6 ho6
    refine RL.assign rfl rfl rfl rfl ?_
    refine RL.nil ?_
    refine NQ.seq ?_
    refine CW.only (.cons (k := 2) rfl .nil) ?_
    refine CW.ret ?_
    refine RQ.block ?_
    exact RQ.ownB (l := bodyR r) rfl rfl (by first | exact .keep (Split.none _) | exact .drop (.keep (Split.none _)) | exact .drop (.drop (.keep (Split.none _)))) (by unfold bodyR; simp [hk, beN_length, be4_length, be8'_length, keyL]) (by unfold bodyR; simp [hk, keyL]) (by first | assumption | (right; rfl))
theorem rbody_none (r : Rdg) (hk : r.kind ≠ 1 ∧ r.kind ≠ 2 ∧ r.kind ≠ 3 ∧ r.kind ≠ 4 ∧ r.kind ≠ 5 ∧ r.kind ≠ 6 ∧ r.kind ≠ 7 ∧ r.kind ≠ 8 ∧ r.kind ≠ 10 ∧ r.kind ≠ 12 ∧ r.kind ≠ 13 ∧ r.kind ≠ 14) : Spc Try.prog 82 #[.agg r.cells.toArray] [] [] (OwnB (bodyR r)) := by
  refine Spc.enter Try.func82 rfl rfl rfl (fun w0 hw0 => ?_)
  refine CW.seq ?_
  refine CW.region (ef := [0]) (bk := []) ?_
  refine RL.box rfl rfl rfl rfl rfl rfl ?_
  intro b1
  refine RL.assign rfl rfl rfl rfl ?_
  refine RL.nil ?_
  refine NQ.seq ?_
  refine CW.seq ?_
  refine CW.region (ef := [0]) (bk := []) ?_
  refine RL.buildOwn [] Try.runUnderlying34 Try.sizeOf5 Try.zeroValue5 rfl rfl (by decide) (by decide) rfl (by decide) rfl rfl rfl rfl rfl rfl ?_
  intro b2
  refine RL.assign rfl rfl rfl rfl ?_
  refine RL.nil ?_
  refine NQ.seq ?_
  refine CW.seq ?_
  refine CW.region (ef := []) (bk := []) ?_
  refine RL.fieldAddr fa_33_0 rfl rfl rfl rfl ?_
  refine RL.load Try.isAgg3 rfl rfl rfl rfl (by first | assumption | (apply Rd.get; (solve | (repeat (first | exact List.Mem.head _ | apply List.Mem.tail))); assumption) | (apply Rd.getS; (solve | (repeat (first | exact List.Mem.head _ | apply List.Mem.tail))); assumption) | (apply Rd.getO; (solve | (repeat (first | exact List.Mem.head _ | apply List.Mem.tail))); assumption) | (apply Rd.getI; (solve | (repeat (first | exact List.Mem.head _ | apply List.Mem.tail))); assumption) | (apply Rd.cel; (solve | (repeat (first | exact List.Mem.head _ | apply List.Mem.tail))); exact rfl) | (apply Rd.celI; (solve | (repeat (first | exact List.Mem.head _ | apply List.Mem.tail))); exact rfl)) ?_
  refine RL.nil ?_
  refine NQ.seq ?_
  refine CW.block ?_
  refine CW.seq ?_
  refine CW.region (ef := []) (bk := []) ?_
  refine RL.bin rfl rfl rfl rfl rfl rfl ?_
  refine RL.assign rfl rfl rfl rfl ?_
  refine RL.nil ?_
  refine NQ.seq ?_
  -- STOP: if; todo top: ["code", ["cond", ["t", 10], ["seq", ["seq", ["region", 5, [{"d": 4, "op": ["assign", ["c", ["int", "Go.IntKind.i64", 0]]], "ty": 3, "pos": "ref.go:38", "after": [], "guard": null}], false], ["block",
  refine CW.condF rfl ((by simp [hk])) ?_
  refine CW.seq ?_
  refine CW.region (ef := []) (bk := []) ?_
  refine RL.bin rfl rfl rfl rfl rfl rfl ?_
  refine RL.assign rfl rfl rfl rfl ?_
  refine RL.nil ?_
  refine NQ.seq ?_
  refine CW.only (.cons (k := 1) rfl (.cons (k := 3) rfl (.cons (k := 8) rfl (.cons (k := 35) rfl .nil)))) ?_
  -- STOP: if; todo top: ["code", ["cond", ["t", 35], ["seq", ["region", 15, [{"d": 37, "op": ["fieldAddr", 33, ["t", 1], 3], "ty": 0, "pos": "ref.go:46", "after": [], "guard": null}, {"d": 38, "op": ["load", 24, ["t", 37]], 
  refine CW.condF rfl ((by simp [hk])) ?_
  refine CW.seq ?_
  refine CW.region (ef := []) (bk := []) ?_
  refine RL.bin rfl rfl rfl rfl rfl rfl ?_
  refine RL.assign rfl rfl rfl rfl ?_
  refine RL.nil ?_
  refine NQ.seq ?_
  -- STOP: if; todo top: ["code", ["cond", ["t", 40], ["seq", ["region", 17, [{"d": 42, "op": ["fieldAddr", 33, ["t", 1], 4], "ty": 0, "pos": "ref.go:48", "after": [], "guard": null}, {"d": 43, "op": ["load", 25, ["t", 42]], 
  refine CW.condF rfl ((by simp [hk])) ?_
  refine CW.seq ?_
  refine CW.region (ef := []) (bk := []) ?_
  refine RL.bin rfl rfl rfl rfl rfl rfl ?_
  refine RL.assign rfl rfl rfl rfl ?_
  refine RL.nil ?_
  refine NQ.seq ?_
  -- STOP: if; todo top: ["code", ["cond", ["t", 46], ["seq", ["region", 19, [{"d": 48, "op": ["fieldAddr", 33, ["t", 1], 5], "ty": 0, "pos": "ref.go:50", "after": [], "guard": null}, {"d": 49, "op": ["load", 22, ["t", 48]], 
  refine CW.condF rfl ((by simp [hk])) ?_
  refine CW.seq ?_
  refine CW.region (ef := []) (bk := []) ?_
  refine RL.bin rfl rfl rfl rfl rfl rfl ?_
  refine RL.assign rfl rfl rfl rfl ?_
  refine RL.nil ?_
  refine NQ.seq ?_
  refine CW.only (.cons (k := 1) rfl (.cons (k := 3) rfl (.cons (k := 8) rfl (.cons (k := 56) rfl .nil)))) ?_
  -- STOP: if; todo top: ["code", ["cond", ["t", 56], ["seq", ["region", 21, [{"d": 58, "op": ["fieldAddr", 33, ["t", 1], 7], "ty": 0, "pos": "ref.go:52", "after": [], "guard": null}, {"d": 59, "op": ["load", 25, ["t", 58]], 
  refine CW.condF rfl ((by simp [hk])) ?_
  refine CW.seq ?_
  refine CW.region (ef := []) (bk := []) ?_
  refine RL.bin rfl rfl rfl rfl rfl rfl ?_
  refine RL.assign rfl rfl rfl rfl ?_
  refine RL.nil ?_
  refine NQ.seq ?_
  -- STOP: if; todo top: ["code", ["cond", ["t", 70], ["seq", ["region", 23, [{"d": 72, "op": ["fieldAddr", 33, ["t", 1], 7], "ty": 0, "pos": "ref.go:54", "after": [], "guard": null}, {"d": 73, "op": ["load", 25, ["t", 72]], 
  refine CW.condF rfl ((by simp [hk])) ?_
  refine CW.seq ?_
  refine CW.region (ef := []) (bk := []) ?_
  refine RL.bin rfl rfl rfl rfl rfl rfl ?_
  refine RL.assign rfl rfl rfl rfl ?_
  refine RL.nil ?_
  refine NQ.seq ?_
  -- STOP: if; todo top: ["code", ["cond", ["t", 79], ["seq", ["region", 25, [{"d": 81, "op": ["fieldAddr", 33, ["t", 1], 11], "ty": 0, "pos": "ref.go:56", "after": [], "guard": null}, {"d": 82, "op": ["load", 30, ["t", 81]],
  refine CW.condF rfl ((by simp [hk])) ?_
  refine CW.seq ?_
  refine CW.region (ef := []) (bk := []) ?_
  refine RL.bin rfl rfl rfl rfl rfl rfl ?_
  refine RL.assign rfl rfl rfl rfl ?_
  refine RL.nil ?_
  refine NQ.seq ?_
  refine CW.only (.cons (k := 1) rfl (.cons (k := 3) rfl (.cons (k := 8) rfl (.cons (k := 84) rfl .nil)))) ?_
  -- STOP: if; todo top: ["code", ["cond", ["t", 84], ["seq", ["region", 27, [{"d": 86, "op": ["fieldAddr", 33, ["t", 1], 12], "ty": 0, "pos": "ref.go:58", "after": [], "guard": null}, {"d": 87, "op": ["load", 5, ["t", 86]], 
  refine CW.condF rfl ((by simp [hk])) ?_
  refine CW.seq ?_
  refine CW.region (ef := []) (bk := []) ?_
  refine RL.bin rfl rfl rfl rfl rfl rfl ?_
  refine RL.assign rfl rfl rfl rfl ?_
  refine RL.nil ?_
  refine NQ.seq ?_
  -- STOP: if; todo top: ["code", ["cond", ["t", 89], ["seq", ["region", 29, [{"d": 91, "op": ["fieldAddr", 33, ["t", 1], 13], "ty": 0, "pos": "ref.go:60", "after": [], "guard": null}, {"d": 92, "op": ["load", 25, ["t", 91]],
  refine CW.condF rfl ((by simp [hk])) ?_
  refine CW.seq ?_
  refine CW.region (ef := []) (bk := []) ?_
  refine RL.bin rfl rfl rfl rfl rfl rfl ?_
  refine RL.assign rfl rfl rfl rfl ?_
  refine RL.nil ?_
  refine NQ.seq ?_
  -- STOP: if; todo top: ["code", ["cond", ["t", 95], ["seq", ["region", 31, [{"d": 97, "op": ["fieldAddr", 33, ["t", 1], 16], "ty": 0, "pos": "ref.go:62", "after": [], "guard": null}, {"d": 98, "op": ["load", 5, ["t", 97]], 
  refine CW.condF rfl ((by simp [hk])) ?_
  refine CW.seq ?_
  refine CW.region (ef := []) (bk := []) ?_
  refine RL.bin rfl rfl rfl rfl rfl rfl ?_
  refine RL.assign rfl rfl rfl rfl ?_
  refine RL.nil ?_
  refine NQ.seq ?_
  refine CW.only (.cons (k := 1) rfl (.cons (k := 3) rfl (.cons (k := 8) rfl (.cons (k := 100) rfl .nil)))) ?_
  -- STOP: if; todo top: ["code", ["cond", ["t", 100], ["seq", ["region", 33, [{"d": 102, "op": ["fieldAddr", 33, ["t", 1], 12], "ty": 0, "pos": "ref.go:64", "after": [], "guard": null}, {"d": 103, "op": ["load", 5, ["t", 102
  refine CW.condF rfl ((by simp [hk])) ?_
  refine CW.seq ?_
  refine CW.region (ef := []) (bk := []) ?_
  refine RL.bin rfl rfl rfl rfl rfl rfl ?_
  refine RL.assign rfl rfl rfl rfl ?_
  refine RL.nil ?_
  refine NQ.seq ?_
  -- STOP: if; todo top: ["code", ["cond", ["t", 118], ["seq", ["region", 35, [{"d": 120, "op": ["fieldAddr", 33, ["t", 1], 16], "ty": 0, "pos": "ref.go:66", "after": [], "guard": null}, {"d": 121, "op": ["load", 5, ["t", 120
  refine CW.condF rfl ((by simp [hk])) ?_
  refine CW.seq ?_
  refine CW.region (ef := []) (bk := []) ?_
  refine RL.move rfl rfl rfl rfl ?_
  refine RL.assign rfl rfl rfl rfl ?_
  refine RL.nil ?_
  refine NQ.seq ?_
  refine CW.only (.cons (k := 2) rfl .nil) ?_
  refine CW.ret ?_
  refine RQ.block ?_
  -- STOP: ret; end
  exact RQ.ownB (l := bodyR r) rfl rfl (.keep (Split.none _)) (by unfold bodyR; simp [hk]) (by unfold bodyR; simp [hk]) (by first | assumption | (left; rfl))
end Go.Proofs.Ytflpiaeffnoepaa
