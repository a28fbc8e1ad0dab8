import Derived.Test.YtflpiaeffnoepaaRNum3
namespace Go.Proofs.Ytflpiaeffnoepaa
open Go.PK

theorem sput_any (a : Int) : Spc Try.prog 173 #[.int .i32 a] [] [] (Is (.agg (bytes (be4 a)).toArray)) := by
  refine Spc.enter Try.func173 rfl rfl rfl (fun w0 hw0 => ?_)
  refine CW.seq ?_
  refine CW.region (ef := [0]) (bk := []) ?_
  refine RL.alloc Try.zeroValue322 rfl rfl rfl rfl rfl ?_
  intro b1
  refine RL.nil ?_
  refine NQ.seq ?_
  refine CW.seq ?_
  refine CW.region (ef := []) (bk := []) ?_
  refine RL.move rfl rfl rfl rfl ?_
  refine RL.conv Try.runUnderlying22 Try.runUnderlying25 rfl rfl rfl rfl ?_
  refine RL.assign rfl rfl rfl rfl ?_
  refine RL.nil ?_
  refine NQ.seq ?_
  refine CW.seq ?_
  refine CW.region (ef := [12]) (bk := [12]) ?_
  refine RL.move rfl rfl rfl rfl ?_
  refine RL.shr 24 rfl rfl rfl rfl rfl rfl (by decide) ?_
  refine RL.conv Try.runUnderlying25 Try.runUnderlying5 rfl rfl rfl rfl ?_
  refine RL.move rfl rfl rfl rfl ?_
  refine RL.shr 16 rfl rfl rfl rfl rfl rfl (by decide) ?_
  refine RL.conv Try.runUnderlying25 Try.runUnderlying5 rfl rfl rfl rfl ?_
  refine RL.move rfl rfl rfl rfl ?_
  refine RL.shr 8 rfl rfl rfl rfl rfl rfl (by decide) ?_
  refine RL.conv Try.runUnderlying25 Try.runUnderlying5 rfl rfl rfl rfl ?_
  refine RL.move rfl rfl rfl rfl ?_
  refine RL.conv Try.runUnderlying25 Try.runUnderlying5 rfl rfl rfl rfl ?_
  refine RL.buildA [_, _, _, _] Try.zeroValue322 Try.runUnderlying322 Try.sizeOf5 rfl rfl rfl rfl rfl ?_
  refine RL.storeW Try.sizeOf322 rfl rfl rfl rfl rfl rfl rfl (by first | rfl | exact ones_map one8 _ | exact ones_map (fun _ => rfl) _) (by repeat (first | exact Upd.here | apply Upd.there)) (by first | rfl | assumption | (simp only [List.length_map]; assumption) | (simp only [List.length_map, List.length_replicate, be4_length, be8'_length]; done) | (simp; done)) (by first | rfl | assumption | (simp only [List.length_map]; assumption) | (simp only [List.length_map, List.length_replicate, be4_length, be8'_length]; done) | (simp; done)) ?_
  refine RL.nil ?_
  refine NQ.seq ?_
  refine CW.only (.cons (k := 2) rfl .nil) ?_
  refine CW.ret ?_
  -- STOP: ret; end
  exact RQ.post (resW rfl rfl Try.isAgg322 Try.sizeOf322 (by repeat (first | exact List.Mem.head _ | apply List.Mem.tail)) rfl) (Split.none _) ⟨by rw [← be4_cells], rfl, rfl⟩

theorem sputfix_any (a : Int) (h : -9223372036854775808 ≤ a ∧ a ≤ 9223372036854775807) : Spc Try.prog 174 #[.int .i64 a] [] [] (Is (.agg (bytes (be8' a)).toArray)) := by
  refine Spc.enter Try.func174 rfl rfl rfl (fun w0 hw0 => ?_)
  refine CW.seq ?_
  refine CW.region (ef := [0]) (bk := []) ?_
  refine RL.alloc Try.zeroValue324 rfl rfl rfl rfl rfl ?_
  intro b1
  refine RL.nil ?_
  refine NQ.seq ?_
  refine CW.seq ?_
  refine CW.region (ef := [7, 8, 9, 10]) (bk := [9, 10]) ?_
  refine RL.move rfl rfl rfl rfl ?_
  refine RL.shr 32 rfl rfl rfl rfl rfl rfl (by decide) ?_
  refine RL.conv Try.runUnderlying24 Try.runUnderlying22 rfl rfl rfl rfl ?_
  refine RL.callv (sput_any (IntKind.i32.wrap (a.fdiv (2 ^ 32)))) Try.call173 rfl rfl rfl rfl (by repeat (first | exact Lend.nil | (refine Lend.inI ?_ ?_; (solve | (repeat (first | exact List.Mem.head _ | apply List.Mem.tail)))) | (refine Lend.inH ?_ ?_; (solve | (repeat (first | exact List.Mem.head _ | apply List.Mem.tail)))))) ?_
  refine RL.move rfl rfl rfl rfl ?_
  refine RL.conv Try.runUnderlying24 Try.runUnderlying22 rfl rfl rfl rfl ?_
  refine RL.callv (sput_any (IntKind.i32.wrap a)) Try.call173 rfl rfl rfl rfl (by repeat (first | exact Lend.nil | (refine Lend.inI ?_ ?_; (solve | (repeat (first | exact List.Mem.head _ | apply List.Mem.tail)))) | (refine Lend.inH ?_ ?_; (solve | (repeat (first | exact List.Mem.head _ | apply List.Mem.tail)))))) ?_
  refine RL.alloc Try.zeroValue322 rfl rfl rfl rfl rfl ?_
  intro b2
  refine RL.alloc Try.zeroValue322 rfl rfl rfl rfl rfl ?_
  intro b3
  refine RL.storeW Try.sizeOf322 rfl rfl rfl rfl rfl rfl rfl (by first | rfl | exact ones_map one8 _ | exact ones_map (fun _ => rfl) _) (by repeat (first | exact Upd.here | apply Upd.there)) (by first | rfl | assumption | (simp only [List.length_map]; assumption) | (simp only [List.length_map, List.length_replicate, be4_length, be8'_length]; done) | (simp; done)) (by first | rfl | assumption | (simp only [List.length_map]; assumption) | (simp only [List.length_map, List.length_replicate, be4_length, be8'_length]; done) | (simp; done)) ?_
  refine RL.storeW Try.sizeOf322 rfl rfl rfl rfl rfl rfl rfl (by first | rfl | exact ones_map one8 _ | exact ones_map (fun _ => rfl) _) (by repeat (first | exact Upd.here | apply Upd.there)) (by first | rfl | assumption | (simp only [List.length_map]; assumption) | (simp only [List.length_map, List.length_replicate, be4_length, be8'_length]; done) | (simp; done)) (by first | rfl | assumption | (simp only [List.length_map]; assumption) | (simp only [List.length_map, List.length_replicate, be4_length, be8'_length]; done) | (simp; done)) ?_
  refine RL.nil ?_
  refine NQ.seq ?_
  refine CW.only (.cons (k := 2) rfl (.cons (k := 3) rfl (.cons (k := 4) rfl .nil))) ?_
  refine CW.seq ?_
  refine CW.region (ef := [17]) (bk := [17]) ?_
  refine RL.idxAAt (j := 0) Try.runUnderlying322 Try.sizeOf5 rfl rfl rfl rfl rfl rfl (by decide) ?_
  refine RL.load Try.isAgg5 rfl rfl rfl rfl (by first | assumption | (apply Rd.get; (solve | (repeat (first | exact List.Mem.head _ | apply List.Mem.tail))); assumption) | (apply Rd.getS; (solve | (repeat (first | exact List.Mem.head _ | apply List.Mem.tail))); assumption) | (apply Rd.getO; (solve | (repeat (first | exact List.Mem.head _ | apply List.Mem.tail))); assumption) | (apply Rd.getI; (solve | (repeat (first | exact List.Mem.head _ | apply List.Mem.tail))); assumption) | (apply Rd.cel; (solve | (repeat (first | exact List.Mem.head _ | apply List.Mem.tail))); exact rfl) | (apply Rd.celI; (solve | (repeat (first | exact List.Mem.head _ | apply List.Mem.tail))); exact rfl)) ?_
  refine RL.idxAAt (j := 1) Try.runUnderlying322 Try.sizeOf5 rfl rfl rfl rfl rfl rfl (by decide) ?_
  refine RL.load Try.isAgg5 rfl rfl rfl rfl (by first | assumption | (apply Rd.get; (solve | (repeat (first | exact List.Mem.head _ | apply List.Mem.tail))); assumption) | (apply Rd.getS; (solve | (repeat (first | exact List.Mem.head _ | apply List.Mem.tail))); assumption) | (apply Rd.getO; (solve | (repeat (first | exact List.Mem.head _ | apply List.Mem.tail))); assumption) | (apply Rd.getI; (solve | (repeat (first | exact List.Mem.head _ | apply List.Mem.tail))); assumption) | (apply Rd.cel; (solve | (repeat (first | exact List.Mem.head _ | apply List.Mem.tail))); exact rfl) | (apply Rd.celI; (solve | (repeat (first | exact List.Mem.head _ | apply List.Mem.tail))); exact rfl)) ?_
  refine RL.idxAAt (j := 2) Try.runUnderlying322 Try.sizeOf5 rfl rfl rfl rfl rfl rfl (by decide) ?_
  refine RL.load Try.isAgg5 rfl rfl rfl rfl (by first | assumption | (apply Rd.get; (solve | (repeat (first | exact List.Mem.head _ | apply List.Mem.tail))); assumption) | (apply Rd.getS; (solve | (repeat (first | exact List.Mem.head _ | apply List.Mem.tail))); assumption) | (apply Rd.getO; (solve | (repeat (first | exact List.Mem.head _ | apply List.Mem.tail))); assumption) | (apply Rd.getI; (solve | (repeat (first | exact List.Mem.head _ | apply List.Mem.tail))); assumption) | (apply Rd.cel; (solve | (repeat (first | exact List.Mem.head _ | apply List.Mem.tail))); exact rfl) | (apply Rd.celI; (solve | (repeat (first | exact List.Mem.head _ | apply List.Mem.tail))); exact rfl)) ?_
  refine RL.idxAAt (j := 3) Try.runUnderlying322 Try.sizeOf5 rfl rfl rfl rfl rfl rfl (by decide) ?_
  refine RL.load Try.isAgg5 rfl rfl rfl rfl (by first | assumption | (apply Rd.get; (solve | (repeat (first | exact List.Mem.head _ | apply List.Mem.tail))); assumption) | (apply Rd.getS; (solve | (repeat (first | exact List.Mem.head _ | apply List.Mem.tail))); assumption) | (apply Rd.getO; (solve | (repeat (first | exact List.Mem.head _ | apply List.Mem.tail))); assumption) | (apply Rd.getI; (solve | (repeat (first | exact List.Mem.head _ | apply List.Mem.tail))); assumption) | (apply Rd.cel; (solve | (repeat (first | exact List.Mem.head _ | apply List.Mem.tail))); exact rfl) | (apply Rd.celI; (solve | (repeat (first | exact List.Mem.head _ | apply List.Mem.tail))); exact rfl)) ?_
  refine RL.idxAAt (j := 0) Try.runUnderlying322 Try.sizeOf5 rfl rfl rfl rfl rfl rfl (by decide) ?_
  refine RL.load Try.isAgg5 rfl rfl rfl rfl (by first | assumption | (apply Rd.get; (solve | (repeat (first | exact List.Mem.head _ | apply List.Mem.tail))); assumption) | (apply Rd.getS; (solve | (repeat (first | exact List.Mem.head _ | apply List.Mem.tail))); assumption) | (apply Rd.getO; (solve | (repeat (first | exact List.Mem.head _ | apply List.Mem.tail))); assumption) | (apply Rd.getI; (solve | (repeat (first | exact List.Mem.head _ | apply List.Mem.tail))); assumption) | (apply Rd.cel; (solve | (repeat (first | exact List.Mem.head _ | apply List.Mem.tail))); exact rfl) | (apply Rd.celI; (solve | (repeat (first | exact List.Mem.head _ | apply List.Mem.tail))); exact rfl)) ?_
  refine RL.idxAAt (j := 1) Try.runUnderlying322 Try.sizeOf5 rfl rfl rfl rfl rfl rfl (by decide) ?_
  refine RL.load Try.isAgg5 rfl rfl rfl rfl (by first | assumption | (apply Rd.get; (solve | (repeat (first | exact List.Mem.head _ | apply List.Mem.tail))); assumption) | (apply Rd.getS; (solve | (repeat (first | exact List.Mem.head _ | apply List.Mem.tail))); assumption) | (apply Rd.getO; (solve | (repeat (first | exact List.Mem.head _ | apply List.Mem.tail))); assumption) | (apply Rd.getI; (solve | (repeat (first | exact List.Mem.head _ | apply List.Mem.tail))); assumption) | (apply Rd.cel; (solve | (repeat (first | exact List.Mem.head _ | apply List.Mem.tail))); exact rfl) | (apply Rd.celI; (solve | (repeat (first | exact List.Mem.head _ | apply List.Mem.tail))); exact rfl)) ?_
  refine RL.idxAAt (j := 2) Try.runUnderlying322 Try.sizeOf5 rfl rfl rfl rfl rfl rfl (by decide) ?_
  refine RL.load Try.isAgg5 rfl rfl rfl rfl (by first | assumption | (apply Rd.get; (solve | (repeat (first | exact List.Mem.head _ | apply List.Mem.tail))); assumption) | (apply Rd.getS; (solve | (repeat (first | exact List.Mem.head _ | apply List.Mem.tail))); assumption) | (apply Rd.getO; (solve | (repeat (first | exact List.Mem.head _ | apply List.Mem.tail))); assumption) | (apply Rd.getI; (solve | (repeat (first | exact List.Mem.head _ | apply List.Mem.tail))); assumption) | (apply Rd.cel; (solve | (repeat (first | exact List.Mem.head _ | apply List.Mem.tail))); exact rfl) | (apply Rd.celI; (solve | (repeat (first | exact List.Mem.head _ | apply List.Mem.tail))); exact rfl)) ?_
  refine RL.idxAAt (j := 3) Try.runUnderlying322 Try.sizeOf5 rfl rfl rfl rfl rfl rfl (by decide) ?_
  refine RL.load Try.isAgg5 rfl rfl rfl rfl (by first | assumption | (apply Rd.get; (solve | (repeat (first | exact List.Mem.head _ | apply List.Mem.tail))); assumption) | (apply Rd.getS; (solve | (repeat (first | exact List.Mem.head _ | apply List.Mem.tail))); assumption) | (apply Rd.getO; (solve | (repeat (first | exact List.Mem.head _ | apply List.Mem.tail))); assumption) | (apply Rd.getI; (solve | (repeat (first | exact List.Mem.head _ | apply List.Mem.tail))); assumption) | (apply Rd.cel; (solve | (repeat (first | exact List.Mem.head _ | apply List.Mem.tail))); exact rfl) | (apply Rd.celI; (solve | (repeat (first | exact List.Mem.head _ | apply List.Mem.tail))); exact rfl)) ?_
  refine RL.buildA [_, _, _, _, _, _, _, _] Try.zeroValue324 Try.runUnderlying324 Try.sizeOf5 rfl rfl rfl rfl rfl ?_
  refine RL.storeW Try.sizeOf324 rfl rfl rfl rfl rfl rfl rfl (by first | rfl | exact ones_map one8 _ | exact ones_map (fun _ => rfl) _) (by repeat (first | exact Upd.here | apply Upd.there)) (by first | rfl | assumption | (simp only [List.length_map]; assumption) | (simp only [List.length_map, List.length_replicate, be4_length, be8'_length]; done) | (simp; done)) (by first | rfl | assumption | (simp only [List.length_map]; assumption) | (simp only [List.length_map, List.length_replicate, be4_length, be8'_length]; done) | (simp; done)) ?_
  refine RL.nil ?_
  refine NQ.seq ?_
  refine CW.only (.cons (k := 2) rfl .nil) ?_
  refine CW.ret ?_
  -- STOP: ret; end
  exact RQ.post (resW rfl rfl Try.isAgg324 Try.sizeOf324 (by repeat (first | exact List.Mem.head _ | apply List.Mem.tail)) rfl) (Split.none _) ⟨by rw [← be8_half a h]; rfl, rfl, rfl⟩

theorem rsput_any (a : Int) : Spc Try.prog 132 #[.int .i32 a] [] [] (OwnB (be4 a)) := by
  refine Spc.enter Try.func132 rfl rfl rfl (fun w0 hw0 => ?_)
  refine CW.seq ?_
  refine CW.region (ef := []) (bk := []) ?_
  refine RL.assign rfl rfl rfl rfl ?_
  refine RL.nil ?_
  refine NQ.seq ?_
  refine CW.seq ?_
  refine CW.region (ef := [3]) (bk := []) ?_
  refine RL.move rfl rfl rfl rfl ?_
  refine RL.conv Try.runUnderlying22 Try.runUnderlying25 rfl rfl rfl rfl ?_
  refine RL.conv Try.runUnderlying25 Try.runUnderlying30 rfl rfl rfl rfl ?_
  -- STOP: op; op 3: d=6 ["call", ["f", 175], [["t", 5], ["c", ["int", "Go.IntKind.i64", 4]]], [30, 3]] guard=None (ref.go:50)
  rw [u64_of_u32, ← wrap_u32_nat a]
  refine RL.call (num3 (IntKind.u32.wrap a).toNat 4 (by have := wrap_u32_lt a; omega) (by decide)) Try.call175 rfl rfl rfl rfl rfl (by repeat (first | exact Pick.nil | apply Pick.take | apply Pick.leave)) (by repeat (first | exact Lend.nil | (refine Lend.inI ?_ ?_; (solve | (repeat (first | exact List.Mem.head _ | apply List.Mem.tail)))) | (refine Lend.inH ?_ ?_; (solve | (repeat (first | exact List.Mem.head _ | apply List.Mem.tail)))))) (.inl rfl) ?_
  -- STOP: called; op 4: d=2 ["assign", ["t", 6]] guard=None (ref.go:50)
  rintro _ _ _ ⟨ob, cap, rfl, rfl, rfl, ho⟩
  refine RL.assign rfl rfl rfl rfl ?_
  refine RL.nil ?_
  refine NQ.seq ?_
  refine CW.ret ?_
  -- STOP: ret; end
  exact RQ.post (res1 rfl rfl) (.keep .nil) ⟨ob, cap, rfl, rfl, rfl, ho⟩
theorem rsputfix_any (a : Int) : Spc Try.prog 133 #[.int .i64 a] [] [] (OwnB (be8' a)) := by
  refine Spc.enter Try.func133 rfl rfl rfl (fun w0 hw0 => ?_)
  refine CW.seq ?_
  refine CW.region (ef := []) (bk := []) ?_
  refine RL.assign rfl rfl rfl rfl ?_
  refine RL.nil ?_
  refine NQ.seq ?_
  refine CW.seq ?_
  refine CW.region (ef := [2]) (bk := []) ?_
  refine RL.move rfl rfl rfl rfl ?_
  refine RL.conv Try.runUnderlying24 Try.runUnderlying30 rfl rfl rfl rfl ?_
  -- STOP: op; op 2: d=5 ["call", ["f", 175], [["t", 4], ["c", ["int", "Go.IntKind.i64", 8]]], [30, 3]] guard=None (ref.go:52)
  rw [← wrap_u64_nat a]
  refine RL.call (num3 (IntKind.u64.wrap a).toNat 8 (wrap_u64_lt a) (by decide)) Try.call175 rfl rfl rfl rfl rfl (by repeat (first | exact Pick.nil | apply Pick.take | apply Pick.leave)) (by repeat (first | exact Lend.nil | (refine Lend.inI ?_ ?_; (solve | (repeat (first | exact List.Mem.head _ | apply List.Mem.tail)))) | (refine Lend.inH ?_ ?_; (solve | (repeat (first | exact List.Mem.head _ | apply List.Mem.tail)))))) (.inl rfl) ?_
  -- STOP: called; op 3: d=2 ["assign", ["t", 5]] guard=None (ref.go:52)
  rintro _ _ _ ⟨ob, cap, rfl, rfl, rfl, ho⟩
  refine RL.assign rfl rfl rfl rfl ?_
  refine RL.nil ?_
  refine NQ.seq ?_
  refine CW.ret ?_
  -- STOP: ret; end
  exact RQ.post (res1 rfl rfl) (.keep .nil) ⟨ob, cap, rfl, rfl, rfl, ho⟩
end Go.Proofs.Ytflpiaeffnoepaa
