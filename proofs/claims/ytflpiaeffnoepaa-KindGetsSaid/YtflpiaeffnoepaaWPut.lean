import Derived.Test.YtflpiaeffnoepaaWrite
namespace Go.Proofs.Ytflpiaeffnoepaa
open Go.PK
set_option linter.unusedSimpArgs false


theorem wput_1 (w : Nat) (r : Rdg) (hk : r.kind = 1) (hr : r.Ok) : Spc Try.prog 81 #[.pointer (some ⟨w, 0, none⟩), .agg r.cells.toArray] [] [wrt w none 0 0, own none 0 5 1 0 []] (WrR w (bodyR r)) := by
  refine Spc.enter Try.func81 rfl rfl rfl (fun w0 hw0 => ?_)
  refine CW.seq ?_
  refine CW.region (ef := [0]) (bk := []) ?_
  refine RL.box rfl rfl rfl rfl rfl rfl ?_
  intro b1
  refine RL.nil ?_
  refine NQ.seq ?_
  refine CW.seq ?_
  refine CW.region (ef := []) (bk := []) ?_
  refine RL.fieldAddr fa_33_0 rfl rfl rfl rfl ?_
  refine RL.load Try.isAgg3 rfl rfl rfl rfl (by first | assumption | (apply Rd.get; (solve | (repeat (first | exact List.Mem.head _ | apply List.Mem.tail))); assumption) | (apply Rd.getS; (solve | (repeat (first | exact List.Mem.head _ | apply List.Mem.tail))); assumption) | (apply Rd.getO; (solve | (repeat (first | exact List.Mem.head _ | apply List.Mem.tail))); assumption) | (apply Rd.getI; (solve | (repeat (first | exact List.Mem.head _ | apply List.Mem.tail))); assumption) | (apply Rd.cel; (solve | (repeat (first | exact List.Mem.head _ | apply List.Mem.tail))); exact rfl) | (apply Rd.celI; (solve | (repeat (first | exact List.Mem.head _ | apply List.Mem.tail))); exact rfl)) ?_
  refine RL.nil ?_
  refine NQ.seq ?_
  refine CW.block ?_
  refine CW.seq ?_
  refine CW.block ?_
  refine CW.seq ?_
  refine CW.block ?_
  refine CW.seq ?_
  refine CW.block ?_
  refine CW.seq ?_
  refine CW.block ?_
  refine CW.seq ?_
  refine CW.block ?_
  refine CW.seq ?_
  refine CW.block ?_
  refine CW.seq ?_
  refine CW.block ?_
  refine CW.seq ?_
  refine CW.block ?_
  refine CW.seq ?_
  refine CW.block ?_
  refine CW.seq ?_
  refine CW.block ?_
  refine CW.seq ?_
  refine CW.block ?_
  refine CW.seq ?_
  refine CW.block ?_
  refine CW.seq ?_
  refine CW.seq ?_
  refine CW.seq ?_
  refine CW.region (ef := []) (bk := []) ?_
  refine RL.bin rfl rfl rfl rfl rfl rfl ?_
  refine RL.assign rfl rfl rfl rfl ?_
  refine RL.nil ?_
  refine NQ.seq ?_
  -- STOP: if; todo top: ["code", ["cond", ["t", 6], ["exit", 1], ["skip"]]]
  refine CW.condT rfl ((by rw [hk]; rfl)) ?_
  refine CW.exit ?_
  refine XQ.seq ?_
  refine XQ.seq ?_
  refine XQ.hit ?_
  refine NQ.seq ?_
  refine CW.seq ?_
  refine CW.seq ?_
  refine CW.region (ef := [3]) (bk := [3]) ?_
  refine RL.move rfl rfl rfl rfl ?_
  refine RL.fieldAddr fa_33_1 rfl rfl rfl rfl ?_
  refine RL.sliceAll Try.runUnderlying23 Try.sizeOf22 (by decide) rfl rfl rfl rfl ?_
  -- STOP: op; op 3: d=33 ["call", ["f", 129], [["t", 30], ["t", 32]], [173, 245]] guard=None (kind.go:83)
  refine RL.call (wshort_any w none (some ⟨b1, 0 + 1, none⟩) 0 ([] : List B8).length 3 3 ([]) [r.g0, r.g1, r.g2] rfl rfl (by decide) (by simp [beN_length, be4_length, be8'_length]) (by simp only [List.mem_cons, List.not_mem_nil, or_false]; rintro x (rfl | rfl | rfl) <;> first | exact wf_i32 hr.g0 | exact wf_i32 hr.g1 | exact wf_i32 hr.g2)) Try.call129 rfl rfl rfl rfl rfl (by repeat (first | exact Pick.nil | apply Pick.take | apply Pick.leave)) (Lend.cel (off := 0 + 1) (cs := r.cells) (by repeat (first | exact List.Mem.head _ | apply List.Mem.tail)) rfl (pre3 rfl rfl rfl) .nil) (.inr rfl) ?_
  -- STOP: called; todo top: ["code", ["region", 14, [{"d": 30, "op": ["move", ["t", 0]], "ty": 173, "pos": "kind.go:83", "after": [], "guard": null}, {"d": 31, "op": ["fieldAddr", 33, ["t", 3], 1], "ty": 0, "pos": "kind.go:83", 
  rintro _ _ _ ⟨rfl, ob1', cp1, rfl⟩
  refine RL.nil ?_
  refine NQ.seq ?_
  refine CW.only (.cons (k := 0) rfl (.cons (k := 3) rfl .nil)) ?_
  refine CW.region (ef := [3]) (bk := [3]) ?_
  refine RL.move rfl rfl rfl rfl ?_
  refine RL.fieldAddr fa_33_2 rfl rfl rfl rfl ?_
  refine RL.sliceAll Try.runUnderlying23 Try.sizeOf22 (by decide) rfl rfl rfl rfl ?_
  -- STOP: op; op 3: d=37 ["call", ["f", 129], [["t", 34], ["t", 36]], [173, 245]] guard=None (kind.go:84)
  refine RL.call (wshort_any w ob1' (some ⟨b1, 0 + 4, none⟩) cp1 ([] ++ [r.g0, r.g1, r.g2].flatMap be4 : List B8).length 3 3 ([] ++ [r.g0, r.g1, r.g2].flatMap be4) [r.a0, r.a1, r.a2] rfl rfl (by decide) (by simp [beN_length, be4_length, be8'_length]) (by simp only [List.mem_cons, List.not_mem_nil, or_false]; rintro x (rfl | rfl | rfl) <;> first | exact wf_i32 hr.a0 | exact wf_i32 hr.a1 | exact wf_i32 hr.a2)) Try.call129 rfl rfl rfl rfl rfl (by repeat (first | exact Pick.nil | apply Pick.take | apply Pick.leave)) (Lend.cel (off := 0 + 4) (cs := r.cells) (by repeat (first | exact List.Mem.head _ | apply List.Mem.tail)) rfl (pre3 rfl rfl rfl) .nil) (.inr rfl) ?_
  -- STOP: called; todo top: ["code", ["region", 15, [{"d": 34, "op": ["move", ["t", 0]], "ty": 173, "pos": "kind.go:84", "after": [], "guard": null}, {"d": 35, "op": ["fieldAddr", 33, ["t", 3], 2], "ty": 0, "pos": "kind.go:84", 
  rintro _ _ _ ⟨rfl, ob2', cp2, rfl⟩
  refine RL.nil ?_
  refine NQ.seq ?_
  refine CW.exit ?_
  refine XQ.miss rfl ?_
  refine XQ.seq ?_
  refine XQ.miss rfl ?_
  refine XQ.seq ?_
  refine XQ.miss rfl ?_
  refine XQ.seq ?_
  refine XQ.miss rfl ?_
  refine XQ.seq ?_
  refine XQ.miss rfl ?_
  refine XQ.seq ?_
  refine XQ.miss rfl ?_
  refine XQ.seq ?_
  refine XQ.miss rfl ?_
  refine XQ.seq ?_
  refine XQ.miss rfl ?_
  refine XQ.seq ?_
  refine XQ.miss rfl ?_
  refine XQ.seq ?_
  refine XQ.miss rfl ?_
  refine XQ.seq ?_
  refine XQ.miss rfl ?_
  refine XQ.seq ?_
  refine XQ.hit ?_
  -- STOP: end; todo top: ["N"]
  have e : ([] ++ [r.g0, r.g1, r.g2].flatMap be4 ++ [r.a0, r.a1, r.a2].flatMap be4 : List B8) = bodyR r := by unfold bodyR; simp [hk, beN_byte]
  rw [← e]
  exact NQ.post (res0 rfl) (.keep (.keep (Split.none _))) ⟨rfl, _, _, rfl⟩
theorem wput_2 (w : Nat) (r : Rdg) (hk : r.kind = 2) (hr : r.Ok) : Spc Try.prog 81 #[.pointer (some ⟨w, 0, none⟩), .agg r.cells.toArray] [] [wrt w none 0 0, own none 0 5 1 0 []] (WrR w (bodyR r)) := by
  refine Spc.enter Try.func81 rfl rfl rfl (fun w0 hw0 => ?_)
  refine CW.seq ?_
  refine CW.region (ef := [0]) (bk := []) ?_
  refine RL.box rfl rfl rfl rfl rfl rfl ?_
  intro b1
  refine RL.nil ?_
  refine NQ.seq ?_
  refine CW.seq ?_
  refine CW.region (ef := []) (bk := []) ?_
  refine RL.fieldAddr fa_33_0 rfl rfl rfl rfl ?_
  refine RL.load Try.isAgg3 rfl rfl rfl rfl (by first | assumption | (apply Rd.get; (solve | (repeat (first | exact List.Mem.head _ | apply List.Mem.tail))); assumption) | (apply Rd.getS; (solve | (repeat (first | exact List.Mem.head _ | apply List.Mem.tail))); assumption) | (apply Rd.getO; (solve | (repeat (first | exact List.Mem.head _ | apply List.Mem.tail))); assumption) | (apply Rd.getI; (solve | (repeat (first | exact List.Mem.head _ | apply List.Mem.tail))); assumption) | (apply Rd.cel; (solve | (repeat (first | exact List.Mem.head _ | apply List.Mem.tail))); exact rfl) | (apply Rd.celI; (solve | (repeat (first | exact List.Mem.head _ | apply List.Mem.tail))); exact rfl)) ?_
  refine RL.nil ?_
  refine NQ.seq ?_
  refine CW.block ?_
  refine CW.seq ?_
  refine CW.block ?_
  refine CW.seq ?_
  refine CW.block ?_
  refine CW.seq ?_
  refine CW.block ?_
  refine CW.seq ?_
  refine CW.block ?_
  refine CW.seq ?_
  refine CW.block ?_
  refine CW.seq ?_
  refine CW.block ?_
  refine CW.seq ?_
  refine CW.block ?_
  refine CW.seq ?_
  refine CW.block ?_
  refine CW.seq ?_
  refine CW.block ?_
  refine CW.seq ?_
  refine CW.block ?_
  refine CW.seq ?_
  refine CW.block ?_
  refine CW.seq ?_
  refine CW.block ?_
  refine CW.seq ?_
  refine CW.seq ?_
  refine CW.seq ?_
  refine CW.region (ef := []) (bk := []) ?_
  refine RL.bin rfl rfl rfl rfl rfl rfl ?_
  refine RL.assign rfl rfl rfl rfl ?_
  refine RL.nil ?_
  refine NQ.seq ?_
  -- STOP: if; todo top: ["code", ["cond", ["t", 6], ["exit", 1], ["skip"]]]
  refine CW.condF rfl ((by rw [hk]; rfl)) ?_
  refine CW.skip ?_
  refine NQ.seq ?_
  refine CW.seq ?_
  refine CW.seq ?_
  refine CW.region (ef := []) (bk := []) ?_
  refine RL.bin rfl rfl rfl rfl rfl rfl ?_
  refine RL.assign rfl rfl rfl rfl ?_
  refine RL.nil ?_
  refine NQ.seq ?_
  -- STOP: if; todo top: ["code", ["cond", ["t", 8], ["exit", 2], ["skip"]]]
  refine CW.condT rfl ((by rw [hk]; rfl)) ?_
  refine CW.exit ?_
  refine XQ.seq ?_
  refine XQ.seq ?_
  refine XQ.miss rfl ?_
  refine XQ.seq ?_
  refine XQ.hit ?_
  refine NQ.seq ?_
  refine CW.only (.cons (k := 0) rfl (.cons (k := 3) rfl .nil)) ?_
  refine CW.seq ?_
  refine CW.region (ef := [3, 4]) (bk := [4]) ?_
  refine RL.move rfl rfl rfl rfl ?_
  refine RL.fieldAddr fa_33_3 rfl rfl rfl rfl ?_
  refine RL.load Try.isAgg24 rfl rfl rfl rfl (by first | assumption | (apply Rd.get; (solve | (repeat (first | exact List.Mem.head _ | apply List.Mem.tail))); assumption) | (apply Rd.getS; (solve | (repeat (first | exact List.Mem.head _ | apply List.Mem.tail))); assumption) | (apply Rd.getO; (solve | (repeat (first | exact List.Mem.head _ | apply List.Mem.tail))); assumption) | (apply Rd.getI; (solve | (repeat (first | exact List.Mem.head _ | apply List.Mem.tail))); assumption) | (apply Rd.cel; (solve | (repeat (first | exact List.Mem.head _ | apply List.Mem.tail))); exact rfl) | (apply Rd.celI; (solve | (repeat (first | exact List.Mem.head _ | apply List.Mem.tail))); exact rfl)) ?_
  refine RL.buildSlice [_] Try.runUnderlying248 Try.sizeOf24 Try.zeroValue24 rfl rfl (by decide) (by decide) rfl rfl rfl rfl rfl rfl ?_
  intro b2
  -- STOP: op; op 4: d=42 ["call", ["f", 130], [["t", 38], ["t", 41]], [173, 248]] guard=None (kind.go:86)
  refine RL.call (wfix_any w none (some ⟨b2, 0, none⟩) 0 ([] : List B8).length 1 1 ([]) [r.height] rfl rfl (by decide) (by simp [beN_length, be4_length, be8'_length]) (by simp only [List.mem_cons, List.not_mem_nil, or_false]; rintro x (rfl) <;> first | exact wf_i64 hr.height)) Try.call130 rfl rfl rfl rfl rfl (by repeat (first | exact Pick.nil | apply Pick.take | apply Pick.leave)) (Lend.all (by repeat (first | exact List.Mem.head _ | apply List.Mem.tail)) rfl .nil) (.inr rfl) ?_
  -- STOP: called; todo top: ["code", ["region", 16, [{"d": 38, "op": ["move", ["t", 0]], "ty": 173, "pos": "kind.go:86", "after": [], "guard": null}, {"d": 39, "op": ["fieldAddr", 33, ["t", 3], 3], "ty": 0, "pos": "kind.go:86", 
  rintro _ _ _ ⟨rfl, ob1', cp1, rfl⟩
  refine RL.nil ?_
  refine NQ.seq ?_
  refine CW.exit ?_
  refine XQ.miss rfl ?_
  refine XQ.seq ?_
  refine XQ.miss rfl ?_
  refine XQ.seq ?_
  refine XQ.miss rfl ?_
  refine XQ.seq ?_
  refine XQ.miss rfl ?_
  refine XQ.seq ?_
  refine XQ.miss rfl ?_
  refine XQ.seq ?_
  refine XQ.miss rfl ?_
  refine XQ.seq ?_
  refine XQ.miss rfl ?_
  refine XQ.seq ?_
  refine XQ.miss rfl ?_
  refine XQ.seq ?_
  refine XQ.miss rfl ?_
  refine XQ.seq ?_
  refine XQ.miss rfl ?_
  refine XQ.seq ?_
  refine XQ.hit ?_
  -- STOP: end; todo top: ["N"]
  have e : ([] ++ [r.height].flatMap be8' : List B8) = bodyR r := by unfold bodyR; simp [hk, beN_byte]
  rw [← e]
  exact NQ.post (res0 rfl) (.keep (.keep (Split.none _))) ⟨rfl, _, _, rfl⟩
theorem wput_3 (w : Nat) (r : Rdg) (hk : r.kind = 3) (hr : r.Ok) : Spc Try.prog 81 #[.pointer (some ⟨w, 0, none⟩), .agg r.cells.toArray] [] [wrt w none 0 0, own none 0 5 1 0 []] (WrR w (bodyR r)) := by
  refine Spc.enter Try.func81 rfl rfl rfl (fun w0 hw0 => ?_)
  refine CW.seq ?_
  refine CW.region (ef := [0]) (bk := []) ?_
  refine RL.box rfl rfl rfl rfl rfl rfl ?_
  intro b1
  refine RL.nil ?_
  refine NQ.seq ?_
  refine CW.seq ?_
  refine CW.region (ef := []) (bk := []) ?_
  refine RL.fieldAddr fa_33_0 rfl rfl rfl rfl ?_
  refine RL.load Try.isAgg3 rfl rfl rfl rfl (by first | assumption | (apply Rd.get; (solve | (repeat (first | exact List.Mem.head _ | apply List.Mem.tail))); assumption) | (apply Rd.getS; (solve | (repeat (first | exact List.Mem.head _ | apply List.Mem.tail))); assumption) | (apply Rd.getO; (solve | (repeat (first | exact List.Mem.head _ | apply List.Mem.tail))); assumption) | (apply Rd.getI; (solve | (repeat (first | exact List.Mem.head _ | apply List.Mem.tail))); assumption) | (apply Rd.cel; (solve | (repeat (first | exact List.Mem.head _ | apply List.Mem.tail))); exact rfl) | (apply Rd.celI; (solve | (repeat (first | exact List.Mem.head _ | apply List.Mem.tail))); exact rfl)) ?_
  refine RL.nil ?_
  refine NQ.seq ?_
  refine CW.block ?_
  refine CW.seq ?_
  refine CW.block ?_
  refine CW.seq ?_
  refine CW.block ?_
  refine CW.seq ?_
  refine CW.block ?_
  refine CW.seq ?_
  refine CW.block ?_
  refine CW.seq ?_
  refine CW.block ?_
  refine CW.seq ?_
  refine CW.block ?_
  refine CW.seq ?_
  refine CW.block ?_
  refine CW.seq ?_
  refine CW.block ?_
  refine CW.seq ?_
  refine CW.block ?_
  refine CW.seq ?_
  refine CW.block ?_
  refine CW.seq ?_
  refine CW.block ?_
  refine CW.seq ?_
  refine CW.block ?_
  refine CW.seq ?_
  refine CW.seq ?_
  refine CW.seq ?_
  refine CW.region (ef := []) (bk := []) ?_
  refine RL.bin rfl rfl rfl rfl rfl rfl ?_
  refine RL.assign rfl rfl rfl rfl ?_
  refine RL.nil ?_
  refine NQ.seq ?_
  -- STOP: if; todo top: ["code", ["cond", ["t", 6], ["exit", 1], ["skip"]]]
  refine CW.condF rfl ((by rw [hk]; rfl)) ?_
  refine CW.skip ?_
  refine NQ.seq ?_
  refine CW.seq ?_
  refine CW.seq ?_
  refine CW.region (ef := []) (bk := []) ?_
  refine RL.bin rfl rfl rfl rfl rfl rfl ?_
  refine RL.assign rfl rfl rfl rfl ?_
  refine RL.nil ?_
  refine NQ.seq ?_
  -- STOP: if; todo top: ["code", ["cond", ["t", 8], ["exit", 2], ["skip"]]]
  refine CW.condF rfl ((by rw [hk]; rfl)) ?_
  refine CW.skip ?_
  refine NQ.seq ?_
  refine CW.only (.cons (k := 0) rfl (.cons (k := 3) rfl (.cons (k := 5) rfl .nil))) ?_
  refine CW.seq ?_
  refine CW.seq ?_
  refine CW.region (ef := []) (bk := []) ?_
  refine RL.bin rfl rfl rfl rfl rfl rfl ?_
  refine RL.assign rfl rfl rfl rfl ?_
  refine RL.nil ?_
  refine NQ.seq ?_
  -- STOP: if; todo top: ["code", ["cond", ["t", 10], ["exit", 3], ["skip"]]]
  refine CW.condT rfl ((by rw [hk]; rfl)) ?_
  refine CW.exit ?_
  refine XQ.seq ?_
  refine XQ.seq ?_
  refine XQ.miss rfl ?_
  refine XQ.seq ?_
  refine XQ.miss rfl ?_
  refine XQ.seq ?_
  refine XQ.hit ?_
  refine NQ.seq ?_
  refine CW.seq ?_
  refine CW.region (ef := [4]) (bk := [4]) ?_
  refine RL.move rfl rfl rfl rfl ?_
  refine RL.fieldAddr fa_33_4 rfl rfl rfl rfl ?_
  refine RL.load Try.isAgg25 rfl rfl rfl rfl (by first | assumption | (apply Rd.get; (solve | (repeat (first | exact List.Mem.head _ | apply List.Mem.tail))); assumption) | (apply Rd.getS; (solve | (repeat (first | exact List.Mem.head _ | apply List.Mem.tail))); assumption) | (apply Rd.getO; (solve | (repeat (first | exact List.Mem.head _ | apply List.Mem.tail))); assumption) | (apply Rd.getI; (solve | (repeat (first | exact List.Mem.head _ | apply List.Mem.tail))); assumption) | (apply Rd.cel; (solve | (repeat (first | exact List.Mem.head _ | apply List.Mem.tail))); exact rfl) | (apply Rd.celI; (solve | (repeat (first | exact List.Mem.head _ | apply List.Mem.tail))); exact rfl)) ?_
  refine RL.conv Try.runUnderlying25 Try.runUnderlying30 rfl rfl rfl rfl ?_
  -- STOP: op; op 4: d=47 ["call", ["f", 131], [["t", 43], ["t", 46], ["c", ["int", "Go.IntKind.i64", 4]]], [173, 30, 3]] guard=None (kind.go:88)
  rw [← w64_eq]
  refine RL.call (wnum_any w none 0 ([] : List B8).length 4 (w64 r.heading) ([]) rfl (by decide) (by simp [beN_length, be4_length, be8'_length]) (w64_lt _)) Try.call131 rfl rfl rfl rfl rfl (by repeat (first | exact Pick.nil | apply Pick.take | apply Pick.leave)) (by repeat (first | exact Lend.nil | (refine Lend.inI ?_ ?_; (solve | (repeat (first | exact List.Mem.head _ | apply List.Mem.tail)))) | (refine Lend.inH ?_ ?_; (solve | (repeat (first | exact List.Mem.head _ | apply List.Mem.tail)))))) (.inr rfl) ?_
  -- STOP: called; todo top: ["code", ["region", 17, [{"d": 43, "op": ["move", ["t", 0]], "ty": 173, "pos": "kind.go:88", "after": [], "guard": null}, {"d": 44, "op": ["fieldAddr", 33, ["t", 3], 4], "ty": 0, "pos": "kind.go:88", 
  rintro _ _ _ ⟨rfl, ob1', cp1, rfl⟩
  refine RL.nil ?_
  refine NQ.seq ?_
  refine CW.only (.cons (k := 0) rfl (.cons (k := 3) rfl .nil)) ?_
  refine CW.exit ?_
  refine XQ.miss rfl ?_
  refine XQ.seq ?_
  refine XQ.miss rfl ?_
  refine XQ.seq ?_
  refine XQ.miss rfl ?_
  refine XQ.seq ?_
  refine XQ.miss rfl ?_
  refine XQ.seq ?_
  refine XQ.miss rfl ?_
  refine XQ.seq ?_
  refine XQ.miss rfl ?_
  refine XQ.seq ?_
  refine XQ.miss rfl ?_
  refine XQ.seq ?_
  refine XQ.miss rfl ?_
  refine XQ.seq ?_
  refine XQ.miss rfl ?_
  refine XQ.seq ?_
  refine XQ.hit ?_
  -- STOP: end; todo top: ["N"]
  have e : ([] ++ beN 4 (w64 r.heading) : List B8) = bodyR r := by unfold bodyR; simp [hk, beN_byte]
  rw [← e]
  exact NQ.post (res0 rfl) (.keep (.keep (Split.none _))) ⟨rfl, _, _, rfl⟩
theorem wput_4 (w : Nat) (r : Rdg) (hk : r.kind = 4) (hr : r.Ok) : Spc Try.prog 81 #[.pointer (some ⟨w, 0, none⟩), .agg r.cells.toArray] [] [wrt w none 0 0, own none 0 5 1 0 []] (WrR w (bodyR r)) := by
  refine Spc.enter Try.func81 rfl rfl rfl (fun w0 hw0 => ?_)
  refine CW.seq ?_
  refine CW.region (ef := [0]) (bk := []) ?_
  refine RL.box rfl rfl rfl rfl rfl rfl ?_
  intro b1
  refine RL.nil ?_
  refine NQ.seq ?_
  refine CW.seq ?_
  refine CW.region (ef := []) (bk := []) ?_
  refine RL.fieldAddr fa_33_0 rfl rfl rfl rfl ?_
  refine RL.load Try.isAgg3 rfl rfl rfl rfl (by first | assumption | (apply Rd.get; (solve | (repeat (first | exact List.Mem.head _ | apply List.Mem.tail))); assumption) | (apply Rd.getS; (solve | (repeat (first | exact List.Mem.head _ | apply List.Mem.tail))); assumption) | (apply Rd.getO; (solve | (repeat (first | exact List.Mem.head _ | apply List.Mem.tail))); assumption) | (apply Rd.getI; (solve | (repeat (first | exact List.Mem.head _ | apply List.Mem.tail))); assumption) | (apply Rd.cel; (solve | (repeat (first | exact List.Mem.head _ | apply List.Mem.tail))); exact rfl) | (apply Rd.celI; (solve | (repeat (first | exact List.Mem.head _ | apply List.Mem.tail))); exact rfl)) ?_
  refine RL.nil ?_
  refine NQ.seq ?_
  refine CW.block ?_
  refine CW.seq ?_
  refine CW.block ?_
  refine CW.seq ?_
  refine CW.block ?_
  refine CW.seq ?_
  refine CW.block ?_
  refine CW.seq ?_
  refine CW.block ?_
  refine CW.seq ?_
  refine CW.block ?_
  refine CW.seq ?_
  refine CW.block ?_
  refine CW.seq ?_
  refine CW.block ?_
  refine CW.seq ?_
  refine CW.block ?_
  refine CW.seq ?_
  refine CW.block ?_
  refine CW.seq ?_
  refine CW.block ?_
  refine CW.seq ?_
  refine CW.block ?_
  refine CW.seq ?_
  refine CW.block ?_
  refine CW.seq ?_
  refine CW.seq ?_
  refine CW.seq ?_
  refine CW.region (ef := []) (bk := []) ?_
  refine RL.bin rfl rfl rfl rfl rfl rfl ?_
  refine RL.assign rfl rfl rfl rfl ?_
  refine RL.nil ?_
  refine NQ.seq ?_
  -- STOP: if; todo top: ["code", ["cond", ["t", 6], ["exit", 1], ["skip"]]]
  refine CW.condF rfl ((by rw [hk]; rfl)) ?_
  refine CW.skip ?_
  refine NQ.seq ?_
  refine CW.seq ?_
  refine CW.seq ?_
  refine CW.region (ef := []) (bk := []) ?_
  refine RL.bin rfl rfl rfl rfl rfl rfl ?_
  refine RL.assign rfl rfl rfl rfl ?_
  refine RL.nil ?_
  refine NQ.seq ?_
  -- STOP: if; todo top: ["code", ["cond", ["t", 8], ["exit", 2], ["skip"]]]
  refine CW.condF rfl ((by rw [hk]; rfl)) ?_
  refine CW.skip ?_
  refine NQ.seq ?_
  refine CW.only (.cons (k := 0) rfl (.cons (k := 3) rfl (.cons (k := 5) rfl .nil))) ?_
  refine CW.seq ?_
  refine CW.seq ?_
  refine CW.region (ef := []) (bk := []) ?_
  refine RL.bin rfl rfl rfl rfl rfl rfl ?_
  refine RL.assign rfl rfl rfl rfl ?_
  refine RL.nil ?_
  refine NQ.seq ?_
  -- STOP: if; todo top: ["code", ["cond", ["t", 10], ["exit", 3], ["skip"]]]
  refine CW.condF rfl ((by rw [hk]; rfl)) ?_
  refine CW.skip ?_
  refine NQ.seq ?_
  refine CW.seq ?_
  refine CW.seq ?_
  refine CW.region (ef := []) (bk := []) ?_
  refine RL.bin rfl rfl rfl rfl rfl rfl ?_
  refine RL.assign rfl rfl rfl rfl ?_
  refine RL.nil ?_
  refine NQ.seq ?_
  -- STOP: if; todo top: ["code", ["cond", ["t", 12], ["exit", 4], ["skip"]]]
  refine CW.condT rfl ((by rw [hk]; rfl)) ?_
  refine CW.exit ?_
  refine XQ.seq ?_
  refine XQ.seq ?_
  refine XQ.miss rfl ?_
  refine XQ.seq ?_
  refine XQ.miss rfl ?_
  refine XQ.seq ?_
  refine XQ.miss rfl ?_
  refine XQ.seq ?_
  refine XQ.hit ?_
  refine NQ.seq ?_
  refine CW.seq ?_
  refine CW.seq ?_
  refine CW.region (ef := [3, 4]) (bk := [4]) ?_
  refine RL.move rfl rfl rfl rfl ?_
  refine RL.fieldAddr fa_33_5 rfl rfl rfl rfl ?_
  refine RL.load Try.isAgg22 rfl rfl rfl rfl (by first | assumption | (apply Rd.get; (solve | (repeat (first | exact List.Mem.head _ | apply List.Mem.tail))); assumption) | (apply Rd.getS; (solve | (repeat (first | exact List.Mem.head _ | apply List.Mem.tail))); assumption) | (apply Rd.getO; (solve | (repeat (first | exact List.Mem.head _ | apply List.Mem.tail))); assumption) | (apply Rd.getI; (solve | (repeat (first | exact List.Mem.head _ | apply List.Mem.tail))); assumption) | (apply Rd.cel; (solve | (repeat (first | exact List.Mem.head _ | apply List.Mem.tail))); exact rfl) | (apply Rd.celI; (solve | (repeat (first | exact List.Mem.head _ | apply List.Mem.tail))); exact rfl)) ?_
  refine RL.buildSlice [_] Try.runUnderlying245 Try.sizeOf22 Try.zeroValue22 rfl rfl (by decide) (by decide) rfl rfl rfl rfl rfl rfl ?_
  intro b2
  -- STOP: op; op 4: d=52 ["call", ["f", 129], [["t", 48], ["t", 51]], [173, 245]] guard=None (kind.go:90)
  refine RL.call (wshort_any w none (some ⟨b2, 0, none⟩) 0 ([] : List B8).length 1 1 ([]) [r.speed] rfl rfl (by decide) (by simp [beN_length, be4_length, be8'_length]) (by simp only [List.mem_cons, List.not_mem_nil, or_false]; rintro x (rfl) <;> first | exact wf_i32 hr.speed)) Try.call129 rfl rfl rfl rfl rfl (by repeat (first | exact Pick.nil | apply Pick.take | apply Pick.leave)) (Lend.all (by repeat (first | exact List.Mem.head _ | apply List.Mem.tail)) rfl .nil) (.inr rfl) ?_
  -- STOP: called; todo top: ["code", ["region", 18, [{"d": 48, "op": ["move", ["t", 0]], "ty": 173, "pos": "kind.go:90", "after": [], "guard": null}, {"d": 49, "op": ["fieldAddr", 33, ["t", 3], 5], "ty": 0, "pos": "kind.go:90", 
  rintro _ _ _ ⟨rfl, ob1', cp1, rfl⟩
  refine RL.nil ?_
  refine NQ.seq ?_
  refine CW.only (.cons (k := 0) rfl (.cons (k := 3) rfl .nil)) ?_
  refine CW.region (ef := [4]) (bk := [4]) ?_
  refine RL.move rfl rfl rfl rfl ?_
  refine RL.fieldAddr fa_33_6 rfl rfl rfl rfl ?_
  refine RL.load Try.isAgg25 rfl rfl rfl rfl (by first | assumption | (apply Rd.get; (solve | (repeat (first | exact List.Mem.head _ | apply List.Mem.tail))); assumption) | (apply Rd.getS; (solve | (repeat (first | exact List.Mem.head _ | apply List.Mem.tail))); assumption) | (apply Rd.getO; (solve | (repeat (first | exact List.Mem.head _ | apply List.Mem.tail))); assumption) | (apply Rd.getI; (solve | (repeat (first | exact List.Mem.head _ | apply List.Mem.tail))); assumption) | (apply Rd.cel; (solve | (repeat (first | exact List.Mem.head _ | apply List.Mem.tail))); exact rfl) | (apply Rd.celI; (solve | (repeat (first | exact List.Mem.head _ | apply List.Mem.tail))); exact rfl)) ?_
  refine RL.conv Try.runUnderlying25 Try.runUnderlying30 rfl rfl rfl rfl ?_
  -- STOP: op; op 4: d=57 ["call", ["f", 131], [["t", 53], ["t", 56], ["c", ["int", "Go.IntKind.i64", 4]]], [173, 30, 3]] guard=None (kind.go:91)
  rw [← w64_eq]
  refine RL.call (wnum_any w ob1' cp1 ([] ++ [r.speed].flatMap be4 : List B8).length 4 (w64 r.steps) ([] ++ [r.speed].flatMap be4) rfl (by decide) (by simp [beN_length, be4_length, be8'_length]) (w64_lt _)) Try.call131 rfl rfl rfl rfl rfl (by repeat (first | exact Pick.nil | apply Pick.take | apply Pick.leave)) (by repeat (first | exact Lend.nil | (refine Lend.inI ?_ ?_; (solve | (repeat (first | exact List.Mem.head _ | apply List.Mem.tail)))) | (refine Lend.inH ?_ ?_; (solve | (repeat (first | exact List.Mem.head _ | apply List.Mem.tail)))))) (.inr rfl) ?_
  -- STOP: called; todo top: ["code", ["region", 19, [{"d": 53, "op": ["move", ["t", 0]], "ty": 173, "pos": "kind.go:91", "after": [], "guard": null}, {"d": 54, "op": ["fieldAddr", 33, ["t", 3], 6], "ty": 0, "pos": "kind.go:91", 
  rintro _ _ _ ⟨rfl, ob2', cp2, rfl⟩
  refine RL.nil ?_
  refine NQ.seq ?_
  refine CW.exit ?_
  refine XQ.miss rfl ?_
  refine XQ.seq ?_
  refine XQ.miss rfl ?_
  refine XQ.seq ?_
  refine XQ.miss rfl ?_
  refine XQ.seq ?_
  refine XQ.miss rfl ?_
  refine XQ.seq ?_
  refine XQ.miss rfl ?_
  refine XQ.seq ?_
  refine XQ.miss rfl ?_
  refine XQ.seq ?_
  refine XQ.miss rfl ?_
  refine XQ.seq ?_
  refine XQ.miss rfl ?_
  refine XQ.seq ?_
  refine XQ.hit ?_
  -- STOP: end; todo top: ["N"]
  have e : ([] ++ [r.speed].flatMap be4 ++ beN 4 (w64 r.steps) : List B8) = bodyR r := by unfold bodyR; simp [hk, beN_byte]
  rw [← e]
  exact NQ.post (res0 rfl) (.keep (.keep (Split.none _))) ⟨rfl, _, _, rfl⟩
theorem wput_5 (w : Nat) (r : Rdg) (hk : r.kind = 5) (hr : r.Ok) : Spc Try.prog 81 #[.pointer (some ⟨w, 0, none⟩), .agg r.cells.toArray] [] [wrt w none 0 0, own none 0 5 1 0 []] (WrR w (bodyR r)) := by
  refine Spc.enter Try.func81 rfl rfl rfl (fun w0 hw0 => ?_)
  refine CW.seq ?_
  refine CW.region (ef := [0]) (bk := []) ?_
  refine RL.box rfl rfl rfl rfl rfl rfl ?_
  intro b1
  refine RL.nil ?_
  refine NQ.seq ?_
  refine CW.seq ?_
  refine CW.region (ef := []) (bk := []) ?_
  refine RL.fieldAddr fa_33_0 rfl rfl rfl rfl ?_
  refine RL.load Try.isAgg3 rfl rfl rfl rfl (by first | assumption | (apply Rd.get; (solve | (repeat (first | exact List.Mem.head _ | apply List.Mem.tail))); assumption) | (apply Rd.getS; (solve | (repeat (first | exact List.Mem.head _ | apply List.Mem.tail))); assumption) | (apply Rd.getO; (solve | (repeat (first | exact List.Mem.head _ | apply List.Mem.tail))); assumption) | (apply Rd.getI; (solve | (repeat (first | exact List.Mem.head _ | apply List.Mem.tail))); assumption) | (apply Rd.cel; (solve | (repeat (first | exact List.Mem.head _ | apply List.Mem.tail))); exact rfl) | (apply Rd.celI; (solve | (repeat (first | exact List.Mem.head _ | apply List.Mem.tail))); exact rfl)) ?_
  refine RL.nil ?_
  refine NQ.seq ?_
  refine CW.block ?_
  refine CW.seq ?_
  refine CW.block ?_
  refine CW.seq ?_
  refine CW.block ?_
  refine CW.seq ?_
  refine CW.block ?_
  refine CW.seq ?_
  refine CW.block ?_
  refine CW.seq ?_
  refine CW.block ?_
  refine CW.seq ?_
  refine CW.block ?_
  refine CW.seq ?_
  refine CW.block ?_
  refine CW.seq ?_
  refine CW.block ?_
  refine CW.seq ?_
  refine CW.block ?_
  refine CW.seq ?_
  refine CW.block ?_
  refine CW.seq ?_
  refine CW.block ?_
  refine CW.seq ?_
  refine CW.block ?_
  refine CW.seq ?_
  refine CW.seq ?_
  refine CW.seq ?_
  refine CW.region (ef := []) (bk := []) ?_
  refine RL.bin rfl rfl rfl rfl rfl rfl ?_
  refine RL.assign rfl rfl rfl rfl ?_
  refine RL.nil ?_
  refine NQ.seq ?_
  -- STOP: if; todo top: ["code", ["cond", ["t", 6], ["exit", 1], ["skip"]]]
  refine CW.condF rfl ((by rw [hk]; rfl)) ?_
  refine CW.skip ?_
  refine NQ.seq ?_
  refine CW.seq ?_
  refine CW.seq ?_
  refine CW.region (ef := []) (bk := []) ?_
  refine RL.bin rfl rfl rfl rfl rfl rfl ?_
  refine RL.assign rfl rfl rfl rfl ?_
  refine RL.nil ?_
  refine NQ.seq ?_
  -- STOP: if; todo top: ["code", ["cond", ["t", 8], ["exit", 2], ["skip"]]]
  refine CW.condF rfl ((by rw [hk]; rfl)) ?_
  refine CW.skip ?_
  refine NQ.seq ?_
  refine CW.only (.cons (k := 0) rfl (.cons (k := 3) rfl (.cons (k := 5) rfl .nil))) ?_
  refine CW.seq ?_
  refine CW.seq ?_
  refine CW.region (ef := []) (bk := []) ?_
  refine RL.bin rfl rfl rfl rfl rfl rfl ?_
  refine RL.assign rfl rfl rfl rfl ?_
  refine RL.nil ?_
  refine NQ.seq ?_
  -- STOP: if; todo top: ["code", ["cond", ["t", 10], ["exit", 3], ["skip"]]]
  refine CW.condF rfl ((by rw [hk]; rfl)) ?_
  refine CW.skip ?_
  refine NQ.seq ?_
  refine CW.seq ?_
  refine CW.seq ?_
  refine CW.region (ef := []) (bk := []) ?_
  refine RL.bin rfl rfl rfl rfl rfl rfl ?_
  refine RL.assign rfl rfl rfl rfl ?_
  refine RL.nil ?_
  refine NQ.seq ?_
  -- STOP: if; todo top: ["code", ["cond", ["t", 12], ["exit", 4], ["skip"]]]
  refine CW.condF rfl ((by rw [hk]; rfl)) ?_
  refine CW.skip ?_
  refine NQ.seq ?_
  refine CW.seq ?_
  refine CW.seq ?_
  refine CW.region (ef := []) (bk := []) ?_
  refine RL.bin rfl rfl rfl rfl rfl rfl ?_
  refine RL.assign rfl rfl rfl rfl ?_
  refine RL.nil ?_
  refine NQ.seq ?_
  -- STOP: if; todo top: ["code", ["cond", ["t", 14], ["exit", 5], ["skip"]]]
  refine CW.condT rfl ((by rw [hk]; rfl)) ?_
  refine CW.exit ?_
  refine XQ.seq ?_
  refine XQ.seq ?_
  refine XQ.miss rfl ?_
  refine XQ.seq ?_
  refine XQ.miss rfl ?_
  refine XQ.seq ?_
  refine XQ.miss rfl ?_
  refine XQ.seq ?_
  refine XQ.miss rfl ?_
  refine XQ.seq ?_
  refine XQ.hit ?_
  refine NQ.seq ?_
  refine CW.only (.cons (k := 0) rfl (.cons (k := 3) rfl .nil)) ?_
  refine CW.seq ?_
  refine CW.seq ?_
  refine CW.region (ef := [4]) (bk := [4]) ?_
  refine RL.move rfl rfl rfl rfl ?_
  refine RL.fieldAddr fa_33_7 rfl rfl rfl rfl ?_
  refine RL.load Try.isAgg25 rfl rfl rfl rfl (by first | assumption | (apply Rd.get; (solve | (repeat (first | exact List.Mem.head _ | apply List.Mem.tail))); assumption) | (apply Rd.getS; (solve | (repeat (first | exact List.Mem.head _ | apply List.Mem.tail))); assumption) | (apply Rd.getO; (solve | (repeat (first | exact List.Mem.head _ | apply List.Mem.tail))); assumption) | (apply Rd.getI; (solve | (repeat (first | exact List.Mem.head _ | apply List.Mem.tail))); assumption) | (apply Rd.cel; (solve | (repeat (first | exact List.Mem.head _ | apply List.Mem.tail))); exact rfl) | (apply Rd.celI; (solve | (repeat (first | exact List.Mem.head _ | apply List.Mem.tail))); exact rfl)) ?_
  refine RL.conv Try.runUnderlying25 Try.runUnderlying30 rfl rfl rfl rfl ?_
  -- STOP: op; op 4: d=62 ["call", ["f", 131], [["t", 58], ["t", 61], ["c", ["int", "Go.IntKind.i64", 4]]], [173, 30, 3]] guard=None (kind.go:93)
  rw [← w64_eq]
  refine RL.call (wnum_any w none 0 ([] : List B8).length 4 (w64 r.interval) ([]) rfl (by decide) (by simp [beN_length, be4_length, be8'_length]) (w64_lt _)) Try.call131 rfl rfl rfl rfl rfl (by repeat (first | exact Pick.nil | apply Pick.take | apply Pick.leave)) (by repeat (first | exact Lend.nil | (refine Lend.inI ?_ ?_; (solve | (repeat (first | exact List.Mem.head _ | apply List.Mem.tail)))) | (refine Lend.inH ?_ ?_; (solve | (repeat (first | exact List.Mem.head _ | apply List.Mem.tail)))))) (.inr rfl) ?_
  -- STOP: called; todo top: ["code", ["region", 20, [{"d": 58, "op": ["move", ["t", 0]], "ty": 173, "pos": "kind.go:93", "after": [], "guard": null}, {"d": 59, "op": ["fieldAddr", 33, ["t", 3], 7], "ty": 0, "pos": "kind.go:93", 
  rintro _ _ _ ⟨rfl, ob1', cp1, rfl⟩
  refine RL.nil ?_
  refine NQ.seq ?_
  refine CW.seq ?_
  refine CW.region (ef := [4]) (bk := [4]) ?_
  refine RL.move rfl rfl rfl rfl ?_
  refine RL.fieldAddr fa_33_8 rfl rfl rfl rfl ?_
  refine RL.load Try.isAgg5 rfl rfl rfl rfl (by first | assumption | (apply Rd.get; (solve | (repeat (first | exact List.Mem.head _ | apply List.Mem.tail))); assumption) | (apply Rd.getS; (solve | (repeat (first | exact List.Mem.head _ | apply List.Mem.tail))); assumption) | (apply Rd.getO; (solve | (repeat (first | exact List.Mem.head _ | apply List.Mem.tail))); assumption) | (apply Rd.getI; (solve | (repeat (first | exact List.Mem.head _ | apply List.Mem.tail))); assumption) | (apply Rd.cel; (solve | (repeat (first | exact List.Mem.head _ | apply List.Mem.tail))); exact rfl) | (apply Rd.celI; (solve | (repeat (first | exact List.Mem.head _ | apply List.Mem.tail))); exact rfl)) ?_
  refine RL.conv Try.runUnderlying5 Try.runUnderlying30 rfl rfl rfl rfl ?_
  -- STOP: op; op 4: d=67 ["call", ["f", 131], [["t", 63], ["t", 66], ["c", ["int", "Go.IntKind.i64", 1]]], [173, 30, 3]] guard=None (kind.go:94)
  rw [← w64_eq]
  refine RL.call (wnum_any w ob1' cp1 ([] ++ beN 4 (w64 r.interval) : List B8).length 1 (w64 (r.seq.toNat : Int)) ([] ++ beN 4 (w64 r.interval)) rfl (by decide) (by simp [beN_length, be4_length, be8'_length]) (w64_lt _)) Try.call131 rfl rfl rfl rfl rfl (by repeat (first | exact Pick.nil | apply Pick.take | apply Pick.leave)) (by repeat (first | exact Lend.nil | (refine Lend.inI ?_ ?_; (solve | (repeat (first | exact List.Mem.head _ | apply List.Mem.tail)))) | (refine Lend.inH ?_ ?_; (solve | (repeat (first | exact List.Mem.head _ | apply List.Mem.tail)))))) (.inr rfl) ?_
  -- STOP: called; todo top: ["code", ["region", 21, [{"d": 63, "op": ["move", ["t", 0]], "ty": 173, "pos": "kind.go:94", "after": [], "guard": null}, {"d": 64, "op": ["fieldAddr", 33, ["t", 3], 8], "ty": 0, "pos": "kind.go:94", 
  rintro _ _ _ ⟨rfl, ob2', cp2, rfl⟩
  refine RL.nil ?_
  refine NQ.seq ?_
  refine CW.only (.cons (k := 0) rfl (.cons (k := 3) rfl .nil)) ?_
  refine CW.region (ef := [3]) (bk := [3]) ?_
  refine RL.move rfl rfl rfl rfl ?_
  refine RL.fieldAddr fa_33_9 rfl rfl rfl rfl ?_
  refine RL.sliceAll Try.runUnderlying27 Try.sizeOf24 (by decide) rfl rfl rfl rfl ?_
  -- STOP: op; op 3: d=71 ["call", ["f", 130], [["t", 68], ["t", 70]], [173, 248]] guard=None (kind.go:95)
  refine RL.call (wfix_any w ob2' (some ⟨b1, 0 + 13, none⟩) cp2 ([] ++ beN 4 (w64 r.interval) ++ beN 1 (w64 (r.seq.toNat : Int)) : List B8).length 3 3 ([] ++ beN 4 (w64 r.interval) ++ beN 1 (w64 (r.seq.toNat : Int))) [r.p0, r.p1, r.p2] rfl rfl (by decide) (by simp [beN_length, be4_length, be8'_length]) (by simp only [List.mem_cons, List.not_mem_nil, or_false]; rintro x (rfl | rfl | rfl) <;> first | exact wf_i64 hr.p0 | exact wf_i64 hr.p1 | exact wf_i64 hr.p2)) Try.call130 rfl rfl rfl rfl rfl (by repeat (first | exact Pick.nil | apply Pick.take | apply Pick.leave)) (Lend.cel (off := 0 + 13) (cs := r.cells) (by repeat (first | exact List.Mem.head _ | apply List.Mem.tail)) rfl (pre3 rfl rfl rfl) .nil) (.inr rfl) ?_
  -- STOP: called; todo top: ["code", ["region", 22, [{"d": 68, "op": ["move", ["t", 0]], "ty": 173, "pos": "kind.go:95", "after": [], "guard": null}, {"d": 69, "op": ["fieldAddr", 33, ["t", 3], 9], "ty": 0, "pos": "kind.go:95", 
  rintro _ _ _ ⟨rfl, ob3', cp3, rfl⟩
  refine RL.nil ?_
  refine NQ.seq ?_
  refine CW.exit ?_
  refine XQ.miss rfl ?_
  refine XQ.seq ?_
  refine XQ.miss rfl ?_
  refine XQ.seq ?_
  refine XQ.miss rfl ?_
  refine XQ.seq ?_
  refine XQ.miss rfl ?_
  refine XQ.seq ?_
  refine XQ.miss rfl ?_
  refine XQ.seq ?_
  refine XQ.miss rfl ?_
  refine XQ.seq ?_
  refine XQ.miss rfl ?_
  refine XQ.seq ?_
  refine XQ.hit ?_
  -- STOP: end; todo top: ["N"]
  have e : ([] ++ beN 4 (w64 r.interval) ++ beN 1 (w64 (r.seq.toNat : Int)) ++ [r.p0, r.p1, r.p2].flatMap be8' : List B8) = bodyR r := by unfold bodyR; simp [hk, beN_byte]
  rw [← e]
  exact NQ.post (res0 rfl) (.keep (.keep (Split.none _))) ⟨rfl, _, _, rfl⟩
theorem wput_6 (w : Nat) (r : Rdg) (hk : r.kind = 6) (hr : r.Ok) : Spc Try.prog 81 #[.pointer (some ⟨w, 0, none⟩), .agg r.cells.toArray] [] [wrt w none 0 0, own none 0 5 1 0 []] (WrR w (bodyR r)) := by
  refine Spc.enter Try.func81 rfl rfl rfl (fun w0 hw0 => ?_)
  refine CW.seq ?_
  refine CW.region (ef := [0]) (bk := []) ?_
  refine RL.box rfl rfl rfl rfl rfl rfl ?_
  intro b1
  refine RL.nil ?_
  refine NQ.seq ?_
  refine CW.seq ?_
  refine CW.region (ef := []) (bk := []) ?_
  refine RL.fieldAddr fa_33_0 rfl rfl rfl rfl ?_
  refine RL.load Try.isAgg3 rfl rfl rfl rfl (by first | assumption | (apply Rd.get; (solve | (repeat (first | exact List.Mem.head _ | apply List.Mem.tail))); assumption) | (apply Rd.getS; (solve | (repeat (first | exact List.Mem.head _ | apply List.Mem.tail))); assumption) | (apply Rd.getO; (solve | (repeat (first | exact List.Mem.head _ | apply List.Mem.tail))); assumption) | (apply Rd.getI; (solve | (repeat (first | exact List.Mem.head _ | apply List.Mem.tail))); assumption) | (apply Rd.cel; (solve | (repeat (first | exact List.Mem.head _ | apply List.Mem.tail))); exact rfl) | (apply Rd.celI; (solve | (repeat (first | exact List.Mem.head _ | apply List.Mem.tail))); exact rfl)) ?_
  refine RL.nil ?_
  refine NQ.seq ?_
  refine CW.block ?_
  refine CW.seq ?_
  refine CW.block ?_
  refine CW.seq ?_
  refine CW.block ?_
  refine CW.seq ?_
  refine CW.block ?_
  refine CW.seq ?_
  refine CW.block ?_
  refine CW.seq ?_
  refine CW.block ?_
  refine CW.seq ?_
  refine CW.block ?_
  refine CW.seq ?_
  refine CW.block ?_
  refine CW.seq ?_
  refine CW.block ?_
  refine CW.seq ?_
  refine CW.block ?_
  refine CW.seq ?_
  refine CW.block ?_
  refine CW.seq ?_
  refine CW.block ?_
  refine CW.seq ?_
  refine CW.block ?_
  refine CW.seq ?_
  refine CW.seq ?_
  refine CW.seq ?_
  refine CW.region (ef := []) (bk := []) ?_
  refine RL.bin rfl rfl rfl rfl rfl rfl ?_
  refine RL.assign rfl rfl rfl rfl ?_
  refine RL.nil ?_
  refine NQ.seq ?_
  -- STOP: if; todo top: ["code", ["cond", ["t", 6], ["exit", 1], ["skip"]]]
  refine CW.condF rfl ((by rw [hk]; rfl)) ?_
  refine CW.skip ?_
  refine NQ.seq ?_
  refine CW.seq ?_
  refine CW.seq ?_
  refine CW.region (ef := []) (bk := []) ?_
  refine RL.bin rfl rfl rfl rfl rfl rfl ?_
  refine RL.assign rfl rfl rfl rfl ?_
  refine RL.nil ?_
  refine NQ.seq ?_
  -- STOP: if; todo top: ["code", ["cond", ["t", 8], ["exit", 2], ["skip"]]]
  refine CW.condF rfl ((by rw [hk]; rfl)) ?_
  refine CW.skip ?_
  refine NQ.seq ?_
  refine CW.only (.cons (k := 0) rfl (.cons (k := 3) rfl (.cons (k := 5) rfl .nil))) ?_
  refine CW.seq ?_
  refine CW.seq ?_
  refine CW.region (ef := []) (bk := []) ?_
  refine RL.bin rfl rfl rfl rfl rfl rfl ?_
  refine RL.assign rfl rfl rfl rfl ?_
  refine RL.nil ?_
  refine NQ.seq ?_
  -- STOP: if; todo top: ["code", ["cond", ["t", 10], ["exit", 3], ["skip"]]]
  refine CW.condF rfl ((by rw [hk]; rfl)) ?_
  refine CW.skip ?_
  refine NQ.seq ?_
  refine CW.seq ?_
  refine CW.seq ?_
  refine CW.region (ef := []) (bk := []) ?_
  refine RL.bin rfl rfl rfl rfl rfl rfl ?_
  refine RL.assign rfl rfl rfl rfl ?_
  refine RL.nil ?_
  refine NQ.seq ?_
  -- STOP: if; todo top: ["code", ["cond", ["t", 12], ["exit", 4], ["skip"]]]
  refine CW.condF rfl ((by rw [hk]; rfl)) ?_
  refine CW.skip ?_
  refine NQ.seq ?_
  refine CW.seq ?_
  refine CW.seq ?_
  refine CW.region (ef := []) (bk := []) ?_
  refine RL.bin rfl rfl rfl rfl rfl rfl ?_
  refine RL.assign rfl rfl rfl rfl ?_
  refine RL.nil ?_
  refine NQ.seq ?_
  -- STOP: if; todo top: ["code", ["cond", ["t", 14], ["exit", 5], ["skip"]]]
  refine CW.condF rfl ((by rw [hk]; rfl)) ?_
  refine CW.skip ?_
  refine NQ.seq ?_
  refine CW.only (.cons (k := 0) rfl (.cons (k := 3) rfl (.cons (k := 5) rfl .nil))) ?_
  refine CW.seq ?_
  refine CW.seq ?_
  refine CW.region (ef := []) (bk := []) ?_
  refine RL.bin rfl rfl rfl rfl rfl rfl ?_
  refine RL.assign rfl rfl rfl rfl ?_
  refine RL.nil ?_
  refine NQ.seq ?_
  -- STOP: if; todo top: ["code", ["cond", ["t", 16], ["exit", 6], ["skip"]]]
  refine CW.condT rfl ((by rw [hk]; rfl)) ?_
  refine CW.exit ?_
  refine XQ.seq ?_
  refine XQ.seq ?_
  refine XQ.miss rfl ?_
  refine XQ.seq ?_
  refine XQ.miss rfl ?_
  refine XQ.seq ?_
  refine XQ.miss rfl ?_
  refine XQ.seq ?_
  refine XQ.miss rfl ?_
  refine XQ.seq ?_
  refine XQ.miss rfl ?_
  refine XQ.seq ?_
  refine XQ.hit ?_
  refine NQ.seq ?_
  refine CW.seq ?_
  refine CW.seq ?_
  refine CW.region (ef := [4]) (bk := [4]) ?_
  refine RL.move rfl rfl rfl rfl ?_
  refine RL.fieldAddr fa_33_7 rfl rfl rfl rfl ?_
  refine RL.load Try.isAgg25 rfl rfl rfl rfl (by first | assumption | (apply Rd.get; (solve | (repeat (first | exact List.Mem.head _ | apply List.Mem.tail))); assumption) | (apply Rd.getS; (solve | (repeat (first | exact List.Mem.head _ | apply List.Mem.tail))); assumption) | (apply Rd.getO; (solve | (repeat (first | exact List.Mem.head _ | apply List.Mem.tail))); assumption) | (apply Rd.getI; (solve | (repeat (first | exact List.Mem.head _ | apply List.Mem.tail))); assumption) | (apply Rd.cel; (solve | (repeat (first | exact List.Mem.head _ | apply List.Mem.tail))); exact rfl) | (apply Rd.celI; (solve | (repeat (first | exact List.Mem.head _ | apply List.Mem.tail))); exact rfl)) ?_
  refine RL.conv Try.runUnderlying25 Try.runUnderlying30 rfl rfl rfl rfl ?_
  -- STOP: op; op 4: d=76 ["call", ["f", 131], [["t", 72], ["t", 75], ["c", ["int", "Go.IntKind.i64", 4]]], [173, 30, 3]] guard=None (kind.go:97)
  rw [← w64_eq]
  refine RL.call (wnum_any w none 0 ([] : List B8).length 4 (w64 r.interval) ([]) rfl (by decide) (by simp [beN_length, be4_length, be8'_length]) (w64_lt _)) Try.call131 rfl rfl rfl rfl rfl (by repeat (first | exact Pick.nil | apply Pick.take | apply Pick.leave)) (by repeat (first | exact Lend.nil | (refine Lend.inI ?_ ?_; (solve | (repeat (first | exact List.Mem.head _ | apply List.Mem.tail)))) | (refine Lend.inH ?_ ?_; (solve | (repeat (first | exact List.Mem.head _ | apply List.Mem.tail)))))) (.inr rfl) ?_
  -- STOP: called; todo top: ["code", ["region", 23, [{"d": 72, "op": ["move", ["t", 0]], "ty": 173, "pos": "kind.go:97", "after": [], "guard": null}, {"d": 73, "op": ["fieldAddr", 33, ["t", 3], 7], "ty": 0, "pos": "kind.go:97", 
  rintro _ _ _ ⟨rfl, ob1', cp1, rfl⟩
  refine RL.nil ?_
  refine NQ.seq ?_
  refine CW.only (.cons (k := 0) rfl (.cons (k := 3) rfl .nil)) ?_
  refine CW.regionD (Sq.of [0, 1, 2, 3, 4, 5, 6, 7, 8, 9, 10]) [7, 10] [7, 10] [0, 1, 2, 3, 5, 6, 8, 9] mixed (by kernel_rfl) ?_
  refine RL.move rfl rfl rfl rfl ?_
  refine RL.move rfl rfl rfl rfl ?_
  refine RL.nilCheck rfl rfl rfl rfl ?_
  refine RL.fieldAddr fa_175_0 rfl rfl rfl rfl ?_
  refine RL.load Try.isAgg34 rfl rfl rfl rfl (by first | assumption | (apply Rd.get; (solve | (repeat (first | exact List.Mem.head _ | apply List.Mem.tail))); assumption) | (apply Rd.getS; (solve | (repeat (first | exact List.Mem.head _ | apply List.Mem.tail))); assumption) | (apply Rd.getO; (solve | (repeat (first | exact List.Mem.head _ | apply List.Mem.tail))); assumption) | (apply Rd.getI; (solve | (repeat (first | exact List.Mem.head _ | apply List.Mem.tail))); assumption) | (apply Rd.cel; (solve | (repeat (first | exact List.Mem.head _ | apply List.Mem.tail))); exact rfl) | (apply Rd.celI; (solve | (repeat (first | exact List.Mem.head _ | apply List.Mem.tail))); exact rfl)) ?_
  refine RL.fieldAddr fa_33_10 rfl rfl rfl rfl ?_
  refine RL.sliceAll Try.runUnderlying29 Try.sizeOf5 (by decide) rfl rfl rfl rfl ?_
  -- STOP: op; op 7: d=84 ["builtin", "Go.Builtin.append", [["t", 81], ["t", 83]], [34, 34]] guard=None (kind.go:98)
  refine RL.appendA (news := keyV r.key) el_34 rfl rfl rfl rfl rfl rfl rfl ⟨.leave (.take (Pick.none _)), rfl⟩ (Src.celAt (off := 0 + 16) (cs := r.cells) (by repeat (first | exact List.Mem.head _ | apply List.Mem.tail)) (Nat.le_of_ble_eq_true rfl)) (ones_spec rfl) (by simp [maxLen, beN_length]) (by simp [beN_length]) ?_
  intro obK cpK hoK
  refine RL.nilCheck rfl rfl rfl rfl ?_
  refine RL.fieldAddr fa_175_0 rfl rfl rfl rfl ?_
  refine RL.store (vs := [_]) Try.sizeOf34 rfl rfl rfl rfl rfl rfl rfl rfl rfl (by repeat (first | exact Upd.here | apply Upd.there)) ?_
  refine RL.nil ?_
  refine NQ.seq ?_
  refine CW.only (.cons (k := 0) rfl (.cons (k := 3) rfl .nil)) ?_
  refine CW.exit ?_
  refine XQ.miss rfl ?_
  refine XQ.seq ?_
  refine XQ.miss rfl ?_
  refine XQ.seq ?_
  refine XQ.miss rfl ?_
  refine XQ.seq ?_
  refine XQ.miss rfl ?_
  refine XQ.seq ?_
  refine XQ.miss rfl ?_
  refine XQ.seq ?_
  refine XQ.miss rfl ?_
  refine XQ.seq ?_
  refine XQ.hit ?_
  -- STOP: end; todo top: ["N"]
  have e : ([] ++ beN 4 (w64 r.interval) ++ keyL r.key : List B8) = bodyR r := by unfold bodyR; simp [hk]
  have hl : ([] ++ beN 4 (w64 r.interval) : List B8).length + 32 = (bodyR r).length := by rw [← e, List.length_append (bs := keyL r.key)]; rfl
  rw [own_is (ob := obK) (n' := (bodyR r).length) (xs' := bytes (bodyR r)) hl (by rw [← e]; show _ = List.map U8 _; rw [List.map_append]; rfl), hl]
  refine NQ.rea (I' := []) (H' := [wrt w obK (bodyR r).length cpK, own obK cpK 5 1 (bodyR r).length (bytes (bodyR r))]) (fun _ h => h) (by repeat (first | exact Rea.nil | (apply Rea.cons; (solve | (repeat (first | exact Del.here | apply Del.there)))))) ?_
  exact NQ.post (res0 rfl) (.keep (.keep .nil)) ⟨rfl, _, _, rfl⟩
theorem wput_7 (w : Nat) (r : Rdg) (hk : r.kind = 7) (hr : r.Ok) : Spc Try.prog 81 #[.pointer (some ⟨w, 0, none⟩), .agg r.cells.toArray] [] [wrt w none 0 0, own none 0 5 1 0 []] (WrR w (bodyR r)) := by
  refine Spc.enter Try.func81 rfl rfl rfl (fun w0 hw0 => ?_)
  refine CW.seq ?_
  refine CW.region (ef := [0]) (bk := []) ?_
  refine RL.box rfl rfl rfl rfl rfl rfl ?_
  intro b1
  refine RL.nil ?_
  refine NQ.seq ?_
  refine CW.seq ?_
  refine CW.region (ef := []) (bk := []) ?_
  refine RL.fieldAddr fa_33_0 rfl rfl rfl rfl ?_
  refine RL.load Try.isAgg3 rfl rfl rfl rfl (by first | assumption | (apply Rd.get; (solve | (repeat (first | exact List.Mem.head _ | apply List.Mem.tail))); assumption) | (apply Rd.getS; (solve | (repeat (first | exact List.Mem.head _ | apply List.Mem.tail))); assumption) | (apply Rd.getO; (solve | (repeat (first | exact List.Mem.head _ | apply List.Mem.tail))); assumption) | (apply Rd.getI; (solve | (repeat (first | exact List.Mem.head _ | apply List.Mem.tail))); assumption) | (apply Rd.cel; (solve | (repeat (first | exact List.Mem.head _ | apply List.Mem.tail))); exact rfl) | (apply Rd.celI; (solve | (repeat (first | exact List.Mem.head _ | apply List.Mem.tail))); exact rfl)) ?_
  refine RL.nil ?_
  refine NQ.seq ?_
  refine CW.block ?_
  refine CW.seq ?_
  refine CW.block ?_
  refine CW.seq ?_
  refine CW.block ?_
  refine CW.seq ?_
  refine CW.block ?_
  refine CW.seq ?_
  refine CW.block ?_
  refine CW.seq ?_
  refine CW.block ?_
  refine CW.seq ?_
  refine CW.block ?_
  refine CW.seq ?_
  refine CW.block ?_
  refine CW.seq ?_
  refine CW.block ?_
  refine CW.seq ?_
  refine CW.block ?_
  refine CW.seq ?_
  refine CW.block ?_
  refine CW.seq ?_
  refine CW.block ?_
  refine CW.seq ?_
  refine CW.block ?_
  refine CW.seq ?_
  refine CW.seq ?_
  refine CW.seq ?_
  refine CW.region (ef := []) (bk := []) ?_
  refine RL.bin rfl rfl rfl rfl rfl rfl ?_
  refine RL.assign rfl rfl rfl rfl ?_
  refine RL.nil ?_
  refine NQ.seq ?_
  -- STOP: if; todo top: ["code", ["cond", ["t", 6], ["exit", 1], ["skip"]]]
  refine CW.condF rfl ((by rw [hk]; rfl)) ?_
  refine CW.skip ?_
  refine NQ.seq ?_
  refine CW.seq ?_
  refine CW.seq ?_
  refine CW.region (ef := []) (bk := []) ?_
  refine RL.bin rfl rfl rfl rfl rfl rfl ?_
  refine RL.assign rfl rfl rfl rfl ?_
  refine RL.nil ?_
  refine NQ.seq ?_
  -- STOP: if; todo top: ["code", ["cond", ["t", 8], ["exit", 2], ["skip"]]]
  refine CW.condF rfl ((by rw [hk]; rfl)) ?_
  refine CW.skip ?_
  refine NQ.seq ?_
  refine CW.only (.cons (k := 0) rfl (.cons (k := 3) rfl (.cons (k := 5) rfl .nil))) ?_
  refine CW.seq ?_
  refine CW.seq ?_
  refine CW.region (ef := []) (bk := []) ?_
  refine RL.bin rfl rfl rfl rfl rfl rfl ?_
  refine RL.assign rfl rfl rfl rfl ?_
  refine RL.nil ?_
  refine NQ.seq ?_
  -- STOP: if; todo top: ["code", ["cond", ["t", 10], ["exit", 3], ["skip"]]]
  refine CW.condF rfl ((by rw [hk]; rfl)) ?_
  refine CW.skip ?_
  refine NQ.seq ?_
  refine CW.seq ?_
  refine CW.seq ?_
  refine CW.region (ef := []) (bk := []) ?_
  refine RL.bin rfl rfl rfl rfl rfl rfl ?_
  refine RL.assign rfl rfl rfl rfl ?_
  refine RL.nil ?_
  refine NQ.seq ?_
  -- STOP: if; todo top: ["code", ["cond", ["t", 12], ["exit", 4], ["skip"]]]
  refine CW.condF rfl ((by rw [hk]; rfl)) ?_
  refine CW.skip ?_
  refine NQ.seq ?_
  refine CW.seq ?_
  refine CW.seq ?_
  refine CW.region (ef := []) (bk := []) ?_
  refine RL.bin rfl rfl rfl rfl rfl rfl ?_
  refine RL.assign rfl rfl rfl rfl ?_
  refine RL.nil ?_
  refine NQ.seq ?_
  -- STOP: if; todo top: ["code", ["cond", ["t", 14], ["exit", 5], ["skip"]]]
  refine CW.condF rfl ((by rw [hk]; rfl)) ?_
  refine CW.skip ?_
  refine NQ.seq ?_
  refine CW.only (.cons (k := 0) rfl (.cons (k := 3) rfl (.cons (k := 5) rfl .nil))) ?_
  refine CW.seq ?_
  refine CW.seq ?_
  refine CW.region (ef := []) (bk := []) ?_
  refine RL.bin rfl rfl rfl rfl rfl rfl ?_
  refine RL.assign rfl rfl rfl rfl ?_
  refine RL.nil ?_
  refine NQ.seq ?_
  -- STOP: if; todo top: ["code", ["cond", ["t", 16], ["exit", 6], ["skip"]]]
  refine CW.condF rfl ((by rw [hk]; rfl)) ?_
  refine CW.skip ?_
  refine NQ.seq ?_
  refine CW.seq ?_
  refine CW.seq ?_
  refine CW.region (ef := []) (bk := []) ?_
  refine RL.bin rfl rfl rfl rfl rfl rfl ?_
  refine RL.assign rfl rfl rfl rfl ?_
  refine RL.nil ?_
  refine NQ.seq ?_
  -- STOP: if; todo top: ["code", ["cond", ["t", 18], ["exit", 7], ["skip"]]]
  refine CW.condT rfl ((by rw [hk]; rfl)) ?_
  refine CW.exit ?_
  refine XQ.seq ?_
  refine XQ.seq ?_
  refine XQ.miss rfl ?_
  refine XQ.seq ?_
  refine XQ.miss rfl ?_
  refine XQ.seq ?_
  refine XQ.miss rfl ?_
  refine XQ.seq ?_
  refine XQ.miss rfl ?_
  refine XQ.seq ?_
  refine XQ.miss rfl ?_
  refine XQ.seq ?_
  refine XQ.miss rfl ?_
  refine XQ.seq ?_
  refine XQ.hit ?_
  refine NQ.seq ?_
  refine CW.seq ?_
  refine CW.region (ef := [3]) (bk := [3]) ?_
  refine RL.move rfl rfl rfl rfl ?_
  refine RL.fieldAddr fa_33_11 rfl rfl rfl rfl ?_
  refine RL.load Try.isAgg30 rfl rfl rfl rfl (by first | assumption | (apply Rd.get; (solve | (repeat (first | exact List.Mem.head _ | apply List.Mem.tail))); assumption) | (apply Rd.getS; (solve | (repeat (first | exact List.Mem.head _ | apply List.Mem.tail))); assumption) | (apply Rd.getO; (solve | (repeat (first | exact List.Mem.head _ | apply List.Mem.tail))); assumption) | (apply Rd.getI; (solve | (repeat (first | exact List.Mem.head _ | apply List.Mem.tail))); assumption) | (apply Rd.cel; (solve | (repeat (first | exact List.Mem.head _ | apply List.Mem.tail))); exact rfl) | (apply Rd.celI; (solve | (repeat (first | exact List.Mem.head _ | apply List.Mem.tail))); exact rfl)) ?_
  -- STOP: op; op 3: d=90 ["call", ["f", 131], [["t", 87], ["t", 89], ["c", ["int", "Go.IntKind.i64", 8]]], [173, 30, 3]] guard=None (kind.go:100)
  rw [show (Value.int .u64 r.tick) = .int .u64 ((r.tick.toNat : Nat) : Int) from congrArg _ (wf_u64 hr.tick).1]
  refine RL.call (wnum_any w none 0 ([] : List B8).length 8 r.tick.toNat ([]) rfl (by decide) (by simp [beN_length, be4_length, be8'_length]) (wf_u64 hr.tick).2) Try.call131 rfl rfl rfl rfl rfl (by repeat (first | exact Pick.nil | apply Pick.take | apply Pick.leave)) (by repeat (first | exact Lend.nil | (refine Lend.inI ?_ ?_; (solve | (repeat (first | exact List.Mem.head _ | apply List.Mem.tail)))) | (refine Lend.inH ?_ ?_; (solve | (repeat (first | exact List.Mem.head _ | apply List.Mem.tail)))))) (.inr rfl) ?_
  -- STOP: called; todo top: ["code", ["region", 25, [{"d": 87, "op": ["move", ["t", 0]], "ty": 173, "pos": "kind.go:100", "after": [], "guard": null}, {"d": 88, "op": ["fieldAddr", 33, ["t", 3], 11], "ty": 0, "pos": "kind.go:100
  rintro _ _ _ ⟨rfl, ob1', cp1, rfl⟩
  refine RL.nil ?_
  refine NQ.seq ?_
  refine CW.only (.cons (k := 0) rfl (.cons (k := 3) rfl .nil)) ?_
  refine CW.exit ?_
  refine XQ.miss rfl ?_
  refine XQ.seq ?_
  refine XQ.miss rfl ?_
  refine XQ.seq ?_
  refine XQ.miss rfl ?_
  refine XQ.seq ?_
  refine XQ.miss rfl ?_
  refine XQ.seq ?_
  refine XQ.miss rfl ?_
  refine XQ.seq ?_
  refine XQ.hit ?_
  -- STOP: end; todo top: ["N"]
  have e : ([] ++ beN 8 r.tick.toNat : List B8) = bodyR r := by unfold bodyR; simp [hk, beN_byte]
  rw [← e]
  exact NQ.post (res0 rfl) (.keep (.keep (Split.none _))) ⟨rfl, _, _, rfl⟩
theorem wput_8 (w : Nat) (r : Rdg) (hk : r.kind = 8) (hr : r.Ok) : Spc Try.prog 81 #[.pointer (some ⟨w, 0, none⟩), .agg r.cells.toArray] [] [wrt w none 0 0, own none 0 5 1 0 []] (WrR w (bodyR r)) := by
  refine Spc.enter Try.func81 rfl rfl rfl (fun w0 hw0 => ?_)
  refine CW.seq ?_
  refine CW.region (ef := [0]) (bk := []) ?_
  refine RL.box rfl rfl rfl rfl rfl rfl ?_
  intro b1
  refine RL.nil ?_
  refine NQ.seq ?_
  refine CW.seq ?_
  refine CW.region (ef := []) (bk := []) ?_
  refine RL.fieldAddr fa_33_0 rfl rfl rfl rfl ?_
  refine RL.load Try.isAgg3 rfl rfl rfl rfl (by first | assumption | (apply Rd.get; (solve | (repeat (first | exact List.Mem.head _ | apply List.Mem.tail))); assumption) | (apply Rd.getS; (solve | (repeat (first | exact List.Mem.head _ | apply List.Mem.tail))); assumption) | (apply Rd.getO; (solve | (repeat (first | exact List.Mem.head _ | apply List.Mem.tail))); assumption) | (apply Rd.getI; (solve | (repeat (first | exact List.Mem.head _ | apply List.Mem.tail))); assumption) | (apply Rd.cel; (solve | (repeat (first | exact List.Mem.head _ | apply List.Mem.tail))); exact rfl) | (apply Rd.celI; (solve | (repeat (first | exact List.Mem.head _ | apply List.Mem.tail))); exact rfl)) ?_
  refine RL.nil ?_
  refine NQ.seq ?_
  refine CW.block ?_
  refine CW.seq ?_
  refine CW.block ?_
  refine CW.seq ?_
  refine CW.block ?_
  refine CW.seq ?_
  refine CW.block ?_
  refine CW.seq ?_
  refine CW.block ?_
  refine CW.seq ?_
  refine CW.block ?_
  refine CW.seq ?_
  refine CW.block ?_
  refine CW.seq ?_
  refine CW.block ?_
  refine CW.seq ?_
  refine CW.block ?_
  refine CW.seq ?_
  refine CW.block ?_
  refine CW.seq ?_
  refine CW.block ?_
  refine CW.seq ?_
  refine CW.block ?_
  refine CW.seq ?_
  refine CW.block ?_
  refine CW.seq ?_
  refine CW.seq ?_
  refine CW.seq ?_
  refine CW.region (ef := []) (bk := []) ?_
  refine RL.bin rfl rfl rfl rfl rfl rfl ?_
  refine RL.assign rfl rfl rfl rfl ?_
  refine RL.nil ?_
  refine NQ.seq ?_
  -- STOP: if; todo top: ["code", ["cond", ["t", 6], ["exit", 1], ["skip"]]]
  refine CW.condF rfl ((by rw [hk]; rfl)) ?_
  refine CW.skip ?_
  refine NQ.seq ?_
  refine CW.seq ?_
  refine CW.seq ?_
  refine CW.region (ef := []) (bk := []) ?_
  refine RL.bin rfl rfl rfl rfl rfl rfl ?_
  refine RL.assign rfl rfl rfl rfl ?_
  refine RL.nil ?_
  refine NQ.seq ?_
  -- STOP: if; todo top: ["code", ["cond", ["t", 8], ["exit", 2], ["skip"]]]
  refine CW.condF rfl ((by rw [hk]; rfl)) ?_
  refine CW.skip ?_
  refine NQ.seq ?_
  refine CW.only (.cons (k := 0) rfl (.cons (k := 3) rfl (.cons (k := 5) rfl .nil))) ?_
  refine CW.seq ?_
  refine CW.seq ?_
  refine CW.region (ef := []) (bk := []) ?_
  refine RL.bin rfl rfl rfl rfl rfl rfl ?_
  refine RL.assign rfl rfl rfl rfl ?_
  refine RL.nil ?_
  refine NQ.seq ?_
  -- STOP: if; todo top: ["code", ["cond", ["t", 10], ["exit", 3], ["skip"]]]
  refine CW.condF rfl ((by rw [hk]; rfl)) ?_
  refine CW.skip ?_
  refine NQ.seq ?_
  refine CW.seq ?_
  refine CW.seq ?_
  refine CW.region (ef := []) (bk := []) ?_
  refine RL.bin rfl rfl rfl rfl rfl rfl ?_
  refine RL.assign rfl rfl rfl rfl ?_
  refine RL.nil ?_
  refine NQ.seq ?_
  -- STOP: if; todo top: ["code", ["cond", ["t", 12], ["exit", 4], ["skip"]]]
  refine CW.condF rfl ((by rw [hk]; rfl)) ?_
  refine CW.skip ?_
  refine NQ.seq ?_
  refine CW.seq ?_
  refine CW.seq ?_
  refine CW.region (ef := []) (bk := []) ?_
  refine RL.bin rfl rfl rfl rfl rfl rfl ?_
  refine RL.assign rfl rfl rfl rfl ?_
  refine RL.nil ?_
  refine NQ.seq ?_
  -- STOP: if; todo top: ["code", ["cond", ["t", 14], ["exit", 5], ["skip"]]]
  refine CW.condF rfl ((by rw [hk]; rfl)) ?_
  refine CW.skip ?_
  refine NQ.seq ?_
  refine CW.only (.cons (k := 0) rfl (.cons (k := 3) rfl (.cons (k := 5) rfl .nil))) ?_
  refine CW.seq ?_
  refine CW.seq ?_
  refine CW.region (ef := []) (bk := []) ?_
  refine RL.bin rfl rfl rfl rfl rfl rfl ?_
  refine RL.assign rfl rfl rfl rfl ?_
  refine RL.nil ?_
  refine NQ.seq ?_
  -- STOP: if; todo top: ["code", ["cond", ["t", 16], ["exit", 6], ["skip"]]]
  refine CW.condF rfl ((by rw [hk]; rfl)) ?_
  refine CW.skip ?_
  refine NQ.seq ?_
  refine CW.seq ?_
  refine CW.seq ?_
  refine CW.region (ef := []) (bk := []) ?_
  refine RL.bin rfl rfl rfl rfl rfl rfl ?_
  refine RL.assign rfl rfl rfl rfl ?_
  refine RL.nil ?_
  refine NQ.seq ?_
  -- STOP: if; todo top: ["code", ["cond", ["t", 18], ["exit", 7], ["skip"]]]
  refine CW.condF rfl ((by rw [hk]; rfl)) ?_
  refine CW.skip ?_
  refine NQ.seq ?_
  refine CW.seq ?_
  refine CW.seq ?_
  refine CW.region (ef := []) (bk := []) ?_
  refine RL.bin rfl rfl rfl rfl rfl rfl ?_
  refine RL.assign rfl rfl rfl rfl ?_
  refine RL.nil ?_
  refine NQ.seq ?_
  -- STOP: if; todo top: ["code", ["cond", ["t", 20], ["exit", 8], ["skip"]]]
  refine CW.condT rfl ((by rw [hk]; rfl)) ?_
  refine CW.exit ?_
  refine XQ.seq ?_
  refine XQ.seq ?_
  refine XQ.miss rfl ?_
  refine XQ.seq ?_
  refine XQ.miss rfl ?_
  refine XQ.seq ?_
  refine XQ.miss rfl ?_
  refine XQ.seq ?_
  refine XQ.miss rfl ?_
  refine XQ.seq ?_
  refine XQ.miss rfl ?_
  refine XQ.seq ?_
  refine XQ.miss rfl ?_
  refine XQ.seq ?_
  refine XQ.miss rfl ?_
  refine XQ.seq ?_
  refine XQ.hit ?_
  refine NQ.seq ?_
  refine CW.only (.cons (k := 0) rfl (.cons (k := 3) rfl .nil)) ?_
  refine CW.seq ?_
  refine CW.region (ef := [4]) (bk := [4]) ?_
  refine RL.move rfl rfl rfl rfl ?_
  refine RL.fieldAddr fa_33_12 rfl rfl rfl rfl ?_
  refine RL.load Try.isAgg5 rfl rfl rfl rfl (by first | assumption | (apply Rd.get; (solve | (repeat (first | exact List.Mem.head _ | apply List.Mem.tail))); assumption) | (apply Rd.getS; (solve | (repeat (first | exact List.Mem.head _ | apply List.Mem.tail))); assumption) | (apply Rd.getO; (solve | (repeat (first | exact List.Mem.head _ | apply List.Mem.tail))); assumption) | (apply Rd.getI; (solve | (repeat (first | exact List.Mem.head _ | apply List.Mem.tail))); assumption) | (apply Rd.cel; (solve | (repeat (first | exact List.Mem.head _ | apply List.Mem.tail))); exact rfl) | (apply Rd.celI; (solve | (repeat (first | exact List.Mem.head _ | apply List.Mem.tail))); exact rfl)) ?_
  refine RL.conv Try.runUnderlying5 Try.runUnderlying30 rfl rfl rfl rfl ?_
  -- STOP: op; op 4: d=95 ["call", ["f", 131], [["t", 91], ["t", 94], ["c", ["int", "Go.IntKind.i64", 1]]], [173, 30, 3]] guard=None (kind.go:102)
  rw [← w64_eq]
  refine RL.call (wnum_any w none 0 ([] : List B8).length 1 (w64 (r.mode.toNat : Int)) ([]) rfl (by decide) (by simp [beN_length, be4_length, be8'_length]) (w64_lt _)) Try.call131 rfl rfl rfl rfl rfl (by repeat (first | exact Pick.nil | apply Pick.take | apply Pick.leave)) (by repeat (first | exact Lend.nil | (refine Lend.inI ?_ ?_; (solve | (repeat (first | exact List.Mem.head _ | apply List.Mem.tail)))) | (refine Lend.inH ?_ ?_; (solve | (repeat (first | exact List.Mem.head _ | apply List.Mem.tail)))))) (.inr rfl) ?_
  -- STOP: called; todo top: ["code", ["region", 26, [{"d": 91, "op": ["move", ["t", 0]], "ty": 173, "pos": "kind.go:102", "after": [], "guard": null}, {"d": 92, "op": ["fieldAddr", 33, ["t", 3], 12], "ty": 0, "pos": "kind.go:102
  rintro _ _ _ ⟨rfl, ob1', cp1, rfl⟩
  refine RL.nil ?_
  refine NQ.seq ?_
  refine CW.exit ?_
  refine XQ.miss rfl ?_
  refine XQ.seq ?_
  refine XQ.miss rfl ?_
  refine XQ.seq ?_
  refine XQ.miss rfl ?_
  refine XQ.seq ?_
  refine XQ.miss rfl ?_
  refine XQ.seq ?_
  refine XQ.hit ?_
  -- STOP: end; todo top: ["N"]
  have e : ([] ++ beN 1 (w64 (r.mode.toNat : Int)) : List B8) = bodyR r := by unfold bodyR; simp [hk, beN_byte]
  rw [← e]
  exact NQ.post (res0 rfl) (.keep (.keep (Split.none _))) ⟨rfl, _, _, rfl⟩
theorem wput_9 (w : Nat) (r : Rdg) (hk : r.kind = 9) (hr : r.Ok) : Spc Try.prog 81 #[.pointer (some ⟨w, 0, none⟩), .agg r.cells.toArray] [] [wrt w none 0 0, own none 0 5 1 0 []] (WrR w (bodyR r)) := by
  refine Spc.enter Try.func81 rfl rfl rfl (fun w0 hw0 => ?_)
  refine CW.seq ?_
  refine CW.region (ef := [0]) (bk := []) ?_
  refine RL.box rfl rfl rfl rfl rfl rfl ?_
  intro b1
  refine RL.nil ?_
  refine NQ.seq ?_
  refine CW.seq ?_
  refine CW.region (ef := []) (bk := []) ?_
  refine RL.fieldAddr fa_33_0 rfl rfl rfl rfl ?_
  refine RL.load Try.isAgg3 rfl rfl rfl rfl (by first | assumption | (apply Rd.get; (solve | (repeat (first | exact List.Mem.head _ | apply List.Mem.tail))); assumption) | (apply Rd.getS; (solve | (repeat (first | exact List.Mem.head _ | apply List.Mem.tail))); assumption) | (apply Rd.getO; (solve | (repeat (first | exact List.Mem.head _ | apply List.Mem.tail))); assumption) | (apply Rd.getI; (solve | (repeat (first | exact List.Mem.head _ | apply List.Mem.tail))); assumption) | (apply Rd.cel; (solve | (repeat (first | exact List.Mem.head _ | apply List.Mem.tail))); exact rfl) | (apply Rd.celI; (solve | (repeat (first | exact List.Mem.head _ | apply List.Mem.tail))); exact rfl)) ?_
  refine RL.nil ?_
  refine NQ.seq ?_
  refine CW.block ?_
  refine CW.seq ?_
  refine CW.block ?_
  refine CW.seq ?_
  refine CW.block ?_
  refine CW.seq ?_
  refine CW.block ?_
  refine CW.seq ?_
  refine CW.block ?_
  refine CW.seq ?_
  refine CW.block ?_
  refine CW.seq ?_
  refine CW.block ?_
  refine CW.seq ?_
  refine CW.block ?_
  refine CW.seq ?_
  refine CW.block ?_
  refine CW.seq ?_
  refine CW.block ?_
  refine CW.seq ?_
  refine CW.block ?_
  refine CW.seq ?_
  refine CW.block ?_
  refine CW.seq ?_
  refine CW.block ?_
  refine CW.seq ?_
  refine CW.seq ?_
  refine CW.seq ?_
  refine CW.region (ef := []) (bk := []) ?_
  refine RL.bin rfl rfl rfl rfl rfl rfl ?_
  refine RL.assign rfl rfl rfl rfl ?_
  refine RL.nil ?_
  refine NQ.seq ?_
  -- STOP: if; todo top: ["code", ["cond", ["t", 6], ["exit", 1], ["skip"]]]
  refine CW.condF rfl ((by rw [hk]; rfl)) ?_
  refine CW.skip ?_
  refine NQ.seq ?_
  refine CW.seq ?_
  refine CW.seq ?_
  refine CW.region (ef := []) (bk := []) ?_
  refine RL.bin rfl rfl rfl rfl rfl rfl ?_
  refine RL.assign rfl rfl rfl rfl ?_
  refine RL.nil ?_
  refine NQ.seq ?_
  -- STOP: if; todo top: ["code", ["cond", ["t", 8], ["exit", 2], ["skip"]]]
  refine CW.condF rfl ((by rw [hk]; rfl)) ?_
  refine CW.skip ?_
  refine NQ.seq ?_
  refine CW.only (.cons (k := 0) rfl (.cons (k := 3) rfl (.cons (k := 5) rfl .nil))) ?_
  refine CW.seq ?_
  refine CW.seq ?_
  refine CW.region (ef := []) (bk := []) ?_
  refine RL.bin rfl rfl rfl rfl rfl rfl ?_
  refine RL.assign rfl rfl rfl rfl ?_
  refine RL.nil ?_
  refine NQ.seq ?_
  -- STOP: if; todo top: ["code", ["cond", ["t", 10], ["exit", 3], ["skip"]]]
  refine CW.condF rfl ((by rw [hk]; rfl)) ?_
  refine CW.skip ?_
  refine NQ.seq ?_
  refine CW.seq ?_
  refine CW.seq ?_
  refine CW.region (ef := []) (bk := []) ?_
  refine RL.bin rfl rfl rfl rfl rfl rfl ?_
  refine RL.assign rfl rfl rfl rfl ?_
  refine RL.nil ?_
  refine NQ.seq ?_
  -- STOP: if; todo top: ["code", ["cond", ["t", 12], ["exit", 4], ["skip"]]]
  refine CW.condF rfl ((by rw [hk]; rfl)) ?_
  refine CW.skip ?_
  refine NQ.seq ?_
  refine CW.seq ?_
  refine CW.seq ?_
  refine CW.region (ef := []) (bk := []) ?_
  refine RL.bin rfl rfl rfl rfl rfl rfl ?_
  refine RL.assign rfl rfl rfl rfl ?_
  refine RL.nil ?_
  refine NQ.seq ?_
  -- STOP: if; todo top: ["code", ["cond", ["t", 14], ["exit", 5], ["skip"]]]
  refine CW.condF rfl ((by rw [hk]; rfl)) ?_
  refine CW.skip ?_
  refine NQ.seq ?_
  refine CW.only (.cons (k := 0) rfl (.cons (k := 3) rfl (.cons (k := 5) rfl .nil))) ?_
  refine CW.seq ?_
  refine CW.seq ?_
  refine CW.region (ef := []) (bk := []) ?_
  refine RL.bin rfl rfl rfl rfl rfl rfl ?_
  refine RL.assign rfl rfl rfl rfl ?_
  refine RL.nil ?_
  refine NQ.seq ?_
  -- STOP: if; todo top: ["code", ["cond", ["t", 16], ["exit", 6], ["skip"]]]
  refine CW.condF rfl ((by rw [hk]; rfl)) ?_
  refine CW.skip ?_
  refine NQ.seq ?_
  refine CW.seq ?_
  refine CW.seq ?_
  refine CW.region (ef := []) (bk := []) ?_
  refine RL.bin rfl rfl rfl rfl rfl rfl ?_
  refine RL.assign rfl rfl rfl rfl ?_
  refine RL.nil ?_
  refine NQ.seq ?_
  -- STOP: if; todo top: ["code", ["cond", ["t", 18], ["exit", 7], ["skip"]]]
  refine CW.condF rfl ((by rw [hk]; rfl)) ?_
  refine CW.skip ?_
  refine NQ.seq ?_
  refine CW.seq ?_
  refine CW.seq ?_
  refine CW.region (ef := []) (bk := []) ?_
  refine RL.bin rfl rfl rfl rfl rfl rfl ?_
  refine RL.assign rfl rfl rfl rfl ?_
  refine RL.nil ?_
  refine NQ.seq ?_
  -- STOP: if; todo top: ["code", ["cond", ["t", 20], ["exit", 8], ["skip"]]]
  refine CW.condF rfl ((by rw [hk]; rfl)) ?_
  refine CW.skip ?_
  refine NQ.seq ?_
  refine CW.only (.cons (k := 0) rfl (.cons (k := 3) rfl (.cons (k := 5) rfl .nil))) ?_
  refine CW.seq ?_
  refine CW.seq ?_
  refine CW.region (ef := []) (bk := []) ?_
  refine RL.bin rfl rfl rfl rfl rfl rfl ?_
  refine RL.assign rfl rfl rfl rfl ?_
  refine RL.nil ?_
  refine NQ.seq ?_
  -- STOP: if; todo top: ["code", ["cond", ["t", 22], ["exit", 9], ["skip"]]]
  refine CW.condF rfl ((by rw [hk]; rfl)) ?_
  refine CW.skip ?_
  refine NQ.seq ?_
  refine CW.seq ?_
  refine CW.seq ?_
  refine CW.region (ef := []) (bk := []) ?_
  refine RL.bin rfl rfl rfl rfl rfl rfl ?_
  refine RL.assign rfl rfl rfl rfl ?_
  refine RL.nil ?_
  refine NQ.seq ?_
  -- STOP: if; todo top: ["code", ["cond", ["t", 24], ["exit", 10], ["skip"]]]
  refine CW.condF rfl ((by rw [hk]; rfl)) ?_
  refine CW.skip ?_
  refine NQ.seq ?_
  refine CW.seq ?_
  refine CW.seq ?_
  refine CW.region (ef := []) (bk := []) ?_
  refine RL.bin rfl rfl rfl rfl rfl rfl ?_
  refine RL.assign rfl rfl rfl rfl ?_
  refine RL.nil ?_
  refine NQ.seq ?_
  -- STOP: if; todo top: ["code", ["cond", ["t", 26], ["exit", 11], ["skip"]]]
  refine CW.condF rfl ((by rw [hk]; rfl)) ?_
  refine CW.skip ?_
  refine NQ.seq ?_
  refine CW.only (.cons (k := 0) rfl (.cons (k := 3) rfl (.cons (k := 5) rfl .nil))) ?_
  refine CW.seq ?_
  refine CW.region (ef := []) (bk := []) ?_
  refine RL.bin rfl rfl rfl rfl rfl rfl ?_
  refine RL.assign rfl rfl rfl rfl ?_
  refine RL.nil ?_
  refine NQ.seq ?_
  -- STOP: if; todo top: ["code", ["cond", ["t", 28], ["exit", 12], ["skip"]]]
  refine CW.condF rfl ((by rw [hk]; rfl)) ?_
  refine CW.skip ?_
  refine NQ.seq ?_
  refine CW.exit ?_
  refine XQ.miss rfl ?_
  refine XQ.seq ?_
  refine XQ.miss rfl ?_
  refine XQ.seq ?_
  refine XQ.miss rfl ?_
  refine XQ.seq ?_
  refine XQ.miss rfl ?_
  refine XQ.seq ?_
  refine XQ.miss rfl ?_
  refine XQ.seq ?_
  refine XQ.miss rfl ?_
  refine XQ.seq ?_
  refine XQ.miss rfl ?_
  refine XQ.seq ?_
  refine XQ.miss rfl ?_
  refine XQ.seq ?_
  refine XQ.miss rfl ?_
  refine XQ.seq ?_
  refine XQ.miss rfl ?_
  refine XQ.seq ?_
  refine XQ.miss rfl ?_
  refine XQ.seq ?_
  refine XQ.miss rfl ?_
  refine XQ.seq ?_
  refine XQ.hit ?_
  -- STOP: end; todo top: ["N"]
  have e : ([] : List B8) = bodyR r := by unfold bodyR; simp [hk, beN_byte]
  rw [← e]
  exact NQ.post (res0 rfl) (.drop (.keep (.keep .nil))) ⟨rfl, none, 0, rfl⟩
theorem wput_10 (w : Nat) (r : Rdg) (hk : r.kind = 10) (hr : r.Ok) : Spc Try.prog 81 #[.pointer (some ⟨w, 0, none⟩), .agg r.cells.toArray] [] [wrt w none 0 0, own none 0 5 1 0 []] (WrR w (bodyR r)) := by
  refine Spc.enter Try.func81 rfl rfl rfl (fun w0 hw0 => ?_)
  refine CW.seq ?_
  refine CW.region (ef := [0]) (bk := []) ?_
  refine RL.box rfl rfl rfl rfl rfl rfl ?_
  intro b1
  refine RL.nil ?_
  refine NQ.seq ?_
  refine CW.seq ?_
  refine CW.region (ef := []) (bk := []) ?_
  refine RL.fieldAddr fa_33_0 rfl rfl rfl rfl ?_
  refine RL.load Try.isAgg3 rfl rfl rfl rfl (by first | assumption | (apply Rd.get; (solve | (repeat (first | exact List.Mem.head _ | apply List.Mem.tail))); assumption) | (apply Rd.getS; (solve | (repeat (first | exact List.Mem.head _ | apply List.Mem.tail))); assumption) | (apply Rd.getO; (solve | (repeat (first | exact List.Mem.head _ | apply List.Mem.tail))); assumption) | (apply Rd.getI; (solve | (repeat (first | exact List.Mem.head _ | apply List.Mem.tail))); assumption) | (apply Rd.cel; (solve | (repeat (first | exact List.Mem.head _ | apply List.Mem.tail))); exact rfl) | (apply Rd.celI; (solve | (repeat (first | exact List.Mem.head _ | apply List.Mem.tail))); exact rfl)) ?_
  refine RL.nil ?_
  refine NQ.seq ?_
  refine CW.block ?_
  refine CW.seq ?_
  refine CW.block ?_
  refine CW.seq ?_
  refine CW.block ?_
  refine CW.seq ?_
  refine CW.block ?_
  refine CW.seq ?_
  refine CW.block ?_
  refine CW.seq ?_
  refine CW.block ?_
  refine CW.seq ?_
  refine CW.block ?_
  refine CW.seq ?_
  refine CW.block ?_
  refine CW.seq ?_
  refine CW.block ?_
  refine CW.seq ?_
  refine CW.block ?_
  refine CW.seq ?_
  refine CW.block ?_
  refine CW.seq ?_
  refine CW.block ?_
  refine CW.seq ?_
  refine CW.block ?_
  refine CW.seq ?_
  refine CW.seq ?_
  refine CW.seq ?_
  refine CW.region (ef := []) (bk := []) ?_
  refine RL.bin rfl rfl rfl rfl rfl rfl ?_
  refine RL.assign rfl rfl rfl rfl ?_
  refine RL.nil ?_
  refine NQ.seq ?_
  -- STOP: if; todo top: ["code", ["cond", ["t", 6], ["exit", 1], ["skip"]]]
  refine CW.condF rfl ((by rw [hk]; rfl)) ?_
  refine CW.skip ?_
  refine NQ.seq ?_
  refine CW.seq ?_
  refine CW.seq ?_
  refine CW.region (ef := []) (bk := []) ?_
  refine RL.bin rfl rfl rfl rfl rfl rfl ?_
  refine RL.assign rfl rfl rfl rfl ?_
  refine RL.nil ?_
  refine NQ.seq ?_
  -- STOP: if; todo top: ["code", ["cond", ["t", 8], ["exit", 2], ["skip"]]]
  refine CW.condF rfl ((by rw [hk]; rfl)) ?_
  refine CW.skip ?_
  refine NQ.seq ?_
  refine CW.only (.cons (k := 0) rfl (.cons (k := 3) rfl (.cons (k := 5) rfl .nil))) ?_
  refine CW.seq ?_
  refine CW.seq ?_
  refine CW.region (ef := []) (bk := []) ?_
  refine RL.bin rfl rfl rfl rfl rfl rfl ?_
  refine RL.assign rfl rfl rfl rfl ?_
  refine RL.nil ?_
  refine NQ.seq ?_
  -- STOP: if; todo top: ["code", ["cond", ["t", 10], ["exit", 3], ["skip"]]]
  refine CW.condF rfl ((by rw [hk]; rfl)) ?_
  refine CW.skip ?_
  refine NQ.seq ?_
  refine CW.seq ?_
  refine CW.seq ?_
  refine CW.region (ef := []) (bk := []) ?_
  refine RL.bin rfl rfl rfl rfl rfl rfl ?_
  refine RL.assign rfl rfl rfl rfl ?_
  refine RL.nil ?_
  refine NQ.seq ?_
  -- STOP: if; todo top: ["code", ["cond", ["t", 12], ["exit", 4], ["skip"]]]
  refine CW.condF rfl ((by rw [hk]; rfl)) ?_
  refine CW.skip ?_
  refine NQ.seq ?_
  refine CW.seq ?_
  refine CW.seq ?_
  refine CW.region (ef := []) (bk := []) ?_
  refine RL.bin rfl rfl rfl rfl rfl rfl ?_
  refine RL.assign rfl rfl rfl rfl ?_
  refine RL.nil ?_
  refine NQ.seq ?_
  -- STOP: if; todo top: ["code", ["cond", ["t", 14], ["exit", 5], ["skip"]]]
  refine CW.condF rfl ((by rw [hk]; rfl)) ?_
  refine CW.skip ?_
  refine NQ.seq ?_
  refine CW.only (.cons (k := 0) rfl (.cons (k := 3) rfl (.cons (k := 5) rfl .nil))) ?_
  refine CW.seq ?_
  refine CW.seq ?_
  refine CW.region (ef := []) (bk := []) ?_
  refine RL.bin rfl rfl rfl rfl rfl rfl ?_
  refine RL.assign rfl rfl rfl rfl ?_
  refine RL.nil ?_
  refine NQ.seq ?_
  -- STOP: if; todo top: ["code", ["cond", ["t", 16], ["exit", 6], ["skip"]]]
  refine CW.condF rfl ((by rw [hk]; rfl)) ?_
  refine CW.skip ?_
  refine NQ.seq ?_
  refine CW.seq ?_
  refine CW.seq ?_
  refine CW.region (ef := []) (bk := []) ?_
  refine RL.bin rfl rfl rfl rfl rfl rfl ?_
  refine RL.assign rfl rfl rfl rfl ?_
  refine RL.nil ?_
  refine NQ.seq ?_
  -- STOP: if; todo top: ["code", ["cond", ["t", 18], ["exit", 7], ["skip"]]]
  refine CW.condF rfl ((by rw [hk]; rfl)) ?_
  refine CW.skip ?_
  refine NQ.seq ?_
  refine CW.seq ?_
  refine CW.seq ?_
  refine CW.region (ef := []) (bk := []) ?_
  refine RL.bin rfl rfl rfl rfl rfl rfl ?_
  refine RL.assign rfl rfl rfl rfl ?_
  refine RL.nil ?_
  refine NQ.seq ?_
  -- STOP: if; todo top: ["code", ["cond", ["t", 20], ["exit", 8], ["skip"]]]
  refine CW.condF rfl ((by rw [hk]; rfl)) ?_
  refine CW.skip ?_
  refine NQ.seq ?_
  refine CW.only (.cons (k := 0) rfl (.cons (k := 3) rfl (.cons (k := 5) rfl .nil))) ?_
  refine CW.seq ?_
  refine CW.seq ?_
  refine CW.region (ef := []) (bk := []) ?_
  refine RL.bin rfl rfl rfl rfl rfl rfl ?_
  refine RL.assign rfl rfl rfl rfl ?_
  refine RL.nil ?_
  refine NQ.seq ?_
  -- STOP: if; todo top: ["code", ["cond", ["t", 22], ["exit", 9], ["skip"]]]
  refine CW.condF rfl ((by rw [hk]; rfl)) ?_
  refine CW.skip ?_
  refine NQ.seq ?_
  refine CW.seq ?_
  refine CW.seq ?_
  refine CW.region (ef := []) (bk := []) ?_
  refine RL.bin rfl rfl rfl rfl rfl rfl ?_
  refine RL.assign rfl rfl rfl rfl ?_
  refine RL.nil ?_
  refine NQ.seq ?_
  -- STOP: if; todo top: ["code", ["cond", ["t", 24], ["exit", 10], ["skip"]]]
  refine CW.condF rfl ((by rw [hk]; rfl)) ?_
  refine CW.skip ?_
  refine NQ.seq ?_
  refine CW.seq ?_
  refine CW.seq ?_
  refine CW.region (ef := []) (bk := []) ?_
  refine RL.bin rfl rfl rfl rfl rfl rfl ?_
  refine RL.assign rfl rfl rfl rfl ?_
  refine RL.nil ?_
  refine NQ.seq ?_
  -- STOP: if; todo top: ["code", ["cond", ["t", 26], ["exit", 11], ["skip"]]]
  refine CW.condF rfl ((by rw [hk]; rfl)) ?_
  refine CW.skip ?_
  refine NQ.seq ?_
  refine CW.only (.cons (k := 0) rfl (.cons (k := 3) rfl (.cons (k := 5) rfl .nil))) ?_
  refine CW.seq ?_
  refine CW.region (ef := []) (bk := []) ?_
  refine RL.bin rfl rfl rfl rfl rfl rfl ?_
  refine RL.assign rfl rfl rfl rfl ?_
  refine RL.nil ?_
  refine NQ.seq ?_
  -- STOP: if; todo top: ["code", ["cond", ["t", 28], ["exit", 12], ["skip"]]]
  refine CW.condT rfl ((by rw [hk]; rfl)) ?_
  refine CW.exit ?_
  refine XQ.seq ?_
  refine XQ.miss rfl ?_
  refine XQ.seq ?_
  refine XQ.miss rfl ?_
  refine XQ.seq ?_
  refine XQ.miss rfl ?_
  refine XQ.seq ?_
  refine XQ.miss rfl ?_
  refine XQ.seq ?_
  refine XQ.miss rfl ?_
  refine XQ.seq ?_
  refine XQ.miss rfl ?_
  refine XQ.seq ?_
  refine XQ.miss rfl ?_
  refine XQ.seq ?_
  refine XQ.miss rfl ?_
  refine XQ.seq ?_
  refine XQ.miss rfl ?_
  refine XQ.seq ?_
  refine XQ.miss rfl ?_
  refine XQ.seq ?_
  refine XQ.miss rfl ?_
  refine XQ.seq ?_
  refine XQ.hit ?_
  refine NQ.seq ?_
  refine CW.seq ?_
  refine CW.region (ef := [4]) (bk := [4]) ?_
  refine RL.move rfl rfl rfl rfl ?_
  refine RL.fieldAddr fa_33_13 rfl rfl rfl rfl ?_
  refine RL.load Try.isAgg25 rfl rfl rfl rfl (by first | assumption | (apply Rd.get; (solve | (repeat (first | exact List.Mem.head _ | apply List.Mem.tail))); assumption) | (apply Rd.getS; (solve | (repeat (first | exact List.Mem.head _ | apply List.Mem.tail))); assumption) | (apply Rd.getO; (solve | (repeat (first | exact List.Mem.head _ | apply List.Mem.tail))); assumption) | (apply Rd.getI; (solve | (repeat (first | exact List.Mem.head _ | apply List.Mem.tail))); assumption) | (apply Rd.cel; (solve | (repeat (first | exact List.Mem.head _ | apply List.Mem.tail))); exact rfl) | (apply Rd.celI; (solve | (repeat (first | exact List.Mem.head _ | apply List.Mem.tail))); exact rfl)) ?_
  refine RL.conv Try.runUnderlying25 Try.runUnderlying30 rfl rfl rfl rfl ?_
  -- STOP: op; op 4: d=143 ["call", ["f", 131], [["t", 139], ["t", 142], ["c", ["int", "Go.IntKind.i64", 4]]], [173, 30, 3]] guard=None (kind.go:117)
  rw [← w64_eq]
  refine RL.call (wnum_any w none 0 ([] : List B8).length 4 (w64 r.epoch) ([]) rfl (by decide) (by simp [beN_length, be4_length, be8'_length]) (w64_lt _)) Try.call131 rfl rfl rfl rfl rfl (by repeat (first | exact Pick.nil | apply Pick.take | apply Pick.leave)) (by repeat (first | exact Lend.nil | (refine Lend.inI ?_ ?_; (solve | (repeat (first | exact List.Mem.head _ | apply List.Mem.tail)))) | (refine Lend.inH ?_ ?_; (solve | (repeat (first | exact List.Mem.head _ | apply List.Mem.tail)))))) (.inr rfl) ?_
  -- STOP: called; todo top: ["code", ["region", 36, [{"d": 139, "op": ["move", ["t", 0]], "ty": 173, "pos": "kind.go:117", "after": [], "guard": null}, {"d": 140, "op": ["fieldAddr", 33, ["t", 3], 13], "ty": 0, "pos": "kind.go:1
  rintro _ _ _ ⟨rfl, ob1', cp1, rfl⟩
  refine RL.nil ?_
  refine NQ.seq ?_
  refine CW.only .nil ?_
  refine CW.exit ?_
  refine XQ.hit ?_
  -- STOP: end; todo top: ["N"]
  have e : ([] ++ beN 4 (w64 r.epoch) : List B8) = bodyR r := by unfold bodyR; simp [hk, beN_byte]
  rw [← e]
  exact NQ.post (res0 rfl) (.keep (.keep (Split.none _))) ⟨rfl, _, _, rfl⟩
theorem wput_11 (w : Nat) (r : Rdg) (hk : r.kind = 11) (hr : r.Ok) : Spc Try.prog 81 #[.pointer (some ⟨w, 0, none⟩), .agg r.cells.toArray] [] [wrt w none 0 0, own none 0 5 1 0 []] (WrR w (bodyR r)) := by
  refine Spc.enter Try.func81 rfl rfl rfl (fun w0 hw0 => ?_)
  refine CW.seq ?_
  refine CW.region (ef := [0]) (bk := []) ?_
  refine RL.box rfl rfl rfl rfl rfl rfl ?_
  intro b1
  refine RL.nil ?_
  refine NQ.seq ?_
  refine CW.seq ?_
  refine CW.region (ef := []) (bk := []) ?_
  refine RL.fieldAddr fa_33_0 rfl rfl rfl rfl ?_
  refine RL.load Try.isAgg3 rfl rfl rfl rfl (by first | assumption | (apply Rd.get; (solve | (repeat (first | exact List.Mem.head _ | apply List.Mem.tail))); assumption) | (apply Rd.getS; (solve | (repeat (first | exact List.Mem.head _ | apply List.Mem.tail))); assumption) | (apply Rd.getO; (solve | (repeat (first | exact List.Mem.head _ | apply List.Mem.tail))); assumption) | (apply Rd.getI; (solve | (repeat (first | exact List.Mem.head _ | apply List.Mem.tail))); assumption) | (apply Rd.cel; (solve | (repeat (first | exact List.Mem.head _ | apply List.Mem.tail))); exact rfl) | (apply Rd.celI; (solve | (repeat (first | exact List.Mem.head _ | apply List.Mem.tail))); exact rfl)) ?_
  refine RL.nil ?_
  refine NQ.seq ?_
  refine CW.block ?_
  refine CW.seq ?_
  refine CW.block ?_
  refine CW.seq ?_
  refine CW.block ?_
  refine CW.seq ?_
  refine CW.block ?_
  refine CW.seq ?_
  refine CW.block ?_
  refine CW.seq ?_
  refine CW.block ?_
  refine CW.seq ?_
  refine CW.block ?_
  refine CW.seq ?_
  refine CW.block ?_
  refine CW.seq ?_
  refine CW.block ?_
  refine CW.seq ?_
  refine CW.block ?_
  refine CW.seq ?_
  refine CW.block ?_
  refine CW.seq ?_
  refine CW.block ?_
  refine CW.seq ?_
  refine CW.block ?_
  refine CW.seq ?_
  refine CW.seq ?_
  refine CW.seq ?_
  refine CW.region (ef := []) (bk := []) ?_
  refine RL.bin rfl rfl rfl rfl rfl rfl ?_
  refine RL.assign rfl rfl rfl rfl ?_
  refine RL.nil ?_
  refine NQ.seq ?_
  -- STOP: if; todo top: ["code", ["cond", ["t", 6], ["exit", 1], ["skip"]]]
  refine CW.condF rfl ((by rw [hk]; rfl)) ?_
  refine CW.skip ?_
  refine NQ.seq ?_
  refine CW.seq ?_
  refine CW.seq ?_
  refine CW.region (ef := []) (bk := []) ?_
  refine RL.bin rfl rfl rfl rfl rfl rfl ?_
  refine RL.assign rfl rfl rfl rfl ?_
  refine RL.nil ?_
  refine NQ.seq ?_
  -- STOP: if; todo top: ["code", ["cond", ["t", 8], ["exit", 2], ["skip"]]]
  refine CW.condF rfl ((by rw [hk]; rfl)) ?_
  refine CW.skip ?_
  refine NQ.seq ?_
  refine CW.only (.cons (k := 0) rfl (.cons (k := 3) rfl (.cons (k := 5) rfl .nil))) ?_
  refine CW.seq ?_
  refine CW.seq ?_
  refine CW.region (ef := []) (bk := []) ?_
  refine RL.bin rfl rfl rfl rfl rfl rfl ?_
  refine RL.assign rfl rfl rfl rfl ?_
  refine RL.nil ?_
  refine NQ.seq ?_
  -- STOP: if; todo top: ["code", ["cond", ["t", 10], ["exit", 3], ["skip"]]]
  refine CW.condF rfl ((by rw [hk]; rfl)) ?_
  refine CW.skip ?_
  refine NQ.seq ?_
  refine CW.seq ?_
  refine CW.seq ?_
  refine CW.region (ef := []) (bk := []) ?_
  refine RL.bin rfl rfl rfl rfl rfl rfl ?_
  refine RL.assign rfl rfl rfl rfl ?_
  refine RL.nil ?_
  refine NQ.seq ?_
  -- STOP: if; todo top: ["code", ["cond", ["t", 12], ["exit", 4], ["skip"]]]
  refine CW.condF rfl ((by rw [hk]; rfl)) ?_
  refine CW.skip ?_
  refine NQ.seq ?_
  refine CW.seq ?_
  refine CW.seq ?_
  refine CW.region (ef := []) (bk := []) ?_
  refine RL.bin rfl rfl rfl rfl rfl rfl ?_
  refine RL.assign rfl rfl rfl rfl ?_
  refine RL.nil ?_
  refine NQ.seq ?_
  -- STOP: if; todo top: ["code", ["cond", ["t", 14], ["exit", 5], ["skip"]]]
  refine CW.condF rfl ((by rw [hk]; rfl)) ?_
  refine CW.skip ?_
  refine NQ.seq ?_
  refine CW.only (.cons (k := 0) rfl (.cons (k := 3) rfl (.cons (k := 5) rfl .nil))) ?_
  refine CW.seq ?_
  refine CW.seq ?_
  refine CW.region (ef := []) (bk := []) ?_
  refine RL.bin rfl rfl rfl rfl rfl rfl ?_
  refine RL.assign rfl rfl rfl rfl ?_
  refine RL.nil ?_
  refine NQ.seq ?_
  -- STOP: if; todo top: ["code", ["cond", ["t", 16], ["exit", 6], ["skip"]]]
  refine CW.condF rfl ((by rw [hk]; rfl)) ?_
  refine CW.skip ?_
  refine NQ.seq ?_
  refine CW.seq ?_
  refine CW.seq ?_
  refine CW.region (ef := []) (bk := []) ?_
  refine RL.bin rfl rfl rfl rfl rfl rfl ?_
  refine RL.assign rfl rfl rfl rfl ?_
  refine RL.nil ?_
  refine NQ.seq ?_
  -- STOP: if; todo top: ["code", ["cond", ["t", 18], ["exit", 7], ["skip"]]]
  refine CW.condF rfl ((by rw [hk]; rfl)) ?_
  refine CW.skip ?_
  refine NQ.seq ?_
  refine CW.seq ?_
  refine CW.seq ?_
  refine CW.region (ef := []) (bk := []) ?_
  refine RL.bin rfl rfl rfl rfl rfl rfl ?_
  refine RL.assign rfl rfl rfl rfl ?_
  refine RL.nil ?_
  refine NQ.seq ?_
  -- STOP: if; todo top: ["code", ["cond", ["t", 20], ["exit", 8], ["skip"]]]
  refine CW.condF rfl ((by rw [hk]; rfl)) ?_
  refine CW.skip ?_
  refine NQ.seq ?_
  refine CW.only (.cons (k := 0) rfl (.cons (k := 3) rfl (.cons (k := 5) rfl .nil))) ?_
  refine CW.seq ?_
  refine CW.seq ?_
  refine CW.region (ef := []) (bk := []) ?_
  refine RL.bin rfl rfl rfl rfl rfl rfl ?_
  refine RL.assign rfl rfl rfl rfl ?_
  refine RL.nil ?_
  refine NQ.seq ?_
  -- STOP: if; todo top: ["code", ["cond", ["t", 22], ["exit", 9], ["skip"]]]
  refine CW.condF rfl ((by rw [hk]; rfl)) ?_
  refine CW.skip ?_
  refine NQ.seq ?_
  refine CW.seq ?_
  refine CW.seq ?_
  refine CW.region (ef := []) (bk := []) ?_
  refine RL.bin rfl rfl rfl rfl rfl rfl ?_
  refine RL.assign rfl rfl rfl rfl ?_
  refine RL.nil ?_
  refine NQ.seq ?_
  -- STOP: if; todo top: ["code", ["cond", ["t", 24], ["exit", 10], ["skip"]]]
  refine CW.condF rfl ((by rw [hk]; rfl)) ?_
  refine CW.skip ?_
  refine NQ.seq ?_
  refine CW.seq ?_
  refine CW.seq ?_
  refine CW.region (ef := []) (bk := []) ?_
  refine RL.bin rfl rfl rfl rfl rfl rfl ?_
  refine RL.assign rfl rfl rfl rfl ?_
  refine RL.nil ?_
  refine NQ.seq ?_
  -- STOP: if; todo top: ["code", ["cond", ["t", 26], ["exit", 11], ["skip"]]]
  refine CW.condF rfl ((by rw [hk]; rfl)) ?_
  refine CW.skip ?_
  refine NQ.seq ?_
  refine CW.only (.cons (k := 0) rfl (.cons (k := 3) rfl (.cons (k := 5) rfl .nil))) ?_
  refine CW.seq ?_
  refine CW.region (ef := []) (bk := []) ?_
  refine RL.bin rfl rfl rfl rfl rfl rfl ?_
  refine RL.assign rfl rfl rfl rfl ?_
  refine RL.nil ?_
  refine NQ.seq ?_
  -- STOP: if; todo top: ["code", ["cond", ["t", 28], ["exit", 12], ["skip"]]]
  refine CW.condF rfl ((by rw [hk]; rfl)) ?_
  refine CW.skip ?_
  refine NQ.seq ?_
  refine CW.exit ?_
  refine XQ.miss rfl ?_
  refine XQ.seq ?_
  refine XQ.miss rfl ?_
  refine XQ.seq ?_
  refine XQ.miss rfl ?_
  refine XQ.seq ?_
  refine XQ.miss rfl ?_
  refine XQ.seq ?_
  refine XQ.miss rfl ?_
  refine XQ.seq ?_
  refine XQ.miss rfl ?_
  refine XQ.seq ?_
  refine XQ.miss rfl ?_
  refine XQ.seq ?_
  refine XQ.miss rfl ?_
  refine XQ.seq ?_
  refine XQ.miss rfl ?_
  refine XQ.seq ?_
  refine XQ.miss rfl ?_
  refine XQ.seq ?_
  refine XQ.miss rfl ?_
  refine XQ.seq ?_
  refine XQ.miss rfl ?_
  refine XQ.seq ?_
  refine XQ.hit ?_
  -- STOP: end; todo top: ["N"]
  have e : ([] : List B8) = bodyR r := by unfold bodyR; simp [hk, beN_byte]
  rw [← e]
  exact NQ.post (res0 rfl) (.drop (.keep (.keep .nil))) ⟨rfl, none, 0, rfl⟩
theorem wput_12 (w : Nat) (r : Rdg) (hk : r.kind = 12) (hr : r.Ok) : Spc Try.prog 81 #[.pointer (some ⟨w, 0, none⟩), .agg r.cells.toArray] [] [wrt w none 0 0, own none 0 5 1 0 []] (WrR w (bodyR r)) := by
  refine Spc.enter Try.func81 rfl rfl rfl (fun w0 hw0 => ?_)
  refine CW.seq ?_
  refine CW.region (ef := [0]) (bk := []) ?_
  refine RL.box rfl rfl rfl rfl rfl rfl ?_
  intro b1
  refine RL.nil ?_
  refine NQ.seq ?_
  refine CW.seq ?_
  refine CW.region (ef := []) (bk := []) ?_
  refine RL.fieldAddr fa_33_0 rfl rfl rfl rfl ?_
  refine RL.load Try.isAgg3 rfl rfl rfl rfl (by first | assumption | (apply Rd.get; (solve | (repeat (first | exact List.Mem.head _ | apply List.Mem.tail))); assumption) | (apply Rd.getS; (solve | (repeat (first | exact List.Mem.head _ | apply List.Mem.tail))); assumption) | (apply Rd.getO; (solve | (repeat (first | exact List.Mem.head _ | apply List.Mem.tail))); assumption) | (apply Rd.getI; (solve | (repeat (first | exact List.Mem.head _ | apply List.Mem.tail))); assumption) | (apply Rd.cel; (solve | (repeat (first | exact List.Mem.head _ | apply List.Mem.tail))); exact rfl) | (apply Rd.celI; (solve | (repeat (first | exact List.Mem.head _ | apply List.Mem.tail))); exact rfl)) ?_
  refine RL.nil ?_
  refine NQ.seq ?_
  refine CW.block ?_
  refine CW.seq ?_
  refine CW.block ?_
  refine CW.seq ?_
  refine CW.block ?_
  refine CW.seq ?_
  refine CW.block ?_
  refine CW.seq ?_
  refine CW.block ?_
  refine CW.seq ?_
  refine CW.block ?_
  refine CW.seq ?_
  refine CW.block ?_
  refine CW.seq ?_
  refine CW.block ?_
  refine CW.seq ?_
  refine CW.block ?_
  refine CW.seq ?_
  refine CW.block ?_
  refine CW.seq ?_
  refine CW.block ?_
  refine CW.seq ?_
  refine CW.block ?_
  refine CW.seq ?_
  refine CW.block ?_
  refine CW.seq ?_
  refine CW.seq ?_
  refine CW.seq ?_
  refine CW.region (ef := []) (bk := []) ?_
  refine RL.bin rfl rfl rfl rfl rfl rfl ?_
  refine RL.assign rfl rfl rfl rfl ?_
  refine RL.nil ?_
  refine NQ.seq ?_
  -- STOP: if; todo top: ["code", ["cond", ["t", 6], ["exit", 1], ["skip"]]]
  refine CW.condF rfl ((by rw [hk]; rfl)) ?_
  refine CW.skip ?_
  refine NQ.seq ?_
  refine CW.seq ?_
  refine CW.seq ?_
  refine CW.region (ef := []) (bk := []) ?_
  refine RL.bin rfl rfl rfl rfl rfl rfl ?_
  refine RL.assign rfl rfl rfl rfl ?_
  refine RL.nil ?_
  refine NQ.seq ?_
  -- STOP: if; todo top: ["code", ["cond", ["t", 8], ["exit", 2], ["skip"]]]
  refine CW.condF rfl ((by rw [hk]; rfl)) ?_
  refine CW.skip ?_
  refine NQ.seq ?_
  refine CW.only (.cons (k := 0) rfl (.cons (k := 3) rfl (.cons (k := 5) rfl .nil))) ?_
  refine CW.seq ?_
  refine CW.seq ?_
  refine CW.region (ef := []) (bk := []) ?_
  refine RL.bin rfl rfl rfl rfl rfl rfl ?_
  refine RL.assign rfl rfl rfl rfl ?_
  refine RL.nil ?_
  refine NQ.seq ?_
  -- STOP: if; todo top: ["code", ["cond", ["t", 10], ["exit", 3], ["skip"]]]
  refine CW.condF rfl ((by rw [hk]; rfl)) ?_
  refine CW.skip ?_
  refine NQ.seq ?_
  refine CW.seq ?_
  refine CW.seq ?_
  refine CW.region (ef := []) (bk := []) ?_
  refine RL.bin rfl rfl rfl rfl rfl rfl ?_
  refine RL.assign rfl rfl rfl rfl ?_
  refine RL.nil ?_
  refine NQ.seq ?_
  -- STOP: if; todo top: ["code", ["cond", ["t", 12], ["exit", 4], ["skip"]]]
  refine CW.condF rfl ((by rw [hk]; rfl)) ?_
  refine CW.skip ?_
  refine NQ.seq ?_
  refine CW.seq ?_
  refine CW.seq ?_
  refine CW.region (ef := []) (bk := []) ?_
  refine RL.bin rfl rfl rfl rfl rfl rfl ?_
  refine RL.assign rfl rfl rfl rfl ?_
  refine RL.nil ?_
  refine NQ.seq ?_
  -- STOP: if; todo top: ["code", ["cond", ["t", 14], ["exit", 5], ["skip"]]]
  refine CW.condF rfl ((by rw [hk]; rfl)) ?_
  refine CW.skip ?_
  refine NQ.seq ?_
  refine CW.only (.cons (k := 0) rfl (.cons (k := 3) rfl (.cons (k := 5) rfl .nil))) ?_
  refine CW.seq ?_
  refine CW.seq ?_
  refine CW.region (ef := []) (bk := []) ?_
  refine RL.bin rfl rfl rfl rfl rfl rfl ?_
  refine RL.assign rfl rfl rfl rfl ?_
  refine RL.nil ?_
  refine NQ.seq ?_
  -- STOP: if; todo top: ["code", ["cond", ["t", 16], ["exit", 6], ["skip"]]]
  refine CW.condF rfl ((by rw [hk]; rfl)) ?_
  refine CW.skip ?_
  refine NQ.seq ?_
  refine CW.seq ?_
  refine CW.seq ?_
  refine CW.region (ef := []) (bk := []) ?_
  refine RL.bin rfl rfl rfl rfl rfl rfl ?_
  refine RL.assign rfl rfl rfl rfl ?_
  refine RL.nil ?_
  refine NQ.seq ?_
  -- STOP: if; todo top: ["code", ["cond", ["t", 18], ["exit", 7], ["skip"]]]
  refine CW.condF rfl ((by rw [hk]; rfl)) ?_
  refine CW.skip ?_
  refine NQ.seq ?_
  refine CW.seq ?_
  refine CW.seq ?_
  refine CW.region (ef := []) (bk := []) ?_
  refine RL.bin rfl rfl rfl rfl rfl rfl ?_
  refine RL.assign rfl rfl rfl rfl ?_
  refine RL.nil ?_
  refine NQ.seq ?_
  -- STOP: if; todo top: ["code", ["cond", ["t", 20], ["exit", 8], ["skip"]]]
  refine CW.condF rfl ((by rw [hk]; rfl)) ?_
  refine CW.skip ?_
  refine NQ.seq ?_
  refine CW.only (.cons (k := 0) rfl (.cons (k := 3) rfl (.cons (k := 5) rfl .nil))) ?_
  refine CW.seq ?_
  refine CW.seq ?_
  refine CW.region (ef := []) (bk := []) ?_
  refine RL.bin rfl rfl rfl rfl rfl rfl ?_
  refine RL.assign rfl rfl rfl rfl ?_
  refine RL.nil ?_
  refine NQ.seq ?_
  -- STOP: if; todo top: ["code", ["cond", ["t", 22], ["exit", 9], ["skip"]]]
  refine CW.condT rfl ((by rw [hk]; rfl)) ?_
  refine CW.exit ?_
  refine XQ.seq ?_
  refine XQ.seq ?_
  refine XQ.miss rfl ?_
  refine XQ.seq ?_
  refine XQ.miss rfl ?_
  refine XQ.seq ?_
  refine XQ.miss rfl ?_
  refine XQ.seq ?_
  refine XQ.miss rfl ?_
  refine XQ.seq ?_
  refine XQ.miss rfl ?_
  refine XQ.seq ?_
  refine XQ.miss rfl ?_
  refine XQ.seq ?_
  refine XQ.miss rfl ?_
  refine XQ.seq ?_
  refine XQ.miss rfl ?_
  refine XQ.seq ?_
  refine XQ.hit ?_
  refine NQ.seq ?_
  refine CW.seq ?_
  refine CW.region (ef := [4]) (bk := [4]) ?_
  refine RL.move rfl rfl rfl rfl ?_
  refine RL.fieldAddr fa_33_16 rfl rfl rfl rfl ?_
  refine RL.load Try.isAgg5 rfl rfl rfl rfl (by first | assumption | (apply Rd.get; (solve | (repeat (first | exact List.Mem.head _ | apply List.Mem.tail))); assumption) | (apply Rd.getS; (solve | (repeat (first | exact List.Mem.head _ | apply List.Mem.tail))); assumption) | (apply Rd.getO; (solve | (repeat (first | exact List.Mem.head _ | apply List.Mem.tail))); assumption) | (apply Rd.getI; (solve | (repeat (first | exact List.Mem.head _ | apply List.Mem.tail))); assumption) | (apply Rd.cel; (solve | (repeat (first | exact List.Mem.head _ | apply List.Mem.tail))); exact rfl) | (apply Rd.celI; (solve | (repeat (first | exact List.Mem.head _ | apply List.Mem.tail))); exact rfl)) ?_
  refine RL.conv Try.runUnderlying5 Try.runUnderlying30 rfl rfl rfl rfl ?_
  -- STOP: op; op 4: d=100 ["call", ["f", 131], [["t", 96], ["t", 99], ["c", ["int", "Go.IntKind.i64", 1]]], [173, 30, 3]] guard=None (kind.go:104)
  rw [← w64_eq]
  refine RL.call (wnum_any w none 0 ([] : List B8).length 1 (w64 (r.source.toNat : Int)) ([]) rfl (by decide) (by simp [beN_length, be4_length, be8'_length]) (w64_lt _)) Try.call131 rfl rfl rfl rfl rfl (by repeat (first | exact Pick.nil | apply Pick.take | apply Pick.leave)) (by repeat (first | exact Lend.nil | (refine Lend.inI ?_ ?_; (solve | (repeat (first | exact List.Mem.head _ | apply List.Mem.tail)))) | (refine Lend.inH ?_ ?_; (solve | (repeat (first | exact List.Mem.head _ | apply List.Mem.tail)))))) (.inr rfl) ?_
  -- STOP: called; todo top: ["code", ["region", 27, [{"d": 96, "op": ["move", ["t", 0]], "ty": 173, "pos": "kind.go:104", "after": [], "guard": null}, {"d": 97, "op": ["fieldAddr", 33, ["t", 3], 16], "ty": 0, "pos": "kind.go:104
  rintro _ _ _ ⟨rfl, ob1', cp1, rfl⟩
  refine RL.nil ?_
  refine NQ.seq ?_
  refine CW.only (.cons (k := 0) rfl (.cons (k := 3) rfl .nil)) ?_
  refine CW.exit ?_
  refine XQ.miss rfl ?_
  refine XQ.seq ?_
  refine XQ.miss rfl ?_
  refine XQ.seq ?_
  refine XQ.miss rfl ?_
  refine XQ.seq ?_
  refine XQ.hit ?_
  -- STOP: end; todo top: ["N"]
  have e : ([] ++ beN 1 (w64 (r.source.toNat : Int)) : List B8) = bodyR r := by unfold bodyR; simp [hk, beN_byte]
  rw [← e]
  exact NQ.post (res0 rfl) (.keep (.keep (Split.none _))) ⟨rfl, _, _, rfl⟩
theorem wput_13 (w : Nat) (r : Rdg) (hk : r.kind = 13) (hr : r.Ok) : Spc Try.prog 81 #[.pointer (some ⟨w, 0, none⟩), .agg r.cells.toArray] [] [wrt w none 0 0, own none 0 5 1 0 []] (WrR w (bodyR r)) := by
  refine Spc.enter Try.func81 rfl rfl rfl (fun w0 hw0 => ?_)
  refine CW.seq ?_
  refine CW.region (ef := [0]) (bk := []) ?_
  refine RL.box rfl rfl rfl rfl rfl rfl ?_
  intro b1
  refine RL.nil ?_
  refine NQ.seq ?_
  refine CW.seq ?_
  refine CW.region (ef := []) (bk := []) ?_
  refine RL.fieldAddr fa_33_0 rfl rfl rfl rfl ?_
  refine RL.load Try.isAgg3 rfl rfl rfl rfl (by first | assumption | (apply Rd.get; (solve | (repeat (first | exact List.Mem.head _ | apply List.Mem.tail))); assumption) | (apply Rd.getS; (solve | (repeat (first | exact List.Mem.head _ | apply List.Mem.tail))); assumption) | (apply Rd.getO; (solve | (repeat (first | exact List.Mem.head _ | apply List.Mem.tail))); assumption) | (apply Rd.getI; (solve | (repeat (first | exact List.Mem.head _ | apply List.Mem.tail))); assumption) | (apply Rd.cel; (solve | (repeat (first | exact List.Mem.head _ | apply List.Mem.tail))); exact rfl) | (apply Rd.celI; (solve | (repeat (first | exact List.Mem.head _ | apply List.Mem.tail))); exact rfl)) ?_
  refine RL.nil ?_
  refine NQ.seq ?_
  refine CW.block ?_
  refine CW.seq ?_
  refine CW.block ?_
  refine CW.seq ?_
  refine CW.block ?_
  refine CW.seq ?_
  refine CW.block ?_
  refine CW.seq ?_
  refine CW.block ?_
  refine CW.seq ?_
  refine CW.block ?_
  refine CW.seq ?_
  refine CW.block ?_
  refine CW.seq ?_
  refine CW.block ?_
  refine CW.seq ?_
  refine CW.block ?_
  refine CW.seq ?_
  refine CW.block ?_
  refine CW.seq ?_
  refine CW.block ?_
  refine CW.seq ?_
  refine CW.block ?_
  refine CW.seq ?_
  refine CW.block ?_
  refine CW.seq ?_
  refine CW.seq ?_
  refine CW.seq ?_
  refine CW.region (ef := []) (bk := []) ?_
  refine RL.bin rfl rfl rfl rfl rfl rfl ?_
  refine RL.assign rfl rfl rfl rfl ?_
  refine RL.nil ?_
  refine NQ.seq ?_
  -- STOP: if; todo top: ["code", ["cond", ["t", 6], ["exit", 1], ["skip"]]]
  refine CW.condF rfl ((by rw [hk]; rfl)) ?_
  refine CW.skip ?_
  refine NQ.seq ?_
  refine CW.seq ?_
  refine CW.seq ?_
  refine CW.region (ef := []) (bk := []) ?_
  refine RL.bin rfl rfl rfl rfl rfl rfl ?_
  refine RL.assign rfl rfl rfl rfl ?_
  refine RL.nil ?_
  refine NQ.seq ?_
  -- STOP: if; todo top: ["code", ["cond", ["t", 8], ["exit", 2], ["skip"]]]
  refine CW.condF rfl ((by rw [hk]; rfl)) ?_
  refine CW.skip ?_
  refine NQ.seq ?_
  refine CW.only (.cons (k := 0) rfl (.cons (k := 3) rfl (.cons (k := 5) rfl .nil))) ?_
  refine CW.seq ?_
  refine CW.seq ?_
  refine CW.region (ef := []) (bk := []) ?_
  refine RL.bin rfl rfl rfl rfl rfl rfl ?_
  refine RL.assign rfl rfl rfl rfl ?_
  refine RL.nil ?_
  refine NQ.seq ?_
  -- STOP: if; todo top: ["code", ["cond", ["t", 10], ["exit", 3], ["skip"]]]
  refine CW.condF rfl ((by rw [hk]; rfl)) ?_
  refine CW.skip ?_
  refine NQ.seq ?_
  refine CW.seq ?_
  refine CW.seq ?_
  refine CW.region (ef := []) (bk := []) ?_
  refine RL.bin rfl rfl rfl rfl rfl rfl ?_
  refine RL.assign rfl rfl rfl rfl ?_
  refine RL.nil ?_
  refine NQ.seq ?_
  -- STOP: if; todo top: ["code", ["cond", ["t", 12], ["exit", 4], ["skip"]]]
  refine CW.condF rfl ((by rw [hk]; rfl)) ?_
  refine CW.skip ?_
  refine NQ.seq ?_
  refine CW.seq ?_
  refine CW.seq ?_
  refine CW.region (ef := []) (bk := []) ?_
  refine RL.bin rfl rfl rfl rfl rfl rfl ?_
  refine RL.assign rfl rfl rfl rfl ?_
  refine RL.nil ?_
  refine NQ.seq ?_
  -- STOP: if; todo top: ["code", ["cond", ["t", 14], ["exit", 5], ["skip"]]]
  refine CW.condF rfl ((by rw [hk]; rfl)) ?_
  refine CW.skip ?_
  refine NQ.seq ?_
  refine CW.only (.cons (k := 0) rfl (.cons (k := 3) rfl (.cons (k := 5) rfl .nil))) ?_
  refine CW.seq ?_
  refine CW.seq ?_
  refine CW.region (ef := []) (bk := []) ?_
  refine RL.bin rfl rfl rfl rfl rfl rfl ?_
  refine RL.assign rfl rfl rfl rfl ?_
  refine RL.nil ?_
  refine NQ.seq ?_
  -- STOP: if; todo top: ["code", ["cond", ["t", 16], ["exit", 6], ["skip"]]]
  refine CW.condF rfl ((by rw [hk]; rfl)) ?_
  refine CW.skip ?_
  refine NQ.seq ?_
  refine CW.seq ?_
  refine CW.seq ?_
  refine CW.region (ef := []) (bk := []) ?_
  refine RL.bin rfl rfl rfl rfl rfl rfl ?_
  refine RL.assign rfl rfl rfl rfl ?_
  refine RL.nil ?_
  refine NQ.seq ?_
  -- STOP: if; todo top: ["code", ["cond", ["t", 18], ["exit", 7], ["skip"]]]
  refine CW.condF rfl ((by rw [hk]; rfl)) ?_
  refine CW.skip ?_
  refine NQ.seq ?_
  refine CW.seq ?_
  refine CW.seq ?_
  refine CW.region (ef := []) (bk := []) ?_
  refine RL.bin rfl rfl rfl rfl rfl rfl ?_
  refine RL.assign rfl rfl rfl rfl ?_
  refine RL.nil ?_
  refine NQ.seq ?_
  -- STOP: if; todo top: ["code", ["cond", ["t", 20], ["exit", 8], ["skip"]]]
  refine CW.condF rfl ((by rw [hk]; rfl)) ?_
  refine CW.skip ?_
  refine NQ.seq ?_
  refine CW.only (.cons (k := 0) rfl (.cons (k := 3) rfl (.cons (k := 5) rfl .nil))) ?_
  refine CW.seq ?_
  refine CW.seq ?_
  refine CW.region (ef := []) (bk := []) ?_
  refine RL.bin rfl rfl rfl rfl rfl rfl ?_
  refine RL.assign rfl rfl rfl rfl ?_
  refine RL.nil ?_
  refine NQ.seq ?_
  -- STOP: if; todo top: ["code", ["cond", ["t", 22], ["exit", 9], ["skip"]]]
  refine CW.condF rfl ((by rw [hk]; rfl)) ?_
  refine CW.skip ?_
  refine NQ.seq ?_
  refine CW.seq ?_
  refine CW.seq ?_
  refine CW.region (ef := []) (bk := []) ?_
  refine RL.bin rfl rfl rfl rfl rfl rfl ?_
  refine RL.assign rfl rfl rfl rfl ?_
  refine RL.nil ?_
  refine NQ.seq ?_
  -- STOP: if; todo top: ["code", ["cond", ["t", 24], ["exit", 10], ["skip"]]]
  refine CW.condT rfl ((by rw [hk]; rfl)) ?_
  refine CW.exit ?_
  refine XQ.seq ?_
  refine XQ.seq ?_
  refine XQ.miss rfl ?_
  refine XQ.seq ?_
  refine XQ.miss rfl ?_
  refine XQ.seq ?_
  refine XQ.miss rfl ?_
  refine XQ.seq ?_
  refine XQ.miss rfl ?_
  refine XQ.seq ?_
  refine XQ.miss rfl ?_
  refine XQ.seq ?_
  refine XQ.miss rfl ?_
  refine XQ.seq ?_
  refine XQ.miss rfl ?_
  refine XQ.seq ?_
  refine XQ.miss rfl ?_
  refine XQ.seq ?_
  refine XQ.miss rfl ?_
  refine XQ.seq ?_
  refine XQ.hit ?_
  refine NQ.seq ?_
  refine CW.seq ?_
  refine CW.seq ?_
  refine CW.region (ef := [4]) (bk := [4]) ?_
  refine RL.move rfl rfl rfl rfl ?_
  refine RL.fieldAddr fa_33_12 rfl rfl rfl rfl ?_
  refine RL.load Try.isAgg5 rfl rfl rfl rfl (by first | assumption | (apply Rd.get; (solve | (repeat (first | exact List.Mem.head _ | apply List.Mem.tail))); assumption) | (apply Rd.getS; (solve | (repeat (first | exact List.Mem.head _ | apply List.Mem.tail))); assumption) | (apply Rd.getO; (solve | (repeat (first | exact List.Mem.head _ | apply List.Mem.tail))); assumption) | (apply Rd.getI; (solve | (repeat (first | exact List.Mem.head _ | apply List.Mem.tail))); assumption) | (apply Rd.cel; (solve | (repeat (first | exact List.Mem.head _ | apply List.Mem.tail))); exact rfl) | (apply Rd.celI; (solve | (repeat (first | exact List.Mem.head _ | apply List.Mem.tail))); exact rfl)) ?_
  refine RL.conv Try.runUnderlying5 Try.runUnderlying30 rfl rfl rfl rfl ?_
  -- STOP: op; op 4: d=105 ["call", ["f", 131], [["t", 101], ["t", 104], ["c", ["int", "Go.IntKind.i64", 1]]], [173, 30, 3]] guard=None (kind.go:106)
  rw [← w64_eq]
  refine RL.call (wnum_any w none 0 ([] : List B8).length 1 (w64 (r.mode.toNat : Int)) ([]) rfl (by decide) (by simp [beN_length, be4_length, be8'_length]) (w64_lt _)) Try.call131 rfl rfl rfl rfl rfl (by repeat (first | exact Pick.nil | apply Pick.take | apply Pick.leave)) (by repeat (first | exact Lend.nil | (refine Lend.inI ?_ ?_; (solve | (repeat (first | exact List.Mem.head _ | apply List.Mem.tail)))) | (refine Lend.inH ?_ ?_; (solve | (repeat (first | exact List.Mem.head _ | apply List.Mem.tail)))))) (.inr rfl) ?_
  -- STOP: called; todo top: ["code", ["region", 28, [{"d": 101, "op": ["move", ["t", 0]], "ty": 173, "pos": "kind.go:106", "after": [], "guard": null}, {"d": 102, "op": ["fieldAddr", 33, ["t", 3], 12], "ty": 0, "pos": "kind.go:1
  rintro _ _ _ ⟨rfl, ob1', cp1, rfl⟩
  refine RL.nil ?_
  refine NQ.seq ?_
  refine CW.only (.cons (k := 0) rfl (.cons (k := 3) rfl .nil)) ?_
  refine CW.seq ?_
  refine CW.region (ef := [3]) (bk := [3]) ?_
  refine RL.move rfl rfl rfl rfl ?_
  refine RL.fieldAddr fa_33_9 rfl rfl rfl rfl ?_
  refine RL.sliceAll Try.runUnderlying27 Try.sizeOf24 (by decide) rfl rfl rfl rfl ?_
  -- STOP: op; op 3: d=109 ["call", ["f", 130], [["t", 106], ["t", 108]], [173, 248]] guard=None (kind.go:107)
  refine RL.call (wfix_any w ob1' (some ⟨b1, 0 + 13, none⟩) cp1 ([] ++ beN 1 (w64 (r.mode.toNat : Int)) : List B8).length 3 3 ([] ++ beN 1 (w64 (r.mode.toNat : Int))) [r.p0, r.p1, r.p2] rfl rfl (by decide) (by simp [beN_length, be4_length, be8'_length]) (by simp only [List.mem_cons, List.not_mem_nil, or_false]; rintro x (rfl | rfl | rfl) <;> first | exact wf_i64 hr.p0 | exact wf_i64 hr.p1 | exact wf_i64 hr.p2)) Try.call130 rfl rfl rfl rfl rfl (by repeat (first | exact Pick.nil | apply Pick.take | apply Pick.leave)) (Lend.cel (off := 0 + 13) (cs := r.cells) (by repeat (first | exact List.Mem.head _ | apply List.Mem.tail)) rfl (pre3 rfl rfl rfl) .nil) (.inr rfl) ?_
  -- STOP: called; todo top: ["code", ["region", 29, [{"d": 106, "op": ["move", ["t", 0]], "ty": 173, "pos": "kind.go:107", "after": [], "guard": null}, {"d": 107, "op": ["fieldAddr", 33, ["t", 3], 9], "ty": 0, "pos": "kind.go:10
  rintro _ _ _ ⟨rfl, ob2', cp2, rfl⟩
  refine RL.nil ?_
  refine NQ.seq ?_
  refine CW.seq ?_
  refine CW.region (ef := [3, 4]) (bk := [4]) ?_
  refine RL.move rfl rfl rfl rfl ?_
  refine RL.fieldAddr fa_33_14 rfl rfl rfl rfl ?_
  refine RL.load Try.isAgg24 rfl rfl rfl rfl (by first | assumption | (apply Rd.get; (solve | (repeat (first | exact List.Mem.head _ | apply List.Mem.tail))); assumption) | (apply Rd.getS; (solve | (repeat (first | exact List.Mem.head _ | apply List.Mem.tail))); assumption) | (apply Rd.getO; (solve | (repeat (first | exact List.Mem.head _ | apply List.Mem.tail))); assumption) | (apply Rd.getI; (solve | (repeat (first | exact List.Mem.head _ | apply List.Mem.tail))); assumption) | (apply Rd.cel; (solve | (repeat (first | exact List.Mem.head _ | apply List.Mem.tail))); exact rfl) | (apply Rd.celI; (solve | (repeat (first | exact List.Mem.head _ | apply List.Mem.tail))); exact rfl)) ?_
  refine RL.buildSlice [_] Try.runUnderlying248 Try.sizeOf24 Try.zeroValue24 rfl rfl (by decide) (by decide) rfl rfl rfl rfl rfl rfl ?_
  intro b2
  -- STOP: op; op 4: d=114 ["call", ["f", 130], [["t", 110], ["t", 113]], [173, 248]] guard=None (kind.go:108)
  refine RL.call (wfix_any w ob2' (some ⟨b2, 0, none⟩) cp2 ([] ++ beN 1 (w64 (r.mode.toNat : Int)) ++ [r.p0, r.p1, r.p2].flatMap be8' : List B8).length 1 1 ([] ++ beN 1 (w64 (r.mode.toNat : Int)) ++ [r.p0, r.p1, r.p2].flatMap be8') [r.bound] rfl rfl (by decide) (by simp [beN_length, be4_length, be8'_length]) (by simp only [List.mem_cons, List.not_mem_nil, or_false]; rintro x (rfl) <;> first | exact wf_i64 hr.bound)) Try.call130 rfl rfl rfl rfl rfl (by repeat (first | exact Pick.nil | apply Pick.take | apply Pick.leave)) (Lend.all (by repeat (first | exact List.Mem.head _ | apply List.Mem.tail)) rfl .nil) (.inr rfl) ?_
  -- STOP: called; todo top: ["code", ["region", 30, [{"d": 110, "op": ["move", ["t", 0]], "ty": 173, "pos": "kind.go:108", "after": [], "guard": null}, {"d": 111, "op": ["fieldAddr", 33, ["t", 3], 14], "ty": 0, "pos": "kind.go:1
  rintro _ _ _ ⟨rfl, ob3', cp3, rfl⟩
  refine RL.nil ?_
  refine NQ.seq ?_
  refine CW.only (.cons (k := 0) rfl (.cons (k := 3) rfl .nil)) ?_
  refine CW.region (ef := [4]) (bk := [4]) ?_
  refine RL.move rfl rfl rfl rfl ?_
  refine RL.fieldAddr fa_33_15 rfl rfl rfl rfl ?_
  refine RL.load Try.isAgg25 rfl rfl rfl rfl (by first | assumption | (apply Rd.get; (solve | (repeat (first | exact List.Mem.head _ | apply List.Mem.tail))); assumption) | (apply Rd.getS; (solve | (repeat (first | exact List.Mem.head _ | apply List.Mem.tail))); assumption) | (apply Rd.getO; (solve | (repeat (first | exact List.Mem.head _ | apply List.Mem.tail))); assumption) | (apply Rd.getI; (solve | (repeat (first | exact List.Mem.head _ | apply List.Mem.tail))); assumption) | (apply Rd.cel; (solve | (repeat (first | exact List.Mem.head _ | apply List.Mem.tail))); exact rfl) | (apply Rd.celI; (solve | (repeat (first | exact List.Mem.head _ | apply List.Mem.tail))); exact rfl)) ?_
  refine RL.conv Try.runUnderlying25 Try.runUnderlying30 rfl rfl rfl rfl ?_
  -- STOP: op; op 4: d=119 ["call", ["f", 131], [["t", 115], ["t", 118], ["c", ["int", "Go.IntKind.i64", 4]]], [173, 30, 3]] guard=None (kind.go:109)
  rw [← w64_eq]
  refine RL.call (wnum_any w ob3' cp3 ([] ++ beN 1 (w64 (r.mode.toNat : Int)) ++ [r.p0, r.p1, r.p2].flatMap be8' ++ [r.bound].flatMap be8' : List B8).length 4 (w64 r.flags) ([] ++ beN 1 (w64 (r.mode.toNat : Int)) ++ [r.p0, r.p1, r.p2].flatMap be8' ++ [r.bound].flatMap be8') rfl (by decide) (by simp [beN_length, be4_length, be8'_length]) (w64_lt _)) Try.call131 rfl rfl rfl rfl rfl (by repeat (first | exact Pick.nil | apply Pick.take | apply Pick.leave)) (by repeat (first | exact Lend.nil | (refine Lend.inI ?_ ?_; (solve | (repeat (first | exact List.Mem.head _ | apply List.Mem.tail)))) | (refine Lend.inH ?_ ?_; (solve | (repeat (first | exact List.Mem.head _ | apply List.Mem.tail)))))) (.inr rfl) ?_
  -- STOP: called; todo top: ["code", ["region", 31, [{"d": 115, "op": ["move", ["t", 0]], "ty": 173, "pos": "kind.go:109", "after": [], "guard": null}, {"d": 116, "op": ["fieldAddr", 33, ["t", 3], 15], "ty": 0, "pos": "kind.go:1
  rintro _ _ _ ⟨rfl, ob4', cp4, rfl⟩
  refine RL.nil ?_
  refine NQ.seq ?_
  refine CW.exit ?_
  refine XQ.miss rfl ?_
  refine XQ.seq ?_
  refine XQ.miss rfl ?_
  refine XQ.seq ?_
  refine XQ.hit ?_
  -- STOP: end; todo top: ["N"]
  have e : ([] ++ beN 1 (w64 (r.mode.toNat : Int)) ++ [r.p0, r.p1, r.p2].flatMap be8' ++ [r.bound].flatMap be8' ++ beN 4 (w64 r.flags) : List B8) = bodyR r := by unfold bodyR; simp [hk, beN_byte]
  rw [← e]
  exact NQ.post (res0 rfl) (.keep (.keep (Split.none _))) ⟨rfl, _, _, rfl⟩
theorem wput_14 (w : Nat) (r : Rdg) (hk : r.kind = 14) (hr : r.Ok) : Spc Try.prog 81 #[.pointer (some ⟨w, 0, none⟩), .agg r.cells.toArray] [] [wrt w none 0 0, own none 0 5 1 0 []] (WrR w (bodyR r)) := by
  refine Spc.enter Try.func81 rfl rfl rfl (fun w0 hw0 => ?_)
  refine CW.seq ?_
  refine CW.region (ef := [0]) (bk := []) ?_
  refine RL.box rfl rfl rfl rfl rfl rfl ?_
  intro b1
  refine RL.nil ?_
  refine NQ.seq ?_
  refine CW.seq ?_
  refine CW.region (ef := []) (bk := []) ?_
  refine RL.fieldAddr fa_33_0 rfl rfl rfl rfl ?_
  refine RL.load Try.isAgg3 rfl rfl rfl rfl (by first | assumption | (apply Rd.get; (solve | (repeat (first | exact List.Mem.head _ | apply List.Mem.tail))); assumption) | (apply Rd.getS; (solve | (repeat (first | exact List.Mem.head _ | apply List.Mem.tail))); assumption) | (apply Rd.getO; (solve | (repeat (first | exact List.Mem.head _ | apply List.Mem.tail))); assumption) | (apply Rd.getI; (solve | (repeat (first | exact List.Mem.head _ | apply List.Mem.tail))); assumption) | (apply Rd.cel; (solve | (repeat (first | exact List.Mem.head _ | apply List.Mem.tail))); exact rfl) | (apply Rd.celI; (solve | (repeat (first | exact List.Mem.head _ | apply List.Mem.tail))); exact rfl)) ?_
  refine RL.nil ?_
  refine NQ.seq ?_
  refine CW.block ?_
  refine CW.seq ?_
  refine CW.block ?_
  refine CW.seq ?_
  refine CW.block ?_
  refine CW.seq ?_
  refine CW.block ?_
  refine CW.seq ?_
  refine CW.block ?_
  refine CW.seq ?_
  refine CW.block ?_
  refine CW.seq ?_
  refine CW.block ?_
  refine CW.seq ?_
  refine CW.block ?_
  refine CW.seq ?_
  refine CW.block ?_
  refine CW.seq ?_
  refine CW.block ?_
  refine CW.seq ?_
  refine CW.block ?_
  refine CW.seq ?_
  refine CW.block ?_
  refine CW.seq ?_
  refine CW.block ?_
  refine CW.seq ?_
  refine CW.seq ?_
  refine CW.seq ?_
  refine CW.region (ef := []) (bk := []) ?_
  refine RL.bin rfl rfl rfl rfl rfl rfl ?_
  refine RL.assign rfl rfl rfl rfl ?_
  refine RL.nil ?_
  refine NQ.seq ?_
  -- STOP: if; todo top: ["code", ["cond", ["t", 6], ["exit", 1], ["skip"]]]
  refine CW.condF rfl ((by rw [hk]; rfl)) ?_
  refine CW.skip ?_
  refine NQ.seq ?_
  refine CW.seq ?_
  refine CW.seq ?_
  refine CW.region (ef := []) (bk := []) ?_
  refine RL.bin rfl rfl rfl rfl rfl rfl ?_
  refine RL.assign rfl rfl rfl rfl ?_
  refine RL.nil ?_
  refine NQ.seq ?_
  -- STOP: if; todo top: ["code", ["cond", ["t", 8], ["exit", 2], ["skip"]]]
  refine CW.condF rfl ((by rw [hk]; rfl)) ?_
  refine CW.skip ?_
  refine NQ.seq ?_
  refine CW.only (.cons (k := 0) rfl (.cons (k := 3) rfl (.cons (k := 5) rfl .nil))) ?_
  refine CW.seq ?_
  refine CW.seq ?_
  refine CW.region (ef := []) (bk := []) ?_
  refine RL.bin rfl rfl rfl rfl rfl rfl ?_
  refine RL.assign rfl rfl rfl rfl ?_
  refine RL.nil ?_
  refine NQ.seq ?_
  -- STOP: if; todo top: ["code", ["cond", ["t", 10], ["exit", 3], ["skip"]]]
  refine CW.condF rfl ((by rw [hk]; rfl)) ?_
  refine CW.skip ?_
  refine NQ.seq ?_
  refine CW.seq ?_
  refine CW.seq ?_
  refine CW.region (ef := []) (bk := []) ?_
  refine RL.bin rfl rfl rfl rfl rfl rfl ?_
  refine RL.assign rfl rfl rfl rfl ?_
  refine RL.nil ?_
  refine NQ.seq ?_
  -- STOP: if; todo top: ["code", ["cond", ["t", 12], ["exit", 4], ["skip"]]]
  refine CW.condF rfl ((by rw [hk]; rfl)) ?_
  refine CW.skip ?_
  refine NQ.seq ?_
  refine CW.seq ?_
  refine CW.seq ?_
  refine CW.region (ef := []) (bk := []) ?_
  refine RL.bin rfl rfl rfl rfl rfl rfl ?_
  refine RL.assign rfl rfl rfl rfl ?_
  refine RL.nil ?_
  refine NQ.seq ?_
  -- STOP: if; todo top: ["code", ["cond", ["t", 14], ["exit", 5], ["skip"]]]
  refine CW.condF rfl ((by rw [hk]; rfl)) ?_
  refine CW.skip ?_
  refine NQ.seq ?_
  refine CW.only (.cons (k := 0) rfl (.cons (k := 3) rfl (.cons (k := 5) rfl .nil))) ?_
  refine CW.seq ?_
  refine CW.seq ?_
  refine CW.region (ef := []) (bk := []) ?_
  refine RL.bin rfl rfl rfl rfl rfl rfl ?_
  refine RL.assign rfl rfl rfl rfl ?_
  refine RL.nil ?_
  refine NQ.seq ?_
  -- STOP: if; todo top: ["code", ["cond", ["t", 16], ["exit", 6], ["skip"]]]
  refine CW.condF rfl ((by rw [hk]; rfl)) ?_
  refine CW.skip ?_
  refine NQ.seq ?_
  refine CW.seq ?_
  refine CW.seq ?_
  refine CW.region (ef := []) (bk := []) ?_
  refine RL.bin rfl rfl rfl rfl rfl rfl ?_
  refine RL.assign rfl rfl rfl rfl ?_
  refine RL.nil ?_
  refine NQ.seq ?_
  -- STOP: if; todo top: ["code", ["cond", ["t", 18], ["exit", 7], ["skip"]]]
  refine CW.condF rfl ((by rw [hk]; rfl)) ?_
  refine CW.skip ?_
  refine NQ.seq ?_
  refine CW.seq ?_
  refine CW.seq ?_
  refine CW.region (ef := []) (bk := []) ?_
  refine RL.bin rfl rfl rfl rfl rfl rfl ?_
  refine RL.assign rfl rfl rfl rfl ?_
  refine RL.nil ?_
  refine NQ.seq ?_
  -- STOP: if; todo top: ["code", ["cond", ["t", 20], ["exit", 8], ["skip"]]]
  refine CW.condF rfl ((by rw [hk]; rfl)) ?_
  refine CW.skip ?_
  refine NQ.seq ?_
  refine CW.only (.cons (k := 0) rfl (.cons (k := 3) rfl (.cons (k := 5) rfl .nil))) ?_
  refine CW.seq ?_
  refine CW.seq ?_
  refine CW.region (ef := []) (bk := []) ?_
  refine RL.bin rfl rfl rfl rfl rfl rfl ?_
  refine RL.assign rfl rfl rfl rfl ?_
  refine RL.nil ?_
  refine NQ.seq ?_
  -- STOP: if; todo top: ["code", ["cond", ["t", 22], ["exit", 9], ["skip"]]]
  refine CW.condF rfl ((by rw [hk]; rfl)) ?_
  refine CW.skip ?_
  refine NQ.seq ?_
  refine CW.seq ?_
  refine CW.seq ?_
  refine CW.region (ef := []) (bk := []) ?_
  refine RL.bin rfl rfl rfl rfl rfl rfl ?_
  refine RL.assign rfl rfl rfl rfl ?_
  refine RL.nil ?_
  refine NQ.seq ?_
  -- STOP: if; todo top: ["code", ["cond", ["t", 24], ["exit", 10], ["skip"]]]
  refine CW.condF rfl ((by rw [hk]; rfl)) ?_
  refine CW.skip ?_
  refine NQ.seq ?_
  refine CW.seq ?_
  refine CW.seq ?_
  refine CW.region (ef := []) (bk := []) ?_
  refine RL.bin rfl rfl rfl rfl rfl rfl ?_
  refine RL.assign rfl rfl rfl rfl ?_
  refine RL.nil ?_
  refine NQ.seq ?_
  -- STOP: if; todo top: ["code", ["cond", ["t", 26], ["exit", 11], ["skip"]]]
  refine CW.condT rfl ((by rw [hk]; rfl)) ?_
  refine CW.exit ?_
  refine XQ.seq ?_
  refine XQ.seq ?_
  refine XQ.miss rfl ?_
  refine XQ.seq ?_
  refine XQ.miss rfl ?_
  refine XQ.seq ?_
  refine XQ.miss rfl ?_
  refine XQ.seq ?_
  refine XQ.miss rfl ?_
  refine XQ.seq ?_
  refine XQ.miss rfl ?_
  refine XQ.seq ?_
  refine XQ.miss rfl ?_
  refine XQ.seq ?_
  refine XQ.miss rfl ?_
  refine XQ.seq ?_
  refine XQ.miss rfl ?_
  refine XQ.seq ?_
  refine XQ.miss rfl ?_
  refine XQ.seq ?_
  refine XQ.miss rfl ?_
  refine XQ.seq ?_
  refine XQ.hit ?_
  refine NQ.seq ?_
  refine CW.only (.cons (k := 0) rfl (.cons (k := 3) rfl .nil)) ?_
  refine CW.seq ?_
  refine CW.region (ef := [4]) (bk := [4]) ?_
  refine RL.move rfl rfl rfl rfl ?_
  refine RL.fieldAddr fa_33_16 rfl rfl rfl rfl ?_
  refine RL.load Try.isAgg5 rfl rfl rfl rfl (by first | assumption | (apply Rd.get; (solve | (repeat (first | exact List.Mem.head _ | apply List.Mem.tail))); assumption) | (apply Rd.getS; (solve | (repeat (first | exact List.Mem.head _ | apply List.Mem.tail))); assumption) | (apply Rd.getO; (solve | (repeat (first | exact List.Mem.head _ | apply List.Mem.tail))); assumption) | (apply Rd.getI; (solve | (repeat (first | exact List.Mem.head _ | apply List.Mem.tail))); assumption) | (apply Rd.cel; (solve | (repeat (first | exact List.Mem.head _ | apply List.Mem.tail))); exact rfl) | (apply Rd.celI; (solve | (repeat (first | exact List.Mem.head _ | apply List.Mem.tail))); exact rfl)) ?_
  refine RL.conv Try.runUnderlying5 Try.runUnderlying30 rfl rfl rfl rfl ?_
  -- STOP: op; op 4: d=124 ["call", ["f", 131], [["t", 120], ["t", 123], ["c", ["int", "Go.IntKind.i64", 1]]], [173, 30, 3]] guard=None (kind.go:111)
  rw [← w64_eq]
  refine RL.call (wnum_any w none 0 ([] : List B8).length 1 (w64 (r.source.toNat : Int)) ([]) rfl (by decide) (by simp [beN_length, be4_length, be8'_length]) (w64_lt _)) Try.call131 rfl rfl rfl rfl rfl (by repeat (first | exact Pick.nil | apply Pick.take | apply Pick.leave)) (by repeat (first | exact Lend.nil | (refine Lend.inI ?_ ?_; (solve | (repeat (first | exact List.Mem.head _ | apply List.Mem.tail)))) | (refine Lend.inH ?_ ?_; (solve | (repeat (first | exact List.Mem.head _ | apply List.Mem.tail)))))) (.inr rfl) ?_
  -- STOP: called; todo top: ["code", ["region", 32, [{"d": 120, "op": ["move", ["t", 0]], "ty": 173, "pos": "kind.go:111", "after": [], "guard": null}, {"d": 121, "op": ["fieldAddr", 33, ["t", 3], 16], "ty": 0, "pos": "kind.go:1
  rintro _ _ _ ⟨rfl, ob1', cp1, rfl⟩
  refine RL.nil ?_
  refine NQ.seq ?_
  refine CW.seq ?_
  refine CW.region (ef := [4]) (bk := [4]) ?_
  refine RL.move rfl rfl rfl rfl ?_
  refine RL.fieldAddr fa_33_17 rfl rfl rfl rfl ?_
  refine RL.load Try.isAgg5 rfl rfl rfl rfl (by first | assumption | (apply Rd.get; (solve | (repeat (first | exact List.Mem.head _ | apply List.Mem.tail))); assumption) | (apply Rd.getS; (solve | (repeat (first | exact List.Mem.head _ | apply List.Mem.tail))); assumption) | (apply Rd.getO; (solve | (repeat (first | exact List.Mem.head _ | apply List.Mem.tail))); assumption) | (apply Rd.getI; (solve | (repeat (first | exact List.Mem.head _ | apply List.Mem.tail))); assumption) | (apply Rd.cel; (solve | (repeat (first | exact List.Mem.head _ | apply List.Mem.tail))); exact rfl) | (apply Rd.celI; (solve | (repeat (first | exact List.Mem.head _ | apply List.Mem.tail))); exact rfl)) ?_
  refine RL.conv Try.runUnderlying5 Try.runUnderlying30 rfl rfl rfl rfl ?_
  -- STOP: op; op 4: d=129 ["call", ["f", 131], [["t", 125], ["t", 128], ["c", ["int", "Go.IntKind.i64", 1]]], [173, 30, 3]] guard=None (kind.go:112)
  rw [← w64_eq]
  refine RL.call (wnum_any w ob1' cp1 ([] ++ beN 1 (w64 (r.source.toNat : Int)) : List B8).length 1 (w64 (r.state.toNat : Int)) ([] ++ beN 1 (w64 (r.source.toNat : Int))) rfl (by decide) (by simp [beN_length, be4_length, be8'_length]) (w64_lt _)) Try.call131 rfl rfl rfl rfl rfl (by repeat (first | exact Pick.nil | apply Pick.take | apply Pick.leave)) (by repeat (first | exact Lend.nil | (refine Lend.inI ?_ ?_; (solve | (repeat (first | exact List.Mem.head _ | apply List.Mem.tail)))) | (refine Lend.inH ?_ ?_; (solve | (repeat (first | exact List.Mem.head _ | apply List.Mem.tail)))))) (.inr rfl) ?_
  -- STOP: called; todo top: ["code", ["region", 33, [{"d": 125, "op": ["move", ["t", 0]], "ty": 173, "pos": "kind.go:112", "after": [], "guard": null}, {"d": 126, "op": ["fieldAddr", 33, ["t", 3], 17], "ty": 0, "pos": "kind.go:1
  rintro _ _ _ ⟨rfl, ob2', cp2, rfl⟩
  refine RL.nil ?_
  refine NQ.seq ?_
  refine CW.only (.cons (k := 0) rfl (.cons (k := 3) rfl .nil)) ?_
  refine CW.seq ?_
  refine CW.region (ef := [4]) (bk := [4]) ?_
  refine RL.move rfl rfl rfl rfl ?_
  refine RL.fieldAddr fa_33_18 rfl rfl rfl rfl ?_
  refine RL.load Try.isAgg31 rfl rfl rfl rfl (by first | assumption | (apply Rd.get; (solve | (repeat (first | exact List.Mem.head _ | apply List.Mem.tail))); assumption) | (apply Rd.getS; (solve | (repeat (first | exact List.Mem.head _ | apply List.Mem.tail))); assumption) | (apply Rd.getO; (solve | (repeat (first | exact List.Mem.head _ | apply List.Mem.tail))); assumption) | (apply Rd.getI; (solve | (repeat (first | exact List.Mem.head _ | apply List.Mem.tail))); assumption) | (apply Rd.cel; (solve | (repeat (first | exact List.Mem.head _ | apply List.Mem.tail))); exact rfl) | (apply Rd.celI; (solve | (repeat (first | exact List.Mem.head _ | apply List.Mem.tail))); exact rfl)) ?_
  refine RL.conv Try.runUnderlying31 Try.runUnderlying30 rfl rfl rfl rfl ?_
  -- STOP: op; op 4: d=134 ["call", ["f", 131], [["t", 130], ["t", 133], ["c", ["int", "Go.IntKind.i64", 2]]], [173, 30, 3]] guard=None (kind.go:113)
  rw [← w64_eq]
  refine RL.call (wnum_any w ob2' cp2 ([] ++ beN 1 (w64 (r.source.toNat : Int)) ++ beN 1 (w64 (r.state.toNat : Int)) : List B8).length 2 (w64 r.fails) ([] ++ beN 1 (w64 (r.source.toNat : Int)) ++ beN 1 (w64 (r.state.toNat : Int))) rfl (by decide) (by simp [beN_length, be4_length, be8'_length]) (w64_lt _)) Try.call131 rfl rfl rfl rfl rfl (by repeat (first | exact Pick.nil | apply Pick.take | apply Pick.leave)) (by repeat (first | exact Lend.nil | (refine Lend.inI ?_ ?_; (solve | (repeat (first | exact List.Mem.head _ | apply List.Mem.tail)))) | (refine Lend.inH ?_ ?_; (solve | (repeat (first | exact List.Mem.head _ | apply List.Mem.tail)))))) (.inr rfl) ?_
  -- STOP: called; todo top: ["code", ["region", 34, [{"d": 130, "op": ["move", ["t", 0]], "ty": 173, "pos": "kind.go:113", "after": [], "guard": null}, {"d": 131, "op": ["fieldAddr", 33, ["t", 3], 18], "ty": 0, "pos": "kind.go:1
  rintro _ _ _ ⟨rfl, ob3', cp3, rfl⟩
  refine RL.nil ?_
  refine NQ.seq ?_
  refine CW.region (ef := [3]) (bk := [3]) ?_
  refine RL.move rfl rfl rfl rfl ?_
  refine RL.fieldAddr fa_33_19 rfl rfl rfl rfl ?_
  refine RL.load Try.isAgg30 rfl rfl rfl rfl (by first | assumption | (apply Rd.get; (solve | (repeat (first | exact List.Mem.head _ | apply List.Mem.tail))); assumption) | (apply Rd.getS; (solve | (repeat (first | exact List.Mem.head _ | apply List.Mem.tail))); assumption) | (apply Rd.getO; (solve | (repeat (first | exact List.Mem.head _ | apply List.Mem.tail))); assumption) | (apply Rd.getI; (solve | (repeat (first | exact List.Mem.head _ | apply List.Mem.tail))); assumption) | (apply Rd.cel; (solve | (repeat (first | exact List.Mem.head _ | apply List.Mem.tail))); exact rfl) | (apply Rd.celI; (solve | (repeat (first | exact List.Mem.head _ | apply List.Mem.tail))); exact rfl)) ?_
  -- STOP: op; op 3: d=138 ["call", ["f", 131], [["t", 135], ["t", 137], ["c", ["int", "Go.IntKind.i64", 8]]], [173, 30, 3]] guard=None (kind.go:114)
  rw [show (Value.int .u64 r.counter) = .int .u64 ((r.counter.toNat : Nat) : Int) from congrArg _ (wf_u64 hr.counter).1]
  refine RL.call (wnum_any w ob3' cp3 ([] ++ beN 1 (w64 (r.source.toNat : Int)) ++ beN 1 (w64 (r.state.toNat : Int)) ++ beN 2 (w64 r.fails) : List B8).length 8 r.counter.toNat ([] ++ beN 1 (w64 (r.source.toNat : Int)) ++ beN 1 (w64 (r.state.toNat : Int)) ++ beN 2 (w64 r.fails)) rfl (by decide) (by simp [beN_length, be4_length, be8'_length]) (wf_u64 hr.counter).2) Try.call131 rfl rfl rfl rfl rfl (by repeat (first | exact Pick.nil | apply Pick.take | apply Pick.leave)) (by repeat (first | exact Lend.nil | (refine Lend.inI ?_ ?_; (solve | (repeat (first | exact List.Mem.head _ | apply List.Mem.tail)))) | (refine Lend.inH ?_ ?_; (solve | (repeat (first | exact List.Mem.head _ | apply List.Mem.tail)))))) (.inr rfl) ?_
  -- STOP: called; todo top: ["code", ["region", 35, [{"d": 135, "op": ["move", ["t", 0]], "ty": 173, "pos": "kind.go:114", "after": [], "guard": null}, {"d": 136, "op": ["fieldAddr", 33, ["t", 3], 19], "ty": 0, "pos": "kind.go:1
  rintro _ _ _ ⟨rfl, ob4', cp4, rfl⟩
  refine RL.nil ?_
  refine NQ.block ?_
  refine NQ.seq ?_
  refine CW.only (.cons (k := 0) rfl (.cons (k := 3) rfl .nil)) ?_
  refine CW.seq ?_
  refine CW.region (ef := [4]) (bk := [4]) ?_
  refine RL.move rfl rfl rfl rfl ?_
  refine RL.fieldAddr fa_33_13 rfl rfl rfl rfl ?_
  refine RL.load Try.isAgg25 rfl rfl rfl rfl (by first | assumption | (apply Rd.get; (solve | (repeat (first | exact List.Mem.head _ | apply List.Mem.tail))); assumption) | (apply Rd.getS; (solve | (repeat (first | exact List.Mem.head _ | apply List.Mem.tail))); assumption) | (apply Rd.getO; (solve | (repeat (first | exact List.Mem.head _ | apply List.Mem.tail))); assumption) | (apply Rd.getI; (solve | (repeat (first | exact List.Mem.head _ | apply List.Mem.tail))); assumption) | (apply Rd.cel; (solve | (repeat (first | exact List.Mem.head _ | apply List.Mem.tail))); exact rfl) | (apply Rd.celI; (solve | (repeat (first | exact List.Mem.head _ | apply List.Mem.tail))); exact rfl)) ?_
  refine RL.conv Try.runUnderlying25 Try.runUnderlying30 rfl rfl rfl rfl ?_
  -- STOP: op; op 4: d=143 ["call", ["f", 131], [["t", 139], ["t", 142], ["c", ["int", "Go.IntKind.i64", 4]]], [173, 30, 3]] guard=None (kind.go:117)
  rw [← w64_eq]
  refine RL.call (wnum_any w ob4' cp4 ([] ++ beN 1 (w64 (r.source.toNat : Int)) ++ beN 1 (w64 (r.state.toNat : Int)) ++ beN 2 (w64 r.fails) ++ beN 8 r.counter.toNat : List B8).length 4 (w64 r.epoch) ([] ++ beN 1 (w64 (r.source.toNat : Int)) ++ beN 1 (w64 (r.state.toNat : Int)) ++ beN 2 (w64 r.fails) ++ beN 8 r.counter.toNat) rfl (by decide) (by simp [beN_length, be4_length, be8'_length]) (w64_lt _)) Try.call131 rfl rfl rfl rfl rfl (by repeat (first | exact Pick.nil | apply Pick.take | apply Pick.leave)) (by repeat (first | exact Lend.nil | (refine Lend.inI ?_ ?_; (solve | (repeat (first | exact List.Mem.head _ | apply List.Mem.tail)))) | (refine Lend.inH ?_ ?_; (solve | (repeat (first | exact List.Mem.head _ | apply List.Mem.tail)))))) (.inr rfl) ?_
  -- STOP: called; todo top: ["code", ["region", 36, [{"d": 139, "op": ["move", ["t", 0]], "ty": 173, "pos": "kind.go:117", "after": [], "guard": null}, {"d": 140, "op": ["fieldAddr", 33, ["t", 3], 13], "ty": 0, "pos": "kind.go:1
  rintro _ _ _ ⟨rfl, ob5', cp5, rfl⟩
  refine RL.nil ?_
  refine NQ.seq ?_
  refine CW.only .nil ?_
  refine CW.exit ?_
  refine XQ.hit ?_
  -- STOP: end; todo top: ["N"]
  have e : ([] ++ beN 1 (w64 (r.source.toNat : Int)) ++ beN 1 (w64 (r.state.toNat : Int)) ++ beN 2 (w64 r.fails) ++ beN 8 r.counter.toNat ++ beN 4 (w64 r.epoch) : List B8) = bodyR r := by unfold bodyR; simp [hk, beN_byte]
  rw [← e]
  exact NQ.post (res0 rfl) (.keep (.keep (Split.none _))) ⟨rfl, _, _, rfl⟩
theorem wput_all (w : Nat) (r : Rdg) (hk : 1 ≤ r.kind ∧ r.kind ≤ 14) (hr : r.Ok) : Spc Try.prog 81 #[.pointer (some ⟨w, 0, none⟩), .agg r.cells.toArray] [] [wrt w none 0 0, own none 0 5 1 0 []] (WrR w (bodyR r)) := by
  have : r.kind = 1 ∨ r.kind = 2 ∨ r.kind = 3 ∨ r.kind = 4 ∨ r.kind = 5 ∨ r.kind = 6 ∨ r.kind = 7 ∨ r.kind = 8 ∨ r.kind = 9 ∨ r.kind = 10 ∨ r.kind = 11 ∨ r.kind = 12 ∨ r.kind = 13 ∨ r.kind = 14 := by omega
  rcases this with h | h | h | h | h | h | h | h | h | h | h | h | h | h
  · exact wput_1 w r h hr
  · exact wput_2 w r h hr
  · exact wput_3 w r h hr
  · exact wput_4 w r h hr
  · exact wput_5 w r h hr
  · exact wput_6 w r h hr
  · exact wput_7 w r h hr
  · exact wput_8 w r h hr
  · exact wput_9 w r h hr
  · exact wput_10 w r h hr
  · exact wput_11 w r h hr
  · exact wput_12 w r h hr
  · exact wput_13 w r h hr
  · exact wput_14 w r h hr
end Go.Proofs.Ytflpiaeffnoepaa
