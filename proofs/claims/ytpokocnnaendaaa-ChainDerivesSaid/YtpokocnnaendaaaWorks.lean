import Derived.Test.YtpokocnnaendaaaOf
import Derived.Test.YtpokocnnaendaaaPkK
import Derived.Test.YtpokocnnaendaaaAbc
namespace Go.Proofs.Ytpokocnnaendaaa
open Go.PK

def abcD : List B8 := [0xba#8, 0x78#8, 0x16#8, 0xbf#8, 0x8f#8, 0x01#8, 0xcf#8, 0xea#8, 0x41#8, 0x41#8, 0x40#8, 0xde#8, 0x5d#8, 0xae#8, 0x22#8, 0x23#8, 0xb0#8, 0x03#8, 0x61#8, 0xa3#8, 0x96#8, 0x17#8, 0x7a#8, 0x9c#8, 0xb4#8, 0x10#8, 0xff#8, 0x61#8, 0xf2#8, 0x00#8, 0x15#8, 0xad#8]
theorem abc_sha : sha [97#8, 98#8, 99#8] = abcD := by
  have h1 : after [97#8, 98#8, 99#8] = (iv, [97#8, 98#8, 99#8]) := absorb_lt (by decide)
  have h2 : ([97#8, 98#8, 99#8] : List B8) ++ padding 3 3 = abc_M := by decide +kernel
  have h3 : (absorb abc_S abc_M).1 = comp abc_S abc_M := by
    rw [absorb_ge (by decide), absorb_lt (by decide), show abc_M.take 64 = abc_M by decide +kernel]
  rw [sha, h1, fin]
  show dig (absorb abc_S ([97#8, 98#8, 99#8] ++ padding 3 3)).1 = _
  rw [h2, h3, abc_ok]
  decide +kernel

theorem dig_eq (l1 l2 : List B8) (h1 : l1.length = 32) (h2 : l2.length = 32) (x y : Operand) (w : World) : (do eqGuard .eql 27 x y (.agg (bytes l1).toArray) (.agg (bytes l2).toArray); binOp .eql 27 (.agg (bytes l1).toArray) (.agg (bytes l2).toArray) : Sem Value).run Try.prog w = .ok (.bool (l1 == l2)) w :=
  eql_arr8 (e := 5) (by kernel_rfl) (ii := Try.t5) (by kernel_rfl) (by kernel_rfl) Try.isAgg5 Try.runUnderlying5 (by kernel_rfl) l1 l2 h1 h2 w
theorem dig_ne (l1 l2 : List B8) (h1 : l1.length = 32) (h2 : l2.length = 32) (x y : Operand) (w : World) : (do eqGuard .neq 27 x y (.agg (bytes l1).toArray) (.agg (bytes l2).toArray); binOp .neq 27 (.agg (bytes l1).toArray) (.agg (bytes l2).toArray) : Sem Value).run Try.prog w = .ok (.bool (!(l1 == l2))) w :=
  neq_arr8 (e := 5) (by kernel_rfl) (ii := Try.t5) (by kernel_rfl) (by kernel_rfl) Try.isAgg5 Try.runUnderlying5 (by kernel_rfl) l1 l2 h1 h2 w

theorem works_yes : Spc Try.prog 18 #[] [] [] (Is (.bool true)) := by
  refine Spc.enter Try.func18 rfl rfl rfl (fun w0 hw0 => ?_)
  refine CW.seq ?_
  refine CW.region (ef := []) (bk := []) ?_
  refine RL.assign rfl rfl rfl rfl ?_
  refine RL.nil ?_
  refine NQ.seq ?_
  refine CW.seq ?_
  refine CW.region (ef := [0, 1, 2, 3, 4, 6, 7]) (bk := [1, 3, 7]) ?_
  refine RL.buildSlice [_, _] Try.runUnderlying23 Try.sizeOf5 Try.zeroValue5 rfl rfl (by decide) (by decide) rfl rfl rfl rfl rfl rfl ?_
  intro b1
  -- STOP: op; op 1: d=3 ["convert", 23, 23, ["t", 2]] guard=None (law.go:13)
  refine RL.stringish (e := 5) Try.runUnderlying23 Try.runUnderlying5 rfl rfl rfl rfl rfl rfl (by repeat (first | exact Pick.nil | apply Pick.take | apply Pick.leave)) rfl ?_
  refine RL.buildSlice [_] Try.runUnderlying23 Try.sizeOf5 Try.zeroValue5 rfl rfl (by decide) (by decide) rfl rfl rfl rfl rfl rfl ?_
  intro b2
  -- STOP: op; op 3: d=5 ["convert", 23, 23, ["t", 4]] guard=None (law.go:13)
  refine RL.stringish (e := 5) Try.runUnderlying23 Try.runUnderlying5 rfl rfl rfl rfl rfl rfl (by repeat (first | exact Pick.nil | apply Pick.take | apply Pick.leave)) rfl ?_
  refine RL.buildSlice [_, _] Try.runUnderlying22 Try.sizeOf23 Try.zeroValue23 rfl rfl (by decide) (by decide) rfl rfl rfl rfl rfl rfl ?_
  intro b3
  refine RL.callv (of_any (some ⟨b3, 0, none⟩) 2 [⟨some ⟨b1, 0, none⟩, 2, [97#8, 98#8]⟩, ⟨some ⟨b2, 0, none⟩, 1, [99#8]⟩] (by simp) (by simp [joined])) Try.call16 rfl rfl rfl rfl (.of (fun w hw => cel_sls (hw.h _ (List.Mem.head _)) rfl (fun j u hj => by rw [Nat.zero_add]; exact hj)) (fun c hc => .inr (mem_bss.2 ⟨_, List.Mem.head _, hc⟩)) (.inI (List.mem_cons_of_mem _ (List.Mem.head _)) (.inI (List.Mem.head _) .nil))) ?_
  refine RL.alloc Try.zeroValue27 rfl rfl rfl rfl rfl ?_
  intro b4
  -- STOP: op; op 7: d=None ["store", 27, ["t", 1], ["t", 7]] guard=None (law.go:13)
  rw [show joined [⟨some ⟨b1, 0, none⟩, 2, [97#8, 98#8]⟩, ⟨some ⟨b2, 0, none⟩, 1, [99#8]⟩] = [97#8, 98#8, 99#8] from rfl, abc_sha]
  refine RL.storeX (cs := List.replicate 32 (U8 0#8)) (cs' := bytes abcD) (vs := bytes abcD) (spl_all rfl) Try.sizeOf27 rfl rfl rfl rfl rfl rfl rfl (ones_map one8 _) (by repeat (first | exact Upd.here | apply Upd.there)) (by decide) ?_
  refine RL.nil ?_
  refine NQ.seq ?_
  refine CW.only (.cons (k := 1) rfl .nil) ?_
  refine CW.seq ?_
  refine CW.region (ef := []) (bk := []) ?_
  refine RL.idxAAt (j := 0) Try.runUnderlying27 Try.sizeOf5 rfl rfl rfl rfl rfl rfl (by decide) ?_
  refine RL.load Try.isAgg5 rfl rfl rfl rfl (by first | assumption | (apply Rd.get; (solve | (repeat (first | exact List.Mem.head _ | apply List.Mem.tail))); assumption) | (apply Rd.getS; (solve | (repeat (first | exact List.Mem.head _ | apply List.Mem.tail))); assumption) | (apply Rd.getO; (solve | (repeat (first | exact List.Mem.head _ | apply List.Mem.tail))); assumption) | (apply Rd.getI; (solve | (repeat (first | exact List.Mem.head _ | apply List.Mem.tail))); assumption) | (apply Rd.cel; (solve | (repeat (first | exact List.Mem.head _ | apply List.Mem.tail))); exact rfl) | (apply Rd.celI; (solve | (repeat (first | exact List.Mem.head _ | apply List.Mem.tail))); exact rfl)) ?_
  refine RL.bin rfl rfl rfl rfl rfl rfl ?_
  refine RL.move rfl rfl rfl rfl ?_
  -- STOP: part 11; op 4: d=12 ["indexAddr", 27, ["t", 1], ["c", ["int", "Go.IntKind.i64", 1]]] guard=[3, True] (law.go:14)
  refine RL.idxAAt (j := 1) Try.runUnderlying27 Try.sizeOf5 rfl rfl rfl rfl rfl rfl (by decide) ?_
  refine RL.load Try.isAgg5 rfl rfl rfl rfl (by first | assumption | (apply Rd.get; (solve | (repeat (first | exact List.Mem.head _ | apply List.Mem.tail))); assumption) | (apply Rd.getS; (solve | (repeat (first | exact List.Mem.head _ | apply List.Mem.tail))); assumption) | (apply Rd.getO; (solve | (repeat (first | exact List.Mem.head _ | apply List.Mem.tail))); assumption) | (apply Rd.getI; (solve | (repeat (first | exact List.Mem.head _ | apply List.Mem.tail))); assumption) | (apply Rd.cel; (solve | (repeat (first | exact List.Mem.head _ | apply List.Mem.tail))); exact rfl) | (apply Rd.celI; (solve | (repeat (first | exact List.Mem.head _ | apply List.Mem.tail))); exact rfl)) ?_
  refine RL.bin rfl rfl rfl rfl rfl rfl ?_
  refine RL.pickT rfl rfl rfl rfl rfl ?_
  refine RL.move rfl rfl rfl rfl ?_
  -- STOP: part 16; op 9: d=17 ["indexAddr", 27, ["t", 1], ["c", ["int", "Go.IntKind.i64", 30]]] guard=[8, True] (law.go:14)
  refine RL.idxAAt (j := 30) Try.runUnderlying27 Try.sizeOf5 rfl rfl rfl rfl rfl rfl (by decide) ?_
  refine RL.load Try.isAgg5 rfl rfl rfl rfl (by first | assumption | (apply Rd.get; (solve | (repeat (first | exact List.Mem.head _ | apply List.Mem.tail))); assumption) | (apply Rd.getS; (solve | (repeat (first | exact List.Mem.head _ | apply List.Mem.tail))); assumption) | (apply Rd.getO; (solve | (repeat (first | exact List.Mem.head _ | apply List.Mem.tail))); assumption) | (apply Rd.getI; (solve | (repeat (first | exact List.Mem.head _ | apply List.Mem.tail))); assumption) | (apply Rd.cel; (solve | (repeat (first | exact List.Mem.head _ | apply List.Mem.tail))); exact rfl) | (apply Rd.celI; (solve | (repeat (first | exact List.Mem.head _ | apply List.Mem.tail))); exact rfl)) ?_
  refine RL.bin rfl rfl rfl rfl rfl rfl ?_
  refine RL.pickT rfl rfl rfl rfl rfl ?_
  refine RL.move rfl rfl rfl rfl ?_
  -- STOP: part 21; op 14: d=22 ["indexAddr", 27, ["t", 1], ["c", ["int", "Go.IntKind.i64", 31]]] guard=[13, True] (law.go:14)
  refine RL.idxAAt (j := 31) Try.runUnderlying27 Try.sizeOf5 rfl rfl rfl rfl rfl rfl (by decide) ?_
  refine RL.load Try.isAgg5 rfl rfl rfl rfl (by first | assumption | (apply Rd.get; (solve | (repeat (first | exact List.Mem.head _ | apply List.Mem.tail))); assumption) | (apply Rd.getS; (solve | (repeat (first | exact List.Mem.head _ | apply List.Mem.tail))); assumption) | (apply Rd.getO; (solve | (repeat (first | exact List.Mem.head _ | apply List.Mem.tail))); assumption) | (apply Rd.getI; (solve | (repeat (first | exact List.Mem.head _ | apply List.Mem.tail))); assumption) | (apply Rd.cel; (solve | (repeat (first | exact List.Mem.head _ | apply List.Mem.tail))); exact rfl) | (apply Rd.celI; (solve | (repeat (first | exact List.Mem.head _ | apply List.Mem.tail))); exact rfl)) ?_
  refine RL.bin rfl rfl rfl rfl rfl rfl ?_
  refine RL.pickT rfl rfl rfl rfl rfl ?_
  refine RL.assign rfl rfl rfl rfl ?_
  refine RL.nil ?_
  refine NQ.seq ?_
  refine CW.only (.cons (k := 0) rfl .nil) ?_
  refine CW.ret ?_
  -- STOP: ret; end
  exact RQ.post (res1 rfl rfl) (Split.none _) ⟨rfl, rfl, rfl⟩
end Go.Proofs.Ytpokocnnaendaaa
