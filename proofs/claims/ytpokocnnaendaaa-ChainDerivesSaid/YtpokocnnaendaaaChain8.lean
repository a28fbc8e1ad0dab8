import Derived.Test.YtpokocnnaendaaaChain7
namespace Go.Proofs.Ytpokocnnaendaaa
open Go.PK
noncomputable def rText : Rdr Try.prog 9 (List B8) := Rdr.text (by kernel_rfl) (by kernel_rfl)

theorem derives_walk (k : List B8) (hk : k.length = 32) (lb : List B8) (hl : lb.length ≤ maxLen) (n : Nat) (hn : n < 18446744073709551616) : Spc Try.prog 9 #[.agg (bytes k).toArray, .string (txt lb), .int .u64 (n : Int)] [] [] (Is (.bool true)) := by
  unfold maxLen at hl
  refine Spc.enter Try.func9 rfl rfl rfl (fun w0 hw0 => ?_)
  refine CW.seq ?_
  refine CW.region (ef := [0]) (bk := []) ?_
  refine RL.box rfl rfl rfl rfl rfl rfl ?_
  intro b1
  refine RL.assign rfl rfl rfl rfl ?_
  refine RL.nil ?_
  refine NQ.seq ?_
  refine CW.seq ?_
  refine CW.region (ef := []) (bk := []) ?_
  refine RL.move rfl rfl rfl rfl ?_
  refine RL.move rfl rfl rfl rfl ?_
  refine RL.lenTxt Try.runUnderlying9 rfl rfl rfl rfl ?_
  refine RL.min rfl rfl rfl rfl rfl ?_
  -- STOP: op; op 4: d=11 ["slice", 9, ["t", 7], null, ["t", 10], null] guard=None (law.go:55)
  refine RL.sliceTxt (lo := 0) (hi := (lb.take 100).length) Try.runUnderlying9 rfl rfl rfl rfl rfl (congrArg some (by rw [List.length_take]; omega)) (by omega) (by rw [List.length_take]; omega) ?_
  rw [show (lb.drop 0).take ((lb.take 100).length - 0) = lb.take 100 by rw [List.drop_zero, Nat.sub_zero]; exact List.take_eq_take_iff.2 (by rw [List.length_take]; omega)]
  have hB : (lb.take 100).length ≤ 100 := by rw [List.length_take]; omega
  generalize lb.take 100 = l2 at hB ⊢
  refine RL.assign rfl rfl rfl rfl ?_
  refine RL.nil ?_
  refine NQ.seq ?_
  refine CW.only (.cons (k := 1) rfl (.cons (k := 2) rfl (.cons (k := 3) rfl .nil))) ?_
  refine CW.seq ?_
  refine CW.regionD (Sq.of [0, 1, 2, 3, 4, 5, 6, 7, 8, 9, 10, 11, 12]) [] [] mixed (by kernel_rfl) ?_
  refine RL.loadW Try.isAgg50 Try.sizeOf50 rfl rfl rfl rfl (by repeat (first | exact List.Mem.head _ | apply List.Mem.tail)) (by first | rfl | assumption | (simp only [List.length_map]; assumption) | (simp only [List.length_map, List.length_replicate]; done) | (simp; done)) ?_
  refine RL.move rfl rfl rfl rfl ?_
  refine RL.move rfl rfl rfl rfl ?_
  refine RL.callv (derive_any k hk l2 (by omega) n hn) Try.call33 rfl rfl rfl rfl (by repeat (first | exact Lend.nil | (refine Lend.inI ?_ ?_; (solve | (repeat (first | exact List.Mem.head _ | apply List.Mem.tail)))) | (refine Lend.inH ?_ ?_; (solve | (repeat (first | exact List.Mem.head _ | apply List.Mem.tail)))))) ?_
  refine RL.loadW Try.isAgg50 Try.sizeOf50 rfl rfl rfl rfl (by repeat (first | exact List.Mem.head _ | apply List.Mem.tail)) (by first | rfl | assumption | (simp only [List.length_map]; assumption) | (simp only [List.length_map, List.length_replicate]; done) | (simp; done)) ?_
  refine RL.move rfl rfl rfl rfl ?_
  refine RL.move rfl rfl rfl rfl ?_
  refine RL.callv (rderive_any k hk l2 (by omega) n hn) Try.call34 rfl rfl rfl rfl (by repeat (first | exact Lend.nil | (refine Lend.inI ?_ ?_; (solve | (repeat (first | exact List.Mem.head _ | apply List.Mem.tail)))) | (refine Lend.inH ?_ ?_; (solve | (repeat (first | exact List.Mem.head _ | apply List.Mem.tail)))))) ?_
  -- STOP: op; op 8: d=20 ["binOp", "Go.BinOp.eql", 50, ["t", 15], ["t", 19], 50] guard=None (law.go:56)
  refine RL.cmp rfl rfl rfl rfl rfl (key_eq _ _ (macCode_len _ _) (macCode_len _ _) _ _) ?_
  refine RL.move rfl rfl rfl rfl ?_
  -- STOP: part 21; op 10: d=22 ["call", ["f", 32], [], []] guard=[9, True] (law.go:56)
  refine RL.cast (d := 21) (v' := .bool true) rfl ((tag_beq _ _ rfl)) ?_
  refine RL.callv (works10) Try.call32 rfl rfl rfl rfl (by repeat (first | exact Lend.nil | (refine Lend.inI ?_ ?_; (solve | (repeat (first | exact List.Mem.head _ | apply List.Mem.tail)))) | (refine Lend.inH ?_ ?_; (solve | (repeat (first | exact List.Mem.head _ | apply List.Mem.tail)))))) ?_
  refine RL.pickT rfl rfl rfl rfl rfl ?_
  refine RL.assign rfl rfl rfl rfl ?_
  refine RL.nil ?_
  refine NQ.seq ?_
  refine CW.only (.cons (k := 6) rfl .nil) ?_
  refine CW.ret ?_
  -- STOP: ret; end
  exact RQ.post (res1 rfl rfl) (Split.none _) ⟨rfl, rfl, rfl⟩
theorem chainDerives_call (W : World) (k lb : List B8) (n : Int) (hk : rKey.ok k) (hl : rText.ok lb) (hn : rU64.ok n) (_ : ∀ z ∈ rKey.its k, z.A W) (_ : ∀ z ∈ rText.its lb, z.A W) (_ : ∀ z ∈ rU64.its n, z.A W) :
    Calls Try.prog 9 #[rKey.val k, rText.val lb, rU64.val n] W (fun e w' => e = .returned (.bool true) ∧ RowKit.Below W.heap.size W w') := by
  have hb := wfk_bounds (show wfk .u64 n from hn)
  simp [IntKind.min, IntKind.max, IntKind.signed, IntKind.bits] at hb
  obtain ⟨m, rfl⟩ : ∃ m : Nat, n = (m : Int) := ⟨n.toNat, by omega⟩
  exact (derives_walk k hk.1 lb hl m (by omega)).lawI (by simp)
end Go.Proofs.Ytpokocnnaendaaa
