import Derived.Test.YtpokocnnaendaaaLaw9
namespace Go.Proofs.Ytpokocnnaendaaa
open Go.PK

def nextK (k : List B8) : List B8 := sha (label ++ k)
theorem nextK_len (k : List B8) : (nextK k).length = 32 := sha_length _
def nextN (k : List B8) : Nat → List B8
  | 0 => k
  | n + 1 => nextK (nextN k n)
theorem nextN_len {k : List B8} (h : k.length = 32) : ∀ n, (nextN k n).length = 32
  | 0 => h
  | n + 1 => nextK_len _
theorem nextN_add (k : List B8) (n : Nat) : ∀ m, nextN k (n + m) = nextN (nextN k n) m
  | 0 => rfl
  | m + 1 => by rw [← Nat.add_assoc, nextN, nextN_add k n m, nextN]
/-- Keys, one behind the other. -/
def flatK (l : List (List B8)) : List Value := l.flatMap bytes
def chainL (k : List B8) (n : Nat) : List (List B8) := (List.range n).map (nextN k)
theorem chainL_len (k : List B8) (n : Nat) : (chainL k n).length = n := by simp [chainL]
theorem chainL_succ (k : List B8) (n : Nat) : chainL k (n + 1) = chainL k n ++ [nextN k n] := by simp [chainL, List.range_succ]
theorem chainL_get (k : List B8) {n i : Nat} (h : i < n) : (chainL k n)[i]? = some (nextN k i) := by simp [chainL, h]
theorem chainL_all {k : List B8} (h : k.length = 32) (n : Nat) : ∀ x ∈ chainL k n, x.length = 32 := by
  intro x hx
  obtain ⟨i, _, rfl⟩ := List.mem_map.1 hx
  exact nextN_len h i
theorem flatK_get {l : List (List B8)} (h : ∀ x ∈ l, x.length = 32) {i : Nat} {x : List B8} (hi : l[i]? = some x) : ∀ q u, (bytes x)[q]? = some u → (flatK l)[i * 32 + q]? = some u := by
  intro q u hq
  have hlt : q < 32 := by
    have := (List.getElem?_eq_some_iff.1 hq).1
    rwa [List.length_map, h x (List.mem_of_getElem? hi)] at this
  rw [flatK, get_flat (n := 32) (fun a ha => by rw [List.length_map]; exact h a ha) hi hlt]
  exact hq
theorem fill_one {zs cs : List Value} {size : Nat} (hz : zs.length = size) (hc : cs.length = size) : fillL (fun j => some (j * size, size)) (reps zs 1) [(0, .agg cs.toArray)] = some cs := by
  simp only [fillL, Value.cells, Nat.zero_mul, Nat.zero_add]
  rw [if_neg (by simp [reps, hz, hc])]
  rw [spl_all (by simp [reps, hz, hc])]
theorem key_eq (l1 l2 : List B8) (h1 : l1.length = 32) (h2 : l2.length = 32) (x y : Operand) (w : World) : (do eqGuard .eql 50 x y (.agg (bytes l1).toArray) (.agg (bytes l2).toArray); binOp .eql 50 (.agg (bytes l1).toArray) (.agg (bytes l2).toArray) : Sem Value).run Try.prog w = .ok (.bool (l1 == l2)) w :=
  eql_arr8 (e := 5) (by kernel_rfl) (ii := Try.t5) (by kernel_rfl) (by kernel_rfl) Try.isAgg5 Try.runUnderlying5 (by kernel_rfl) l1 l2 h1 h2 w
theorem key_ne (l1 l2 : List B8) (h1 : l1.length = 32) (h2 : l2.length = 32) (x y : Operand) (w : World) : (do eqGuard .neq 50 x y (.agg (bytes l1).toArray) (.agg (bytes l2).toArray); binOp .neq 50 (.agg (bytes l1).toArray) (.agg (bytes l2).toArray) : Sem Value).run Try.prog w = .ok (.bool (!(l1 == l2))) w :=
  neq_arr8 (e := 5) (by kernel_rfl) (ii := Try.t5) (by kernel_rfl) (by kernel_rfl) Try.isAgg5 Try.runUnderlying5 (by kernel_rfl) l1 l2 h1 h2 w

theorem next_any (k : List B8) (hk : k.length = 32) : Spc Try.prog 54 #[.agg (bytes k).toArray] [] [] (Is (.agg (bytes (nextK k)).toArray)) := by
  have hj : ∀ p q, joined [⟨p, 13, label⟩, ⟨q, 32, k⟩] = label ++ k := fun p q => by rw [joined_two]
  refine Spc.enter Try.func54 rfl rfl rfl (fun w0 hw0 => ?_)
  refine CW.seq ?_
  refine CW.region (ef := [0, 1]) (bk := []) ?_
  refine RL.box rfl rfl rfl rfl rfl rfl ?_
  intro b1
  refine RL.alloc (cs := List.replicate 32 (U8 0#8)) Try.zeroValue50 rfl rfl rfl rfl rfl ?_
  intro b2
  refine RL.nil ?_
  refine NQ.seq ?_
  refine CW.seq ?_
  refine CW.region (ef := [0, 1, 3, 5]) (bk := [1, 5]) ?_
  refine RL.buildSlice [_, _, _, _, _, _, _, _, _, _, _, _, _] Try.runUnderlying23 Try.sizeOf5 Try.zeroValue5 rfl rfl (by decide) (by decide) rfl rfl rfl rfl rfl rfl ?_
  intro b3
  -- STOP: op; op 1: d=4 ["convert", 23, 23, ["t", 3]] guard=None (chain.go:18)
  refine RL.stringish (e := 5) Try.runUnderlying23 Try.runUnderlying5 rfl rfl rfl rfl rfl rfl (by repeat (first | exact Pick.nil | apply Pick.take | apply Pick.leave)) rfl ?_
  refine RL.sliceAll Try.runUnderlying50 Try.sizeOf5 (by decide) rfl rfl rfl rfl ?_
  refine RL.buildSlice [_, _] Try.runUnderlying22 Try.sizeOf23 Try.zeroValue23 rfl rfl (by decide) (by decide) rfl rfl rfl rfl rfl rfl ?_
  intro b4
  refine RL.callv (of_any (some ⟨b4, 0, none⟩) 2 [⟨some ⟨b3, 0, none⟩, 13, label⟩, ⟨some ⟨b1, 0, none⟩, 32, k⟩] (by simp) (by rw [hj]; simp [hk, label])) Try.call16 rfl rfl rfl rfl (Lend.allX (by repeat (first | exact List.Mem.head _ | apply List.Mem.tail)) rfl (by simp [hk, Part.v]; rfl) (.inI (List.Mem.head _) (Lend.all (by repeat (first | exact List.Mem.head _ | apply List.Mem.tail)) (by simp) .nil))) ?_
  refine RL.storeW Try.sizeOf50 rfl rfl rfl rfl rfl rfl rfl (by first | rfl | exact ones_map one8 _ | exact ones_map (fun _ => rfl) _) (by repeat (first | exact Upd.here | apply Upd.there)) (by first | rfl | assumption | (simp only [List.length_map]; assumption) | (simp only [List.length_map, List.length_replicate, padK_len, padB_len, sha_length, dig_length, macCode_len, macTag_len, nextK_len]; done) | (simp; done)) (by first | rfl | assumption | (simp only [List.length_map]; assumption) | (simp only [List.length_map, List.length_replicate, padK_len, padB_len, sha_length, dig_length, macCode_len, macTag_len, nextK_len]; done) | (simp; done)) ?_
  refine RL.nil ?_
  refine NQ.seq ?_
  refine CW.only (.cons (k := 2) rfl .nil) ?_
  refine CW.ret ?_
  -- STOP: ret; end
  exact RQ.post (resW rfl rfl Try.isAgg50 Try.sizeOf50 (by repeat (first | exact List.Mem.head _ | apply List.Mem.tail)) (by simp [sha_length])) (Split.none _) ⟨by rw [hj]; rfl, rfl, rfl⟩
end Go.Proofs.Ytpokocnnaendaaa
