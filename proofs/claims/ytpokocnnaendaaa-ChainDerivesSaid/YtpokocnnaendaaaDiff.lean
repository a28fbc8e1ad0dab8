import Derived.Test.YtpokocnnaendaaaMac3
namespace Go.Proofs.Ytpokocnnaendaaa
open Go.PK

/-- In how many of the first places bytes differ. -/
def cnt (a b : List B8) : Nat → Nat
  | 0 => 0
  | i + 1 => cnt a b i + if a[i]? = b[i]? then 0 else 1
def diffN (a b : List B8) : Nat := cnt a b (max a.length b.length)
theorem cnt_comm (a b : List B8) : ∀ i, cnt a b i = cnt b a i
  | 0 => rfl
  | i + 1 => by simp only [cnt, cnt_comm a b i, eq_comm]
theorem cnt_le (a b : List B8) : ∀ i, cnt a b i ≤ i
  | 0 => Nat.le_refl _
  | i + 1 => by have := cnt_le a b i; simp only [cnt]; split <;> omega
theorem cnt_more (a b : List B8) (h : a.length ≤ b.length) : ∀ j, a.length + j ≤ b.length → cnt a b (a.length + j) = cnt a b a.length + j
  | 0, _ => rfl
  | j + 1, hj => by
    have ih := cnt_more a b h j (by omega)
    have : a[a.length + j]? ≠ b[a.length + j]? := by
      rw [List.getElem?_eq_none (by omega), List.getElem?_eq_getElem (by omega)]; simp
    rw [show a.length + (j + 1) = a.length + j + 1 by omega, cnt, ih, if_neg this]; omega
theorem diff_short (a b : List B8) (h : a.length ≤ b.length) : diffN a b = b.length - a.length + cnt a b a.length := by
  rw [diffN, Nat.max_eq_right h]
  have := cnt_more a b h (b.length - a.length) (by omega)
  rw [show a.length + (b.length - a.length) = b.length by omega] at this
  omega
theorem diff_comm (a b : List B8) : diffN a b = diffN b a := by rw [diffN, diffN, cnt_comm, Nat.max_comm]
theorem odd_one : ∀ z : B8, ((z.setWidth 32 + 255#32) >>> 8).toNat = if z = 0#8 then 0 else 1 := by decide
theorem diff_step (a b : List B8) (j i : Nat) (hi : i < a.length) (hib : i < b.length) (hb : j ≤ 1000000000 ∧ i ≤ 1000000000) :
    IntKind.i64.wrap ((((j + cnt a b i : Nat) : Int)) + IntKind.i64.wrap (((((a.getD i 0 ^^^ b.getD i 0).setWidth 32 + 255#32) >>> 8 : B32).toNat : Int))) = ((j + cnt a b (i + 1) : Nat) : Int) := by
  have hc := cnt_le a b i
  rw [odd_one, cnt]
  have e : (a.getD i 0 ^^^ b.getD i 0 = 0#8) ↔ a[i]? = b[i]? := by
    rw [BitVec.xor_eq_zero_iff, List.getElem?_eq_getElem hi, List.getElem?_eq_getElem hib, List.getD_eq_getElem?_getD, List.getD_eq_getElem?_getD, List.getElem?_eq_getElem hi, List.getElem?_eq_getElem hib]; simp
  by_cases h : a[i]? = b[i]?
  · rw [if_pos (e.2 h), if_pos h, IntWalk.i64_in ((0 : Nat) : Int) (by omega), IntWalk.i64_in _ (by omega)]; omega
  · rw [if_neg (fun h2 => h (e.1 h2)), if_neg h, IntWalk.i64_in ((1 : Nat) : Int) (by omega), IntWalk.i64_in _ (by omega)]; omega

theorem diff_any (p q : Option Addr) (n m c1 c2 : Nat) (a b : List B8) (hn : a.length = n) (hm : b.length = m) (hb : n ≤ 1000000) (hb2 : m ≤ 1000000) :
    Spc Try.prog 46 #[.slice p n c1, .slice q m c2] [sls p 1 n (bytes a), sls q 1 m (bytes b)] [] (Is (.int .i64 (diffN a b : Int))) := by
  subst hn; subst hm
  refine Spc.enter Try.func46 rfl rfl rfl (fun w0 hw0 => ?_)
  refine CW.seq ?_
  refine CW.region (ef := []) (bk := []) ?_
  refine RL.assign rfl rfl rfl rfl ?_
  refine RL.nil ?_
  refine NQ.seq ?_
  refine CW.seq ?_
  refine CW.seq ?_
  refine CW.region (ef := []) (bk := []) ?_
  refine RL.move rfl rfl rfl rfl ?_
  refine RL.lenS Try.runUnderlying23 rfl rfl rfl rfl ?_
  refine RL.move rfl rfl rfl rfl ?_
  refine RL.lenS Try.runUnderlying23 rfl rfl rfl rfl ?_
  refine RL.bin rfl rfl rfl rfl rfl rfl ?_
  refine RL.nil ?_
  refine NQ.seq ?_
  -- STOP: if; todo top: ["code", ["cond", ["t", 13], ["region", 2, [{"d": 14, "op": ["move", ["t", 1]], "ty": 23, "pos": "mac.go:68", "after": [], "guard": null}, {"d": 15, "op": ["move", ["t", 0]], "ty": 23, "pos": "mac.go:
  refine CW.cond rfl (fun hlt0 => ?_) (fun hlt0 => ?_)
  ·
    have hlt0 : b.length < a.length := by simp at hlt0; omega
    refine CW.fact (p := (q = none → b.length = 0) ∧ (p = none → a.length = 0)) (fun w hC => ⟨fun e => sls_nil (hC.s.i (sls q 1 b.length (bytes b)) (by repeat (first | exact List.Mem.head _ | apply List.Mem.tail))) e, fun e => sls_nil (hC.s.i (sls p 1 a.length (bytes a)) (by repeat (first | exact List.Mem.head _ | apply List.Mem.tail))) e⟩) (fun hpq => ?_)
    refine CW.region (ef := []) (bk := []) ?_
    refine RL.move rfl rfl rfl rfl ?_
    refine RL.move rfl rfl rfl rfl ?_
    refine RL.assign rfl rfl rfl rfl ?_
    refine RL.assign rfl rfl rfl rfl ?_
    refine RL.nil ?_
    refine NQ.seq ?_
    refine CW.only (.cons (k := 0) rfl (.cons (k := 1) rfl .nil)) ?_
    refine CW.seq ?_
    refine CW.region (ef := []) (bk := []) ?_
    refine RL.move rfl rfl rfl rfl ?_
    refine RL.lenS Try.runUnderlying23 rfl rfl rfl rfl ?_
    refine RL.move rfl rfl rfl rfl ?_
    refine RL.lenS Try.runUnderlying23 rfl rfl rfl rfl ?_
    -- STOP: op; op 4: d=20 ["binOp", "Go.BinOp.sub", 3, ["t", 17], ["t", 19], 3] guard=None (mac.go:70)
    refine RL.binX (v' := .int .i64 ((a.length - b.length : Nat) : Int)) rfl rfl rfl rfl rfl rfl (intV (by omega) (by omega)) ?_
    refine RL.assign rfl rfl rfl rfl ?_
    refine RL.nil ?_
    refine NQ.seq ?_
    refine CW.seq ?_
    refine CW.seq ?_
    refine CW.region (ef := []) (bk := []) ?_
    refine RL.move rfl rfl rfl rfl ?_
    refine RL.lenS Try.runUnderlying23 rfl rfl rfl rfl ?_
    refine RL.move rfl rfl rfl rfl ?_
    refine RL.nil ?_
    refine NQ.seq ?_
    refine CW.only (.cons (k := 1) rfl (.cons (k := 5) rfl (.cons (k := 21) rfl (.cons (k := 22) rfl (.cons (k := 23) rfl .nil))))) ?_
    refine CW.block ?_
    -- STOP: loop; todo top: ["code", ["loop", ["seq", ["region", 5, [{"d": 24, "op": ["binOp", "Go.BinOp.lss", 3, ["t", 23], ["t", 22], 3], "ty": 0, "pos": "mac.go:71", "after": [], "guard": null}], false], ["seq", ["cond", ["t"
    refine CW.loop (γ := Nat) (fun i => i ≤ b.length) (fun i => [(1, .slice p a.length c1), (5, .int .i64 ((a.length - b.length + cnt b a i : Nat) : Int)), (21, .slice q b.length c2), (22, .int .i64 (b.length : Int)), (23, .int .i64 (i : Int))])
      (fun _ => [sls q 1 b.length (bytes b), sls p 1 a.length (bytes a)]) (fun _ => []) (fun i => b.length - i) 0 (by omega) (.cons rfl (.cons rfl (.cons rfl (.cons rfl (.cons rfl .nil))))) (fun _ h => h.les (fun x hx => by simp at hx; rcases hx with rfl | rfl <;> simp) (Les.refl _)) ?_
    intro i hi
    refine CW.seq ?_
    refine CW.region (ef := []) (bk := []) ?_
    refine RL.bin rfl rfl rfl rfl rfl rfl ?_
    refine RL.nil ?_
    refine NQ.seq ?_
    refine CW.seq ?_
    -- STOP: if; todo top: ["code", ["cond", ["t", 24], ["skip"], ["exit", 0]]]
    refine CW.cond rfl (fun hlt => ?_) (fun hlt => ?_)
    ·
      refine CW.skip ?_
      refine NQ.seq ?_
      refine CW.seq ?_
      refine CW.block ?_
      refine CW.seq ?_
      refine CW.region (ef := []) (bk := []) ?_
      refine RL.move rfl rfl rfl rfl ?_
      -- STOP: op; op 1: d=26 ["indexAddr", 23, ["t", 21], ["t", 23]] guard=None (mac.go:71)
      have hlt : i < b.length := by simp at hlt; omega
      obtain ⟨pa, rfl⟩ := sls_some hpq.1 (by omega)
      obtain ⟨qa, rfl⟩ := sls_some hpq.2 (by omega)
      have g1 : (bytes b)[i * 1]? = some (U8 (b.getD i 0)) := by rw [Nat.mul_one]; exact bytes_get hlt
      have g2 : (bytes a)[i * 1]? = some (U8 (a.getD i 0)) := by rw [Nat.mul_one]; exact bytes_get (by omega)
      refine RL.idx (j := i) Try.runUnderlying23 Try.sizeOf5 rfl rfl rfl rfl rfl rfl hlt ?_
      -- STOP: op; op 2: d=27 ["load", 5, ["t", 26]] guard=None (mac.go:71)
      refine RL.load Try.isAgg5 rfl rfl rfl rfl (Rd.getS (List.Mem.head _) g1) ?_
      refine RL.assign rfl rfl rfl rfl ?_
      refine RL.assign rfl rfl rfl rfl ?_
      refine RL.nil ?_
      refine NQ.seq ?_
      refine CW.seq ?_
      refine CW.region (ef := []) (bk := []) ?_
      refine RL.move rfl rfl rfl rfl ?_
      refine RL.move rfl rfl rfl rfl ?_
      refine RL.move rfl rfl rfl rfl ?_
      -- STOP: op; op 3: d=31 ["indexAddr", 23, ["t", 29], ["t", 30]] guard=None (mac.go:73)
      refine RL.idx (j := i) Try.runUnderlying23 Try.sizeOf5 rfl rfl rfl rfl rfl rfl (by omega) ?_
      -- STOP: op; op 4: d=32 ["load", 5, ["t", 31]] guard=None (mac.go:73)
      refine RL.load Try.isAgg5 rfl rfl rfl rfl (Rd.getS (List.Mem.tail _ (List.Mem.head _)) g2) ?_
      refine RL.bv8 (a := _) (b := _) xor8 rfl rfl rfl rfl rfl ?_
      refine RL.widen Try.runUnderlying5 Try.runUnderlying44 rfl rfl rfl rfl ?_
      refine RL.assign rfl rfl rfl rfl ?_
      refine RL.nil ?_
      refine NQ.seq ?_
      refine CW.only (.cons (k := 1) rfl (.cons (k := 5) rfl (.cons (k := 8) rfl (.cons (k := 21) rfl (.cons (k := 22) rfl (.cons (k := 23) rfl .nil)))))) ?_
      refine CW.region (ef := []) (bk := []) ?_
      refine RL.move rfl rfl rfl rfl ?_
      refine RL.move rfl rfl rfl rfl ?_
      -- STOP: op; op 2: d=37 ["binOp", "Go.BinOp.add", 44, ["t", 36], ["c", ["int", "Go.IntKind.u32", 255]], 44] guard=None (mac.go:74)
      refine RL.bv32 (a := _) (b := 255#32) add32 rfl rfl rfl rfl rfl ?_
      refine RL.shr32 8 rfl rfl rfl rfl rfl rfl (by decide) ?_
      refine RL.conv Try.runUnderlying44 Try.runUnderlying3 rfl rfl rfl rfl ?_
      -- STOP: op; op 5: d=40 ["binOp", "Go.BinOp.add", 3, ["t", 35], ["t", 39], 3] guard=None (mac.go:74)
      refine RL.binX (v' := .int .i64 ((a.length - b.length + cnt b a (i + 1) : Nat) : Int)) rfl rfl rfl rfl rfl rfl (congrArg _ (diff_step b a _ _ hlt (by omega) (by omega))) ?_
      refine RL.assign rfl rfl rfl rfl ?_
      refine RL.nil ?_
      refine NQ.block ?_
      refine NQ.seq ?_
      refine CW.only (.cons (k := 1) rfl (.cons (k := 5) rfl (.cons (k := 21) rfl (.cons (k := 22) rfl (.cons (k := 23) rfl .nil))))) ?_
      refine CW.region (ef := []) (bk := []) ?_
      -- STOP: op; op 0: d=41 ["binOp", "Go.BinOp.add", 3, ["t", 23], ["c", ["int", "Go.IntKind.i64", 1]], 3] guard=None (mac.go:71)
      refine RL.bin rfl rfl rfl rfl rfl rfl ?_
      refine RL.move rfl rfl rfl rfl ?_
      refine RL.nil ?_
      -- STOP: round; todo top: ["N"]
      exact NQ.round (g := i) (i + 1) hlt (by omega) (.cons rfl (.cons rfl (.cons rfl (.cons rfl (.cons (by rw [IntWalk.i64_in _ (by omega)]; rfl) .nil))))) (fun _ h => h)
    ·
      refine CW.exit ?_
      refine XQ.seq ?_
      refine XQ.seq ?_
      refine XQ.hit ?_
      refine NQ.seq ?_
      refine CW.seq ?_
      refine CW.region (ef := []) (bk := []) ?_
      refine RL.move rfl rfl rfl rfl ?_
      refine RL.assign rfl rfl rfl rfl ?_
      refine RL.nil ?_
      refine NQ.seq ?_
      refine CW.only (.cons (k := 4) rfl .nil) ?_
      refine CW.ret ?_
      -- STOP: ret; end
      have hil : i = b.length := by simp at hlt; omega
      subst hil
      exact RQ.post (res1 rfl rfl) (Split.none _) ⟨by rw [diff_comm, diff_short b a (by omega)], rfl, rfl⟩
  ·
    have hlt0 : a.length ≤ b.length := by simp at hlt0; omega
    refine CW.fact (p := (p = none → a.length = 0) ∧ (q = none → b.length = 0)) (fun w hC => ⟨fun e => sls_nil (hC.s.i (sls p 1 a.length (bytes a)) (by repeat (first | exact List.Mem.head _ | apply List.Mem.tail))) e, fun e => sls_nil (hC.s.i (sls q 1 b.length (bytes b)) (by repeat (first | exact List.Mem.head _ | apply List.Mem.tail))) e⟩) (fun hpq => ?_)
    refine CW.skip ?_
    refine NQ.seq ?_
    refine CW.only (.cons (k := 0) rfl (.cons (k := 1) rfl .nil)) ?_
    refine CW.seq ?_
    refine CW.region (ef := []) (bk := []) ?_
    refine RL.move rfl rfl rfl rfl ?_
    refine RL.lenS Try.runUnderlying23 rfl rfl rfl rfl ?_
    refine RL.move rfl rfl rfl rfl ?_
    refine RL.lenS Try.runUnderlying23 rfl rfl rfl rfl ?_
    -- STOP: op; op 4: d=20 ["binOp", "Go.BinOp.sub", 3, ["t", 17], ["t", 19], 3] guard=None (mac.go:70)
    refine RL.binX (v' := .int .i64 ((b.length - a.length : Nat) : Int)) rfl rfl rfl rfl rfl rfl (intV (by omega) (by omega)) ?_
    refine RL.assign rfl rfl rfl rfl ?_
    refine RL.nil ?_
    refine NQ.seq ?_
    refine CW.seq ?_
    refine CW.seq ?_
    refine CW.region (ef := []) (bk := []) ?_
    refine RL.move rfl rfl rfl rfl ?_
    refine RL.lenS Try.runUnderlying23 rfl rfl rfl rfl ?_
    refine RL.move rfl rfl rfl rfl ?_
    refine RL.nil ?_
    refine NQ.seq ?_
    refine CW.only (.cons (k := 1) rfl (.cons (k := 5) rfl (.cons (k := 21) rfl (.cons (k := 22) rfl (.cons (k := 23) rfl .nil))))) ?_
    refine CW.block ?_
    -- STOP: loop; todo top: ["code", ["loop", ["seq", ["region", 5, [{"d": 24, "op": ["binOp", "Go.BinOp.lss", 3, ["t", 23], ["t", 22], 3], "ty": 0, "pos": "mac.go:71", "after": [], "guard": null}], false], ["seq", ["cond", ["t"
    refine CW.loop (γ := Nat) (fun i => i ≤ a.length) (fun i => [(1, .slice q b.length c2), (5, .int .i64 ((b.length - a.length + cnt a b i : Nat) : Int)), (21, .slice p a.length c1), (22, .int .i64 (a.length : Int)), (23, .int .i64 (i : Int))])
      (fun _ => [sls p 1 a.length (bytes a), sls q 1 b.length (bytes b)]) (fun _ => []) (fun i => a.length - i) 0 (by omega) (.cons rfl (.cons rfl (.cons rfl (.cons rfl (.cons rfl .nil))))) (fun _ h => h.les (fun x hx => by simp at hx; rcases hx with rfl | rfl <;> simp) (Les.refl _)) ?_
    intro i hi
    refine CW.seq ?_
    refine CW.region (ef := []) (bk := []) ?_
    refine RL.bin rfl rfl rfl rfl rfl rfl ?_
    refine RL.nil ?_
    refine NQ.seq ?_
    refine CW.seq ?_
    -- STOP: if; todo top: ["code", ["cond", ["t", 24], ["skip"], ["exit", 0]]]
    refine CW.cond rfl (fun hlt => ?_) (fun hlt => ?_)
    ·
      refine CW.skip ?_
      refine NQ.seq ?_
      refine CW.seq ?_
      refine CW.block ?_
      refine CW.seq ?_
      refine CW.region (ef := []) (bk := []) ?_
      refine RL.move rfl rfl rfl rfl ?_
      -- STOP: op; op 1: d=26 ["indexAddr", 23, ["t", 21], ["t", 23]] guard=None (mac.go:71)
      have hlt : i < a.length := by simp at hlt; omega
      obtain ⟨pa, rfl⟩ := sls_some hpq.1 (by omega)
      obtain ⟨qa, rfl⟩ := sls_some hpq.2 (by omega)
      have g1 : (bytes a)[i * 1]? = some (U8 (a.getD i 0)) := by rw [Nat.mul_one]; exact bytes_get hlt
      have g2 : (bytes b)[i * 1]? = some (U8 (b.getD i 0)) := by rw [Nat.mul_one]; exact bytes_get (by omega)
      refine RL.idx (j := i) Try.runUnderlying23 Try.sizeOf5 rfl rfl rfl rfl rfl rfl hlt ?_
      -- STOP: op; op 2: d=27 ["load", 5, ["t", 26]] guard=None (mac.go:71)
      refine RL.load Try.isAgg5 rfl rfl rfl rfl (Rd.getS (List.Mem.head _) g1) ?_
      refine RL.assign rfl rfl rfl rfl ?_
      refine RL.assign rfl rfl rfl rfl ?_
      refine RL.nil ?_
      refine NQ.seq ?_
      refine CW.seq ?_
      refine CW.region (ef := []) (bk := []) ?_
      refine RL.move rfl rfl rfl rfl ?_
      refine RL.move rfl rfl rfl rfl ?_
      refine RL.move rfl rfl rfl rfl ?_
      -- STOP: op; op 3: d=31 ["indexAddr", 23, ["t", 29], ["t", 30]] guard=None (mac.go:73)
      refine RL.idx (j := i) Try.runUnderlying23 Try.sizeOf5 rfl rfl rfl rfl rfl rfl (by omega) ?_
      -- STOP: op; op 4: d=32 ["load", 5, ["t", 31]] guard=None (mac.go:73)
      refine RL.load Try.isAgg5 rfl rfl rfl rfl (Rd.getS (List.Mem.tail _ (List.Mem.head _)) g2) ?_
      refine RL.bv8 (a := _) (b := _) xor8 rfl rfl rfl rfl rfl ?_
      refine RL.widen Try.runUnderlying5 Try.runUnderlying44 rfl rfl rfl rfl ?_
      refine RL.assign rfl rfl rfl rfl ?_
      refine RL.nil ?_
      refine NQ.seq ?_
      refine CW.only (.cons (k := 1) rfl (.cons (k := 5) rfl (.cons (k := 8) rfl (.cons (k := 21) rfl (.cons (k := 22) rfl (.cons (k := 23) rfl .nil)))))) ?_
      refine CW.region (ef := []) (bk := []) ?_
      refine RL.move rfl rfl rfl rfl ?_
      refine RL.move rfl rfl rfl rfl ?_
      -- STOP: op; op 2: d=37 ["binOp", "Go.BinOp.add", 44, ["t", 36], ["c", ["int", "Go.IntKind.u32", 255]], 44] guard=None (mac.go:74)
      refine RL.bv32 (a := _) (b := 255#32) add32 rfl rfl rfl rfl rfl ?_
      refine RL.shr32 8 rfl rfl rfl rfl rfl rfl (by decide) ?_
      refine RL.conv Try.runUnderlying44 Try.runUnderlying3 rfl rfl rfl rfl ?_
      -- STOP: op; op 5: d=40 ["binOp", "Go.BinOp.add", 3, ["t", 35], ["t", 39], 3] guard=None (mac.go:74)
      refine RL.binX (v' := .int .i64 ((b.length - a.length + cnt a b (i + 1) : Nat) : Int)) rfl rfl rfl rfl rfl rfl (congrArg _ (diff_step a b _ _ hlt (by omega) (by omega))) ?_
      refine RL.assign rfl rfl rfl rfl ?_
      refine RL.nil ?_
      refine NQ.block ?_
      refine NQ.seq ?_
      refine CW.only (.cons (k := 1) rfl (.cons (k := 5) rfl (.cons (k := 21) rfl (.cons (k := 22) rfl (.cons (k := 23) rfl .nil))))) ?_
      refine CW.region (ef := []) (bk := []) ?_
      -- STOP: op; op 0: d=41 ["binOp", "Go.BinOp.add", 3, ["t", 23], ["c", ["int", "Go.IntKind.i64", 1]], 3] guard=None (mac.go:71)
      refine RL.bin rfl rfl rfl rfl rfl rfl ?_
      refine RL.move rfl rfl rfl rfl ?_
      refine RL.nil ?_
      -- STOP: round; todo top: ["N"]
      exact NQ.round (g := i) (i + 1) hlt (by omega) (.cons rfl (.cons rfl (.cons rfl (.cons rfl (.cons (by rw [IntWalk.i64_in _ (by omega)]; rfl) .nil))))) (fun _ h => h)
    ·
      refine CW.exit ?_
      refine XQ.seq ?_
      refine XQ.seq ?_
      refine XQ.hit ?_
      refine NQ.seq ?_
      refine CW.seq ?_
      refine CW.region (ef := []) (bk := []) ?_
      refine RL.move rfl rfl rfl rfl ?_
      refine RL.assign rfl rfl rfl rfl ?_
      refine RL.nil ?_
      refine NQ.seq ?_
      refine CW.only (.cons (k := 4) rfl .nil) ?_
      refine CW.ret ?_
      -- STOP: ret; end
      have hil : i = a.length := by simp at hlt; omega
      subst hil
      exact RQ.post (res1 rfl rfl) (Split.none _) ⟨by rw [diff_short a b hlt0], rfl, rfl⟩
end Go.Proofs.Ytpokocnnaendaaa
