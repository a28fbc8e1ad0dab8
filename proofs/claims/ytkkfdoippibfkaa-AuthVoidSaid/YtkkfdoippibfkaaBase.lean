import Derived.Test.YtkkfdoippibfkaaRef8
namespace Go.Proofs.Ytkkfdoippibfkaa
open Go.PK

/-- An integer written otherwise. -/
theorem intV {a : Int} {n : Nat} (h : a = (n : Int)) (hn : n ≤ 9223372036854775807) : Value.int .i64 (IntKind.i64.wrap a) = .int .i64 (n : Int) := by
  rw [h, IntWalk.i64_in _ (by omega)]

def amongN (x : Int) (n : Nat) : Nat := (IntKind.u64.wrap x).toNat % n
theorem amongN_lt {x : Int} {n : Nat} (h : 0 < n) : amongN x n < n := Nat.mod_lt _ h
theorem u64_nonneg (x : Int) : 0 ≤ IntKind.u64.wrap x := by simp [IntKind.wrap, IntKind.bits, IntKind.signed]; omega

theorem among_any (x : Int) (n : Nat) (h0 : 0 < n) (hn : n ≤ 1000000000) : Spc Try.prog 13 #[.int .i64 x, .int .i64 (n : Int)] [] [] (Is (.int .i64 (amongN x n : Int))) := by
  have hw : IntKind.u64.wrap (n : Int) = (n : Int) := by simp [IntKind.wrap, IntKind.bits, IntKind.signed]; omega
  have hlt := amongN_lt (x := x) h0
  refine Spc.enter Try.func13 rfl rfl rfl (fun w0 hw0 => ?_)
  refine CW.seq ?_
  refine CW.region (ef := []) (bk := []) ?_
  refine RL.assign rfl rfl rfl rfl ?_
  refine RL.nil ?_
  refine NQ.seq ?_
  refine CW.seq ?_
  refine CW.seq ?_
  refine CW.region (ef := []) (bk := []) ?_
  refine RL.move rfl rfl rfl rfl ?_
  refine RL.bin rfl rfl rfl rfl rfl rfl ?_
  refine RL.nil ?_
  refine NQ.seq ?_
  -- STOP: if; todo top: ["code", ["cond", ["t", 6], ["seq", ["region", 2, [{"d": 4, "op": ["assign", ["c", ["int", "Go.IntKind.i64", 0]]], "ty": 3, "pos": "base.go:7", "after": [], "guard": null}], false], ["ret"]], ["skip"]
  refine CW.condF rfl ((by simp; omega)) ?_
  refine CW.skip ?_
  refine NQ.seq ?_
  refine CW.seq ?_
  refine CW.region (ef := []) (bk := []) ?_
  refine RL.move rfl rfl rfl rfl ?_
  refine RL.conv Try.runUnderlying3 Try.runUnderlying50 rfl rfl rfl rfl ?_
  refine RL.move rfl rfl rfl rfl ?_
  refine RL.conv Try.runUnderlying3 Try.runUnderlying50 rfl rfl rfl rfl ?_
  -- STOP: op; op 4: d=11 ["binOp", "Go.BinOp.rem", 50, ["t", 8], ["t", 10], 50] guard=None (base.go:9)
  rw [hw]
  refine RL.remX (v' := .int .u64 (amongN x n : Int)) rfl rfl rfl rfl rfl (by omega) (by rw [← Int.toNat_of_nonneg (u64_nonneg x), tmodN]; rfl) ?_
  refine RL.conv Try.runUnderlying50 Try.runUnderlying3 rfl rfl rfl rfl ?_
  refine RL.assign rfl rfl rfl rfl ?_
  refine RL.nil ?_
  refine NQ.seq ?_
  refine CW.only (.cons (k := 4) rfl .nil) ?_
  refine CW.ret ?_
  -- STOP: ret; end
  exact RQ.post (res1 rfl rfl) (Split.none _) ⟨by rw [IntWalk.i64_in _ (by omega)], rfl, rfl⟩

abbrev ints (l : List Int) : List Value := l.map (Value.int .i64)
theorem hasInt_any (p : Option Addr) (cap : Nat) (l : List Int) (hl : l.length ≤ maxLen) (n : Int) : Spc Try.prog 23 #[.slice p l.length cap, .int .i64 n] [sls p 1 l.length (ints l)] [] (Is (.bool (l.any (· == n)))) := by
  unfold maxLen at hl
  refine Spc.enter Try.func23 rfl rfl rfl (fun w0 hw0 => ?_)
  refine CW.seq ?_
  refine CW.region (ef := []) (bk := []) ?_
  refine RL.assign rfl rfl rfl rfl ?_
  refine RL.nil ?_
  refine NQ.seq ?_
  refine CW.seq ?_
  refine CW.seq ?_
  refine CW.region (ef := []) (bk := []) ?_
  refine RL.assign rfl rfl rfl rfl ?_
  refine RL.nil ?_
  refine NQ.seq ?_
  refine CW.block ?_
  -- STOP: loop; todo top: ["code", ["loop", ["seq", ["seq", ["region", 2, [{"d": 6, "op": ["move", ["t", 5]], "ty": 3, "pos": "base.go:46", "after": [], "guard": null}, {"d": 7, "op": ["move", ["t", 0]], "ty": 43, "pos": "base
  refine CW.loop (γ := Nat) (fun i => i ≤ l.length ∧ (l.take i).any (· == n) = false) (fun i => [(0, .slice p l.length cap), (1, .int .i64 n), (5, .int .i64 (i : Int))]) (fun _ => [sls p 1 l.length (ints l)]) (fun _ => []) (fun i => l.length - i) 0 ⟨by omega, by simp⟩
    (.cons rfl (.cons rfl (.cons rfl .nil))) (fun _ h => h) ?_
  rintro i ⟨hi, hn⟩
  refine CW.fact (p := p = none → l.length = 0) (fun w hC e => sls_nil (hC.s.i _ (List.Mem.head _)) e) (fun hpp => ?_)
  refine CW.seq ?_
  refine CW.seq ?_
  refine CW.region (ef := []) (bk := []) ?_
  refine RL.move rfl rfl rfl rfl ?_
  refine RL.move rfl rfl rfl rfl ?_
  refine RL.lenS Try.runUnderlying43 rfl rfl rfl rfl ?_
  refine RL.bin rfl rfl rfl rfl rfl rfl ?_
  refine RL.nil ?_
  refine NQ.seq ?_
  -- STOP: if; todo top: ["code", ["cond", ["t", 9], ["skip"], ["exit", 0]]]
  refine CW.cond rfl (fun hlt => ?_) (fun hlt => ?_)
  ·
    refine CW.skip ?_
    refine NQ.seq ?_
    refine CW.seq ?_
    refine CW.block ?_
    refine CW.seq ?_
    refine CW.region (ef := []) (bk := []) ?_
    refine RL.move rfl rfl rfl rfl ?_
    refine RL.move rfl rfl rfl rfl ?_
    -- STOP: op; op 2: d=14 ["indexAddr", 43, ["t", 12], ["t", 13]] guard=None (base.go:47)
    have hlt : i < l.length := by simp at hlt; omega
    obtain ⟨a, rfl⟩ : ∃ a, p = some a := by
      cases p with
      | none => exact absurd (hpp rfl) (by omega)
      | some a => exact ⟨a, rfl⟩
    have hv : (ints l)[i * 1]? = some (.int .i64 l[i]) := by simp [hlt]
    have hs : (l.take (i + 1)).any (· == n) = (l[i] == n) := by rw [List.take_succ_eq_append_getElem hlt, List.any_append, hn]; simp
    generalize l[i] = y at hv hs
    refine RL.idx (j := i) Try.runUnderlying43 Try.sizeOf3 rfl rfl rfl rfl rfl rfl hlt ?_
    refine RL.load Try.isAgg3 rfl rfl rfl rfl (by first | assumption | (apply RdI.rd; assumption) | (apply Rd.get; (solve | (repeat (first | exact List.Mem.head _ | apply List.Mem.tail))); assumption) | (apply Rd.getS; (solve | (repeat (first | exact List.Mem.head _ | apply List.Mem.tail))); assumption) | (apply Rd.getO; (solve | (repeat (first | exact List.Mem.head _ | apply List.Mem.tail))); assumption) | (apply Rd.getI; (solve | (repeat (first | exact List.Mem.head _ | apply List.Mem.tail))); assumption) | (apply Rd.cel; (solve | (repeat (first | exact List.Mem.head _ | apply List.Mem.tail))); exact rfl) | (apply Rd.celI; (solve | (repeat (first | exact List.Mem.head _ | apply List.Mem.tail))); exact rfl)) ?_
    refine RL.move rfl rfl rfl rfl ?_
    refine RL.bin rfl rfl rfl rfl rfl rfl ?_
    refine RL.nil ?_
    refine NQ.seq ?_
    refine CW.only (.cons (k := 0) rfl (.cons (k := 1) rfl (.cons (k := 5) rfl (.cons (k := 17) rfl .nil)))) ?_
    -- STOP: if; todo top: ["code", ["cond", ["t", 17], ["seq", ["region", 5, [{"d": 4, "op": ["assign", ["c", ["bool", true]]], "ty": 4, "pos": "base.go:48", "after": [], "guard": null}], false], ["ret"]], ["skip"]]]
    refine CW.cond rfl (fun he => ?_) (fun he => ?_)
    ·
      refine CW.seq ?_
      refine CW.region (ef := []) (bk := []) ?_
      refine RL.assign rfl rfl rfl rfl ?_
      refine RL.nil ?_
      refine NQ.seq ?_
      refine CW.ret ?_
      refine RQ.block ?_
      refine RQ.seq ?_
      refine RQ.seq ?_
      refine RQ.block ?_
      refine RQ.seq ?_
      -- STOP: ret; end
      have ht : l.any (· == n) = true := by
        rw [he] at hs
        rw [← List.take_append_drop (i + 1) l, List.any_append, hs, Bool.true_or]
      exact RQ.post (res1 rfl rfl) (Split.none _) ⟨by rw [ht], rfl, rfl⟩
    ·
      refine CW.skip ?_
      refine NQ.block ?_
      refine NQ.seq ?_
      refine CW.region (ef := []) (bk := []) ?_
      refine RL.move rfl rfl rfl rfl ?_
      refine RL.binX rfl rfl rfl rfl rfl rfl (wrapV_i64 (by omega) (by omega)) ?_
      refine RL.assign rfl rfl rfl rfl ?_
      refine RL.nil ?_
      -- STOP: round; todo top: ["N"]
      refine NQ.round (g := i) (i + 1) ⟨hlt, by rw [hs]; exact he⟩ (by omega) (.cons rfl (.cons rfl (.cons rfl .nil))) (fun _ h => h)
  ·
    refine CW.exit ?_
    refine XQ.seq ?_
    refine XQ.seq ?_
    refine XQ.hit ?_
    refine NQ.seq ?_
    refine CW.only .nil ?_
    refine CW.seq ?_
    refine CW.region (ef := []) (bk := []) ?_
    refine RL.assign rfl rfl rfl rfl ?_
    refine RL.nil ?_
    refine NQ.seq ?_
    refine CW.ret ?_
    -- STOP: ret; end
    have hil : i = l.length := by simp at hlt; omega
    subst hil
    rw [List.take_length] at hn
    exact RQ.post (res1 rfl rfl) (Split.none _) ⟨by rw [hn], rfl, rfl⟩

theorem sum_after (b : Nat) (p : Option Addr) (cap : Nat) (l : List B8) (hb : l.length ≤ 1000000000) :
    Spc Try.prog 170 #[.pointer (some ⟨b, 0, none⟩)] [hcel b (after l).1 p (after l).2.length cap l.length, sls p 1 (after l).2.length (bytes (after l).2)] [] (Is (.agg (bytes (sha l)).toArray)) :=
  sum_any b (after l).1 p cap l.length (after l).2 (after_rest l).1 hb

end Go.Proofs.Ytkkfdoippibfkaa
