import Derived.Test.YtkkfdoippibfkaaAbsorb
namespace Go.Proofs.Ytkkfdoippibfkaa
open Go.PK

/-- A hasher's cells: state, what is left, how many there were. -/
abbrev hcel (b : Nat) (s : S8) (p : Option Addr) (k cap n : Nat) : It := cel b [U32 s.a, U32 s.b, U32 s.c, U32 s.d, U32 s.e, U32 s.f, U32 s.g, U32 s.h, .slice p k cap, .int .i64 (n : Int), .bool true] 363

theorem is_yes (b : Nat) (s : S8) (p : Option Addr) (k cap n : Nat) : Spc Try.prog 213 #[.pointer (some ⟨b, 0, none⟩)] [hcel b s p k cap n] [] (Is (.bool true)) := by
  refine Spc.enter Try.func213 rfl rfl rfl (fun w0 hw0 => ?_)
  refine CW.seq ?_
  refine CW.region (ef := []) (bk := []) ?_
  refine RL.assign rfl rfl rfl rfl ?_
  refine RL.nil ?_
  refine NQ.seq ?_
  refine CW.seq ?_
  refine CW.region (ef := []) (bk := []) ?_
  refine RL.move rfl rfl rfl rfl ?_
  refine RL.cmp rfl rfl rfl rfl rfl (neq_ptr Try.runUnderlying301 _) ?_
  refine RL.move rfl rfl rfl rfl ?_
  -- STOP: part 5; op 3: d=6 ["move", ["t", 0]] guard=[2, True] (hash.go:90)
  refine RL.move rfl rfl rfl rfl ?_
  refine RL.nilCheck rfl rfl rfl rfl ?_
  refine RL.fieldAddr fa_363_3 rfl rfl rfl rfl ?_
  refine RL.load Try.isAgg4 rfl rfl rfl rfl (by first | assumption | (apply RdI.rd; assumption) | (apply Rd.get; (solve | (repeat (first | exact List.Mem.head _ | apply List.Mem.tail))); assumption) | (apply Rd.getS; (solve | (repeat (first | exact List.Mem.head _ | apply List.Mem.tail))); assumption) | (apply Rd.getO; (solve | (repeat (first | exact List.Mem.head _ | apply List.Mem.tail))); assumption) | (apply Rd.getI; (solve | (repeat (first | exact List.Mem.head _ | apply List.Mem.tail))); assumption) | (apply Rd.cel; (solve | (repeat (first | exact List.Mem.head _ | apply List.Mem.tail))); exact rfl) | (apply Rd.celI; (solve | (repeat (first | exact List.Mem.head _ | apply List.Mem.tail))); exact rfl)) ?_
  refine RL.pickT rfl rfl rfl rfl rfl ?_
  refine RL.assign rfl rfl rfl rfl ?_
  refine RL.nil ?_
  refine NQ.seq ?_
  refine CW.only (.cons (k := 2) rfl .nil) ?_
  refine CW.ret ?_
  -- STOP: ret; end
  exact RQ.post (res1 rfl rfl) (Split.none _) ⟨rfl, rfl, rfl⟩
theorem is_nil : Spc Try.prog 213 #[.pointer none] [] [] (Is (.bool false)) := by
  refine Spc.enter Try.func213 rfl rfl rfl (fun w0 hw0 => ?_)
  refine CW.seq ?_
  refine CW.region (ef := []) (bk := []) ?_
  refine RL.assign rfl rfl rfl rfl ?_
  refine RL.nil ?_
  refine NQ.seq ?_
  refine CW.seq ?_
  refine CW.region (ef := []) (bk := []) ?_
  refine RL.move rfl rfl rfl rfl ?_
  refine RL.cmp rfl rfl rfl rfl rfl (neq_ptr Try.runUnderlying301 _) ?_
  refine RL.move rfl rfl rfl rfl ?_
  -- STOP: part 5; op 3: d=6 ["move", ["t", 0]] guard=[2, True] (hash.go:90)
  refine RL.skip rfl rfl rfl rfl ?_
  refine RL.skip rfl rfl rfl rfl ?_
  refine RL.skip rfl rfl rfl rfl ?_
  refine RL.skip rfl rfl rfl rfl ?_
  refine RL.pickF rfl rfl rfl rfl rfl ?_
  refine RL.assign rfl rfl rfl rfl ?_
  refine RL.nil ?_
  refine NQ.seq ?_
  refine CW.only (.cons (k := 2) rfl .nil) ?_
  refine CW.ret ?_
  -- STOP: ret; end
  exact RQ.post (res1 rfl rfl) (Split.none _) ⟨rfl, rfl, rfl⟩
abbrev hzero (b : Nat) : It := cel b [.int .u32 0, .int .u32 0, .int .u32 0, .int .u32 0, .int .u32 0, .int .u32 0, .int .u32 0, .int .u32 0, .slice none 0 0, .int .i64 0, .bool false] 363
theorem is_zero (b : Nat) : Spc Try.prog 213 #[.pointer (some ⟨b, 0, none⟩)] [hzero b] [] (Is (.bool false)) := by
  refine Spc.enter Try.func213 rfl rfl rfl (fun w0 hw0 => ?_)
  refine CW.seq ?_
  refine CW.region (ef := []) (bk := []) ?_
  refine RL.assign rfl rfl rfl rfl ?_
  refine RL.nil ?_
  refine NQ.seq ?_
  refine CW.seq ?_
  refine CW.region (ef := []) (bk := []) ?_
  refine RL.move rfl rfl rfl rfl ?_
  refine RL.cmp rfl rfl rfl rfl rfl (neq_ptr Try.runUnderlying301 _) ?_
  refine RL.move rfl rfl rfl rfl ?_
  -- STOP: part 5; op 3: d=6 ["move", ["t", 0]] guard=[2, True] (hash.go:90)
  refine RL.move rfl rfl rfl rfl ?_
  refine RL.nilCheck rfl rfl rfl rfl ?_
  refine RL.fieldAddr fa_363_3 rfl rfl rfl rfl ?_
  refine RL.load Try.isAgg4 rfl rfl rfl rfl (by first | assumption | (apply RdI.rd; assumption) | (apply Rd.get; (solve | (repeat (first | exact List.Mem.head _ | apply List.Mem.tail))); assumption) | (apply Rd.getS; (solve | (repeat (first | exact List.Mem.head _ | apply List.Mem.tail))); assumption) | (apply Rd.getO; (solve | (repeat (first | exact List.Mem.head _ | apply List.Mem.tail))); assumption) | (apply Rd.getI; (solve | (repeat (first | exact List.Mem.head _ | apply List.Mem.tail))); assumption) | (apply Rd.cel; (solve | (repeat (first | exact List.Mem.head _ | apply List.Mem.tail))); exact rfl) | (apply Rd.celI; (solve | (repeat (first | exact List.Mem.head _ | apply List.Mem.tail))); exact rfl)) ?_
  refine RL.pickT rfl rfl rfl rfl rfl ?_
  refine RL.assign rfl rfl rfl rfl ?_
  refine RL.nil ?_
  refine NQ.seq ?_
  refine CW.only (.cons (k := 2) rfl .nil) ?_
  refine CW.ret ?_
  -- STOP: ret; end
  exact RQ.post (res1 rfl rfl) (Split.none _) ⟨rfl, rfl, rfl⟩

theorem new_any : Spc Try.prog 168 #[] [] [] (fun v I' H' => ∃ b, v = .pointer (some ⟨b, 0, none⟩) ∧ I' = [] ∧ H' = [hcel b iv none 0 0 0]) := by
  refine Spc.enter Try.func168 rfl rfl rfl (fun w0 hw0 => ?_)
  refine CW.seq ?_
  refine CW.region (ef := []) (bk := []) ?_
  refine RL.assign rfl rfl rfl rfl ?_
  refine RL.nil ?_
  refine NQ.seq ?_
  refine CW.seq ?_
  refine CW.region (ef := [2]) (bk := []) ?_
  refine RL.callv (hfirst_any) Try.call212 rfl rfl rfl rfl (by repeat (first | exact Lend.nil | (refine Lend.inI ?_ ?_; (solve | (repeat (first | exact List.Mem.head _ | apply List.Mem.tail)))) | (refine Lend.inH ?_ ?_; (solve | (repeat (first | exact List.Mem.head _ | apply List.Mem.tail)))))) ?_
  refine RL.buildS [_, _, _, _, _, _, _, _, _, _, _] Try.zeroValue363 pl_363 rfl rfl rfl rfl rfl ?_
  refine RL.box rfl rfl rfl rfl rfl rfl ?_
  intro b1
  refine RL.assign rfl rfl rfl rfl ?_
  refine RL.nil ?_
  refine NQ.seq ?_
  refine CW.ret ?_
  -- STOP: ret; end
  exact RQ.post (res1 rfl rfl) (.keep .nil) ⟨b1, rfl, rfl, rfl⟩

end Go.Proofs.Ytkkfdoippibfkaa

namespace Go.Proofs.Ytkkfdoippibfkaa
open Go.PK


theorem take_bytes (l : List B8) : bytes (l.take 64) = ((bytes l).drop (0 * 1)).take (64 * 1) := by rw [bytes_part, List.drop_zero]

theorem write_any (b : Nat) (s : S8) (p q : Option Addr) (cap c2 n : Nat) (rest m : List B8) (h0 : m ≠ []) (hk : rest.length ≤ cap) (hn : rest.length ≤ n) (hb : n + m.length ≤ 1000000000) :
    Spc Try.prog 169 #[.pointer (some ⟨b, 0, none⟩), .slice q m.length c2] [sls p 1 rest.length (bytes rest), sls q 1 m.length (bytes m)] [hcel b s p rest.length cap n]
      (fun v I' H' => ∃ p' cap', v = .int .i64 0 ∧ I' = [sls p' 1 (absorb s (rest ++ m)).2.length (bytes (absorb s (rest ++ m)).2)] ∧ H' = [hcel b (absorb s (rest ++ m)).1 p' (absorb s (rest ++ m)).2.length cap' (n + m.length)] ∧ (absorb s (rest ++ m)).2.length ≤ cap') := by
  have hm0 : m.length ≠ 0 := fun h => h0 (List.eq_nil_of_length_eq_zero h)
  refine Spc.enter Try.func169 rfl rfl rfl (fun w0 hw0 => ?_)
  refine CW.seq ?_
  refine CW.region (ef := []) (bk := []) ?_
  refine RL.assign rfl rfl rfl rfl ?_
  refine RL.nil ?_
  refine NQ.seq ?_
  refine CW.seq ?_
  refine CW.block ?_
  refine CW.seq ?_
  refine CW.region (ef := []) (bk := []) ?_
  refine RL.move rfl rfl rfl rfl ?_
  refine RL.callv (is_yes b s p rest.length cap n) Try.call213 rfl rfl rfl rfl (by repeat (first | exact Lend.nil | (refine Lend.inI ?_ ?_; (solve | (repeat (first | exact List.Mem.head _ | apply List.Mem.tail)))) | (refine Lend.inH ?_ ?_; (solve | (repeat (first | exact List.Mem.head _ | apply List.Mem.tail)))))) ?_
  refine RL.not rfl rfl rfl rfl ?_
  refine RL.assign rfl rfl rfl rfl ?_
  refine RL.nil ?_
  refine NQ.seq ?_
  -- STOP: if; todo top: ["code", ["cond", ["t", 5], ["seq", ["region", 2, [{"d": 4, "op": ["assign", ["c", ["int", "Go.IntKind.i64", 1]]], "ty": 32, "pos": "hash.go:96", "after": [], "guard": null}], false], ["ret"]], ["seq"
  refine CW.condF rfl (rfl) ?_
  refine CW.seq ?_
  refine CW.region (ef := []) (bk := []) ?_
  refine RL.move rfl rfl rfl rfl ?_
  refine RL.lenS Try.runUnderlying95 rfl rfl rfl rfl ?_
  refine RL.move rfl rfl rfl rfl ?_
  refine RL.nilCheck rfl rfl rfl rfl ?_
  refine RL.fieldAddr fa_363_2 rfl rfl rfl rfl ?_
  refine RL.load Try.isAgg3 rfl rfl rfl rfl (by first | assumption | (apply RdI.rd; assumption) | (apply Rd.get; (solve | (repeat (first | exact List.Mem.head _ | apply List.Mem.tail))); assumption) | (apply Rd.getS; (solve | (repeat (first | exact List.Mem.head _ | apply List.Mem.tail))); assumption) | (apply Rd.getO; (solve | (repeat (first | exact List.Mem.head _ | apply List.Mem.tail))); assumption) | (apply Rd.getI; (solve | (repeat (first | exact List.Mem.head _ | apply List.Mem.tail))); assumption) | (apply Rd.cel; (solve | (repeat (first | exact List.Mem.head _ | apply List.Mem.tail))); exact rfl) | (apply Rd.celI; (solve | (repeat (first | exact List.Mem.head _ | apply List.Mem.tail))); exact rfl)) ?_
  refine RL.binX rfl rfl rfl rfl rfl rfl (wrapV_i64 (by omega) (by omega)) ?_
  refine RL.bin rfl rfl rfl rfl rfl rfl ?_
  refine RL.assign rfl rfl rfl rfl ?_
  refine RL.nil ?_
  refine NQ.seq ?_
  refine CW.only (.cons (k := 0) rfl (.cons (k := 1) rfl (.cons (k := 4) rfl (.cons (k := 9) rfl .nil)))) ?_
  -- STOP: if; todo top: ["code", ["cond", ["t", 9], ["seq", ["region", 4, [{"d": 4, "op": ["assign", ["c", ["int", "Go.IntKind.i64", 3]]], "ty": 32, "pos": "hash.go:98", "after": [], "guard": null}], false], ["ret"]], ["skip
  refine CW.condF rfl ((by simp; omega)) ?_
  refine CW.skip ?_
  refine NQ.block ?_
  refine NQ.seq ?_
  refine CW.seq ?_
  refine CW.region (ef := [9]) (bk := [9]) ?_
  refine RL.move rfl rfl rfl rfl ?_
  refine RL.nilCheck rfl rfl rfl rfl ?_
  refine RL.fieldAddr fa_363_2 rfl rfl rfl rfl ?_
  refine RL.load Try.isAgg3 rfl rfl rfl rfl (by first | assumption | (apply RdI.rd; assumption) | (apply Rd.get; (solve | (repeat (first | exact List.Mem.head _ | apply List.Mem.tail))); assumption) | (apply Rd.getS; (solve | (repeat (first | exact List.Mem.head _ | apply List.Mem.tail))); assumption) | (apply Rd.getO; (solve | (repeat (first | exact List.Mem.head _ | apply List.Mem.tail))); assumption) | (apply Rd.getI; (solve | (repeat (first | exact List.Mem.head _ | apply List.Mem.tail))); assumption) | (apply Rd.cel; (solve | (repeat (first | exact List.Mem.head _ | apply List.Mem.tail))); exact rfl) | (apply Rd.celI; (solve | (repeat (first | exact List.Mem.head _ | apply List.Mem.tail))); exact rfl)) ?_
  refine RL.move rfl rfl rfl rfl ?_
  refine RL.lenS Try.runUnderlying95 rfl rfl rfl rfl ?_
  refine RL.binX rfl rfl rfl rfl rfl rfl (wrapV_i64 (by omega) (by omega)) ?_
  refine RL.nilCheck rfl rfl rfl rfl ?_
  refine RL.fieldAddr fa_363_2 rfl rfl rfl rfl ?_
  refine RL.store (vs := [_]) Try.sizeOf3 rfl rfl rfl rfl rfl rfl rfl rfl rfl (by repeat (first | exact Upd.here | apply Upd.there)) ?_
  refine RL.nil ?_
  refine NQ.seq ?_
  refine CW.only (.cons (k := 0) rfl (.cons (k := 1) rfl .nil)) ?_
  refine CW.seq ?_
  refine CW.regionD (Sq.of [0, 1, 2, 3, 4, 5, 6, 7, 8, 9, 10, 11, 12, 13, 14, 15, 16, 17, 18, 19, 20]) [17, 20] [20] [0, 1, 2, 3, 5, 6, 7, 9, 10, 11, 12, 14, 15, 16, 18, 19] mixed (by kernel_rfl) ?_
  refine RL.move rfl rfl rfl rfl ?_
  refine RL.move rfl rfl rfl rfl ?_
  refine RL.nilCheck rfl rfl rfl rfl ?_
  refine RL.fieldAddr fa_363_1 rfl rfl rfl rfl ?_
  refine RL.load Try.isAgg95 rfl rfl rfl rfl (by first | assumption | (apply RdI.rd; assumption) | (apply Rd.get; (solve | (repeat (first | exact List.Mem.head _ | apply List.Mem.tail))); assumption) | (apply Rd.getS; (solve | (repeat (first | exact List.Mem.head _ | apply List.Mem.tail))); assumption) | (apply Rd.getO; (solve | (repeat (first | exact List.Mem.head _ | apply List.Mem.tail))); assumption) | (apply Rd.getI; (solve | (repeat (first | exact List.Mem.head _ | apply List.Mem.tail))); assumption) | (apply Rd.cel; (solve | (repeat (first | exact List.Mem.head _ | apply List.Mem.tail))); exact rfl) | (apply Rd.celI; (solve | (repeat (first | exact List.Mem.head _ | apply List.Mem.tail))); exact rfl)) ?_
  refine RL.move rfl rfl rfl rfl ?_
  refine RL.nilCheck rfl rfl rfl rfl ?_
  refine RL.fieldAddr fa_363_1 rfl rfl rfl rfl ?_
  refine RL.load Try.isAgg95 rfl rfl rfl rfl (by first | assumption | (apply RdI.rd; assumption) | (apply Rd.get; (solve | (repeat (first | exact List.Mem.head _ | apply List.Mem.tail))); assumption) | (apply Rd.getS; (solve | (repeat (first | exact List.Mem.head _ | apply List.Mem.tail))); assumption) | (apply Rd.getO; (solve | (repeat (first | exact List.Mem.head _ | apply List.Mem.tail))); assumption) | (apply Rd.getI; (solve | (repeat (first | exact List.Mem.head _ | apply List.Mem.tail))); assumption) | (apply Rd.cel; (solve | (repeat (first | exact List.Mem.head _ | apply List.Mem.tail))); exact rfl) | (apply Rd.celI; (solve | (repeat (first | exact List.Mem.head _ | apply List.Mem.tail))); exact rfl)) ?_
  refine RL.lenS Try.runUnderlying95 rfl rfl rfl rfl ?_
  refine RL.move rfl rfl rfl rfl ?_
  refine RL.nilCheck rfl rfl rfl rfl ?_
  refine RL.fieldAddr fa_363_1 rfl rfl rfl rfl ?_
  refine RL.load Try.isAgg95 rfl rfl rfl rfl (by first | assumption | (apply RdI.rd; assumption) | (apply Rd.get; (solve | (repeat (first | exact List.Mem.head _ | apply List.Mem.tail))); assumption) | (apply Rd.getS; (solve | (repeat (first | exact List.Mem.head _ | apply List.Mem.tail))); assumption) | (apply Rd.getO; (solve | (repeat (first | exact List.Mem.head _ | apply List.Mem.tail))); assumption) | (apply Rd.getI; (solve | (repeat (first | exact List.Mem.head _ | apply List.Mem.tail))); assumption) | (apply Rd.cel; (solve | (repeat (first | exact List.Mem.head _ | apply List.Mem.tail))); exact rfl) | (apply Rd.celI; (solve | (repeat (first | exact List.Mem.head _ | apply List.Mem.tail))); exact rfl)) ?_
  refine RL.lenS Try.runUnderlying95 rfl rfl rfl rfl ?_
  -- STOP: op; op 15: d=42 ["slice", 95, ["t", 31], null, ["t", 36], ["t", 41]] guard=None (hash.go:101)
  refine RL.slice3 (hi := rest.length) Try.runUnderlying95 Try.sizeOf5 rfl rfl rfl rfl rfl rfl hk ?_
  refine RL.move rfl rfl rfl rfl ?_
  -- STOP: op; op 17: d=44 ["builtin", "Go.Builtin.append", [["t", 42], ["t", 43]], [95, 95]] guard=None (hash.go:101)
  refine RL.appendTold el_95 rfl rfl rfl rfl rfl rfl (Src.sls (by repeat (first | exact List.Mem.head _ | apply List.Mem.tail))) (by repeat (first | exact List.Mem.head _ | apply List.Mem.tail)) (Src.sls (by repeat (first | exact List.Mem.head _ | apply List.Mem.tail))) (by simp [maxLen]; omega) (by omega) ?_
  rintro p1 c1 hc1 - hf1
  refine RL.nilCheck rfl rfl rfl rfl ?_
  refine RL.fieldAddr fa_363_1 rfl rfl rfl rfl ?_
  refine RL.store (vs := [_]) Try.sizeOf95 rfl rfl rfl rfl rfl rfl rfl rfl rfl (by repeat (first | exact Upd.here | apply Upd.there)) ?_
  refine RL.nil ?_
  refine NQ.seq ?_
  refine CW.only (.cons (k := 0) rfl .nil) ?_
  refine CW.seq ?_
  refine CW.block ?_
  -- STOP: loop; todo top: ["code", ["loop", ["seq", ["seq", ["region", 7, [{"d": 47, "op": ["move", ["t", 0]], "ty": 301, "pos": "hash.go:102", "after": [], "guard": null}, {"d": 48, "op": ["nilCheck", ["t", 47]], "ty": 0, "po
  have e1 : bytes (rest ++ m) = bytes rest ++ bytes m := List.map_append
  have e2 : (rest ++ m).length = rest.length + m.length := List.length_append
  refine CW.loop (γ := S8 × List B8 × Option Addr × Nat) (fun g => absorb g.1 g.2.1 = absorb s (rest ++ m) ∧ g.2.1.length ≤ g.2.2.2 ∧ ∀ x ∈ (sls g.2.2.1 1 g.2.1.length (bytes g.2.1)).bs, w0.heap.size ≤ x) (fun _ => [(0, .pointer (some ⟨b, 0, none⟩))])
    (fun g => [sls g.2.2.1 1 g.2.1.length (bytes g.2.1)]) (fun g => [hcel b g.1 g.2.2.1 g.2.1.length g.2.2.2 (n + m.length)]) (fun g => g.2.1.length) (s, rest ++ m, p1, c1) ⟨rfl, by rw [e2]; exact hc1, by rw [e1, e2]; exact hf1 hm0⟩ (.cons rfl .nil)
    (fun _ h => by
      dsimp only
      rw [e1, e2]
      exact h.les (fun x hx => by simp at hx; simp [hx]) (Les.refl _)) ?_
  rintro ⟨s', l, pp, c⟩ ⟨hg, hl, hf⟩
  dsimp only at hg hl hf ⊢
  rw [← hg]
  clear e1 e2 hc1 hg hf1
  refine CW.seq ?_
  refine CW.seq ?_
  refine CW.region (ef := []) (bk := []) ?_
  refine RL.move rfl rfl rfl rfl ?_
  refine RL.nilCheck rfl rfl rfl rfl ?_
  refine RL.fieldAddr fa_363_1 rfl rfl rfl rfl ?_
  refine RL.load Try.isAgg95 rfl rfl rfl rfl (by first | assumption | (apply RdI.rd; assumption) | (apply Rd.get; (solve | (repeat (first | exact List.Mem.head _ | apply List.Mem.tail))); assumption) | (apply Rd.getS; (solve | (repeat (first | exact List.Mem.head _ | apply List.Mem.tail))); assumption) | (apply Rd.getO; (solve | (repeat (first | exact List.Mem.head _ | apply List.Mem.tail))); assumption) | (apply Rd.getI; (solve | (repeat (first | exact List.Mem.head _ | apply List.Mem.tail))); assumption) | (apply Rd.cel; (solve | (repeat (first | exact List.Mem.head _ | apply List.Mem.tail))); exact rfl) | (apply Rd.celI; (solve | (repeat (first | exact List.Mem.head _ | apply List.Mem.tail))); exact rfl)) ?_
  refine RL.lenS Try.runUnderlying95 rfl rfl rfl rfl ?_
  refine RL.bin rfl rfl rfl rfl rfl rfl ?_
  refine RL.nil ?_
  refine NQ.seq ?_
  -- STOP: if; todo top: ["code", ["cond", ["t", 52], ["skip"], ["exit", 1]]]
  refine CW.cond rfl (fun hge => ?_) (fun hge => ?_)
  ·
    have hge : 64 ≤ l.length := by simp at hge; omega
    refine CW.fact (p := pp ≠ none) (fun w hC e => by
      have := sls_nil (hC.s.i _ (List.Mem.head _)) e
      omega) (fun hpp => ?_)
    obtain ⟨a, rfl⟩ : ∃ a, pp = some a := by
      cases pp with
      | none => exact absurd rfl hpp
      | some a => exact ⟨a, rfl⟩
    clear hpp
    refine CW.skip ?_
    refine NQ.seq ?_
    refine CW.only (.cons (k := 0) rfl .nil) ?_
    refine CW.block ?_
    refine CW.seq ?_
    refine CW.regionD (Sq.of [0, 1, 2, 3, 4, 5, 6, 7, 8, 9, 10, 11, 12, 13]) [13] [13] [0, 1, 2, 3, 5, 6, 7, 9, 11, 12] mixed (by kernel_rfl) ?_
    refine RL.move rfl rfl rfl rfl ?_
    refine RL.move rfl rfl rfl rfl ?_
    refine RL.nilCheck rfl rfl rfl rfl ?_
    refine RL.fieldAddr fa_363_0 rfl rfl rfl rfl ?_
    refine RL.loadN (vs := [_, _, _, _, _, _, _, _]) Try.isAgg360 Try.sizeOf360 rfl rfl rfl rfl (by first | (apply Rds.cel; (solve | (repeat (first | exact List.Mem.head _ | apply List.Mem.tail))); exact at_spec ⟨rfl, rfl, rfl, rfl, rfl, rfl, rfl, rfl, trivial⟩) | (apply Rds.celI; (solve | (repeat (first | exact List.Mem.head _ | apply List.Mem.tail))); exact at_spec ⟨rfl, rfl, rfl, rfl, rfl, rfl, rfl, rfl, trivial⟩) | assumption | (apply RdsI.rds; assumption)) ?_
    refine RL.move rfl rfl rfl rfl ?_
    refine RL.nilCheck rfl rfl rfl rfl ?_
    refine RL.fieldAddr fa_363_1 rfl rfl rfl rfl ?_
    refine RL.load Try.isAgg95 rfl rfl rfl rfl (by first | assumption | (apply RdI.rd; assumption) | (apply Rd.get; (solve | (repeat (first | exact List.Mem.head _ | apply List.Mem.tail))); assumption) | (apply Rd.getS; (solve | (repeat (first | exact List.Mem.head _ | apply List.Mem.tail))); assumption) | (apply Rd.getO; (solve | (repeat (first | exact List.Mem.head _ | apply List.Mem.tail))); assumption) | (apply Rd.getI; (solve | (repeat (first | exact List.Mem.head _ | apply List.Mem.tail))); assumption) | (apply Rd.cel; (solve | (repeat (first | exact List.Mem.head _ | apply List.Mem.tail))); exact rfl) | (apply Rd.celI; (solve | (repeat (first | exact List.Mem.head _ | apply List.Mem.tail))); exact rfl)) ?_
    -- STOP: op; op 9: d=62 ["slice", 95, ["t", 61], null, ["c", ["int", "Go.IntKind.i64", 64]], null] guard=None (hash.go:103)
    refine RL.sliceP (lo := 0) (hi := 64) Try.runUnderlying95 Try.sizeOf5 rfl rfl rfl rfl rfl rfl (by omega) (by omega) (by omega) ?_
    refine RL.callv (turned_any s' (l.take 64) (a.add (0 * 1)) (c - 0) (by simp; omega) (by omega)) Try.call214 rfl rfl rfl rfl (by rw [take_bytes l]; exact Lend.subI (by repeat (first | exact List.Mem.head _ | apply List.Mem.tail)) (by omega) .nil) ?_
    refine RL.nilCheck rfl rfl rfl rfl ?_
    refine RL.fieldAddr fa_363_0 rfl rfl rfl rfl ?_
    refine RL.store (vs := [_, _, _, _, _, _, _, _]) Try.sizeOf360 rfl rfl rfl rfl rfl rfl rfl rfl rfl (by repeat (first | exact Upd.here | apply Upd.there)) ?_
    refine RL.nil ?_
    refine NQ.seq ?_
    refine CW.only (.cons (k := 0) rfl .nil) ?_
    refine CW.region (ef := [8]) (bk := [8]) ?_
    refine RL.move rfl rfl rfl rfl ?_
    refine RL.move rfl rfl rfl rfl ?_
    refine RL.nilCheck rfl rfl rfl rfl ?_
    refine RL.fieldAddr fa_363_1 rfl rfl rfl rfl ?_
    refine RL.load Try.isAgg95 rfl rfl rfl rfl (by first | assumption | (apply RdI.rd; assumption) | (apply Rd.get; (solve | (repeat (first | exact List.Mem.head _ | apply List.Mem.tail))); assumption) | (apply Rd.getS; (solve | (repeat (first | exact List.Mem.head _ | apply List.Mem.tail))); assumption) | (apply Rd.getO; (solve | (repeat (first | exact List.Mem.head _ | apply List.Mem.tail))); assumption) | (apply Rd.getI; (solve | (repeat (first | exact List.Mem.head _ | apply List.Mem.tail))); assumption) | (apply Rd.cel; (solve | (repeat (first | exact List.Mem.head _ | apply List.Mem.tail))); exact rfl) | (apply Rd.celI; (solve | (repeat (first | exact List.Mem.head _ | apply List.Mem.tail))); exact rfl)) ?_
    -- STOP: op; op 5: d=71 ["slice", 95, ["t", 70], ["c", ["int", "Go.IntKind.i64", 64]], null, null] guard=None (hash.go:104)
    refine RL.slice (lo := 64) (hi := l.length) Try.runUnderlying95 Try.sizeOf5 rfl rfl rfl rfl rfl rfl (by omega) (by omega) ?_
    refine RL.nilCheck rfl rfl rfl rfl ?_
    refine RL.fieldAddr fa_363_1 rfl rfl rfl rfl ?_
    refine RL.store (vs := [_]) Try.sizeOf95 rfl rfl rfl rfl rfl rfl rfl rfl rfl (by repeat (first | exact Upd.here | apply Upd.there)) ?_
    refine RL.nil ?_
    refine NQ.block ?_
    -- STOP: round; todo top: ["N"]
    have e1 : bytes (l.drop 64) = ((bytes l).drop (64 * 1)).take ((l.length - 64) * 1) := by rw [bytes_part, List.take_of_length_le (by simp)]
    have e2 : (l.drop 64).length = l.length - 64 := List.length_drop
    have hfs : ∀ x ∈ (sls (if c = 64 then some a else (some a).map (·.add (64 * 1))) 1 (l.drop 64).length (bytes (l.drop 64))).bs, w0.heap.size ≤ x := by
      intro x hx
      exact hf x (bs_sub (by omega) x hx)
    refine NQ.round (g := (s', l, some a, c)) (comp s' (l.take 64), l.drop 64, if c = 64 then some a else (some a).map (·.add (64 * 1)), c - 64) ⟨(absorb_ge hge).symm, by show (l.drop 64).length ≤ c - 64; omega, hfs⟩ (by show (l.drop 64).length < l.length; omega) (.cons rfl .nil) (fun w h => ?_)
    dsimp only
    rw [e1, e2]
    exact (h.also (x := sls (if c = 64 then some a else (some a).map (·.add (64 * 1))) 1 (l.length - 64) (((bytes l).drop (64 * 1)).take ((l.length - 64) * 1))) (fun w hw => sls_sub (hw.i _ (List.Mem.head _)) (by omega) hl)
      (fun x hx => mem_bss.2 ⟨_, List.Mem.head _, bs_sub (xs := bytes l) (by omega) x hx⟩)).les (fun x hx => by simp at hx; simp [hx]) (Les.refl _)
  ·
    refine CW.exit ?_
    refine XQ.seq ?_
    refine XQ.seq ?_
    refine XQ.hit ?_
    refine NQ.seq ?_
    refine CW.only .nil ?_
    refine CW.seq ?_
    refine CW.region (ef := []) (bk := []) ?_
    refine RL.assign rfl rfl rfl rfl ?_
    refine RL.nil ?_
    refine NQ.seq ?_
    refine CW.ret ?_
    -- STOP: ret; end
    have hlt : l.length < 64 := by simp at hge; omega
    rw [absorb_lt hlt]
    exact RQ.postI (I' := [sls pp 1 l.length (bytes l)]) (res1 rfl rfl) (.keep .nil) (fun _ h => h) (by simpa [bss] using hf) ⟨pp, c, rfl, rfl, rfl, hl⟩
end Go.Proofs.Ytkkfdoippibfkaa

namespace Go.Proofs.Ytkkfdoippibfkaa
open Go.PK

theorem write_none (b : Nat) (s : S8) (p q : Option Addr) (k cap c2 n : Nat) (rest : List B8) (h64 : k < 64) (hk : k ≤ cap) (hb : n ≤ 1000000000) :
    Spc Try.prog 169 #[.pointer (some ⟨b, 0, none⟩), .slice q 0 c2] [sls p 1 k (bytes rest)] [hcel b s p k cap n]
      (fun v I' H' => v = .int .i64 0 ∧ I' = [] ∧ H' = [hcel b s p k k n]) := by
  refine Spc.enter Try.func169 rfl rfl rfl (fun w0 hw0 => ?_)
  refine CW.seq ?_
  refine CW.region (ef := []) (bk := []) ?_
  refine RL.assign rfl rfl rfl rfl ?_
  refine RL.nil ?_
  refine NQ.seq ?_
  refine CW.seq ?_
  refine CW.block ?_
  refine CW.seq ?_
  refine CW.region (ef := []) (bk := []) ?_
  refine RL.move rfl rfl rfl rfl ?_
  refine RL.callv (is_yes b s p k cap n) Try.call213 rfl rfl rfl rfl (by repeat (first | exact Lend.nil | (refine Lend.inI ?_ ?_; (solve | (repeat (first | exact List.Mem.head _ | apply List.Mem.tail)))) | (refine Lend.inH ?_ ?_; (solve | (repeat (first | exact List.Mem.head _ | apply List.Mem.tail)))))) ?_
  refine RL.not rfl rfl rfl rfl ?_
  refine RL.assign rfl rfl rfl rfl ?_
  refine RL.nil ?_
  refine NQ.seq ?_
  -- STOP: if; todo top: ["code", ["cond", ["t", 5], ["seq", ["region", 2, [{"d": 4, "op": ["assign", ["c", ["int", "Go.IntKind.i64", 1]]], "ty": 32, "pos": "hash.go:96", "after": [], "guard": null}], false], ["ret"]], ["seq"
  refine CW.condF rfl (rfl) ?_
  refine CW.seq ?_
  refine CW.region (ef := []) (bk := []) ?_
  refine RL.move rfl rfl rfl rfl ?_
  refine RL.lenS Try.runUnderlying95 rfl rfl rfl rfl ?_
  refine RL.move rfl rfl rfl rfl ?_
  refine RL.nilCheck rfl rfl rfl rfl ?_
  refine RL.fieldAddr fa_363_2 rfl rfl rfl rfl ?_
  refine RL.load Try.isAgg3 rfl rfl rfl rfl (by first | assumption | (apply RdI.rd; assumption) | (apply Rd.get; (solve | (repeat (first | exact List.Mem.head _ | apply List.Mem.tail))); assumption) | (apply Rd.getS; (solve | (repeat (first | exact List.Mem.head _ | apply List.Mem.tail))); assumption) | (apply Rd.getO; (solve | (repeat (first | exact List.Mem.head _ | apply List.Mem.tail))); assumption) | (apply Rd.getI; (solve | (repeat (first | exact List.Mem.head _ | apply List.Mem.tail))); assumption) | (apply Rd.cel; (solve | (repeat (first | exact List.Mem.head _ | apply List.Mem.tail))); exact rfl) | (apply Rd.celI; (solve | (repeat (first | exact List.Mem.head _ | apply List.Mem.tail))); exact rfl)) ?_
  refine RL.binX rfl rfl rfl rfl rfl rfl (wrapV_i64 (by omega) (by omega)) ?_
  refine RL.bin rfl rfl rfl rfl rfl rfl ?_
  refine RL.assign rfl rfl rfl rfl ?_
  refine RL.nil ?_
  refine NQ.seq ?_
  refine CW.only (.cons (k := 0) rfl (.cons (k := 1) rfl (.cons (k := 4) rfl (.cons (k := 9) rfl .nil)))) ?_
  -- STOP: if; todo top: ["code", ["cond", ["t", 9], ["seq", ["region", 4, [{"d": 4, "op": ["assign", ["c", ["int", "Go.IntKind.i64", 3]]], "ty": 32, "pos": "hash.go:98", "after": [], "guard": null}], false], ["ret"]], ["skip
  refine CW.condF rfl ((by simp; omega)) ?_
  refine CW.skip ?_
  refine NQ.block ?_
  refine NQ.seq ?_
  refine CW.seq ?_
  refine CW.region (ef := [9]) (bk := [9]) ?_
  refine RL.move rfl rfl rfl rfl ?_
  refine RL.nilCheck rfl rfl rfl rfl ?_
  refine RL.fieldAddr fa_363_2 rfl rfl rfl rfl ?_
  refine RL.load Try.isAgg3 rfl rfl rfl rfl (by first | assumption | (apply RdI.rd; assumption) | (apply Rd.get; (solve | (repeat (first | exact List.Mem.head _ | apply List.Mem.tail))); assumption) | (apply Rd.getS; (solve | (repeat (first | exact List.Mem.head _ | apply List.Mem.tail))); assumption) | (apply Rd.getO; (solve | (repeat (first | exact List.Mem.head _ | apply List.Mem.tail))); assumption) | (apply Rd.getI; (solve | (repeat (first | exact List.Mem.head _ | apply List.Mem.tail))); assumption) | (apply Rd.cel; (solve | (repeat (first | exact List.Mem.head _ | apply List.Mem.tail))); exact rfl) | (apply Rd.celI; (solve | (repeat (first | exact List.Mem.head _ | apply List.Mem.tail))); exact rfl)) ?_
  refine RL.move rfl rfl rfl rfl ?_
  refine RL.lenS Try.runUnderlying95 rfl rfl rfl rfl ?_
  refine RL.binX rfl rfl rfl rfl rfl rfl (wrapV_i64 (by omega) (by omega)) ?_
  refine RL.nilCheck rfl rfl rfl rfl ?_
  refine RL.fieldAddr fa_363_2 rfl rfl rfl rfl ?_
  refine RL.store (vs := [_]) Try.sizeOf3 rfl rfl rfl rfl rfl rfl rfl rfl rfl (by repeat (first | exact Upd.here | apply Upd.there)) ?_
  refine RL.nil ?_
  refine NQ.seq ?_
  refine CW.only (.cons (k := 0) rfl (.cons (k := 1) rfl .nil)) ?_
  refine CW.seq ?_
  refine CW.regionD (Sq.of [0, 1, 2, 3, 4, 5, 6, 7, 8, 9, 10, 11, 12, 13, 14, 15, 16, 17, 18, 19, 20]) [17, 20] [20] [0, 1, 2, 3, 5, 6, 7, 9, 10, 11, 12, 14, 15, 16, 18, 19] mixed (by kernel_rfl) ?_
  refine RL.move rfl rfl rfl rfl ?_
  refine RL.move rfl rfl rfl rfl ?_
  refine RL.nilCheck rfl rfl rfl rfl ?_
  refine RL.fieldAddr fa_363_1 rfl rfl rfl rfl ?_
  refine RL.load Try.isAgg95 rfl rfl rfl rfl (by first | assumption | (apply RdI.rd; assumption) | (apply Rd.get; (solve | (repeat (first | exact List.Mem.head _ | apply List.Mem.tail))); assumption) | (apply Rd.getS; (solve | (repeat (first | exact List.Mem.head _ | apply List.Mem.tail))); assumption) | (apply Rd.getO; (solve | (repeat (first | exact List.Mem.head _ | apply List.Mem.tail))); assumption) | (apply Rd.getI; (solve | (repeat (first | exact List.Mem.head _ | apply List.Mem.tail))); assumption) | (apply Rd.cel; (solve | (repeat (first | exact List.Mem.head _ | apply List.Mem.tail))); exact rfl) | (apply Rd.celI; (solve | (repeat (first | exact List.Mem.head _ | apply List.Mem.tail))); exact rfl)) ?_
  refine RL.move rfl rfl rfl rfl ?_
  refine RL.nilCheck rfl rfl rfl rfl ?_
  refine RL.fieldAddr fa_363_1 rfl rfl rfl rfl ?_
  refine RL.load Try.isAgg95 rfl rfl rfl rfl (by first | assumption | (apply RdI.rd; assumption) | (apply Rd.get; (solve | (repeat (first | exact List.Mem.head _ | apply List.Mem.tail))); assumption) | (apply Rd.getS; (solve | (repeat (first | exact List.Mem.head _ | apply List.Mem.tail))); assumption) | (apply Rd.getO; (solve | (repeat (first | exact List.Mem.head _ | apply List.Mem.tail))); assumption) | (apply Rd.getI; (solve | (repeat (first | exact List.Mem.head _ | apply List.Mem.tail))); assumption) | (apply Rd.cel; (solve | (repeat (first | exact List.Mem.head _ | apply List.Mem.tail))); exact rfl) | (apply Rd.celI; (solve | (repeat (first | exact List.Mem.head _ | apply List.Mem.tail))); exact rfl)) ?_
  refine RL.lenS Try.runUnderlying95 rfl rfl rfl rfl ?_
  refine RL.move rfl rfl rfl rfl ?_
  refine RL.nilCheck rfl rfl rfl rfl ?_
  refine RL.fieldAddr fa_363_1 rfl rfl rfl rfl ?_
  refine RL.load Try.isAgg95 rfl rfl rfl rfl (by first | assumption | (apply RdI.rd; assumption) | (apply Rd.get; (solve | (repeat (first | exact List.Mem.head _ | apply List.Mem.tail))); assumption) | (apply Rd.getS; (solve | (repeat (first | exact List.Mem.head _ | apply List.Mem.tail))); assumption) | (apply Rd.getO; (solve | (repeat (first | exact List.Mem.head _ | apply List.Mem.tail))); assumption) | (apply Rd.getI; (solve | (repeat (first | exact List.Mem.head _ | apply List.Mem.tail))); assumption) | (apply Rd.cel; (solve | (repeat (first | exact List.Mem.head _ | apply List.Mem.tail))); exact rfl) | (apply Rd.celI; (solve | (repeat (first | exact List.Mem.head _ | apply List.Mem.tail))); exact rfl)) ?_
  refine RL.lenS Try.runUnderlying95 rfl rfl rfl rfl ?_
  -- STOP: op; op 15: d=42 ["slice", 95, ["t", 31], null, ["t", 36], ["t", 41]] guard=None (hash.go:101)
  refine RL.slice3 (hi := k) Try.runUnderlying95 Try.sizeOf5 rfl rfl rfl rfl rfl rfl hk ?_
  refine RL.move rfl rfl rfl rfl ?_
  -- STOP: op; op 17: d=44 ["builtin", "Go.Builtin.append", [["t", 42], ["t", 43]], [95, 95]] guard=None (hash.go:101)
  refine RL.append0 el_95 rfl rfl rfl rfl rfl rfl (Nat.le_refl k) ?_
  refine RL.nilCheck rfl rfl rfl rfl ?_
  refine RL.fieldAddr fa_363_1 rfl rfl rfl rfl ?_
  refine RL.store (vs := [_]) Try.sizeOf95 rfl rfl rfl rfl rfl rfl rfl rfl rfl (by repeat (first | exact Upd.here | apply Upd.there)) ?_
  refine RL.nil ?_
  refine NQ.seq ?_
  refine CW.only (.cons (k := 0) rfl .nil) ?_
  refine CW.seq ?_
  refine CW.block ?_
  -- STOP: loop; todo top: ["code", ["loop", ["seq", ["seq", ["region", 7, [{"d": 47, "op": ["move", ["t", 0]], "ty": 301, "pos": "hash.go:102", "after": [], "guard": null}, {"d": 48, "op": ["nilCheck", ["t", 47]], "ty": 0, "po
  refine CW.loop (γ := Nat) (fun _ => True) (fun _ => [(0, .pointer (some ⟨b, 0, none⟩))])
    (fun _ => [sls p 1 k (bytes rest)]) (fun _ => [hcel b s p k k n]) (fun n => n) 0 trivial (.cons rfl .nil) (fun _ h => by simpa [spl] using h) ?_
  intro _ _
  refine CW.seq ?_
  refine CW.seq ?_
  refine CW.region (ef := []) (bk := []) ?_
  refine RL.move rfl rfl rfl rfl ?_
  refine RL.nilCheck rfl rfl rfl rfl ?_
  refine RL.fieldAddr fa_363_1 rfl rfl rfl rfl ?_
  refine RL.load Try.isAgg95 rfl rfl rfl rfl (by first | assumption | (apply RdI.rd; assumption) | (apply Rd.get; (solve | (repeat (first | exact List.Mem.head _ | apply List.Mem.tail))); assumption) | (apply Rd.getS; (solve | (repeat (first | exact List.Mem.head _ | apply List.Mem.tail))); assumption) | (apply Rd.getO; (solve | (repeat (first | exact List.Mem.head _ | apply List.Mem.tail))); assumption) | (apply Rd.getI; (solve | (repeat (first | exact List.Mem.head _ | apply List.Mem.tail))); assumption) | (apply Rd.cel; (solve | (repeat (first | exact List.Mem.head _ | apply List.Mem.tail))); exact rfl) | (apply Rd.celI; (solve | (repeat (first | exact List.Mem.head _ | apply List.Mem.tail))); exact rfl)) ?_
  refine RL.lenS Try.runUnderlying95 rfl rfl rfl rfl ?_
  refine RL.bin rfl rfl rfl rfl rfl rfl ?_
  refine RL.nil ?_
  refine NQ.seq ?_
  -- STOP: if; todo top: ["code", ["cond", ["t", 52], ["skip"], ["exit", 1]]]
  refine CW.condF rfl ((by simp; omega)) ?_
  refine CW.exit ?_
  refine XQ.seq ?_
  refine XQ.seq ?_
  refine XQ.hit ?_
  refine NQ.seq ?_
  refine CW.only .nil ?_
  refine CW.seq ?_
  refine CW.region (ef := []) (bk := []) ?_
  refine RL.assign rfl rfl rfl rfl ?_
  refine RL.nil ?_
  refine NQ.seq ?_
  refine CW.ret ?_
  -- STOP: ret; end
  exact RQ.post (res1 rfl rfl) (.keep .nil) ⟨rfl, rfl, rfl⟩

section
variable {L : List Oper} {ef bk : List Nat} {tq : Tq} {Q : Exit → Act → World → Prop} {N : Nat} {E : Env} {w0 : World} {S : List Nat} {I H : List It} {i : Nat} {l : Sq}
variable {d : Nat} {ty : TypeId} {pos : String} {af : Array Edge} {g : Option (Nat × Bool)}

/-- A call of Write: state and rest behind it are told. -/
theorem RL.write {b : Nat} {s : S8} {p q : Option Addr} {cap c2 n : Nat} {rest m : List B8} {B : List It} {xs : Array Operand} {ats : Array TypeId} (h64 : rest.length < 64) (hk : rest.length ≤ cap) (hn : rest.length ≤ n) (hb : n + m.length ≤ 1000000000)
    (ho : nth L i = some ⟨some d, .call ⟨.value (.func 169), xs, ats⟩, ty, pos, af, g⟩) (hw : wants L E ⟨some d, .call ⟨.value (.func 169), xs, ats⟩, ty, pos, af, g⟩ = true)
    (hN : Nat.blt d N = true) (hi : ef.contains i = true) (hbk : bk.contains i = true) (hx : evs E xs.toList = some [.pointer (some ⟨b, 0, none⟩), .slice q m.length c2]) (hI : sls p 1 rest.length (bytes rest) ∈ I)
    (hp : Pick H [hcel b s p rest.length cap n] B) (hl : Lend I B [sls q 1 m.length (bytes m)])
    (h : ∀ p' cap', (absorb s (rest ++ m)).2.length ≤ cap' → RL Try.prog L ef bk tq Q l N ((d, .int .i64 0) :: E) w0 S (sls p' 1 (absorb s (rest ++ m)).2.length (bytes (absorb s (rest ++ m)).2) :: I) (hcel b (absorb s (rest ++ m)).1 p' (absorb s (rest ++ m)).2.length cap' (n + m.length) :: B)) :
    RL Try.prog L ef bk tq Q (.cons i l) N E w0 S I H := by
  by_cases h0 : m = []
  · subst h0
    refine RL.call (write_none b s p q rest.length cap c2 n rest h64 hk (by simpa using hb)) Try.call169 ho hw hN hi hx hp (.inI hI .nil) (.inr hbk) ?_
    rintro _ _ _ ⟨rfl, rfl, rfl⟩
    have := h p rest.length
    rw [List.append_nil, absorb_lt h64] at this
    exact RL.also (sls p 1 rest.length (bytes rest)) (fun w hw => hw.i _ hI) (fun c hc => mem_bss.2 ⟨_, hI, hc⟩) (this (Nat.le_refl _))
  · refine RL.call (write_any b s p q cap c2 n rest m h0 hk hn hb) Try.call169 ho hw hN hi hx hp (.inI hI hl) (.inr hbk) ?_
    rintro _ _ _ ⟨p', cap', rfl, rfl, rfl, hc⟩
    exact h p' cap' hc
end
end Go.Proofs.Ytkkfdoippibfkaa
