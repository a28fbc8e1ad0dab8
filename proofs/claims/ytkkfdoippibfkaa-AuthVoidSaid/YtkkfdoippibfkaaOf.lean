import Derived.Test.YtkkfdoippibfkaaSum
namespace Go.Proofs.Ytkkfdoippibfkaa
open Go.PK

/-- A part: where it lies, its room, its bytes. -/
structure Part where
  p : Option Addr
  c : Nat
  m : List B8
abbrev Part.v (x : Part) : Value := .slice x.p x.m.length x.c
abbrev Part.i (x : Part) : It := sls x.p 1 x.m.length (bytes x.m)
def joined (ps : List Part) : List B8 := ps.flatMap (·.m)

theorem joined_succ {ps : List Part} {i : Nat} (h : i < ps.length) : joined (ps.take (i + 1)) = joined (ps.take i) ++ ps[i].m := by
  rw [joined, joined, List.take_succ_eq_append_getElem h, List.flatMap_append]; simp
theorem joined_le (ps : List Part) (i : Nat) : (joined (ps.take i)).length ≤ (joined ps).length := by
  have : joined ps = joined (ps.take i) ++ joined (ps.drop i) := by rw [joined, joined, joined, ← List.flatMap_append, List.take_append_drop]
  rw [this, List.length_append]; omega

set_option maxHeartbeats 1000000 in
theorem of_any (pp : Option Addr) (cap : Nat) (ps : List Part) (hn : ps.length ≤ 1000000000) (hb : (joined ps).length ≤ 1000000000) :
    Spc Try.prog 119 #[.slice pp ps.length cap] (sls pp 1 ps.length (ps.map Part.v) :: ps.map Part.i) [] (Is (.agg (bytes (sha (joined ps))).toArray)) := by
  generalize hBase : sls pp 1 ps.length (ps.map Part.v) :: ps.map Part.i = Base
  refine Spc.enter Try.func119 rfl rfl rfl (fun w0 hw0 => ?_)
  refine CW.seq ?_
  refine CW.region (ef := [0]) (bk := []) ?_
  refine RL.alloc Try.zeroValue133 rfl rfl rfl rfl rfl ?_
  intro b1
  refine RL.nil ?_
  refine NQ.seq ?_
  refine CW.seq ?_
  refine CW.region (ef := [0]) (bk := []) ?_
  refine RL.call (new_any) Try.call168 rfl rfl rfl rfl rfl (by repeat (first | exact Pick.nil | apply Pick.take | apply Pick.leave)) (by repeat (first | exact Lend.nil | (refine Lend.inI ?_ ?_; (solve | (repeat (first | exact List.Mem.head _ | apply List.Mem.tail)))) | (refine Lend.inH ?_ ?_; (solve | (repeat (first | exact List.Mem.head _ | apply List.Mem.tail)))))) (.inl rfl) ?_
  -- STOP: called; op 1: d=3 ["assign", ["t", 6]] guard=None (hash.go:155)
  rintro _ _ _ ⟨b, rfl, rfl, rfl⟩
  refine RL.assign rfl rfl rfl rfl ?_
  refine RL.nil ?_
  refine NQ.seq ?_
  refine CW.seq ?_
  refine CW.seq ?_
  refine CW.region (ef := []) (bk := []) ?_
  refine RL.move rfl rfl rfl rfl ?_
  refine RL.lenS Try.runUnderlying281 rfl rfl rfl rfl ?_
  refine RL.move rfl rfl rfl rfl ?_
  refine RL.nil ?_
  refine NQ.seq ?_
  refine CW.block ?_
  -- STOP: loop; todo top: ["code", ["loop", ["seq", ["region", 3, [{"d": 10, "op": ["binOp", "Go.BinOp.lss", 3, ["t", 9], ["t", 8], 3], "ty": 0, "pos": "hash.go:156", "after": [], "guard": null}], false], ["seq", ["cond", ["t"
  refine CW.loop (γ := Nat × Option Addr × Nat) (fun g => g.1 ≤ ps.length ∧ (after (joined (ps.take g.1))).2.length ≤ g.2.2)
    (fun g => [(2, .pointer (some ⟨b1, 0, none⟩)), (3, .pointer (some ⟨b, 0, none⟩)), (7, .slice pp ps.length cap), (8, .int .i64 (ps.length : Int)), (9, .int .i64 (g.1 : Int))])
    (fun g => sls g.2.1 1 (after (joined (ps.take g.1))).2.length (bytes (after (joined (ps.take g.1))).2) :: Base)
    (fun g => [hcel b (after (joined (ps.take g.1))).1 g.2.1 (after (joined (ps.take g.1))).2.length g.2.2 (joined (ps.take g.1)).length, cel b1 (List.replicate 32 (U8 0#8)) 133])
    (fun g => ps.length - g.1) (0, none, 0) ⟨by omega, by simp [joined, after_nil]⟩ (.cons rfl (.cons rfl (.cons rfl (.cons rfl (.cons rfl .nil)))))
    (fun w h => by
      have e : after (joined (ps.take 0)) = (iv, []) := by simp [joined, after_nil]
      dsimp only
      rw [e]
      exact h.also (x := sls none 1 0 []) (fun _ _ => ⟨rfl, rfl⟩) (fun c hc => by simp [sls] at hc)) ?_
  rintro ⟨i, p', c'⟩ ⟨hi, hc⟩
  dsimp only at hi hc ⊢
  have hr := after_rest (joined (ps.take i))
  refine CW.seq ?_
  refine CW.region (ef := []) (bk := []) ?_
  refine RL.bin rfl rfl rfl rfl rfl rfl ?_
  refine RL.nil ?_
  refine NQ.seq ?_
  refine CW.seq ?_
  -- STOP: if; todo top: ["code", ["cond", ["t", 10], ["skip"], ["exit", 0]]]
  refine CW.cond rfl (fun hlt => ?_) (fun hlt => ?_)
  ·
    have hlt : i < ps.length := by simp at hlt; omega
    have hmem : sls pp 1 ps.length (ps.map Part.v) ∈ Base := by rw [← hBase]; exact List.Mem.head _
    have hmi : (ps[i]).i ∈ Base := by rw [← hBase]; exact List.mem_cons_of_mem _ (List.mem_map_of_mem (List.getElem_mem _))
    refine CW.fact (p := pp ≠ none) (fun w hC e => by
      have := sls_nil (hC.s.i _ (List.mem_cons_of_mem _ hmem)) e
      omega) (fun hpp => ?_)
    obtain ⟨a, rfl⟩ : ∃ a, pp = some a := by
      cases pp with
      | none => exact absurd rfl hpp
      | some a => exact ⟨a, rfl⟩
    have hv : (ps.map Part.v)[i * 1]? = some (ps[i]).v := by simp [hlt]
    refine CW.skip ?_
    refine NQ.seq ?_
    refine CW.seq ?_
    refine CW.block ?_
    refine CW.seq ?_
    refine CW.region (ef := []) (bk := []) ?_
    -- STOP: op; op 0: d=11 ["indexAddr", 281, ["t", 7], ["t", 9]] guard=None (hash.go:156)
    refine RL.idx (j := i) Try.runUnderlying281 Try.sizeOf95 rfl rfl rfl rfl rfl rfl hlt ?_
    -- STOP: op; op 1: d=12 ["load", 95, ["t", 11]] guard=None (hash.go:156)
    refine RL.load Try.isAgg95 rfl rfl rfl rfl (Rd.getS (List.mem_cons_of_mem _ hmem) hv) ?_
    refine RL.assign rfl rfl rfl rfl ?_
    refine RL.nil ?_
    refine NQ.seq ?_
    refine CW.region (ef := [2]) (bk := [2]) ?_
    refine RL.move rfl rfl rfl rfl ?_
    refine RL.move rfl rfl rfl rfl ?_
    -- STOP: op; op 2: d=15 ["call", ["f", 169], [["t", 13], ["t", 14]], [301, 95]] guard=None (hash.go:157)
    have hj := joined_succ hlt
    have hle := joined_le ps (i + 1)
    rw [hj, List.length_append] at hle
    refine RL.write (p := p') (q := ps[i].p) (c2 := ps[i].c) (m := ps[i].m) hr.1 hc hr.2.1 (by omega) rfl rfl rfl rfl rfl rfl (List.Mem.head _) (by repeat (first | exact Pick.nil | apply Pick.take | apply Pick.leave)) (.inI (List.mem_cons_of_mem _ hmi) .nil) ?_
    intro p2 c2 hc2
    rw [after_append, ← hj] at hc2 ⊢
    refine RL.nil ?_
    refine NQ.block ?_
    refine NQ.seq ?_
    refine CW.only (.cons (k := 2) rfl (.cons (k := 3) rfl (.cons (k := 7) rfl (.cons (k := 8) rfl (.cons (k := 9) rfl .nil))))) ?_
    refine CW.region (ef := []) (bk := []) ?_
    refine RL.binX rfl rfl rfl rfl rfl rfl (wrapV_i64 (by omega) (by omega)) ?_
    refine RL.move rfl rfl rfl rfl ?_
    refine RL.nil ?_
    -- STOP: round; todo top: ["N"]
    refine NQ.round (g := (i, p', c')) (i + 1, p2, c2) ⟨hlt, hc2⟩ (by show ps.length - (i + 1) < ps.length - i; omega) (.cons rfl (.cons rfl (.cons rfl (.cons rfl (.cons rfl .nil))))) (fun w h => ?_)
    dsimp only
    rw [show (joined (ps.take (i + 1))).length = (joined (ps.take i)).length + ps[i].m.length by rw [hj, List.length_append]]
    exact h.les (fun x hx => by
      rcases List.mem_cons.1 hx with rfl | hx
      · exact List.Mem.head _
      · exact List.mem_cons_of_mem _ (List.mem_cons_of_mem _ hx)) (Les.refl _)
  ·
    have hil : i = ps.length := by simp at hlt; omega
    subst hil
    rw [List.take_length] at hr hc ⊢
    refine CW.exit ?_
    refine XQ.seq ?_
    refine XQ.seq ?_
    refine XQ.hit ?_
    refine NQ.seq ?_
    refine CW.seq ?_
    refine CW.region (ef := [2]) (bk := [2]) ?_
    refine RL.move rfl rfl rfl rfl ?_
    refine RL.callv (sum_any b (after (joined ps)).1 p' c' (joined ps).length (after (joined ps)).2 hr.1 hb) Try.call170 rfl rfl rfl rfl (by repeat (first | exact Lend.nil | (refine Lend.inI ?_ ?_; (solve | (repeat (first | exact List.Mem.head _ | apply List.Mem.tail)))) | (refine Lend.inH ?_ ?_; (solve | (repeat (first | exact List.Mem.head _ | apply List.Mem.tail)))))) ?_
    -- STOP: op; op 2: d=None ["store", 133, ["t", 2], ["t", 18]] guard=None (hash.go:159)
    refine RL.storeX (cs := List.replicate 32 (U8 0#8)) (cs' := bytes (sha (joined ps))) (vs := bytes (sha (joined ps))) (spl_all (by simp [sha_length])) (by rw [List.length_map, sha_length]; exact Try.sizeOf133) rfl rfl rfl rfl rfl rfl rfl (ones_map one8 _) (by repeat (first | exact Upd.here | apply Upd.there)) (by simp [sha_length]) ?_
    refine RL.nil ?_
    refine NQ.seq ?_
    refine CW.only (.cons (k := 2) rfl .nil) ?_
    refine CW.ret ?_
    -- STOP: ret; end
    exact RQ.post (resC rfl rfl Try.isAgg133 (vs := bytes (sha (joined ps))) (by rw [List.length_map, sha_length]; exact Try.sizeOf133) (Rds.all (by repeat (first | exact List.Mem.head _ | apply List.Mem.tail)))) (Split.none _) ⟨rfl, rfl, rfl⟩
end Go.Proofs.Ytkkfdoippibfkaa
