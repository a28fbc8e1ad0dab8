import Derived.Test.YtpokocnnaendaaaBase
import Derived.Test.YtpokocnnaendaaaHOf
namespace Go.Proofs.Ytpokocnnaendaaa
open Go.PK

theorem pieces_walk (p : Option Addr) (cap : Nat) (m : List B8) (hc : m.length ≤ cap) (q : Option Addr) (acap : Nat) (ats : List Int) (hal : ats.length ≤ maxLen) :
    Spc Try.prog 4 #[.slice p m.length cap, .slice q ats.length acap] [sls p 1 m.length (bytes m), sls q 1 ats.length (ints ats)] [] (Is (.bool true)) := by
  unfold maxLen at hal
  refine Spc.enter Try.func4 rfl rfl rfl (fun w0 hw0 => ?_)
  refine CW.seq ?_
  refine CW.region (ef := []) (bk := []) ?_
  refine RL.assign rfl rfl rfl rfl ?_
  refine RL.nil ?_
  refine NQ.seq ?_
  refine CW.seq ?_
  refine CW.seq ?_
  refine CW.region (ef := []) (bk := []) ?_
  refine RL.callv (works_yes) Try.call18 rfl rfl rfl rfl (by repeat (first | exact Lend.nil | (refine Lend.inI ?_ ?_; (solve | (repeat (first | exact List.Mem.head _ | apply List.Mem.tail)))) | (refine Lend.inH ?_ ?_; (solve | (repeat (first | exact List.Mem.head _ | apply List.Mem.tail)))))) ?_
  refine RL.not rfl rfl rfl rfl ?_
  refine RL.nil ?_
  refine NQ.seq ?_
  -- STOP: if; todo top: ["code", ["cond", ["t", 10], ["seq", ["region", 2, [{"d": 4, "op": ["assign", ["c", ["bool", false]]], "ty": 4, "pos": "law.go:60", "after": [], "guard": null}], false], ["ret"]], ["skip"]]]
  refine CW.condF rfl (rfl) ?_
  refine CW.skip ?_
  refine NQ.seq ?_
  refine CW.seq ?_
  refine CW.region (ef := []) (bk := []) ?_
  refine RL.move rfl rfl rfl rfl ?_
  refine RL.move rfl rfl rfl rfl ?_
  refine RL.lenS Try.runUnderlying23 rfl rfl rfl rfl ?_
  refine RL.min rfl rfl rfl rfl rfl ?_
  -- STOP: op; op 4: d=15 ["slice", 23, ["t", 11], null, ["t", 14], null] guard=None (law.go:62)
  refine RL.slice (lo := 0) (hi := (m.take 1000).length) Try.runUnderlying23 Try.sizeOf5 rfl rfl rfl rfl rfl (congrArg some (by rw [List.length_take]; omega)) (by omega) (by rw [List.length_take]; omega) ?_
  rw [Nat.sub_zero, Nat.sub_zero]
  refine RL.assign rfl rfl rfl rfl ?_
  refine RL.nil ?_
  refine NQ.seq ?_
  refine CW.only (.cons (k := 0) rfl (.cons (k := 1) rfl .nil)) ?_
  refine CW.seq ?_
  -- STOP: region; todo top: ["code", ["region", 4, [{"d": 16, "op": ["call", ["f", 19], [], []], "ty": 33, "pos": "law.go:63", "after": [], "guard": null}, {"d": 5, "op": ["assign", ["t", 16]], "ty": 33, "pos": "law.go:63", "aft
  refine CW.takeB (c := cap) (k := 1000) (by repeat (first | exact List.Mem.head _ | apply List.Mem.tail)) hc ?_
  have hB : (m.take 1000).length ≤ 1000 := by rw [List.length_take]; omega
  have hBc : (m.take 1000).length ≤ cap := by rw [List.length_take]; omega
  generalize m.take 1000 = B at hB hBc ⊢
  generalize (if cap = 0 then p else p.map (·.add (0 * 1))) = P2
  refine CW.les (I' := [sls P2 1 B.length (bytes B), sls q 1 ats.length (ints ats)]) (fun x hx => by simp at hx; rcases hx with rfl | rfl <;> simp) (Les.refl _) ?_
  clear hc
  refine CW.region (ef := [0]) (bk := []) ?_
  refine RL.call (new_any) Try.call19 rfl rfl rfl rfl rfl (by repeat (first | exact Pick.nil | apply Pick.take | apply Pick.leave)) (by repeat (first | exact Lend.nil | (refine Lend.inI ?_ ?_; (solve | (repeat (first | exact List.Mem.head _ | apply List.Mem.tail)))) | (refine Lend.inH ?_ ?_; (solve | (repeat (first | exact List.Mem.head _ | apply List.Mem.tail)))))) (.inl rfl) ?_
  -- STOP: called; op 1: d=5 ["assign", ["t", 16]] guard=None (law.go:63)
  rintro _ _ _ ⟨hb, rfl, rfl, rfl⟩
  refine RL.assign rfl rfl rfl rfl ?_
  refine RL.nil ?_
  refine NQ.seq ?_
  refine CW.seq ?_
  refine CW.region (ef := []) (bk := []) ?_
  refine RL.assign rfl rfl rfl rfl ?_
  refine RL.nil ?_
  refine NQ.seq ?_
  refine CW.seq ?_
  refine CW.seq ?_
  refine CW.region (ef := []) (bk := []) ?_
  refine RL.assign rfl rfl rfl rfl ?_
  refine RL.nil ?_
  refine NQ.seq ?_
  refine CW.block ?_
  -- STOP: loop; todo top: ["code", ["loop", ["seq", ["seq", ["region", 7, [{"d": 17, "op": ["move", ["t", 7]], "ty": 3, "pos": "law.go:65", "after": [], "guard": null}, {"d": 18, "op": ["move", ["t", 1]], "ty": 32, "pos": "law
  refine CW.loop (γ := Nat × Nat × Option Addr × Nat) (fun g => g.1 ≤ ats.length ∧ g.2.1 ≤ B.length ∧ (after (B.take g.2.1)).2.length ≤ g.2.2.2)
    (fun g => [(0, .slice P2 B.length cap), (1, .slice q ats.length acap), (5, .pointer (some ⟨hb, 0, none⟩)), (6, .int .i64 (g.2.1 : Int)), (7, .int .i64 (g.1 : Int))])
    (fun g => [sls g.2.2.1 1 (after (B.take g.2.1)).2.length (bytes (after (B.take g.2.1)).2), sls P2 1 B.length (bytes B), sls q 1 ats.length (ints ats)])
    (fun g => [hcel hb (after (B.take g.2.1)).1 g.2.2.1 (after (B.take g.2.1)).2.length g.2.2.2 g.2.1]) (fun g => ats.length - g.1) (0, 0, none, 0) ⟨Nat.zero_le _, Nat.zero_le _, by simp [after_nil]⟩
    (.cons rfl (.cons rfl (.cons rfl (.cons rfl (.cons rfl .nil)))))
    (fun w h => by
      dsimp only
      rw [List.take_zero, after_nil]
      exact h.also (x := sls none 1 0 []) (fun _ _ => ⟨rfl, rfl⟩) (fun c hc => by simp [sls] at hc)) ?_
  rintro ⟨i, fr, p', c'⟩ ⟨h1, h2, h3⟩
  dsimp only at h1 h2 h3 ⊢
  have hr := after_rest (B.take fr)
  have hfl : (B.take fr).length = fr := by rw [List.length_take]; omega
  refine CW.fact (p := q = none → ats.length = 0) (fun w hC e => sls_nil (hC.s.i (sls q 1 ats.length (ints ats)) (by repeat (first | exact List.Mem.head _ | apply List.Mem.tail))) e) (fun hpp => ?_)
  refine CW.seq ?_
  refine CW.seq ?_
  refine CW.region (ef := []) (bk := []) ?_
  refine RL.move rfl rfl rfl rfl ?_
  refine RL.move rfl rfl rfl rfl ?_
  refine RL.lenS Try.runUnderlying32 rfl rfl rfl rfl ?_
  refine RL.bin rfl rfl rfl rfl rfl rfl ?_
  refine RL.move rfl rfl rfl rfl ?_
  -- STOP: part 21; op 5: d=22 ["move", ["t", 7]] guard=[4, True] (law.go:65)
  refine RL.part (d := 21) rfl (fun ha => ?_) (fun ha => ?_)
  ·
    refine RL.move rfl rfl rfl rfl ?_
    refine RL.bin rfl rfl rfl rfl rfl rfl ?_
    refine RL.pickT rfl rfl rfl rfl rfl ?_
    refine RL.nil ?_
    refine NQ.seq ?_
    refine CW.only (.cons (k := 0) rfl (.cons (k := 1) rfl (.cons (k := 5) rfl (.cons (k := 6) rfl (.cons (k := 7) rfl (.cons (k := 24) rfl .nil)))))) ?_
    -- STOP: if; todo top: ["code", ["cond", ["t", 24], ["skip"], ["exit", 0]]]
    refine CW.cond rfl (fun hb2 => ?_) (fun hb2 => ?_)
    ·
      have ha : i < ats.length := by simp at ha; omega
      obtain ⟨a, rfl⟩ : ∃ a, q = some a := by
        cases q with
        | none => exact absurd (hpp rfl) (by omega)
        | some a => exact ⟨a, rfl⟩
      have hv : (ints ats)[i * 1]? = some (.int .i64 ats[i]) := by simp [ha]
      generalize ats[i] = y at hv
      have hlt := amongN_lt (x := y) (n := B.length - fr + 1) (by omega)
      refine CW.skip ?_
      refine NQ.seq ?_
      refine CW.seq ?_
      refine CW.block ?_
      refine CW.seq ?_
      refine CW.region (ef := []) (bk := []) ?_
      refine RL.move rfl rfl rfl rfl ?_
      refine RL.move rfl rfl rfl rfl ?_
      -- STOP: op; op 2: d=29 ["indexAddr", 32, ["t", 27], ["t", 28]] guard=None (law.go:66)
      refine RL.idx (j := i) Try.runUnderlying32 Try.sizeOf3 rfl rfl rfl rfl rfl rfl ha ?_
      refine RL.load Try.isAgg3 rfl rfl rfl rfl (by first | assumption | (apply Rd.get; (solve | (repeat (first | exact List.Mem.head _ | apply List.Mem.tail))); assumption) | (apply Rd.getS; (solve | (repeat (first | exact List.Mem.head _ | apply List.Mem.tail))); assumption) | (apply Rd.getO; (solve | (repeat (first | exact List.Mem.head _ | apply List.Mem.tail))); assumption) | (apply Rd.getI; (solve | (repeat (first | exact List.Mem.head _ | apply List.Mem.tail))); assumption) | (apply Rd.cel; (solve | (repeat (first | exact List.Mem.head _ | apply List.Mem.tail))); exact rfl) | (apply Rd.celI; (solve | (repeat (first | exact List.Mem.head _ | apply List.Mem.tail))); exact rfl)) ?_
      refine RL.move rfl rfl rfl rfl ?_
      refine RL.lenS Try.runUnderlying23 rfl rfl rfl rfl ?_
      refine RL.move rfl rfl rfl rfl ?_
      -- STOP: op; op 7: d=34 ["binOp", "Go.BinOp.sub", 3, ["t", 32], ["t", 33], 3] guard=None (law.go:66)
      refine RL.binX (v' := .int .i64 ((B.length - fr : Nat) : Int)) rfl rfl rfl rfl rfl rfl (intV (by omega) (by omega)) ?_
      -- STOP: op; op 8: d=35 ["binOp", "Go.BinOp.add", 3, ["t", 34], ["c", ["int", "Go.IntKind.i64", 1]], 3] guard=None (law.go:66)
      refine RL.binX (v' := .int .i64 ((B.length - fr + 1 : Nat) : Int)) rfl rfl rfl rfl rfl rfl (intV (by omega) (by omega)) ?_
      refine RL.callv (among_any y (B.length - fr + 1) (by omega) (by omega)) Try.call20 rfl rfl rfl rfl (by repeat (first | exact Lend.nil | (refine Lend.inI ?_ ?_; (solve | (repeat (first | exact List.Mem.head _ | apply List.Mem.tail)))) | (refine Lend.inH ?_ ?_; (solve | (repeat (first | exact List.Mem.head _ | apply List.Mem.tail)))))) ?_
      refine RL.assign rfl rfl rfl rfl ?_
      refine RL.nil ?_
      refine NQ.seq ?_
      refine CW.only (.cons (k := 0) rfl (.cons (k := 1) rfl (.cons (k := 5) rfl (.cons (k := 6) rfl (.cons (k := 7) rfl (.cons (k := 8) rfl .nil)))))) ?_
      refine CW.seq ?_
      refine CW.region (ef := [7]) (bk := [7]) ?_
      refine RL.move rfl rfl rfl rfl ?_
      refine RL.move rfl rfl rfl rfl ?_
      refine RL.move rfl rfl rfl rfl ?_
      refine RL.move rfl rfl rfl rfl ?_
      refine RL.move rfl rfl rfl rfl ?_
      -- STOP: op; op 5: d=42 ["binOp", "Go.BinOp.add", 3, ["t", 40], ["t", 41], 3] guard=None (law.go:67)
      generalize amongN y (B.length - fr + 1) = n at hlt ⊢
      refine RL.binX (v' := .int .i64 ((fr + n : Nat) : Int)) rfl rfl rfl rfl rfl rfl (intV (by omega) (by omega)) ?_
      -- STOP: op; op 6: d=43 ["slice", 23, ["t", 38], ["t", 39], ["t", 42], null] guard=None (law.go:67)
      refine RL.slice (lo := fr) (hi := fr + n) Try.runUnderlying23 Try.sizeOf5 rfl rfl rfl rfl rfl rfl (by omega) (by omega) ?_
      have hml : ((B.drop fr).take n).length = n := by rw [List.length_take, List.length_drop]; omega
      have hcat : B.take fr ++ (B.drop fr).take n = B.take (fr + n) := (List.take_add ..).symm
      rw [show fr + n - fr = ((B.drop fr).take n).length by omega]
      refine RL.write (n := fr) (rest := (after (B.take fr)).2) (m := (B.drop fr).take n) hr.1 h3 (by omega) (by omega) rfl rfl rfl rfl rfl rfl (by repeat (first | exact List.Mem.head _ | apply List.Mem.tail)) (by repeat (first | exact Pick.nil | apply Pick.take | apply Pick.leave)) (Lend.partB (m := B) (lo := fr) (k := n) (by repeat (first | exact List.Mem.head _ | apply List.Mem.tail)) (by omega) hBc .nil) ?_
      intro p2 c2 hc2
      rw [after_append, hcat] at hc2 ⊢
      rw [hml]
      refine RL.nil ?_
      refine NQ.seq ?_
      refine CW.only (.cons (k := 0) rfl (.cons (k := 1) rfl (.cons (k := 5) rfl (.cons (k := 6) rfl (.cons (k := 7) rfl (.cons (k := 8) rfl .nil)))))) ?_
      refine CW.region (ef := []) (bk := []) ?_
      refine RL.move rfl rfl rfl rfl ?_
      refine RL.move rfl rfl rfl rfl ?_
      refine RL.binX rfl rfl rfl rfl rfl rfl (wrapV_i64 (by omega) (by omega)) ?_
      refine RL.assign rfl rfl rfl rfl ?_
      refine RL.nil ?_
      refine NQ.block ?_
      refine NQ.seq ?_
      refine CW.region (ef := []) (bk := []) ?_
      refine RL.move rfl rfl rfl rfl ?_
      refine RL.binX rfl rfl rfl rfl rfl rfl (wrapV_i64 (by omega) (by omega)) ?_
      refine RL.assign rfl rfl rfl rfl ?_
      refine RL.nil ?_
      -- STOP: round; todo top: ["N"]
      refine NQ.round (g := (i, fr, p', c')) (i + 1, fr + n, p2, c2) ⟨ha, by show fr + n ≤ B.length; omega, hc2⟩ (by show ats.length - (i + 1) < ats.length - i; omega) (.cons rfl (.cons rfl (.cons rfl (.cons (by rw [show ((fr + n : Nat) : Int) = (fr : Int) + n by omega]; rfl) (.cons rfl .nil))))) (fun w h => ?_)
      exact h.les (fun x hx => by simp at hx; rcases hx with rfl | rfl | rfl <;> simp) (Les.refl _)
    ·
      refine CW.exit ?_
      refine XQ.seq ?_
      refine XQ.seq ?_
      refine XQ.hit ?_
      refine NQ.seq ?_
      refine CW.seq ?_
      refine CW.region (ef := [4]) (bk := [4]) ?_
      refine RL.move rfl rfl rfl rfl ?_
      refine RL.move rfl rfl rfl rfl ?_
      refine RL.move rfl rfl rfl rfl ?_
      -- STOP: op; op 3: d=51 ["slice", 23, ["t", 49], ["t", 50], null, null] guard=None (law.go:70)
      refine RL.slice (lo := fr) (hi := B.length) Try.runUnderlying23 Try.sizeOf5 rfl rfl rfl rfl rfl rfl (by omega) (by omega) ?_
      have hml : ((B.drop fr).take (B.length - fr)).length = B.length - fr := by rw [List.length_take, List.length_drop]; omega
      have hcat : B.take fr ++ (B.drop fr).take (B.length - fr) = B := by rw [← List.take_add, Nat.add_sub_cancel' h2, List.take_length]
      rw [show B.length - fr = ((B.drop fr).take (B.length - fr)).length by omega]
      refine RL.write (n := fr) (rest := (after (B.take fr)).2) (m := (B.drop fr).take (B.length - fr)) hr.1 h3 (by omega) (by omega) rfl rfl rfl rfl rfl rfl (by repeat (first | exact List.Mem.head _ | apply List.Mem.tail)) (by repeat (first | exact Pick.nil | apply Pick.take | apply Pick.leave)) (Lend.partB (m := B) (lo := fr) (k := B.length - fr) (by repeat (first | exact List.Mem.head _ | apply List.Mem.tail)) (by omega) hBc .nil) ?_
      intro p2 c2 hc2
      rw [after_append, hcat] at hc2 ⊢
      rw [hml, Nat.add_sub_cancel' h2]
      have hr2 := after_rest B
      refine RL.nil ?_
      refine NQ.seq ?_
      refine CW.only (.cons (k := 0) rfl (.cons (k := 5) rfl .nil)) ?_
      refine CW.seq ?_
      refine CW.region (ef := [3]) (bk := []) ?_
      refine RL.move rfl rfl rfl rfl ?_
      refine RL.callv (sum_any hb (after B).1 p2 c2 B.length (after B).2 hr2.1 (by omega)) Try.call22 rfl rfl rfl rfl (by repeat (first | exact Lend.nil | (refine Lend.inI ?_ ?_; (solve | (repeat (first | exact List.Mem.head _ | apply List.Mem.tail)))) | (refine Lend.inH ?_ ?_; (solve | (repeat (first | exact List.Mem.head _ | apply List.Mem.tail)))))) ?_
      refine RL.move rfl rfl rfl rfl ?_
      refine RL.buildSlice [_] Try.runUnderlying22 Try.sizeOf23 Try.zeroValue23 rfl rfl (by decide) (by decide) rfl rfl rfl rfl rfl rfl ?_
      intro b1
      refine RL.callv (of_any (some ⟨b1, 0, none⟩) 1 [⟨P2, cap, B⟩] (by simp) (by simp [joined]; omega)) Try.call16 rfl rfl rfl rfl (Lend.all (by repeat (first | exact List.Mem.head _ | apply List.Mem.tail)) rfl (Lend.many (fun x hx => by simp at hx; subst hx; simp))) ?_
      -- STOP: op; op 5: d=58 ["binOp", "Go.BinOp.eql", 27, ["t", 54], ["t", 57], 27] guard=None (law.go:71)
      rw [show joined [⟨P2, cap, B⟩] = B by simp [joined]]
      refine RL.cmp rfl rfl rfl rfl rfl (dig_eq _ _ (dig_length _) (sha_length _) _ _) ?_
      refine RL.move rfl rfl rfl rfl ?_
      -- STOP: part 59; op 7: d=60 ["move", ["t", 5]] guard=[6, True] (law.go:71)
      refine RL.cast (d := 59) (v' := .bool true) rfl ((by rw [show dig (fin (after B).1 (after B).2 B.length) = sha B from rfl]; simp)) ?_
      refine RL.move rfl rfl rfl rfl ?_
      refine RL.callv (len_yes hb (after B).1 p2 (after B).2.length c2 B.length) Try.call23 rfl rfl rfl rfl (by repeat (first | exact Lend.nil | (refine Lend.inI ?_ ?_; (solve | (repeat (first | exact List.Mem.head _ | apply List.Mem.tail)))) | (refine Lend.inH ?_ ?_; (solve | (repeat (first | exact List.Mem.head _ | apply List.Mem.tail)))))) ?_
      refine RL.move rfl rfl rfl rfl ?_
      refine RL.lenS Try.runUnderlying23 rfl rfl rfl rfl ?_
      refine RL.bin rfl rfl rfl rfl rfl rfl ?_
      refine RL.pickT rfl rfl rfl rfl rfl ?_
      refine RL.assign rfl rfl rfl rfl ?_
      refine RL.nil ?_
      refine NQ.seq ?_
      refine CW.only (.cons (k := 4) rfl .nil) ?_
      refine CW.ret ?_
      -- STOP: ret; end
      exact RQ.post (res1 rfl rfl) (Split.none _) ⟨by simp, rfl, rfl⟩
  ·
    refine RL.skip rfl rfl rfl rfl ?_
    refine RL.skip rfl rfl rfl rfl ?_
    refine RL.pickF rfl rfl rfl rfl rfl ?_
    refine RL.nil ?_
    refine NQ.seq ?_
    refine CW.only (.cons (k := 0) rfl (.cons (k := 1) rfl (.cons (k := 5) rfl (.cons (k := 6) rfl (.cons (k := 7) rfl (.cons (k := 24) rfl .nil)))))) ?_
    refine CW.condF rfl rfl ?_
    refine CW.exit ?_
    refine XQ.seq ?_
    refine XQ.seq ?_
    refine XQ.hit ?_
    refine NQ.seq ?_
    refine CW.seq ?_
    refine CW.region (ef := [4]) (bk := [4]) ?_
    refine RL.move rfl rfl rfl rfl ?_
    refine RL.move rfl rfl rfl rfl ?_
    refine RL.move rfl rfl rfl rfl ?_
    -- STOP: op; op 3: d=51 ["slice", 23, ["t", 49], ["t", 50], null, null] guard=None (law.go:70)
    refine RL.slice (lo := fr) (hi := B.length) Try.runUnderlying23 Try.sizeOf5 rfl rfl rfl rfl rfl rfl (by omega) (by omega) ?_
    have hml : ((B.drop fr).take (B.length - fr)).length = B.length - fr := by rw [List.length_take, List.length_drop]; omega
    have hcat : B.take fr ++ (B.drop fr).take (B.length - fr) = B := by rw [← List.take_add, Nat.add_sub_cancel' h2, List.take_length]
    rw [show B.length - fr = ((B.drop fr).take (B.length - fr)).length by omega]
    refine RL.write (n := fr) (rest := (after (B.take fr)).2) (m := (B.drop fr).take (B.length - fr)) hr.1 h3 (by omega) (by omega) rfl rfl rfl rfl rfl rfl (by repeat (first | exact List.Mem.head _ | apply List.Mem.tail)) (by repeat (first | exact Pick.nil | apply Pick.take | apply Pick.leave)) (Lend.partB (m := B) (lo := fr) (k := B.length - fr) (by repeat (first | exact List.Mem.head _ | apply List.Mem.tail)) (by omega) hBc .nil) ?_
    intro p2 c2 hc2
    rw [after_append, hcat] at hc2 ⊢
    rw [hml, Nat.add_sub_cancel' h2]
    have hr2 := after_rest B
    refine RL.nil ?_
    refine NQ.seq ?_
    refine CW.only (.cons (k := 0) rfl (.cons (k := 5) rfl .nil)) ?_
    refine CW.seq ?_
    refine CW.region (ef := [3]) (bk := []) ?_
    refine RL.move rfl rfl rfl rfl ?_
    refine RL.callv (sum_any hb (after B).1 p2 c2 B.length (after B).2 hr2.1 (by omega)) Try.call22 rfl rfl rfl rfl (by repeat (first | exact Lend.nil | (refine Lend.inI ?_ ?_; (solve | (repeat (first | exact List.Mem.head _ | apply List.Mem.tail)))) | (refine Lend.inH ?_ ?_; (solve | (repeat (first | exact List.Mem.head _ | apply List.Mem.tail)))))) ?_
    refine RL.move rfl rfl rfl rfl ?_
    refine RL.buildSlice [_] Try.runUnderlying22 Try.sizeOf23 Try.zeroValue23 rfl rfl (by decide) (by decide) rfl rfl rfl rfl rfl rfl ?_
    intro b1
    refine RL.callv (of_any (some ⟨b1, 0, none⟩) 1 [⟨P2, cap, B⟩] (by simp) (by simp [joined]; omega)) Try.call16 rfl rfl rfl rfl (Lend.all (by repeat (first | exact List.Mem.head _ | apply List.Mem.tail)) rfl (Lend.many (fun x hx => by simp at hx; subst hx; simp))) ?_
    -- STOP: op; op 5: d=58 ["binOp", "Go.BinOp.eql", 27, ["t", 54], ["t", 57], 27] guard=None (law.go:71)
    rw [show joined [⟨P2, cap, B⟩] = B by simp [joined]]
    refine RL.cmp rfl rfl rfl rfl rfl (dig_eq _ _ (dig_length _) (sha_length _) _ _) ?_
    refine RL.move rfl rfl rfl rfl ?_
    -- STOP: part 59; op 7: d=60 ["move", ["t", 5]] guard=[6, True] (law.go:71)
    refine RL.cast (d := 59) (v' := .bool true) rfl ((by rw [show dig (fin (after B).1 (after B).2 B.length) = sha B from rfl]; simp)) ?_
    refine RL.move rfl rfl rfl rfl ?_
    refine RL.callv (len_yes hb (after B).1 p2 (after B).2.length c2 B.length) Try.call23 rfl rfl rfl rfl (by repeat (first | exact Lend.nil | (refine Lend.inI ?_ ?_; (solve | (repeat (first | exact List.Mem.head _ | apply List.Mem.tail)))) | (refine Lend.inH ?_ ?_; (solve | (repeat (first | exact List.Mem.head _ | apply List.Mem.tail)))))) ?_
    refine RL.move rfl rfl rfl rfl ?_
    refine RL.lenS Try.runUnderlying23 rfl rfl rfl rfl ?_
    refine RL.bin rfl rfl rfl rfl rfl rfl ?_
    refine RL.pickT rfl rfl rfl rfl rfl ?_
    refine RL.assign rfl rfl rfl rfl ?_
    refine RL.nil ?_
    refine NQ.seq ?_
    refine CW.only (.cons (k := 4) rfl .nil) ?_
    refine CW.ret ?_
    -- STOP: ret; end
    exact RQ.post (res1 rfl rfl) (Split.none _) ⟨by simp, rfl, rfl⟩

theorem hashPieces_call (W : World) (x : Sl B8) (y : Sl Int) (hx : rBytes.ok x) (hy : rInts.ok y) (tx : ∀ z ∈ rBytes.its x, z.A W) (ty : ∀ z ∈ rInts.its y, z.A W) :
    Calls Try.prog 4 #[rBytes.val x, rInts.val y] W (fun e w' => e = .returned (.bool true) ∧ RowKit.Below W.heap.size W w') :=
  (pieces_walk x.p x.c x.l hx.1 y.p y.c y.l (Nat.le_trans hy.1 hy.2.1)).lawI (fun z hz => by
    rcases List.mem_cons.1 hz with rfl | hz
    · exact tx _ (List.Mem.head _)
    · rw [List.mem_singleton.1 hz]; exact ty _ (List.Mem.head _))
end Go.Proofs.Ytpokocnnaendaaa
