import Derived.Test.YtpokocnnaendaaaAll8
import Derived.Test.YtpokocnnaendaaaRd
namespace Go.Proofs.Ytpokocnnaendaaa
open Go.PK

abbrev Part.of (s : Sl B8) : Part := ⟨s.p, s.c, s.l⟩
theorem parts_told {x : Sl (Sl B8)} {W : World} (h : ∀ y ∈ rParts.its x, y.A W) : ∀ y ∈ sls x.p 1 (x.l.map Part.of).length ((x.l.map Part.of).map Part.v) :: (x.l.map Part.of).map Part.i, y.A W := by
  intro y hy
  rcases List.mem_cons.1 hy with rfl | hy
  · rw [List.length_map, List.map_map]
    exact h _ (List.Mem.head _)
  · rw [List.map_map] at hy
    obtain ⟨s, hs, rfl⟩ := List.mem_map.1 hy
    exact h _ (List.mem_cons_of_mem _ (List.mem_flatMap.2 ⟨s, hs, List.Mem.head _⟩))
theorem parts_ok {x : Sl (Sl B8)} (h : rParts.ok x) : ∀ q ∈ x.l.map Part.of, q.m.length ≤ q.c := by
  intro q hq
  obtain ⟨s, hs, rfl⟩ := List.mem_map.1 hq
  exact (h.2.2.2 s hs).1

theorem hashOf_walk (pp : Option Addr) (cap : Nat) (qs : List Part) (hq : ∀ x ∈ qs, x.m.length ≤ x.c) : Spc Try.prog 3 #[.slice pp qs.length cap] (sls pp 1 qs.length (qs.map Part.v) :: qs.map Part.i) [] (Is (.bool true)) := by
  refine Spc.enter Try.func3 rfl rfl rfl (fun w0 hw0 => ?_)
  refine CW.seq ?_
  refine CW.region (ef := []) (bk := []) ?_
  refine RL.assign rfl rfl rfl rfl ?_
  refine RL.nil ?_
  refine NQ.seq ?_
  refine CW.seq ?_
  refine CW.region (ef := [1]) (bk := []) ?_
  refine RL.move rfl rfl rfl rfl ?_
  refine RL.call (all8_any pp cap qs hq) Try.call15 rfl rfl rfl rfl rfl (by repeat (first | exact Pick.nil | apply Pick.take | apply Pick.leave)) (Lend.many (fun _ h => h)) (.inl rfl) ?_
  -- STOP: called; op 2: d=5 ["move", ["t", 7]] guard=None (law.go:29)
  rintro _ _ _ ⟨ps, obA, obB, cA, cB, rfl, rfl, rfl, h1, h2, h3⟩
  refine RL.move rfl rfl rfl rfl ?_
  refine RL.extract rfl rfl rfl rfl rfl ?_
  refine RL.extract rfl rfl rfl rfl rfl ?_
  refine RL.assign rfl rfl rfl rfl ?_
  refine RL.assign rfl rfl rfl rfl ?_
  refine RL.nil ?_
  refine NQ.seq ?_
  refine CW.only (.cons (k := 3) rfl (.cons (k := 4) rfl .nil)) ?_
  refine CW.seq ?_
  refine CW.region (ef := []) (bk := []) ?_
  refine RL.move rfl rfl rfl rfl ?_
  refine RL.callv (of_any (obA.map fun b => ⟨b, 0, none⟩) cA ps (by omega) (by omega)) Try.call16 rfl rfl rfl rfl (Lend.own (by repeat (first | exact List.Mem.head _ | apply List.Mem.tail)) (Lend.many (fun x hx => List.mem_append_left _ hx))) ?_
  refine RL.move rfl rfl rfl rfl ?_
  refine RL.callv (rof_any (obB.map fun b => ⟨b, 0, none⟩) cB (joined ps) (by omega)) Try.call17 rfl rfl rfl rfl (Lend.own (by repeat (first | exact List.Mem.head _ | apply List.Mem.tail)) .nil) ?_
  -- STOP: op; op 4: d=14 ["binOp", "Go.BinOp.eql", 27, ["t", 11], ["t", 13], 27] guard=None (law.go:30)
  refine RL.cmp rfl rfl rfl rfl rfl (dig_eq _ _ (sha_length _) (sha_length _) _ _) ?_
  refine RL.move rfl rfl rfl rfl ?_
  -- STOP: part 15; op 6: d=16 ["call", ["f", 18], [], []] guard=[5, True] (law.go:30)
  refine RL.cast (d := 15) (v' := .bool true) rfl ((by simp)) ?_
  refine RL.callv (works_yes) Try.call18 rfl rfl rfl rfl (by repeat (first | exact Lend.nil | (refine Lend.inI ?_ ?_; (solve | (repeat (first | exact List.Mem.head _ | apply List.Mem.tail)))) | (refine Lend.inH ?_ ?_; (solve | (repeat (first | exact List.Mem.head _ | apply List.Mem.tail)))))) ?_
  refine RL.pickT rfl rfl rfl rfl rfl ?_
  refine RL.assign rfl rfl rfl rfl ?_
  refine RL.nil ?_
  refine NQ.seq ?_
  refine CW.only (.cons (k := 2) rfl .nil) ?_
  refine CW.ret ?_
  -- STOP: ret; end
  exact RQ.post (res1 rfl rfl) (Split.none _) ⟨rfl, rfl, rfl⟩
theorem hashOf_call (W : World) (x : Sl (Sl B8)) (ho : rParts.ok x) (ht : ∀ y ∈ rParts.its x, y.A W) : Calls Try.prog 3 #[rParts.val x] W (fun e w' => e = .returned (.bool true) ∧ RowKit.Below W.heap.size W w') := by
  have := (hashOf_walk x.p x.c (x.l.map Part.of) (parts_ok ho)).lawI (parts_told ht)
  rw [List.length_map] at this
  exact this
end Go.Proofs.Ytpokocnnaendaaa
