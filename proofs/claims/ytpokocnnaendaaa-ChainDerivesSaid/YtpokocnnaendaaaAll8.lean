import Derived.Test.YtpokocnnaendaaaRef8
namespace Go.Proofs.Ytpokocnnaendaaa
open Go.PK

theorem all8_any (pp : Option Addr) (cap : Nat) (qs : List Part) (hq : ∀ x ∈ qs, x.m.length ≤ x.c) :
    Spc Try.prog 15 #[.slice pp qs.length cap] (sls pp 1 qs.length (qs.map Part.v) :: qs.map Part.i) []
      (fun v I' H' => ∃ (ps : List Part) (ob ob2 : Option Nat) (c c2 : Nat), v = .tuple #[slO ob ps.length c, slO ob2 (joined ps).length c2] ∧ I' = ps.map Part.i ∧
        H' = [own ob2 c2 5 1 (joined ps).length (bytes (joined ps)), own ob c 23 1 ps.length (ps.map Part.v)] ∧ ps.map (·.m) = (qs.take 12).map (fun x => x.m.take 300) ∧ (joined ps).length ≤ 300 * ps.length ∧ ps.length ≤ 12) := by
  generalize hBase : sls pp 1 qs.length (qs.map Part.v) :: qs.map Part.i = Base
  refine Spc.enter Try.func15 rfl rfl rfl (fun w0 hw0 => ?_)
  refine CW.seq ?_
  refine CW.region (ef := []) (bk := []) ?_
  refine RL.assign rfl rfl rfl rfl ?_
  refine RL.assign rfl rfl rfl rfl ?_
  refine RL.nil ?_
  refine NQ.seq ?_
  refine CW.seq ?_
  refine CW.region (ef := [0, 1]) (bk := []) ?_
  refine RL.buildOwn [] Try.runUnderlying22 Try.sizeOf23 Try.zeroValue23 rfl rfl (by decide) (by decide) rfl (by decide) rfl rfl rfl rfl rfl rfl ?_
  intro b1
  refine RL.buildOwn [] Try.runUnderlying23 Try.sizeOf5 Try.zeroValue5 rfl rfl (by decide) (by decide) rfl (by decide) rfl rfl rfl rfl rfl rfl ?_
  intro b2
  refine RL.assign rfl rfl rfl rfl ?_
  refine RL.assign rfl rfl rfl rfl ?_
  refine RL.nil ?_
  refine NQ.seq ?_
  refine CW.seq ?_
  refine CW.seq ?_
  refine CW.region (ef := []) (bk := []) ?_
  refine RL.assign rfl rfl rfl rfl ?_
  refine RL.nil ?_
  refine NQ.seq ?_
  refine CW.block ?_
  -- STOP: loop; todo top: ["code", ["loop", ["seq", ["seq", ["region", 3, [{"d": 10, "op": ["move", ["t", 6]], "ty": 3, "pos": "law.go:20", "after": [], "guard": null}, {"d": 11, "op": ["move", ["t", 0]], "ty": 22, "pos": "law
  refine CW.loop (γ := List Part × Option Nat × Nat × Option Nat × Nat) (fun g => g.1.map (·.m) = (qs.take g.1.length).map (fun x => x.m.take 300) ∧ g.1.length ≤ 12 ∧ g.1.length ≤ qs.length ∧ (joined g.1).length ≤ 300 * g.1.length ∧ ∀ c ∈ bss (g.1.map Part.i), w0.heap.size ≤ c)
    (fun g => [(0, .slice pp qs.length cap), (4, slO g.2.1 g.1.length g.2.2.1), (5, slO g.2.2.2.1 (joined g.1).length g.2.2.2.2), (6, .int .i64 (g.1.length : Int))])
    (fun g => g.1.map Part.i ++ Base) (fun g => [own g.2.2.2.1 g.2.2.2.2 5 1 (joined g.1).length (bytes (joined g.1)), own g.2.1 g.2.2.1 23 1 g.1.length (g.1.map Part.v)]) (fun g => qs.length - g.1.length)
    ([], some b1, 0, some b2, 0) (by simp [joined]) (.cons rfl (.cons rfl (.cons rfl (.cons rfl .nil)))) (fun w h => h) ?_
  rintro ⟨ps, obA, cA, obB, cB⟩ ⟨h1, h2, h3, h4, h5⟩
  dsimp only at h1 h2 h3 h4 h5 ⊢
  have hmem : sls pp 1 qs.length (qs.map Part.v) ∈ ps.map Part.i ++ Base := by rw [← hBase]; simp
  refine CW.fact (p := pp = none → qs.length = 0) (fun w hC e => sls_nil (hC.s.i _ hmem) e) (fun hpp => ?_)
  refine CW.seq ?_
  refine CW.seq ?_
  refine CW.region (ef := []) (bk := []) ?_
  refine RL.move rfl rfl rfl rfl ?_
  refine RL.move rfl rfl rfl rfl ?_
  refine RL.lenS Try.runUnderlying22 rfl rfl rfl rfl ?_
  refine RL.bin rfl rfl rfl rfl rfl rfl ?_
  refine RL.move rfl rfl rfl rfl ?_
  -- STOP: part 14; op 5: d=15 ["move", ["t", 6]] guard=[4, True] (law.go:20)
  refine RL.part (d := 14) rfl (fun ha => ?_) (fun ha => ?_)
  ·
    refine RL.move rfl rfl rfl rfl ?_
    refine RL.bin rfl rfl rfl rfl rfl rfl ?_
    refine RL.pickT rfl rfl rfl rfl rfl ?_
    refine RL.nil ?_
    refine NQ.seq ?_
    refine CW.only (.cons (k := 0) rfl (.cons (k := 4) rfl (.cons (k := 5) rfl (.cons (k := 6) rfl (.cons (k := 17) rfl .nil))))) ?_
    -- STOP: if; todo top: ["code", ["cond", ["t", 17], ["skip"], ["exit", 0]]]
    refine CW.cond rfl (fun hb => ?_) (fun hb => ?_)
    ·
      have ha : ps.length < qs.length := by simp at ha; omega
      have hb : ps.length < 12 := by simp at hb; omega
      obtain ⟨a, rfl⟩ : ∃ a, pp = some a := by
        cases pp with
        | none => exact absurd (hpp rfl) (by omega)
        | some a => exact ⟨a, rfl⟩
      have hv : (qs.map Part.v)[ps.length * 1]? = some (qs[ps.length]).v := by simp [ha]
      have hmi : (qs[ps.length]).i ∈ ps.map Part.i ++ Base := by rw [← hBase]; exact List.mem_append_right _ (List.mem_cons_of_mem _ (List.mem_map_of_mem (List.getElem_mem _)))
      have hqc := hq _ (List.getElem_mem ha)
      have hnew : (qs.take (ps.length + 1)).map (fun x => x.m.take 300) = ps.map (·.m) ++ [(qs[ps.length]).m.take 300] := by
        rw [List.take_succ_eq_append_getElem ha, List.map_append, ← h1]; rfl
      generalize qs[ps.length] = q at hv hmi hqc hnew
      have hk : (q.m.take 300).length ≤ 300 := by rw [List.length_take]; omega
      refine CW.skip ?_
      refine NQ.seq ?_
      refine CW.seq ?_
      refine CW.block ?_
      refine CW.seq ?_
      refine CW.regionD (Sq.of [0, 1, 2, 3, 4, 5, 6, 7, 8, 9, 10, 11, 12]) [11] [11] mixed (by kernel_rfl) ?_
      refine RL.move rfl rfl rfl rfl ?_
      refine RL.move rfl rfl rfl rfl ?_
      -- STOP: op; op 2: d=22 ["indexAddr", 22, ["t", 20], ["t", 21]] guard=None (law.go:21)
      refine RL.idx (j := ps.length) Try.runUnderlying22 Try.sizeOf23 rfl rfl rfl rfl rfl rfl ha ?_
      -- STOP: op; op 3: d=23 ["load", 23, ["t", 22]] guard=None (law.go:21)
      refine RL.load Try.isAgg23 rfl rfl rfl rfl (Rd.getS hmem hv) ?_
      refine RL.move rfl rfl rfl rfl ?_
      refine RL.move rfl rfl rfl rfl ?_
      -- STOP: op; op 6: d=26 ["indexAddr", 22, ["t", 24], ["t", 25]] guard=None (law.go:21)
      refine RL.idx (j := ps.length) Try.runUnderlying22 Try.sizeOf23 rfl rfl rfl rfl rfl rfl ha ?_
      -- STOP: op; op 7: d=27 ["load", 23, ["t", 26]] guard=None (law.go:21)
      refine RL.load Try.isAgg23 rfl rfl rfl rfl (Rd.getS hmem hv) ?_
      refine RL.lenS Try.runUnderlying23 rfl rfl rfl rfl ?_
      refine RL.min rfl rfl rfl rfl rfl ?_
      -- STOP: op; op 10: d=30 ["slice", 23, ["t", 23], null, ["t", 29], null] guard=None (law.go:21)
      refine RL.slice (lo := 0) (hi := (q.m.take 300).length) Try.runUnderlying23 Try.sizeOf5 rfl rfl rfl rfl rfl (congrArg some (by rw [List.length_take]; omega)) (by omega) (by rw [List.length_take]; omega) ?_
      -- STOP: op; op 11: d=31 ["call", ["f", 26], [["t", 30]], [23]] guard=None (law.go:21)
      refine RL.call (bytes_any (if q.c = 0 then q.p else q.p.map (·.add (0 * 1))) (q.c - 0) (q.m.take 300) (by rw [List.length_take]; omega)) Try.call26 rfl rfl rfl rfl rfl (by repeat (first | exact Pick.nil | apply Pick.take | apply Pick.leave)) (Lend.takeB hmi hqc .nil) (.inl rfl) ?_
      rintro _ _ _ ⟨obN, cN, rfl, rfl, rfl, hoN⟩
      refine RL.assign rfl rfl rfl rfl ?_
      refine RL.nil ?_
      refine NQ.seq ?_
      refine CW.only (.cons (k := 0) rfl (.cons (k := 4) rfl (.cons (k := 5) rfl (.cons (k := 6) rfl (.cons (k := 7) rfl .nil))))) ?_
      -- STOP: region; todo top: ["code", ["region", 6, [{"d": 32, "op": ["move", ["t", 4]], "ty": 22, "pos": "law.go:22", "after": [], "guard": null}, {"d": 33, "op": ["move", ["t", 7]], "ty": 23, "pos": "law.go:22", "after": [], "g
      refine CW.tell (xs := bytes (q.m.take 300)) (by repeat (first | exact Pick.nil | apply Pick.take | apply Pick.leave)) (fun hfr => ?_)
      refine CW.region (ef := [2, 3, 6]) (bk := [3, 6]) ?_
      refine RL.move rfl rfl rfl rfl ?_
      refine RL.move rfl rfl rfl rfl ?_
      refine RL.buildOwn [_] Try.runUnderlying22 Try.sizeOf23 Try.zeroValue23 rfl rfl (by decide) (by decide) rfl (by decide) rfl rfl rfl rfl rfl rfl ?_
      intro b3
      refine RL.appendA el_22 rfl rfl rfl rfl rfl rfl rfl (by first | exact ⟨(.take (Pick.none _)), rfl⟩ | exact ⟨(.leave (.take (Pick.none _))), rfl⟩ | exact ⟨(.leave (.leave (.take (Pick.none _)))), rfl⟩ | exact ⟨(.leave (.leave (.leave (.take (Pick.none _))))), rfl⟩ | exact ⟨(.leave (.leave (.leave (.leave (.take (Pick.none _)))))), rfl⟩ | exact ⟨(.leave (.leave (.leave (.leave (.leave (.take (Pick.none _))))))), rfl⟩ | exact ⟨(.leave (.leave (.leave (.leave (.leave (.leave (.take (Pick.none _)))))))), rfl⟩ | exact ⟨(.leave (.leave (.leave (.leave (.leave (.leave (.leave (.take (Pick.none _))))))))), rfl⟩ | exact ⟨(.leave (.leave (.leave (.leave (.leave (.leave (.leave (.leave (.take (Pick.none _)))))))))), rfl⟩ | exact ⟨(.leave (.leave (.leave (.leave (.leave (.leave (.leave (.leave (.leave (.take (Pick.none _))))))))))), rfl⟩) (by first | (exact Src.cel (by (solve | (repeat (first | exact List.Mem.head _ | apply List.Mem.tail)))) (by first | rfl | assumption | (simp only [List.length_map]; assumption) | (simp only [List.length_map, List.length_replicate]; done) | (simp; done))) | (exact Src.ownS (by (solve | (repeat (first | exact List.Mem.head _ | apply List.Mem.tail))))) | (exact Src.own (by (solve | (repeat (first | exact List.Mem.head _ | apply List.Mem.tail))))) | (exact Src.sls (by (solve | (repeat (first | exact List.Mem.head _ | apply List.Mem.tail)))))) (by first | exact one_map one8 _ | exact ones_spec rfl | exact one_map (fun _ => rfl) _ | (intro u hu; simp at hu; simp [hu, Value.oneCell'])) (by first | omega | (simp only [maxLen]; omega)) (by first | omega | (simp only [maxLen]; omega)) ?_
      intro ob1 cap1 ho1
      refine RL.move rfl rfl rfl rfl ?_
      refine RL.move rfl rfl rfl rfl ?_
      refine RL.appendA el_23 rfl rfl rfl rfl rfl rfl rfl (by first | exact ⟨(.take (Pick.none _)), rfl⟩ | exact ⟨(.leave (.take (Pick.none _))), rfl⟩ | exact ⟨(.leave (.leave (.take (Pick.none _)))), rfl⟩ | exact ⟨(.leave (.leave (.leave (.take (Pick.none _))))), rfl⟩ | exact ⟨(.leave (.leave (.leave (.leave (.take (Pick.none _)))))), rfl⟩ | exact ⟨(.leave (.leave (.leave (.leave (.leave (.take (Pick.none _))))))), rfl⟩ | exact ⟨(.leave (.leave (.leave (.leave (.leave (.leave (.take (Pick.none _)))))))), rfl⟩ | exact ⟨(.leave (.leave (.leave (.leave (.leave (.leave (.leave (.take (Pick.none _))))))))), rfl⟩ | exact ⟨(.leave (.leave (.leave (.leave (.leave (.leave (.leave (.leave (.take (Pick.none _)))))))))), rfl⟩ | exact ⟨(.leave (.leave (.leave (.leave (.leave (.leave (.leave (.leave (.leave (.take (Pick.none _))))))))))), rfl⟩) (by first | (exact Src.cel (by (solve | (repeat (first | exact List.Mem.head _ | apply List.Mem.tail)))) (by first | rfl | assumption | (simp only [List.length_map]; assumption) | (simp only [List.length_map, List.length_replicate]; done) | (simp; done))) | (exact Src.ownS (by (solve | (repeat (first | exact List.Mem.head _ | apply List.Mem.tail))))) | (exact Src.own (by (solve | (repeat (first | exact List.Mem.head _ | apply List.Mem.tail))))) | (exact Src.sls (by (solve | (repeat (first | exact List.Mem.head _ | apply List.Mem.tail)))))) (by first | exact one_map one8 _ | exact ones_spec rfl | exact one_map (fun _ => rfl) _ | (intro u hu; simp at hu; simp [hu, Value.oneCell'])) (by first | omega | (simp only [maxLen]; omega)) (by first | omega | (simp only [maxLen]; omega)) ?_
      intro ob2 cap2 ho2
      refine RL.assign rfl rfl rfl rfl ?_
      refine RL.assign rfl rfl rfl rfl ?_
      refine RL.nil ?_
      refine NQ.block ?_
      refine NQ.seq ?_
      refine CW.only (.cons (k := 0) rfl (.cons (k := 4) rfl (.cons (k := 5) rfl (.cons (k := 6) rfl .nil)))) ?_
      refine CW.region (ef := []) (bk := []) ?_
      refine RL.move rfl rfl rfl rfl ?_
      refine RL.binX rfl rfl rfl rfl rfl rfl (wrapV_i64 (by omega) (by omega)) ?_
      refine RL.assign rfl rfl rfl rfl ?_
      refine RL.nil ?_
      -- STOP: round; todo top: ["N"]
      have hj : joined (ps ++ [(⟨obN.map fun b => ⟨b, 0, none⟩, cN, q.m.take 300⟩ : Part)]) = joined ps ++ q.m.take 300 := by simp [joined]
      refine NQ.round (g := (ps, obA, cA, obB, cB)) (ps ++ [(⟨obN.map fun b => ⟨b, 0, none⟩, cN, q.m.take 300⟩ : Part)], ob1, cap1, ob2, cap2) ⟨?_, by simp; omega, by simp; omega, ?_, ?_⟩ (by simp; omega) ?_ (fun w h => ?_)
      · rw [List.length_append, List.length_singleton, hnew, List.map_append]; rfl
      · rw [hj, List.length_append, List.length_append, List.length_singleton, Nat.mul_add]; omega
      · intro b hb
        rw [List.map_append, bss_append] at hb
        rcases List.mem_append.1 hb with hb | hb
        · exact h5 b hb
        · refine hfr rfl b ?_
          simp only [List.map_cons, List.map_nil, bss_cons, bss_nil, List.append_nil] at hb
          exact hb
      · refine .cons rfl (.cons ?_ (.cons ?_ (.cons ?_ .nil)))
        · rw [List.length_append]; rfl
        · rw [hj, List.length_append]; rfl
        · rw [List.length_append]; rfl
      · rw [own_is (ob := ob1) (n' := (ps ++ [(⟨obN.map fun b => ⟨b, 0, none⟩, cN, q.m.take 300⟩ : Part)]).length) (xs' := (ps ++ [(⟨obN.map fun b => ⟨b, 0, none⟩, cN, q.m.take 300⟩ : Part)]).map Part.v) (by simp) (by simp),
          own_is (ob := ob2) (n' := (joined (ps ++ [(⟨obN.map fun b => ⟨b, 0, none⟩, cN, q.m.take 300⟩ : Part)])).length) (xs' := bytes (joined (ps ++ [(⟨obN.map fun b => ⟨b, 0, none⟩, cN, q.m.take 300⟩ : Part)]))) (by rw [hj, List.length_append]) (by rw [hj]; exact List.map_append.symm)] at h
        refine h.rea (fun x hx => ?_) (by repeat (first | exact Rea.nil | (apply Rea.cons; (solve | (repeat (first | exact Del.here | apply Del.there))))))
        rcases List.mem_append.1 hx with hx | hx
        · rw [List.map_append] at hx
          rcases List.mem_append.1 hx with hx | hx
          · exact List.mem_cons_of_mem _ (List.mem_append_right _ (List.mem_append_left _ hx))
          · rw [List.mem_singleton.1 hx]; exact List.Mem.head _
        · exact List.mem_cons_of_mem _ (List.mem_append_right _ (List.mem_append_right _ hx))
    ·
      refine CW.exit ?_
      refine XQ.seq ?_
      refine XQ.seq ?_
      refine XQ.hit ?_
      refine NQ.seq ?_
      refine CW.seq ?_
      refine CW.region (ef := []) (bk := []) ?_
      refine RL.move rfl rfl rfl rfl ?_
      refine RL.move rfl rfl rfl rfl ?_
      refine RL.assign rfl rfl rfl rfl ?_
      refine RL.assign rfl rfl rfl rfl ?_
      refine RL.nil ?_
      refine NQ.seq ?_
      refine CW.only (.cons (k := 2) rfl (.cons (k := 3) rfl .nil)) ?_
      refine CW.ret ?_
      -- STOP: ret; end
      have hlen : ps.length = 12 := by simp at hb; omega
      refine RQ.postI (res2 rfl rfl rfl) (.keep (.keep .nil)) (fun x hx => List.mem_append_left _ hx) h5 ⟨ps, obA, obB, cA, cB, rfl, rfl, rfl, by rw [h1, hlen], h4, h2⟩
  ·
    refine RL.skip rfl rfl rfl rfl ?_
    refine RL.skip rfl rfl rfl rfl ?_
    refine RL.pickF rfl rfl rfl rfl rfl ?_
    refine RL.nil ?_
    refine NQ.seq ?_
    refine CW.only (.cons (k := 0) rfl (.cons (k := 4) rfl (.cons (k := 5) rfl (.cons (k := 6) rfl (.cons (k := 17) rfl .nil))))) ?_
    refine CW.condF rfl rfl ?_
    refine CW.exit ?_
    refine XQ.seq ?_
    refine XQ.seq ?_
    refine XQ.hit ?_
    refine NQ.seq ?_
    refine CW.seq ?_
    refine CW.region (ef := []) (bk := []) ?_
    refine RL.move rfl rfl rfl rfl ?_
    refine RL.move rfl rfl rfl rfl ?_
    refine RL.assign rfl rfl rfl rfl ?_
    refine RL.assign rfl rfl rfl rfl ?_
    refine RL.nil ?_
    refine NQ.seq ?_
    refine CW.only (.cons (k := 2) rfl (.cons (k := 3) rfl .nil)) ?_
    refine CW.ret ?_
    -- STOP: ret; end
    have hlen : ps.length = qs.length := by simp at ha; omega
    refine RQ.postI (res2 rfl rfl rfl) (.keep (.keep .nil)) (fun x hx => List.mem_append_left _ hx) h5 ⟨ps, obA, obB, cA, cB, rfl, rfl, rfl, by rw [h1, hlen, List.take_length, List.take_of_length_le (l := qs) (by omega)], h4, h2⟩
end Go.Proofs.Ytpokocnnaendaaa
