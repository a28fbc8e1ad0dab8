import Derived.Test.YtflpiaeffnoepaaT11
namespace Go.Proofs.Ytflpiaeffnoepaa
open Go.PK

theorem repV_fr (m : Nat) (es : List Ent) (z : Int) : (repV m es z).fr.length = 32 := by
  unfold repV
  split
  · rfl
  · exact headOf_length _
theorem repV_to (m : Nat) (es : List Ent) (z : Int) : (repV m es z).to.length = 32 := by
  unfold repV
  split
  · rfl
  · exact headOf_length _
theorem repV_len (m : Nat) (es : List Ent) (z : Int) : (repV m es z).L.length ≤ es.length := by
  unfold repV
  split
  · simp [rep0]
  · simp [repOf]
/-- What came in of the first entries. -/
def came (L : List Ent) (i : Nat) : List Ent := (L.take i).foldl esA []
theorem came_succ {L : List Ent} {i : Nat} {x : Ent} (h : L[i]? = some x) : esA (came L i) x = came L (i + 1) := by
  obtain ⟨hi, rfl⟩ := List.getElem?_eq_some_iff.1 h
  rw [came, came, List.take_succ_eq_append_getElem hi, List.foldl_append]
  rfl
theorem came_le (L : List Ent) : ∀ i, (came L i).length ≤ i
  | 0 => by simp [came]
  | i + 1 => by
    by_cases h : i < L.length
    · rw [← came_succ (List.getElem?_eq_getElem h), esA]
      have := came_le L i
      split
      · rw [List.length_append, List.length_singleton]; omega
      · omega
    · have e : came L (i + 1) = came L i := by rw [came, came, List.take_of_length_le (by omega), List.take_of_length_le (by omega)]
      have := came_le L i
      rw [e]; omega
abbrev BothH (r lb y m : Nat) (es rg : List Ent) (ol : Option Nat) (cl hb ch : Nat) : List It :=
  [recIt r lb m ((es.length - min es.length m) % m) (min es.length m) (headOf (es.take (es.length - min es.length m))) (headOf es) es.length, rgIt lb rg,
   cel y [.int .i64 (m : Int), slO ol es.length cl, slO (some hb) (es.length + 1) ch] 66, own ol cl 58 4 es.length (entsV es), own (some hb) ch 61 32 (es.length + 1) (headsV es)]
theorem plays_no (z last : Int) (p : Option Addr) (n c : Nat) (L : List Ent) (hz : z < 1 ∨ z > 4096) : Spc Try.prog 6 #[.int .i64 z, .slice p n c, .int .i64 last] [sls p 4 n (entsV L)] [] (Is (.bool true)) := by
  refine Spc.enter Try.func6 rfl rfl rfl (fun w0 hw0 => ?_)
  refine CW.seq ?_
  refine CW.region (ef := []) (bk := []) ?_
  refine RL.assign rfl rfl rfl rfl ?_
  refine RL.nil ?_
  refine NQ.seq ?_
  refine CW.seq ?_
  refine CW.region (ef := []) (bk := []) ?_
  refine RL.move rfl rfl rfl rfl ?_
  refine RL.callv (tnew_no z hz) Try.call26 rfl rfl rfl rfl (by repeat (first | exact Lend.nil | (refine Lend.inI ?_ ?_; (solve | (repeat (first | exact List.Mem.head _ | apply List.Mem.tail)))) | (refine Lend.inH ?_ ?_; (solve | (repeat (first | exact List.Mem.head _ | apply List.Mem.tail)))))) ?_
  refine RL.move rfl rfl rfl rfl ?_
  refine RL.extract rfl rfl rfl rfl rfl ?_
  refine RL.extract rfl rfl rfl rfl rfl ?_
  refine RL.assign rfl rfl rfl rfl ?_
  refine RL.assign rfl rfl rfl rfl ?_
  refine RL.nil ?_
  refine NQ.seq ?_
  refine CW.only (.cons (k := 0) rfl (.cons (k := 1) rfl (.cons (k := 2) rfl (.cons (k := 7) rfl (.cons (k := 8) rfl .nil))))) ?_
  refine CW.seq ?_
  refine CW.region (ef := []) (bk := []) ?_
  refine RL.move rfl rfl rfl rfl ?_
  refine RL.callv (rnew_no z hz) Try.call27 rfl rfl rfl rfl (by repeat (first | exact Lend.nil | (refine Lend.inI ?_ ?_; (solve | (repeat (first | exact List.Mem.head _ | apply List.Mem.tail)))) | (refine Lend.inH ?_ ?_; (solve | (repeat (first | exact List.Mem.head _ | apply List.Mem.tail)))))) ?_
  refine RL.move rfl rfl rfl rfl ?_
  refine RL.extract rfl rfl rfl rfl rfl ?_
  refine RL.extract rfl rfl rfl rfl rfl ?_
  refine RL.assign rfl rfl rfl rfl ?_
  refine RL.assign rfl rfl rfl rfl ?_
  refine RL.nil ?_
  refine NQ.seq ?_
  refine CW.only (.cons (k := 1) rfl (.cons (k := 2) rfl (.cons (k := 7) rfl (.cons (k := 8) rfl (.cons (k := 9) rfl (.cons (k := 10) rfl .nil)))))) ?_
  refine CW.seq ?_
  refine CW.seq ?_
  refine CW.region (ef := []) (bk := []) ?_
  refine RL.move rfl rfl rfl rfl ?_
  refine RL.move rfl rfl rfl rfl ?_
  refine RL.bin rfl rfl rfl rfl rfl rfl ?_
  refine RL.move rfl rfl rfl rfl ?_
  apply RL.orB (d := 32) (dp := 38) (l' := (Sq.of [])) rfl (.cons (k := 1) rfl (.cons (k := 2) rfl (.cons (k := 7) rfl (.cons (k := 9) rfl .nil))))
  ·
    intro hb4 K4
    refine RL.move rfl rfl rfl rfl ?_
    refine RL.cmp rfl rfl rfl rfl rfl (eql_ptr Try.runUnderlying50 _) ?_
    refine RL.move rfl rfl rfl rfl ?_
    refine RL.cmp rfl rfl rfl rfl rfl (eql_ptr Try.runUnderlying53 _) ?_
    refine RL.cmp rfl rfl rfl rfl rfl (neq_bool Try.runUnderlying4 _ _) ?_
    refine RL.pickF rfl rfl rfl rfl rfl ?_
    exact K4 _ (.cons rfl (.cons (k := 1) rfl (.cons (k := 2) rfl (.cons (k := 7) rfl (.cons (k := 9) rfl .nil)))))
  ·
    intro hb4 K4
    refine RL.skip rfl rfl rfl rfl ?_
    refine RL.skip rfl rfl rfl rfl ?_
    refine RL.skip rfl rfl rfl rfl ?_
    refine RL.skip rfl rfl rfl rfl ?_
    refine RL.skip rfl rfl rfl rfl ?_
    refine RL.pickT rfl rfl rfl rfl rfl ?_
    exact K4 _ (.cons rfl (.cons (k := 1) rfl (.cons (k := 2) rfl (.cons (k := 7) rfl (.cons (k := 9) rfl .nil)))))
  refine RL.nil ?_
  refine NQ.seq ?_
  -- STOP: if; todo top: ["code", ["cond", ["t", 38], ["seq", ["region", 4, [{"d": 6, "op": ["assign", ["c", ["bool", false]]], "ty": 4, "pos": "law.go:58", "after": [], "guard": null}], false], ["ret"]], ["skip"]]]
  refine CW.condF rfl ((by simp)) ?_
  refine CW.skip ?_
  refine NQ.seq ?_
  refine CW.seq ?_
  refine CW.seq ?_
  refine CW.region (ef := []) (bk := []) ?_
  refine RL.assign rfl rfl rfl rfl ?_
  refine RL.nil ?_
  refine NQ.seq ?_
  refine CW.block ?_
  -- STOP: loop; todo top: ["code", ["loop", ["seq", ["seq", ["region", 6, [{"d": 39, "op": ["move", ["t", 11]], "ty": 3, "pos": "law.go:60", "after": [], "guard": null}, {"d": 40, "op": ["move", ["t", 1]], "ty": 49, "pos": "la
  refine CW.loop (γ := Nat) (fun _ => True) (fun i => [(1, .slice p n c), (9, .pointer none), (11, .int .i64 0)]) (fun _ => [sls p 4 n (entsV L)]) (fun _ => []) (fun i => i) 0 trivial (.cons rfl (.cons rfl (.cons rfl .nil))) (fun w h => h) ?_
  intro i _
  refine CW.seq ?_
  refine CW.seq ?_
  refine CW.region (ef := []) (bk := []) ?_
  refine RL.move rfl rfl rfl rfl ?_
  refine RL.move rfl rfl rfl rfl ?_
  refine RL.lenS Try.runUnderlying49 rfl rfl rfl rfl ?_
  refine RL.bin rfl rfl rfl rfl rfl rfl ?_
  refine RL.move rfl rfl rfl rfl ?_
  apply RL.andB (d := 43) (dp := 46) (l' := (Sq.of [8, 9, 10, 11])) rfl (.cons (k := 1) rfl (.cons (k := 9) rfl (.cons (k := 11) rfl .nil)))
  ·
    intro hb5 K5
    refine RL.move rfl rfl rfl rfl ?_
    refine RL.bin rfl rfl rfl rfl rfl rfl ?_
    refine RL.pickT rfl rfl rfl rfl rfl ?_
    exact K5 _ (.cons rfl (.cons (k := 1) rfl (.cons (k := 9) rfl (.cons (k := 11) rfl .nil))))
  ·
    intro hb5 K5
    refine RL.skip rfl rfl rfl rfl ?_
    refine RL.skip rfl rfl rfl rfl ?_
    refine RL.pickF rfl rfl rfl rfl rfl ?_
    exact K5 _ (.cons rfl (.cons (k := 1) rfl (.cons (k := 9) rfl (.cons (k := 11) rfl .nil))))
  refine RL.move rfl rfl rfl rfl ?_
  apply RL.andB (d := 47) (dp := 50) (l' := (Sq.of [])) rfl (.cons (k := 1) rfl (.cons (k := 9) rfl (.cons (k := 11) rfl .nil)))
  ·
    intro hb9 K9
    refine RL.move rfl rfl rfl rfl ?_
    refine RL.cmp rfl rfl rfl rfl rfl (neq_ptr Try.runUnderlying53 _) ?_
    refine RL.pickT rfl rfl rfl rfl rfl ?_
    exact K9 _ (.cons rfl (.cons (k := 1) rfl (.cons (k := 9) rfl (.cons (k := 11) rfl .nil))))
  ·
    intro hb9 K9
    refine RL.skip rfl rfl rfl rfl ?_
    refine RL.skip rfl rfl rfl rfl ?_
    refine RL.pickF rfl rfl rfl rfl rfl ?_
    exact K9 _ (.cons rfl (.cons (k := 1) rfl (.cons (k := 9) rfl (.cons (k := 11) rfl .nil))))
  refine RL.nil ?_
  refine NQ.seq ?_
  -- STOP: if; todo top: ["code", ["cond", ["t", 50], ["skip"], ["exit", 0]]]
  refine CW.condF rfl ((by simp)) ?_
  refine CW.exit ?_
  refine XQ.seq ?_
  refine XQ.seq ?_
  refine XQ.hit ?_
  refine NQ.seq ?_
  refine CW.seq ?_
  refine CW.region (ef := []) (bk := []) ?_
  refine RL.callv (works36) Try.call35 rfl rfl rfl rfl (by repeat (first | exact Lend.nil | (refine Lend.inI ?_ ?_; (solve | (repeat (first | exact List.Mem.head _ | apply List.Mem.tail)))) | (refine Lend.inH ?_ ?_; (solve | (repeat (first | exact List.Mem.head _ | apply List.Mem.tail)))))) ?_
  refine RL.assign rfl rfl rfl rfl ?_
  refine RL.nil ?_
  refine NQ.seq ?_
  refine CW.ret ?_
  -- STOP: ret; end
  exact RQ.post (res1 rfl rfl) (Split.none _) ⟨rfl, rfl, rfl⟩
theorem plays_yes (m : Nat) (last : Int) (p : Option Addr) (c : Nat) (L : List Ent) (h1 : 0 < m) (h2 : m ≤ 4096) (hc : L.length ≤ c) : Spc Try.prog 6 #[.int .i64 (m : Int), .slice p L.length c, .int .i64 last] [sls p 4 L.length (entsV L)] [] (Is (.bool true)) := by
  refine Spc.enter Try.func6 rfl rfl rfl (fun w0 hw0 => ?_)
  refine CW.seq ?_
  refine CW.region (ef := []) (bk := []) ?_
  refine RL.assign rfl rfl rfl rfl ?_
  refine RL.nil ?_
  refine NQ.seq ?_
  refine CW.seq ?_
  refine CW.region (ef := [1]) (bk := []) ?_
  refine RL.move rfl rfl rfl rfl ?_
  refine RL.call (tnew_yes m h1 h2) Try.call26 rfl rfl rfl rfl rfl (by repeat (first | exact Pick.nil | apply Pick.take | apply Pick.leave)) (by repeat (first | exact Lend.nil | (refine Lend.inI ?_ ?_; (solve | (repeat (first | exact List.Mem.head _ | apply List.Mem.tail)))) | (refine Lend.inH ?_ ?_; (solve | (repeat (first | exact List.Mem.head _ | apply List.Mem.tail)))))) (.inl rfl) ?_
  -- STOP: called; op 2: d=19 ["move", ["t", 21]] guard=None (law.go:55)
  rintro _ _ _ ⟨r, lb, rfl, rfl, rg, hi, rfl⟩
  refine RL.move rfl rfl rfl rfl ?_
  refine RL.extract rfl rfl rfl rfl rfl ?_
  refine RL.extract rfl rfl rfl rfl rfl ?_
  refine RL.assign rfl rfl rfl rfl ?_
  refine RL.assign rfl rfl rfl rfl ?_
  refine RL.nil ?_
  refine NQ.seq ?_
  refine CW.only (.cons (k := 0) rfl (.cons (k := 1) rfl (.cons (k := 2) rfl (.cons (k := 7) rfl (.cons (k := 8) rfl .nil))))) ?_
  refine CW.seq ?_
  refine CW.region (ef := [1]) (bk := []) ?_
  refine RL.move rfl rfl rfl rfl ?_
  refine RL.call (rnew_yes m h1 h2) Try.call27 rfl rfl rfl rfl rfl (by repeat (first | exact Pick.nil | apply Pick.take | apply Pick.leave)) (by repeat (first | exact Lend.nil | (refine Lend.inI ?_ ?_; (solve | (repeat (first | exact List.Mem.head _ | apply List.Mem.tail)))) | (refine Lend.inH ?_ ?_; (solve | (repeat (first | exact List.Mem.head _ | apply List.Mem.tail)))))) (.inl rfl) ?_
  -- STOP: called; op 2: d=24 ["move", ["t", 26]] guard=None (law.go:56)
  rintro _ _ _ ⟨y, rfl, rfl, ol, cl, hb, ch, rfl⟩
  refine RL.move rfl rfl rfl rfl ?_
  refine RL.extract rfl rfl rfl rfl rfl ?_
  refine RL.extract rfl rfl rfl rfl rfl ?_
  refine RL.assign rfl rfl rfl rfl ?_
  refine RL.assign rfl rfl rfl rfl ?_
  refine RL.nil ?_
  refine NQ.seq ?_
  refine CW.only (.cons (k := 1) rfl (.cons (k := 2) rfl (.cons (k := 7) rfl (.cons (k := 8) rfl (.cons (k := 9) rfl (.cons (k := 10) rfl .nil)))))) ?_
  refine CW.seq ?_
  refine CW.seq ?_
  refine CW.region (ef := []) (bk := []) ?_
  refine RL.move rfl rfl rfl rfl ?_
  refine RL.move rfl rfl rfl rfl ?_
  refine RL.bin rfl rfl rfl rfl rfl rfl ?_
  refine RL.move rfl rfl rfl rfl ?_
  apply RL.orB (d := 32) (dp := 38) (l' := (Sq.of [])) rfl (.cons (k := 1) rfl (.cons (k := 2) rfl (.cons (k := 7) rfl (.cons (k := 9) rfl .nil))))
  ·
    intro hb4 K4
    refine RL.move rfl rfl rfl rfl ?_
    refine RL.cmp rfl rfl rfl rfl rfl (eql_ptr Try.runUnderlying50 _) ?_
    refine RL.move rfl rfl rfl rfl ?_
    refine RL.cmp rfl rfl rfl rfl rfl (eql_ptr Try.runUnderlying53 _) ?_
    refine RL.cmp rfl rfl rfl rfl rfl (neq_bool Try.runUnderlying4 _ _) ?_
    refine RL.pickF rfl rfl rfl rfl rfl ?_
    exact K4 _ (.cons rfl (.cons (k := 1) rfl (.cons (k := 2) rfl (.cons (k := 7) rfl (.cons (k := 9) rfl .nil)))))
  ·
    intro hb4 K4
    refine RL.skip rfl rfl rfl rfl ?_
    refine RL.skip rfl rfl rfl rfl ?_
    refine RL.skip rfl rfl rfl rfl ?_
    refine RL.skip rfl rfl rfl rfl ?_
    refine RL.skip rfl rfl rfl rfl ?_
    refine RL.pickT rfl rfl rfl rfl rfl ?_
    exact K4 _ (.cons rfl (.cons (k := 1) rfl (.cons (k := 2) rfl (.cons (k := 7) rfl (.cons (k := 9) rfl .nil)))))
  refine RL.nil ?_
  refine NQ.seq ?_
  -- STOP: if; todo top: ["code", ["cond", ["t", 38], ["seq", ["region", 4, [{"d": 6, "op": ["assign", ["c", ["bool", false]]], "ty": 4, "pos": "law.go:58", "after": [], "guard": null}], false], ["ret"]], ["skip"]]]
  refine CW.condF rfl ((by simp)) ?_
  refine CW.skip ?_
  refine NQ.seq ?_
  refine CW.seq ?_
  refine CW.seq ?_
  refine CW.region (ef := []) (bk := []) ?_
  refine RL.assign rfl rfl rfl rfl ?_
  refine RL.nil ?_
  refine NQ.seq ?_
  refine CW.block ?_
  -- STOP: loop; todo top: ["code", ["loop", ["seq", ["seq", ["region", 6, [{"d": 39, "op": ["move", ["t", 11]], "ty": 3, "pos": "law.go:60", "after": [], "guard": null}, {"d": 40, "op": ["move", ["t", 1]], "ty": 49, "pos": "la
  refine CW.loop (γ := Nat × List Ent × Option Nat × Nat × Nat × Nat) (fun g => g.1 ≤ L.length ∧ g.1 ≤ 40 ∧ RecInv m (came L g.1) g.2.1) (fun g => [(1, .slice p L.length c), (2, .int .i64 last), (7, .pointer (some ⟨r, 0, none⟩)), (9, .pointer (some ⟨y, 0, none⟩)), (11, .int .i64 (g.1 : Int))]) (fun _ => [sls p 4 L.length (entsV L)])
    (fun g => BothH r lb y m (came L g.1) g.2.1 g.2.2.1 g.2.2.2.1 g.2.2.2.2.1 g.2.2.2.2.2) (fun g => L.length - g.1) (0, rg, ol, cl, hb, ch) ⟨by simp, by simp, hi⟩ (.cons rfl (.cons rfl (.cons rfl (.cons rfl (.cons rfl .nil))))) (fun w h => h.rea (fun _ h => by simpa using h) (by repeat (first | exact Rea.nil | (apply Rea.cons; (solve | (repeat (first | exact Del.here | apply Del.there))))))) ?_
  rintro ⟨i, rg, ol, cl, hb, ch⟩ ⟨hi1, hi2, hinv⟩
  dsimp only at hi1 hi2 hinv ⊢
  have hce := came_le L i
  refine CW.fact (p := p = none → L.length = 0) (fun w hC e => sls_nil (hC.s.i (sls p 4 L.length (entsV L)) (by repeat (first | exact List.Mem.head _ | apply List.Mem.tail))) e) (fun hpa => ?_)
  refine CW.seq ?_
  refine CW.seq ?_
  refine CW.region (ef := []) (bk := []) ?_
  refine RL.move rfl rfl rfl rfl ?_
  refine RL.move rfl rfl rfl rfl ?_
  refine RL.lenS Try.runUnderlying49 rfl rfl rfl rfl ?_
  refine RL.bin rfl rfl rfl rfl rfl rfl ?_
  refine RL.move rfl rfl rfl rfl ?_
  apply RL.andB (d := 43) (dp := 46) (l' := (Sq.of [8, 9, 10, 11])) rfl (.cons (k := 1) rfl (.cons (k := 2) rfl (.cons (k := 7) rfl (.cons (k := 9) rfl (.cons (k := 11) rfl .nil)))))
  ·
    intro hb5 K5
    refine RL.move rfl rfl rfl rfl ?_
    refine RL.bin rfl rfl rfl rfl rfl rfl ?_
    refine RL.pickT rfl rfl rfl rfl rfl ?_
    exact K5 _ (.cons rfl (.cons (k := 1) rfl (.cons (k := 2) rfl (.cons (k := 7) rfl (.cons (k := 9) rfl (.cons (k := 11) rfl .nil))))))
  ·
    intro hb5 K5
    refine RL.skip rfl rfl rfl rfl ?_
    refine RL.skip rfl rfl rfl rfl ?_
    refine RL.pickF rfl rfl rfl rfl rfl ?_
    exact K5 _ (.cons rfl (.cons (k := 1) rfl (.cons (k := 2) rfl (.cons (k := 7) rfl (.cons (k := 9) rfl (.cons (k := 11) rfl .nil))))))
  refine RL.move rfl rfl rfl rfl ?_
  apply RL.andB (d := 47) (dp := 50) (l' := (Sq.of [])) rfl (.cons (k := 1) rfl (.cons (k := 2) rfl (.cons (k := 7) rfl (.cons (k := 9) rfl (.cons (k := 11) rfl .nil)))))
  ·
    intro hb9 K9
    refine RL.move rfl rfl rfl rfl ?_
    refine RL.cmp rfl rfl rfl rfl rfl (neq_ptr Try.runUnderlying53 _) ?_
    refine RL.pickT rfl rfl rfl rfl rfl ?_
    exact K9 _ (.cons rfl (.cons (k := 1) rfl (.cons (k := 2) rfl (.cons (k := 7) rfl (.cons (k := 9) rfl (.cons (k := 11) rfl .nil))))))
  ·
    intro hb9 K9
    refine RL.skip rfl rfl rfl rfl ?_
    refine RL.skip rfl rfl rfl rfl ?_
    refine RL.pickF rfl rfl rfl rfl rfl ?_
    exact K9 _ (.cons rfl (.cons (k := 1) rfl (.cons (k := 2) rfl (.cons (k := 7) rfl (.cons (k := 9) rfl (.cons (k := 11) rfl .nil))))))
  refine RL.nil ?_
  refine NQ.seq ?_
  -- STOP: if; todo top: ["code", ["cond", ["t", 50], ["skip"], ["exit", 0]]]
  refine CW.cond rfl (fun hlt => ?_) (fun hlt => ?_)
  ·
    have hlt : i < L.length ∧ i < 40 := by simp at hlt; omega
    cases p with
    | none => exact absurd (hpa rfl) (by omega)
    | some a =>
    have hx := List.getElem?_eq_getElem hlt.1
    generalize L[i] = x at hx
    have hmI : ∀ {I : List It}, sls (some a) 4 L.length (entsV L) ∈ I → (∀ o v, x.cells[o]? = some v → RdI I ((a.add (i * 4)).add o) v) ∧ RdsI I (a.add (i * 4)) x.cells := by
      intro I hm
      have hp : ∀ (q : Nat) (u : Value), x.cells[q]? = some u → (entsV L)[i * 4 + q]? = some u := fun q u hu => by
        have hlt : q < 4 := (List.getElem?_eq_some_iff.1 hu).1
        rw [get_flat (ent_len L) hx hlt]; exact hu
      exact ⟨fun o v hv => ⟨fun H => by rw [add_add]; exact (Rds.sls hm).rd (hp o v hv)⟩, ⟨fun H => (Rds.sls hm).part hp⟩⟩
    obtain ⟨q1, q5⟩ := hmI (I := [sls (some a) 4 L.length (entsV L)]) (List.Mem.head _)
    have k0 := q1 0 _ rfl
    have k1 := q1 1 _ rfl
    have k2 := q1 2 _ rfl
    have k3 := q1 3 _ rfl
    have k5 : RdsI [sls (some a) 4 L.length (entsV L)] (a.add (i * 4)) [.int .i64 x.t, .int .i64 x.k, .int .i64 x.s, .int .i64 x.e] := q5
    clear q1 q5
    refine CW.skip ?_
    refine NQ.seq ?_
    refine CW.seq ?_
    refine CW.block ?_
    refine CW.seq ?_
    refine CW.regionD (Sq.of [0, 1, 2, 3, 4, 5, 6, 7, 8, 9, 10, 11, 12, 13, 14, 15, 16, 17, 18, 19, 20, 21, 22]) [21, 22] [22] [0, 1, 2, 3, 5, 6, 7, 8, 10, 11, 12, 13, 15, 16, 17, 18, 20] mixed (by kernel_rfl) ?_
    refine RL.move rfl rfl rfl rfl ?_
    refine RL.move rfl rfl rfl rfl ?_
    first | refine RL.idxAt (j := i) Try.runUnderlying49 Try.sizeOf57 rfl rfl rfl rfl rfl rfl (hlt.1) ?_ | refine RL.idx (j := i) Try.runUnderlying49 Try.sizeOf57 rfl rfl rfl rfl rfl rfl (hlt.1) ?_
    first | refine RL.fieldAddr fa_57_0 rfl rfl rfl rfl ?_ | refine RL.fieldAddrG fa_57_0 rfl rfl rfl rfl ?_
    refine RL.load Try.isAgg3 rfl rfl rfl rfl (by first | assumption | (apply RdI.rd; assumption) | (apply Rd.get; (solve | (repeat (first | exact List.Mem.head _ | apply List.Mem.tail))); assumption) | (apply Rd.getS; (solve | (repeat (first | exact List.Mem.head _ | apply List.Mem.tail))); assumption) | (apply Rd.getO; (solve | (repeat (first | exact List.Mem.head _ | apply List.Mem.tail))); assumption) | (apply Rd.getI; (solve | (repeat (first | exact List.Mem.head _ | apply List.Mem.tail))); assumption) | (apply Rd.cel; (solve | (repeat (first | exact List.Mem.head _ | apply List.Mem.tail))); exact rfl) | (apply Rd.celI; (solve | (repeat (first | exact List.Mem.head _ | apply List.Mem.tail))); exact rfl)) ?_
    refine RL.move rfl rfl rfl rfl ?_
    refine RL.move rfl rfl rfl rfl ?_
    first | refine RL.idxAt (j := i) Try.runUnderlying49 Try.sizeOf57 rfl rfl rfl rfl rfl rfl (hlt.1) ?_ | refine RL.idx (j := i) Try.runUnderlying49 Try.sizeOf57 rfl rfl rfl rfl rfl rfl (hlt.1) ?_
    first | refine RL.fieldAddr fa_57_1 rfl rfl rfl rfl ?_ | refine RL.fieldAddrG fa_57_1 rfl rfl rfl rfl ?_
    refine RL.load Try.isAgg3 rfl rfl rfl rfl (by first | assumption | (apply RdI.rd; assumption) | (apply Rd.get; (solve | (repeat (first | exact List.Mem.head _ | apply List.Mem.tail))); assumption) | (apply Rd.getS; (solve | (repeat (first | exact List.Mem.head _ | apply List.Mem.tail))); assumption) | (apply Rd.getO; (solve | (repeat (first | exact List.Mem.head _ | apply List.Mem.tail))); assumption) | (apply Rd.getI; (solve | (repeat (first | exact List.Mem.head _ | apply List.Mem.tail))); assumption) | (apply Rd.cel; (solve | (repeat (first | exact List.Mem.head _ | apply List.Mem.tail))); exact rfl) | (apply Rd.celI; (solve | (repeat (first | exact List.Mem.head _ | apply List.Mem.tail))); exact rfl)) ?_
    refine RL.move rfl rfl rfl rfl ?_
    refine RL.move rfl rfl rfl rfl ?_
    first | refine RL.idxAt (j := i) Try.runUnderlying49 Try.sizeOf57 rfl rfl rfl rfl rfl rfl (hlt.1) ?_ | refine RL.idx (j := i) Try.runUnderlying49 Try.sizeOf57 rfl rfl rfl rfl rfl rfl (hlt.1) ?_
    first | refine RL.fieldAddr fa_57_2 rfl rfl rfl rfl ?_ | refine RL.fieldAddrG fa_57_2 rfl rfl rfl rfl ?_
    refine RL.load Try.isAgg3 rfl rfl rfl rfl (by first | assumption | (apply RdI.rd; assumption) | (apply Rd.get; (solve | (repeat (first | exact List.Mem.head _ | apply List.Mem.tail))); assumption) | (apply Rd.getS; (solve | (repeat (first | exact List.Mem.head _ | apply List.Mem.tail))); assumption) | (apply Rd.getO; (solve | (repeat (first | exact List.Mem.head _ | apply List.Mem.tail))); assumption) | (apply Rd.getI; (solve | (repeat (first | exact List.Mem.head _ | apply List.Mem.tail))); assumption) | (apply Rd.cel; (solve | (repeat (first | exact List.Mem.head _ | apply List.Mem.tail))); exact rfl) | (apply Rd.celI; (solve | (repeat (first | exact List.Mem.head _ | apply List.Mem.tail))); exact rfl)) ?_
    refine RL.move rfl rfl rfl rfl ?_
    refine RL.move rfl rfl rfl rfl ?_
    first | refine RL.idxAt (j := i) Try.runUnderlying49 Try.sizeOf57 rfl rfl rfl rfl rfl rfl (hlt.1) ?_ | refine RL.idx (j := i) Try.runUnderlying49 Try.sizeOf57 rfl rfl rfl rfl rfl rfl (hlt.1) ?_
    first | refine RL.fieldAddr fa_57_3 rfl rfl rfl rfl ?_ | refine RL.fieldAddrG fa_57_3 rfl rfl rfl rfl ?_
    refine RL.load Try.isAgg3 rfl rfl rfl rfl (by first | assumption | (apply RdI.rd; assumption) | (apply Rd.get; (solve | (repeat (first | exact List.Mem.head _ | apply List.Mem.tail))); assumption) | (apply Rd.getS; (solve | (repeat (first | exact List.Mem.head _ | apply List.Mem.tail))); assumption) | (apply Rd.getO; (solve | (repeat (first | exact List.Mem.head _ | apply List.Mem.tail))); assumption) | (apply Rd.getI; (solve | (repeat (first | exact List.Mem.head _ | apply List.Mem.tail))); assumption) | (apply Rd.cel; (solve | (repeat (first | exact List.Mem.head _ | apply List.Mem.tail))); exact rfl) | (apply Rd.celI; (solve | (repeat (first | exact List.Mem.head _ | apply List.Mem.tail))); exact rfl)) ?_
    refine RL.buildS [_, _, _, _] Try.zeroValue58 pl_58 rfl rfl rfl rfl rfl ?_
    refine RL.alloc Try.zeroValue58 rfl rfl rfl rfl rfl ?_
    intro b1
    refine RL.store (vs := [_, _, _, _]) Try.sizeOf58 rfl rfl rfl rfl rfl rfl rfl rfl rfl (by repeat (first | exact Upd.here | apply Upd.there)) ?_
    refine RL.nil ?_
    refine NQ.seq ?_
    refine CW.only (.cons (k := 1) rfl (.cons (k := 2) rfl (.cons (k := 7) rfl (.cons (k := 9) rfl (.cons (k := 11) rfl (.cons (k := 12) rfl .nil)))))) ?_
    refine CW.seq ?_
    refine CW.seq ?_
    -- STOP: region; todo top: ["code", ["region", 9, [{"d": 74, "op": ["move", ["t", 7]], "ty": 50, "pos": "law.go:62", "after": [], "guard": null}, {"d": 75, "op": ["move", ["t", 1]], "ty": 49, "pos": "law.go:62", "after": [], "g
    refine CW.freezeP (A := [_]) (B := [_, _, _, _, _]) (.take (.leave (.leave (.leave (.leave (.leave .nil)))))) rfl ?_
    simp only [List.cons_append, List.nil_append]
    have k6 : RdsI [cel b1 [.int .i64 x.t, .int .i64 x.k, .int .i64 x.s, .int .i64 x.e] 58, sls (some a) 4 L.length (entsV L)] (a.add (i * 4)) [.int .i64 x.t, .int .i64 x.k, .int .i64 x.s, .int .i64 x.e] := (hmI (List.Mem.tail _ (List.Mem.head _))).2
    refine CW.regionD (Sq.of [0, 1, 2, 3, 4, 6, 7, 5, 8, 9, 10, 11, 12, 13, 14, 15, 16, 17, 18, 19, 20, 21, 22, 23, 24, 25, 26, 27, 28, 29, 30, 31, 32, 33, 34, 35]) [5, 8] [5, 8] [0, 1, 2, 3, 4, 6, 7, 9, 10, 11, 13, 14, 15, 17, 18, 19, 21, 22, 24, 25, 26, 27, 29, 30, 31, 33, 34, 35] mixed (by kernel_rfl) ?_
    refine RL.move rfl rfl rfl rfl ?_
    refine RL.move rfl rfl rfl rfl ?_
    refine RL.move rfl rfl rfl rfl ?_
    first | refine RL.idxAt (j := i) Try.runUnderlying49 Try.sizeOf57 rfl rfl rfl rfl rfl rfl (hlt.1) ?_ | refine RL.idx (j := i) Try.runUnderlying49 Try.sizeOf57 rfl rfl rfl rfl rfl rfl (hlt.1) ?_
    refine RL.loadNT (vs := [_, _, _, _]) Try.isAgg57 Try.sizeOf57 rfl rfl rfl rfl (by first | (apply Rds.cel; (solve | (repeat (first | exact List.Mem.head _ | apply List.Mem.tail))); exact at_spec ⟨rfl, rfl, rfl, rfl, trivial⟩) | (apply Rds.celI; (solve | (repeat (first | exact List.Mem.head _ | apply List.Mem.tail))); exact at_spec ⟨rfl, rfl, rfl, rfl, trivial⟩) | assumption | (apply RdsI.rds; assumption)) ?_
    refine RL.move rfl rfl rfl rfl ?_
    refine RL.loadNT (vs := [_, _, _, _]) Try.isAgg58 Try.sizeOf58 rfl rfl rfl rfl (by first | (apply Rds.cel; (solve | (repeat (first | exact List.Mem.head _ | apply List.Mem.tail))); exact at_spec ⟨rfl, rfl, rfl, rfl, trivial⟩) | (apply Rds.celI; (solve | (repeat (first | exact List.Mem.head _ | apply List.Mem.tail))); exact at_spec ⟨rfl, rfl, rfl, rfl, trivial⟩) | assumption | (apply RdsI.rds; assumption)) ?_
    refine RL.call (add_any r lb m (came L i) rg x h1 h2 (by omega) hinv) Try.call28 rfl rfl rfl rfl rfl (by repeat (first | exact Pick.nil | apply Pick.take | apply Pick.leave)) (by repeat (first | exact Lend.nil | (refine Lend.inI ?_ ?_; (solve | (repeat (first | exact List.Mem.head _ | apply List.Mem.tail)))) | (refine Lend.inH ?_ ?_; (solve | (repeat (first | exact List.Mem.head _ | apply List.Mem.tail)))))) (.inr rfl) ?_
    -- STOP: called; op 8: d=82 ["call", ["f", 29], [["t", 80], ["t", 81]], [53, 58]] guard=None (law.go:62)
    rintro _ _ _ ⟨rfl, rfl, rg2, hinv2, rfl⟩
    refine RL.call (radd_any y m (came L i) ol cl hb ch x (by omega)) Try.call29 rfl rfl rfl rfl rfl (by repeat (first | exact Pick.nil | apply Pick.take | apply Pick.leave)) (by repeat (first | exact Lend.nil | (refine Lend.inI ?_ ?_; (solve | (repeat (first | exact List.Mem.head _ | apply List.Mem.tail)))) | (refine Lend.inH ?_ ?_; (solve | (repeat (first | exact List.Mem.head _ | apply List.Mem.tail)))))) (.inr rfl) ?_
    -- STOP: called; op 9: d=83 ["binOp", "Go.BinOp.neq", 35, ["t", 79], ["t", 82], 35] guard=None (law.go:62)
    rintro _ _ _ ⟨rfl, rfl, ol2, cl2, hb2, ch2, rfl⟩
    rw [came_succ hx] at hinv2 ⊢
    have hce2 := came_le L (i + 1)
    refine RL.bin rfl rfl rfl rfl rfl rfl ?_
    refine RL.move rfl rfl rfl rfl ?_
    -- STOP: part 84; op 11: d=85 ["move", ["t", 7]] guard=[10, False] (law.go:62)
    refine RL.cast (d := 84) (v' := .bool false) rfl ((by simp)) ?_
    refine RL.move rfl rfl rfl rfl ?_
    refine RL.callv (head_any r lb m _ _ _ _ _ h1 (headOf_length _) (headOf_length _)) Try.call30 rfl rfl rfl rfl (by repeat (first | exact Lend.nil | (refine Lend.inI ?_ ?_; (solve | (repeat (first | exact List.Mem.head _ | apply List.Mem.tail)))) | (refine Lend.inH ?_ ?_; (solve | (repeat (first | exact List.Mem.head _ | apply List.Mem.tail)))))) ?_
    refine RL.move rfl rfl rfl rfl ?_
    refine RL.nilCheck rfl rfl rfl rfl ?_
    refine RL.fieldAddr fa_66_2 rfl rfl rfl rfl ?_
    refine RL.load Try.isAgg64 rfl rfl rfl rfl (by first | assumption | (apply RdI.rd; assumption) | (apply Rd.get; (solve | (repeat (first | exact List.Mem.head _ | apply List.Mem.tail))); assumption) | (apply Rd.getS; (solve | (repeat (first | exact List.Mem.head _ | apply List.Mem.tail))); assumption) | (apply Rd.getO; (solve | (repeat (first | exact List.Mem.head _ | apply List.Mem.tail))); assumption) | (apply Rd.getI; (solve | (repeat (first | exact List.Mem.head _ | apply List.Mem.tail))); assumption) | (apply Rd.cel; (solve | (repeat (first | exact List.Mem.head _ | apply List.Mem.tail))); exact rfl) | (apply Rd.celI; (solve | (repeat (first | exact List.Mem.head _ | apply List.Mem.tail))); exact rfl)) ?_
    refine RL.move rfl rfl rfl rfl ?_
    refine RL.nilCheck rfl rfl rfl rfl ?_
    refine RL.fieldAddr fa_66_1 rfl rfl rfl rfl ?_
    refine RL.load Try.isAgg63 rfl rfl rfl rfl (by first | assumption | (apply RdI.rd; assumption) | (apply Rd.get; (solve | (repeat (first | exact List.Mem.head _ | apply List.Mem.tail))); assumption) | (apply Rd.getS; (solve | (repeat (first | exact List.Mem.head _ | apply List.Mem.tail))); assumption) | (apply Rd.getO; (solve | (repeat (first | exact List.Mem.head _ | apply List.Mem.tail))); assumption) | (apply Rd.getI; (solve | (repeat (first | exact List.Mem.head _ | apply List.Mem.tail))); assumption) | (apply Rd.cel; (solve | (repeat (first | exact List.Mem.head _ | apply List.Mem.tail))); exact rfl) | (apply Rd.celI; (solve | (repeat (first | exact List.Mem.head _ | apply List.Mem.tail))); exact rfl)) ?_
    refine RL.lenS Try.runUnderlying63 rfl rfl rfl rfl ?_
    refine RL.idxAt (j := (came L (i + 1)).length) Try.runUnderlying64 Try.sizeOf61 rfl rfl rfl rfl rfl rfl (by omega) ?_
    -- STOP: op; op 23: d=97 ["load", 61, ["t", 96]] guard=[10, False] (law.go:62)
    refine RL.loadN (vs := bytes (headOf (came L (i + 1)))) Try.isAgg61 (by rw [List.length_map, headOf_length]; exact Try.sizeOf61) rfl rfl rfl rfl (Rds.ownAt (by repeat (first | exact List.Mem.head _ | apply List.Mem.tail)) (headsV_last _)) ?_
    -- STOP: op; op 24: d=98 ["binOp", "Go.BinOp.neq", 61, ["t", 86], ["t", 97], 61] guard=[10, False] (law.go:62)
    refine RL.cmp rfl rfl rfl rfl rfl (dig_ne (headOf (came L (i + 1))) (headOf (came L (i + 1))) (headOf_length _) (headOf_length _) _ _) ?_
    refine RL.pickF rfl rfl rfl rfl rfl ?_
    refine RL.move rfl rfl rfl rfl ?_
    apply RL.orB (d := 100) (dp := 109) (l' := (Sq.of [])) rfl (.cons (k := 1) rfl (.cons (k := 2) rfl (.cons (k := 7) rfl (.cons (k := 9) rfl (.cons (k := 11) rfl .nil)))))
    ·
      intro hb27 K27
      refine RL.move rfl rfl rfl rfl ?_
      refine RL.callv (count_any r lb m _ _ _ _ _ h1 (headOf_length _) (headOf_length _)) Try.call31 rfl rfl rfl rfl (by repeat (first | exact Lend.nil | (refine Lend.inI ?_ ?_; (solve | (repeat (first | exact List.Mem.head _ | apply List.Mem.tail)))) | (refine Lend.inH ?_ ?_; (solve | (repeat (first | exact List.Mem.head _ | apply List.Mem.tail)))))) ?_
      refine RL.move rfl rfl rfl rfl ?_
      refine RL.nilCheck rfl rfl rfl rfl ?_
      refine RL.fieldAddr fa_66_1 rfl rfl rfl rfl ?_
      refine RL.load Try.isAgg63 rfl rfl rfl rfl (by first | assumption | (apply RdI.rd; assumption) | (apply Rd.get; (solve | (repeat (first | exact List.Mem.head _ | apply List.Mem.tail))); assumption) | (apply Rd.getS; (solve | (repeat (first | exact List.Mem.head _ | apply List.Mem.tail))); assumption) | (apply Rd.getO; (solve | (repeat (first | exact List.Mem.head _ | apply List.Mem.tail))); assumption) | (apply Rd.getI; (solve | (repeat (first | exact List.Mem.head _ | apply List.Mem.tail))); assumption) | (apply Rd.cel; (solve | (repeat (first | exact List.Mem.head _ | apply List.Mem.tail))); exact rfl) | (apply Rd.celI; (solve | (repeat (first | exact List.Mem.head _ | apply List.Mem.tail))); exact rfl)) ?_
      refine RL.lenS Try.runUnderlying63 rfl rfl rfl rfl ?_
      refine RL.bin rfl rfl rfl rfl rfl rfl ?_
      refine RL.pickF rfl rfl rfl rfl rfl ?_
      exact K27 _ (.cons rfl (.cons (k := 1) rfl (.cons (k := 2) rfl (.cons (k := 7) rfl (.cons (k := 9) rfl (.cons (k := 11) rfl .nil))))))
    ·
      intro hb27 K27
      refine RL.skip rfl rfl rfl rfl ?_
      refine RL.skip rfl rfl rfl rfl ?_
      refine RL.skip rfl rfl rfl rfl ?_
      refine RL.skip rfl rfl rfl rfl ?_
      refine RL.skip rfl rfl rfl rfl ?_
      refine RL.skip rfl rfl rfl rfl ?_
      refine RL.skip rfl rfl rfl rfl ?_
      refine RL.skip rfl rfl rfl rfl ?_
      refine RL.pickT rfl rfl rfl rfl rfl ?_
      exact K27 _ (.cons rfl (.cons (k := 1) rfl (.cons (k := 2) rfl (.cons (k := 7) rfl (.cons (k := 9) rfl (.cons (k := 11) rfl .nil))))))
    refine RL.nil ?_
    refine NQ.seq ?_
    -- STOP: if; todo top: ["code", ["cond", ["t", 109], ["seq", ["region", 10, [{"d": 6, "op": ["assign", ["c", ["bool", false]]], "ty": 4, "pos": "law.go:63", "after": [], "guard": null}], false], ["ret"]], ["skip"]]]
    refine CW.condF rfl ((by simp)) ?_
    refine CW.skip ?_
    refine NQ.seq ?_
    refine CW.seq ?_
    refine CW.region (ef := [1]) (bk := []) ?_
    refine RL.move rfl rfl rfl rfl ?_
    refine RL.buildSlice [_, _, _] Try.runUnderlying68 Try.sizeOf3 Try.zeroValue3 rfl rfl (by decide) (by decide) rfl rfl rfl rfl rfl rfl ?_
    intro b2
    refine RL.lenS Try.runUnderlying68 rfl rfl rfl rfl ?_
    refine RL.move rfl rfl rfl rfl ?_
    refine RL.nil ?_
    refine NQ.seq ?_
    refine CW.block ?_
    -- STOP: loop; todo top: ["code", ["loop", ["seq", ["region", 12, [{"d": 114, "op": ["binOp", "Go.BinOp.lss", 3, ["t", 113], ["t", 112], 3], "ty": 0, "pos": "law.go:65", "after": [], "guard": null}], false], ["seq", ["cond", 
    refine CW.loop (γ := Nat) (fun j => j ≤ 3) (fun j => [(1, .slice (some a) L.length c), (2, .int .i64 last), (7, .pointer (some ⟨r, 0, none⟩)), (9, .pointer (some ⟨y, 0, none⟩)), (11, .int .i64 (i : Int)), (111, .slice (some ⟨b2, 0, none⟩) 3 3), (112, .int .i64 3), (113, .int .i64 (j : Int))])
      (fun _ => [sls (some a) 4 L.length (entsV L)]) (fun _ => cel b2 [.int .i64 last, .int .i64 1, .int .i64 40] 3 :: BothH r lb y m (came L (i + 1)) rg2 ol2 cl2 hb2 ch2) (fun j => 3 - j) 0 (by omega) (.cons rfl (.cons rfl (.cons rfl (.cons rfl (.cons rfl (.cons rfl (.cons rfl (.cons rfl .nil)))))))) (fun w h => h.rea (fun _ h => by simp at h; simp [h]) (by repeat (first | exact Rea.nil | (apply Rea.cons; (solve | (repeat (first | exact Del.here | apply Del.there))))))) ?_
    intro j hj
    refine CW.seq ?_
    refine CW.region (ef := []) (bk := []) ?_
    refine RL.bin rfl rfl rfl rfl rfl rfl ?_
    refine RL.nil ?_
    refine NQ.seq ?_
    refine CW.seq ?_
    -- STOP: if; todo top: ["code", ["cond", ["t", 114], ["skip"], ["exit", 2]]]
    refine CW.cond rfl (fun hj3 => ?_) (fun hj3 => ?_)
    ·
      have hj3 : j < 3 := by simp at hj3; omega
      have hz : ([.int .i64 last, .int .i64 1, .int .i64 40] : List Value)[0 + j * 1]? = some (.int .i64 ([last, 1, 40].getD j 0)) := by
        match j, hj3 with
        | 0, _ => rfl
        | 1, _ => rfl
        | 2, _ => rfl
      generalize [last, 1, 40].getD j 0 = z at hz
      have e1 := repV_fr m (came L (i + 1)) z
      have e2 := repV_to m (came L (i + 1)) z
      have e3 := repV_len m (came L (i + 1)) z
      refine CW.skip ?_
      refine NQ.seq ?_
      refine CW.seq ?_
      refine CW.block ?_
      refine CW.seq ?_
      refine CW.region (ef := []) (bk := []) ?_
      refine RL.idxAt (j := j) Try.runUnderlying68 Try.sizeOf3 rfl rfl rfl rfl rfl rfl (hj3) ?_
      -- STOP: op; op 1: d=116 ["load", 3, ["t", 115]] guard=None (law.go:65)
      refine RL.load Try.isAgg3 rfl rfl rfl rfl (Rd.get (by repeat (first | exact List.Mem.head _ | apply List.Mem.tail)) hz) ?_
      refine RL.assign rfl rfl rfl rfl ?_
      refine RL.nil ?_
      refine NQ.seq ?_
      refine CW.seq ?_
      refine CW.region (ef := [2, 6, 7]) (bk := [7]) ?_
      refine RL.move rfl rfl rfl rfl ?_
      refine RL.move rfl rfl rfl rfl ?_
      refine RL.call (report_any r lb m (came L (i + 1)) rg2 z h1 h2 (by omega) hinv2) Try.call32 rfl rfl rfl rfl rfl (by repeat (first | exact Pick.nil | apply Pick.take | apply Pick.leave)) (by repeat (first | exact Lend.nil | (refine Lend.inI ?_ ?_; (solve | (repeat (first | exact List.Mem.head _ | apply List.Mem.tail)))) | (refine Lend.inH ?_ ?_; (solve | (repeat (first | exact List.Mem.head _ | apply List.Mem.tail)))))) (.inl rfl) ?_
      -- STOP: called; op 3: d=117 ["move", ["t", 120]] guard=None (law.go:66)
      rintro _ _ _ ⟨oa, ca, rfl, rfl, rfl⟩
      refine RL.move rfl rfl rfl rfl ?_
      refine RL.extract rfl rfl rfl rfl rfl ?_
      refine RL.extract rfl rfl rfl rfl rfl ?_
      refine RL.alloc Try.zeroValue70 rfl rfl rfl rfl rfl ?_
      intro b3
      -- STOP: op; op 7: d=None ["store", 70, ["t", 15], ["t", 121]] guard=None (law.go:66)
      refine RL.storeW Try.sizeOf70 rfl rfl rfl rfl rfl rfl rfl (ones_rep _ rfl) (by repeat (first | exact Upd.here | apply Upd.there)) (rep_len e1 e2) rfl ?_
      refine RL.assign rfl rfl rfl rfl ?_
      refine RL.nil ?_
      refine NQ.seq ?_
      refine CW.only (.cons (k := 1) rfl (.cons (k := 2) rfl (.cons (k := 7) rfl (.cons (k := 9) rfl (.cons (k := 11) rfl (.cons (k := 14) rfl (.cons (k := 15) rfl (.cons (k := 16) rfl (.cons (k := 111) rfl (.cons (k := 112) rfl (.cons (k := 113) rfl .nil))))))))))) ?_
      refine CW.seq ?_
      refine CW.region (ef := [2, 6, 7]) (bk := [7]) ?_
      refine RL.move rfl rfl rfl rfl ?_
      refine RL.move rfl rfl rfl rfl ?_
      refine RL.call (rreport_any y m (came L (i + 1)) ol2 cl2 hb2 ch2 z (by omega)) Try.call33 rfl rfl rfl rfl rfl (by repeat (first | exact Pick.nil | apply Pick.take | apply Pick.leave)) (by repeat (first | exact Lend.nil | (refine Lend.inI ?_ ?_; (solve | (repeat (first | exact List.Mem.head _ | apply List.Mem.tail)))) | (refine Lend.inH ?_ ?_; (solve | (repeat (first | exact List.Mem.head _ | apply List.Mem.tail)))))) (.inl rfl) ?_
      -- STOP: called; op 3: d=123 ["move", ["t", 126]] guard=None (law.go:67)
      rintro _ _ _ ⟨ob, cb, rfl, rfl, rfl⟩
      refine RL.move rfl rfl rfl rfl ?_
      refine RL.extract rfl rfl rfl rfl rfl ?_
      refine RL.extract rfl rfl rfl rfl rfl ?_
      refine RL.alloc Try.zeroValue74 rfl rfl rfl rfl rfl ?_
      intro b4
      -- STOP: op; op 7: d=None ["store", 74, ["t", 17], ["t", 127]] guard=None (law.go:67)
      refine RL.storeW Try.sizeOf74 rfl rfl rfl rfl rfl rfl rfl (ones_rep _ rfl) (by repeat (first | exact Upd.here | apply Upd.there)) (rep_len e1 e2) rfl ?_
      refine RL.assign rfl rfl rfl rfl ?_
      refine RL.nil ?_
      refine NQ.seq ?_
      refine CW.only (.cons (k := 1) rfl (.cons (k := 2) rfl (.cons (k := 7) rfl (.cons (k := 9) rfl (.cons (k := 11) rfl (.cons (k := 15) rfl (.cons (k := 16) rfl (.cons (k := 17) rfl (.cons (k := 18) rfl (.cons (k := 111) rfl (.cons (k := 112) rfl (.cons (k := 113) rfl .nil)))))))))))) ?_
      refine CW.seq ?_
      refine CW.region (ef := [2]) (bk := []) ?_
      -- STOP: op; op 0: d=129 ["load", 70, ["t", 15]] guard=None (law.go:68)
      refine RL.loadA Try.isAgg70 Try.sizeOf70 rfl rfl rfl rfl (Rds.all (by repeat (first | exact List.Mem.head _ | apply List.Mem.tail))) (rep_len e1 e2) ?_
      -- STOP: op; op 1: d=130 ["load", 74, ["t", 17]] guard=None (law.go:68)
      refine RL.loadA Try.isAgg74 Try.sizeOf74 rfl rfl rfl rfl (Rds.all (by repeat (first | exact List.Mem.head _ | apply List.Mem.tail))) (rep_len e1 e2) ?_
      refine RL.callv (same_refl (repV m (came L (i + 1)) z) oa ob ca cb (repV m (came L (i + 1)) z).L.length e1 e2 rfl (by omega)) Try.call34 rfl rfl rfl rfl (Lend.own (by repeat (first | exact List.Mem.head _ | apply List.Mem.tail)) (Lend.own (by repeat (first | exact List.Mem.head _ | apply List.Mem.tail)) .nil)) ?_
      refine RL.not rfl rfl rfl rfl ?_
      refine RL.move rfl rfl rfl rfl ?_
      apply RL.orB (d := 133) (dp := 137) (l' := (Sq.of [])) rfl (.cons (k := 1) rfl (.cons (k := 2) rfl (.cons (k := 7) rfl (.cons (k := 9) rfl (.cons (k := 11) rfl (.cons (k := 111) rfl (.cons (k := 112) rfl (.cons (k := 113) rfl .nil))))))))
      ·
        intro hb5 K5
        refine RL.move rfl rfl rfl rfl ?_
        refine RL.move rfl rfl rfl rfl ?_
        refine RL.bin rfl rfl rfl rfl rfl rfl ?_
        refine RL.pickF rfl rfl rfl rfl rfl ?_
        exact K5 _ (.cons rfl (.cons (k := 1) rfl (.cons (k := 2) rfl (.cons (k := 7) rfl (.cons (k := 9) rfl (.cons (k := 11) rfl (.cons (k := 111) rfl (.cons (k := 112) rfl (.cons (k := 113) rfl .nil)))))))))
      ·
        intro hb5 K5
        refine RL.skip rfl rfl rfl rfl ?_
        refine RL.skip rfl rfl rfl rfl ?_
        refine RL.skip rfl rfl rfl rfl ?_
        refine RL.pickT rfl rfl rfl rfl rfl ?_
        exact K5 _ (.cons rfl (.cons (k := 1) rfl (.cons (k := 2) rfl (.cons (k := 7) rfl (.cons (k := 9) rfl (.cons (k := 11) rfl (.cons (k := 111) rfl (.cons (k := 112) rfl (.cons (k := 113) rfl .nil)))))))))
      refine RL.nil ?_
      refine NQ.seq ?_
      -- STOP: if; todo top: ["code", ["cond", ["t", 137], ["seq", ["region", 17, [{"d": 6, "op": ["assign", ["c", ["bool", false]]], "ty": 4, "pos": "law.go:69", "after": [], "guard": null}], false], ["ret"]], ["skip"]]]
      refine CW.condF rfl ((by simp)) ?_
      refine CW.skip ?_
      refine NQ.block ?_
      refine NQ.seq ?_
      refine CW.region (ef := []) (bk := []) ?_
      refine RL.binX rfl rfl rfl rfl rfl rfl (wrapV_i64 (by omega) (by omega)) ?_
      refine RL.move rfl rfl rfl rfl ?_
      refine RL.nil ?_
      -- STOP: round; todo top: ["N"]
      refine NQ.round (g := j) (j + 1) hj3 (by show 3 - (j + 1) < 3 - j; omega) (.cons rfl (.cons rfl (.cons rfl (.cons rfl (.cons rfl (.cons rfl (.cons rfl (.cons rfl .nil)))))))) (fun w h => h.rea (fun _ h => by simp at h; simp [h]) (by repeat (first | exact Rea.nil | (apply Rea.cons; (solve | (repeat (first | exact Del.here | apply Del.there)))))))
    ·
      refine CW.exit ?_
      refine XQ.seq ?_
      refine XQ.seq ?_
      refine XQ.hit ?_
      refine NQ.block ?_
      refine NQ.seq ?_
      refine CW.region (ef := []) (bk := []) ?_
      refine RL.move rfl rfl rfl rfl ?_
      refine RL.binX rfl rfl rfl rfl rfl rfl (wrapV_i64 (by omega) (by omega)) ?_
      refine RL.assign rfl rfl rfl rfl ?_
      refine RL.nil ?_
      -- STOP: round; todo top: ["N"]
      refine NQ.round (g := (i, rg, ol, cl, hb, ch)) (i + 1, rg2, ol2, cl2, hb2, ch2) ⟨hlt.1, hlt.2, hinv2⟩ (by show L.length - (i + 1) < L.length - i; omega) (.cons rfl (.cons rfl (.cons rfl (.cons rfl (.cons rfl .nil))))) (fun w h => h.rea (fun _ h => by simpa using h) (by repeat (first | exact Rea.nil | (apply Rea.cons; (solve | (repeat (first | exact Del.here | apply Del.there)))))))
  ·
    refine CW.exit ?_
    refine XQ.seq ?_
    refine XQ.seq ?_
    refine XQ.hit ?_
    refine NQ.seq ?_
    refine CW.only .nil ?_
    refine CW.seq ?_
    refine CW.region (ef := []) (bk := []) ?_
    refine RL.callv (works36) Try.call35 rfl rfl rfl rfl (by repeat (first | exact Lend.nil | (refine Lend.inI ?_ ?_; (solve | (repeat (first | exact List.Mem.head _ | apply List.Mem.tail)))) | (refine Lend.inH ?_ ?_; (solve | (repeat (first | exact List.Mem.head _ | apply List.Mem.tail)))))) ?_
    refine RL.assign rfl rfl rfl rfl ?_
    refine RL.nil ?_
    refine NQ.seq ?_
    refine CW.ret ?_
    -- STOP: ret; end
    exact RQ.post (res1 rfl rfl) (Split.none _) ⟨rfl, rfl, rfl⟩
end Go.Proofs.Ytflpiaeffnoepaa
