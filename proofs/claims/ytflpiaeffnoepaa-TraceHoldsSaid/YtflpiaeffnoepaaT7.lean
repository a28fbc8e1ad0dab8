import Derived.Test.YtflpiaeffnoepaaT6
namespace Go.Proofs.Ytflpiaeffnoepaa
open Go.PK

theorem Rds.ownAt {I H : List It} {b cap sz n j : Nat} {e : TypeId} {xs vs : List Value} (hm : own (some b) cap e sz n xs ∈ H) (h : ∀ q u, vs[q]? = some u → xs[j + q]? = some u) : Rds I H ⟨b, 0 + j, none⟩ vs := by
  have h2 := Rds.part (I := I) (j := j) (Rds.own hm) h
  rwa [add_none] at h2
/-- All heads. -/
def heads (es : List Ent) : List (List B8) := (List.range (es.length + 1)).map (fun i => headOf (es.take i))
def headsV (es : List Ent) : List Value := (heads es).flatMap bytes
theorem heads_len (es : List Ent) : ∀ l ∈ heads es, (bytes l).length = 32 := by
  intro l hl
  obtain ⟨i, -, rfl⟩ := List.mem_map.1 hl
  rw [List.length_map, headOf_length]
theorem heads_get {es : List Ent} {i : Nat} (hi : i ≤ es.length) : (heads es)[i]? = some (headOf (es.take i)) := by
  simp [heads, List.getElem?_map, List.getElem?_range, Nat.lt_succ_of_le hi]
theorem headsV_at {es : List Ent} {i : Nat} (hi : i ≤ es.length) : ∀ (j : Nat) (u : Value), (bytes (headOf (es.take i)))[j]? = some u → (headsV es)[i * 32 + j]? = some u := fun j u hj => by
  have hlt : j < 32 := by
    have := (List.getElem?_eq_some_iff.1 hj).1
    rwa [List.length_map, headOf_length] at this
  rw [headsV, get_flat (heads_len es) (heads_get hi) hlt]; exact hj
theorem headsV_last (es : List Ent) : ∀ (j : Nat) (u : Value), (bytes (headOf es))[j]? = some u → (headsV es)[es.length * 32 + j]? = some u := by
  have h := headsV_at (es := es) (i := es.length) (Nat.le_refl _)
  rwa [List.take_length] at h
theorem RQ.rea {Q : Exit → Act → World → Prop} {N : Nat} {E : Env} {w0 : World} {S : List Nat} {I H I' H' : List It} (hi : ∀ x ∈ I', x ∈ I) (r : Rea H H') (h : RQ Q N E w0 S I' H') : RQ Q N E w0 S I H := fun a w ha hw => h a w ha (hw.rea hi r)
theorem headsV_snoc (es : List Ent) (x : Ent) : headsV (es ++ [x]) = headsV es ++ bytes (nextD (headOf es) x) := by
  have e : heads (es ++ [x]) = heads es ++ [nextD (headOf es) x] := by
    unfold heads
    rw [List.length_append, List.length_singleton, List.range_succ, List.map_append, List.map_singleton]
    congr 1
    · apply List.map_congr_left
      intro i hi
      have := List.mem_range.1 hi
      rw [List.take_append_of_le_length (by omega)]
    · rw [List.take_of_length_le (by simp), headOf_snoc]
  rw [headsV, e, List.flatMap_append]
  simp [headsV]
/-- A recorder of the reference. -/
abbrev RefH (y m : Nat) (es : List Ent) (ol : Option Nat) (cl hb ch : Nat) : List It :=
  [cel y [.int .i64 (m : Int), slO ol es.length cl, slO (some hb) (es.length + 1) ch] 66, own ol cl 58 4 es.length (entsV es), own (some hb) ch 61 32 (es.length + 1) (headsV es)]

theorem radd_fin {fn : Func} {w0 : World} {S : List Nat} {N : Nat} {E : Env} {I H : List It} {y m t : Nat} {es : List Ent} {x : Ent} {o1 o2 : Option Nat} {c1 c2 : Nat} (hf : fn.results = #[.tmp t]) (hv : E.get t = some (.int .i64 0)) (ho : es.length + 1 + 1 = 0 ∨ o2.isSome = true)
    (r : Rea H [cel y [.int .i64 (m : Int), slO o1 (es.length + 1) c1, slO o2 (es.length + 1 + 1) c2] 66, own o1 c1 58 4 (es.length + 1) (entsV es ++ x.cells), own o2 c2 61 32 (es.length + 1 + 1) (headsV es ++ bytes (nextD (headOf es) x))]) :
    RQ (FnPost Try.prog fn (fun v I' H' => v = .int .i64 0 ∧ I' = [] ∧ ∃ ol cl hb ch, H' = RefH y m (es ++ [x]) ol cl hb ch) w0 S) N E w0 S I H := by
  obtain ⟨hb, rfl⟩ := Option.isSome_iff_exists.1 (ho.resolve_left (by omega))
  refine RQ.rea (I' := []) (by simp) r ?_
  refine RQ.post (res1 hf hv) (.keep (.keep (.keep .nil))) ⟨rfl, rfl, o1, c1, hb, c2, ?_⟩
  rw [RefH, headsV_snoc, entsV_append]
  simp
theorem rnew_no (z : Int) (hz : z < 1 ∨ z > 4096) : Spc Try.prog 27 #[.int .i64 z] [] [] (Is (.tuple #[.pointer none, .int .i64 2])) := by
  refine Spc.enter Try.func27 rfl rfl rfl (fun w0 hw0 => ?_)
  refine CW.seq ?_
  refine CW.region (ef := []) (bk := []) ?_
  refine RL.assign rfl rfl rfl rfl ?_
  refine RL.assign rfl rfl rfl rfl ?_
  refine RL.nil ?_
  refine NQ.seq ?_
  refine CW.seq ?_
  refine CW.seq ?_
  refine CW.region (ef := []) (bk := []) ?_
  refine RL.move rfl rfl rfl rfl ?_
  refine RL.bin rfl rfl rfl rfl rfl rfl ?_
  refine RL.move rfl rfl rfl rfl ?_
  apply RL.orB (d := 6) (dp := 9) (l' := (Sq.of [])) rfl (.cons (k := 0) rfl (.cons (k := 2) rfl (.cons (k := 3) rfl .nil)))
  ·
    intro hb3 K3
    refine RL.move rfl rfl rfl rfl ?_
    refine RL.bin rfl rfl rfl rfl rfl rfl ?_
    refine RL.pickF rfl rfl rfl rfl rfl ?_
    exact K3 _ (.cons rfl (.cons (k := 0) rfl (.cons (k := 2) rfl (.cons (k := 3) rfl .nil))))
  ·
    intro hb3 K3
    refine RL.skip rfl rfl rfl rfl ?_
    refine RL.skip rfl rfl rfl rfl ?_
    refine RL.pickT rfl rfl rfl rfl rfl ?_
    exact K3 _ (.cons rfl (.cons (k := 0) rfl (.cons (k := 2) rfl (.cons (k := 3) rfl .nil))))
  refine RL.nil ?_
  refine NQ.seq ?_
  -- STOP: if; todo top: ["code", ["cond", ["t", 9], ["seq", ["region", 2, [{"d": 2, "op": ["assign", ["c", ["nilptr"]]], "ty": 53, "pos": "ref.go:57", "after": [], "guard": null}, {"d": 3, "op": ["assign", ["c", ["int", "Go.
  refine CW.condT rfl (by simp; omega) ?_
  refine CW.seq ?_
  refine CW.region (ef := []) (bk := []) ?_
  refine RL.assign rfl rfl rfl rfl ?_
  refine RL.assign rfl rfl rfl rfl ?_
  refine RL.nil ?_
  refine NQ.seq ?_
  refine CW.ret ?_
  refine RQ.seq ?_
  -- STOP: ret; end
  exact RQ.post (res2 rfl rfl rfl) (Split.none _) ⟨rfl, rfl, rfl⟩
theorem rnew_yes (m : Nat) (h1 : 0 < m) (h2 : m ≤ 4096) : Spc Try.prog 27 #[.int .i64 (m : Int)] [] []
    (fun v I' H' => ∃ y, v = .tuple #[.pointer (some ⟨y, 0, none⟩), .int .i64 0] ∧ I' = [] ∧ ∃ ol cl hb ch, H' = RefH y m [] ol cl hb ch) := by
  refine Spc.enter Try.func27 rfl rfl rfl (fun w0 hw0 => ?_)
  refine CW.seq ?_
  refine CW.region (ef := []) (bk := []) ?_
  refine RL.assign rfl rfl rfl rfl ?_
  refine RL.assign rfl rfl rfl rfl ?_
  refine RL.nil ?_
  refine NQ.seq ?_
  refine CW.seq ?_
  refine CW.seq ?_
  refine CW.region (ef := []) (bk := []) ?_
  refine RL.move rfl rfl rfl rfl ?_
  refine RL.bin rfl rfl rfl rfl rfl rfl ?_
  refine RL.move rfl rfl rfl rfl ?_
  apply RL.orB (d := 6) (dp := 9) (l' := (Sq.of [])) rfl (.cons (k := 0) rfl (.cons (k := 2) rfl (.cons (k := 3) rfl .nil)))
  ·
    intro hb3 K3
    refine RL.move rfl rfl rfl rfl ?_
    refine RL.bin rfl rfl rfl rfl rfl rfl ?_
    refine RL.pickF rfl rfl rfl rfl rfl ?_
    exact K3 _ (.cons rfl (.cons (k := 0) rfl (.cons (k := 2) rfl (.cons (k := 3) rfl .nil))))
  ·
    intro hb3 K3
    refine RL.skip rfl rfl rfl rfl ?_
    refine RL.skip rfl rfl rfl rfl ?_
    refine RL.pickT rfl rfl rfl rfl rfl ?_
    exact K3 _ (.cons rfl (.cons (k := 0) rfl (.cons (k := 2) rfl (.cons (k := 3) rfl .nil))))
  refine RL.nil ?_
  refine NQ.seq ?_
  -- STOP: if; todo top: ["code", ["cond", ["t", 9], ["seq", ["region", 2, [{"d": 2, "op": ["assign", ["c", ["nilptr"]]], "ty": 53, "pos": "ref.go:57", "after": [], "guard": null}, {"d": 3, "op": ["assign", ["c", ["int", "Go.
  refine CW.condF rfl (by simp; omega) ?_
  refine CW.skip ?_
  refine NQ.seq ?_
  refine CW.seq ?_
  refine CW.region (ef := [2, 4]) (bk := []) ?_
  refine RL.move rfl rfl rfl rfl ?_
  refine RL.buildA (List.replicate 32 (U8 0#8)) Try.zeroValue61 Try.runUnderlying61 Try.sizeOf5 rfl rfl rfl rfl rfl ?_
  refine RL.buildOwn [_, _, _, _, _, _, _, _, _, _, _, _, _, _, _, _, _, _, _, _, _, _, _, _, _, _, _, _, _, _, _, _] Try.runUnderlying64 Try.sizeOf61 Try.zeroValue61 rfl rfl (by decide) (by decide) rfl (by decide) rfl rfl rfl rfl rfl rfl ?_
  intro b1
  refine RL.buildS [_, _, _] Try.zeroValue66 pl_66 rfl rfl rfl rfl rfl ?_
  refine RL.box rfl rfl rfl rfl rfl rfl ?_
  intro b2
  refine RL.assign rfl rfl rfl rfl ?_
  refine RL.assign rfl rfl rfl rfl ?_
  refine RL.nil ?_
  refine NQ.seq ?_
  refine CW.only (.cons (k := 2) rfl (.cons (k := 3) rfl .nil)) ?_
  refine CW.ret ?_
  -- STOP: ret; end
  refine RQ.ownNone (e := 58) 4 ?_
  refine RQ.rea (I' := []) (H' := [_, _, _]) (by simp) (.cons (.there .here) (.cons .here (.cons .here .nil))) ?_
  exact RQ.post (res2 rfl rfl rfl) (.keep (.keep (.keep .nil))) ⟨b2, rfl, rfl, none, 0, b1, 1, rfl⟩
theorem radd_no (y m : Nat) (es : List Ent) (ol : Option Nat) (cl hb ch : Nat) (x : Ent) (hl : es.length ≤ 1000000) (hx : x.ok = false) :
    Spc Try.prog 29 #[.pointer (some ⟨y, 0, none⟩), .agg x.cells.toArray] [] (RefH y m es ol cl hb ch)
      (fun v I' H' => v = .int .i64 2 ∧ I' = [] ∧ H' = RefH y m es ol cl hb ch) := by
  refine Spc.enter Try.func29 rfl rfl rfl (fun w0 hw0 => ?_)
  refine CW.seq ?_
  refine CW.region (ef := [0]) (bk := []) ?_
  refine RL.box rfl rfl rfl rfl rfl rfl ?_
  intro b1
  refine RL.assign rfl rfl rfl rfl ?_
  refine RL.nil ?_
  refine NQ.seq ?_
  refine CW.seq ?_
  refine CW.regionD (Sq.of [0, 1, 2, 3, 4, 5, 6, 7, 8, 9, 10, 11, 12, 13, 14, 15, 16, 17, 18]) [16, 17] [17] [0, 1, 2, 4, 5, 6, 8, 9, 13, 14, 15, 18] mixed (by kernel_rfl) ?_
  refine RL.move rfl rfl rfl rfl ?_
  refine RL.nilCheck rfl rfl rfl rfl ?_
  refine RL.fieldAddr fa_66_2 rfl rfl rfl rfl ?_
  refine RL.load Try.isAgg64 rfl rfl rfl rfl (by first | assumption | (apply RdI.rd; assumption) | (apply Rd.get; (solve | (repeat (first | exact List.Mem.head _ | apply List.Mem.tail))); assumption) | (apply Rd.getS; (solve | (repeat (first | exact List.Mem.head _ | apply List.Mem.tail))); assumption) | (apply Rd.getO; (solve | (repeat (first | exact List.Mem.head _ | apply List.Mem.tail))); assumption) | (apply Rd.getI; (solve | (repeat (first | exact List.Mem.head _ | apply List.Mem.tail))); assumption) | (apply Rd.cel; (solve | (repeat (first | exact List.Mem.head _ | apply List.Mem.tail))); exact rfl) | (apply Rd.celI; (solve | (repeat (first | exact List.Mem.head _ | apply List.Mem.tail))); exact rfl)) ?_
  refine RL.move rfl rfl rfl rfl ?_
  refine RL.nilCheck rfl rfl rfl rfl ?_
  refine RL.fieldAddr fa_66_1 rfl rfl rfl rfl ?_
  refine RL.load Try.isAgg63 rfl rfl rfl rfl (by first | assumption | (apply RdI.rd; assumption) | (apply Rd.get; (solve | (repeat (first | exact List.Mem.head _ | apply List.Mem.tail))); assumption) | (apply Rd.getS; (solve | (repeat (first | exact List.Mem.head _ | apply List.Mem.tail))); assumption) | (apply Rd.getO; (solve | (repeat (first | exact List.Mem.head _ | apply List.Mem.tail))); assumption) | (apply Rd.getI; (solve | (repeat (first | exact List.Mem.head _ | apply List.Mem.tail))); assumption) | (apply Rd.cel; (solve | (repeat (first | exact List.Mem.head _ | apply List.Mem.tail))); exact rfl) | (apply Rd.celI; (solve | (repeat (first | exact List.Mem.head _ | apply List.Mem.tail))); exact rfl)) ?_
  refine RL.lenS Try.runUnderlying63 rfl rfl rfl rfl ?_
  -- STOP: op; op 9: d=17 ["indexAddr", 64, ["t", 11], ["t", 16]] guard=None (ref.go:64)
  refine RL.idxAt (j := es.length) Try.runUnderlying64 Try.sizeOf61 rfl rfl rfl rfl rfl rfl (by omega) ?_
  -- STOP: op; op 10: d=18 ["load", 61, ["t", 17]] guard=None (ref.go:64)
  refine RL.loadN (vs := bytes (headOf es)) Try.isAgg61 (by rw [List.length_map, headOf_length]; exact Try.sizeOf61) rfl rfl rfl rfl (Rds.ownAt (by repeat (first | exact List.Mem.head _ | apply List.Mem.tail)) (headsV_last es)) ?_
  refine RL.loadN (vs := [_, _, _, _]) Try.isAgg58 Try.sizeOf58 rfl rfl rfl rfl (by first | (apply Rds.cel; (solve | (repeat (first | exact List.Mem.head _ | apply List.Mem.tail))); exact at_spec ⟨rfl, rfl, rfl, rfl, trivial⟩) | (apply Rds.celI; (solve | (repeat (first | exact List.Mem.head _ | apply List.Mem.tail))); exact at_spec ⟨rfl, rfl, rfl, rfl, trivial⟩) | assumption | (apply RdsI.rds; assumption)) ?_
  refine RL.callv (rnext_any (headOf es) (headOf_length es) x) Try.call40 rfl rfl rfl rfl (by repeat (first | exact Lend.nil | (refine Lend.inI ?_ ?_; (solve | (repeat (first | exact List.Mem.head _ | apply List.Mem.tail)))) | (refine Lend.inH ?_ ?_; (solve | (repeat (first | exact List.Mem.head _ | apply List.Mem.tail)))))) ?_
  refine RL.move rfl rfl rfl rfl ?_
  -- STOP: op; op 14: d=21 ["extract", ["t", 7], 0] guard=None (ref.go:64)
  rw [next_no hx]
  refine RL.extract rfl rfl rfl rfl rfl ?_
  refine RL.extract rfl rfl rfl rfl rfl ?_
  refine RL.alloc (cs := List.replicate 32 (U8 0#8)) Try.zeroValue61 rfl rfl rfl rfl rfl ?_
  intro b2
  refine RL.storeW Try.sizeOf61 rfl rfl rfl rfl rfl rfl rfl (by first | rfl | exact ones_map one8 _ | exact ones_map (fun _ => rfl) _) (by repeat (first | exact Upd.here | apply Upd.there)) (by first | rfl | assumption | (simp only [List.length_map]; assumption) | (simp only [List.length_map, List.length_replicate, zeros32]; done) | (simp; done)) (by first | rfl | assumption | (simp only [List.length_map]; assumption) | (simp only [List.length_map, List.length_replicate, zeros32]; done) | (simp; done)) ?_
  refine RL.assign rfl rfl rfl rfl ?_
  refine RL.nil ?_
  refine NQ.seq ?_
  refine CW.only (.cons (k := 0) rfl (.cons (k := 3) rfl (.cons (k := 5) rfl (.cons (k := 6) rfl .nil)))) ?_
  refine CW.seq ?_
  refine CW.seq ?_
  refine CW.region (ef := []) (bk := []) ?_
  refine RL.move rfl rfl rfl rfl ?_
  refine RL.bin rfl rfl rfl rfl rfl rfl ?_
  refine RL.nil ?_
  refine NQ.seq ?_
  -- STOP: if; todo top: ["code", ["cond", ["t", 24], ["seq", ["region", 3, [{"d": 25, "op": ["move", ["t", 6]], "ty": 35, "pos": "ref.go:66", "after": [], "guard": null}, {"d": 4, "op": ["assign", ["t", 25]], "ty": 35, "pos"
  refine CW.condT rfl (rfl) ?_
  refine CW.seq ?_
  refine CW.region (ef := []) (bk := []) ?_
  refine RL.move rfl rfl rfl rfl ?_
  refine RL.assign rfl rfl rfl rfl ?_
  refine RL.nil ?_
  refine NQ.seq ?_
  refine CW.ret ?_
  refine RQ.seq ?_
  -- STOP: ret; end
  exact RQ.post (res1 rfl rfl) (.drop (.drop (.keep (.keep (.keep .nil))))) ⟨rfl, rfl, rfl⟩
theorem radd_yes (y m : Nat) (es : List Ent) (ol : Option Nat) (cl hb ch : Nat) (x : Ent) (hl : es.length ≤ 1000000) (hx : x.ok = true) :
    Spc Try.prog 29 #[.pointer (some ⟨y, 0, none⟩), .agg x.cells.toArray] [] (RefH y m es ol cl hb ch)
      (fun v I' H' => v = .int .i64 0 ∧ I' = [] ∧ ∃ ol cl hb ch, H' = RefH y m (es ++ [x]) ol cl hb ch) := by
  have hnl := nextD_length (headOf es) x
  refine Spc.enter Try.func29 rfl rfl rfl (fun w0 hw0 => ?_)
  refine CW.seq ?_
  refine CW.region (ef := [0]) (bk := []) ?_
  refine RL.box rfl rfl rfl rfl rfl rfl ?_
  intro b1
  refine RL.assign rfl rfl rfl rfl ?_
  refine RL.nil ?_
  refine NQ.seq ?_
  refine CW.seq ?_
  refine CW.regionD (Sq.of [0, 1, 2, 3, 4, 5, 6, 7, 8, 9, 10, 11, 12, 13, 14, 15, 16, 17, 18]) [16, 17] [17] [0, 1, 2, 4, 5, 6, 8, 9, 13, 14, 15, 18] mixed (by kernel_rfl) ?_
  refine RL.move rfl rfl rfl rfl ?_
  refine RL.nilCheck rfl rfl rfl rfl ?_
  refine RL.fieldAddr fa_66_2 rfl rfl rfl rfl ?_
  refine RL.load Try.isAgg64 rfl rfl rfl rfl (by first | assumption | (apply RdI.rd; assumption) | (apply Rd.get; (solve | (repeat (first | exact List.Mem.head _ | apply List.Mem.tail))); assumption) | (apply Rd.getS; (solve | (repeat (first | exact List.Mem.head _ | apply List.Mem.tail))); assumption) | (apply Rd.getO; (solve | (repeat (first | exact List.Mem.head _ | apply List.Mem.tail))); assumption) | (apply Rd.getI; (solve | (repeat (first | exact List.Mem.head _ | apply List.Mem.tail))); assumption) | (apply Rd.cel; (solve | (repeat (first | exact List.Mem.head _ | apply List.Mem.tail))); exact rfl) | (apply Rd.celI; (solve | (repeat (first | exact List.Mem.head _ | apply List.Mem.tail))); exact rfl)) ?_
  refine RL.move rfl rfl rfl rfl ?_
  refine RL.nilCheck rfl rfl rfl rfl ?_
  refine RL.fieldAddr fa_66_1 rfl rfl rfl rfl ?_
  refine RL.load Try.isAgg63 rfl rfl rfl rfl (by first | assumption | (apply RdI.rd; assumption) | (apply Rd.get; (solve | (repeat (first | exact List.Mem.head _ | apply List.Mem.tail))); assumption) | (apply Rd.getS; (solve | (repeat (first | exact List.Mem.head _ | apply List.Mem.tail))); assumption) | (apply Rd.getO; (solve | (repeat (first | exact List.Mem.head _ | apply List.Mem.tail))); assumption) | (apply Rd.getI; (solve | (repeat (first | exact List.Mem.head _ | apply List.Mem.tail))); assumption) | (apply Rd.cel; (solve | (repeat (first | exact List.Mem.head _ | apply List.Mem.tail))); exact rfl) | (apply Rd.celI; (solve | (repeat (first | exact List.Mem.head _ | apply List.Mem.tail))); exact rfl)) ?_
  refine RL.lenS Try.runUnderlying63 rfl rfl rfl rfl ?_
  -- STOP: op; op 9: d=17 ["indexAddr", 64, ["t", 11], ["t", 16]] guard=None (ref.go:64)
  refine RL.idxAt (j := es.length) Try.runUnderlying64 Try.sizeOf61 rfl rfl rfl rfl rfl rfl (by omega) ?_
  -- STOP: op; op 10: d=18 ["load", 61, ["t", 17]] guard=None (ref.go:64)
  refine RL.loadN (vs := bytes (headOf es)) Try.isAgg61 (by rw [List.length_map, headOf_length]; exact Try.sizeOf61) rfl rfl rfl rfl (Rds.ownAt (by repeat (first | exact List.Mem.head _ | apply List.Mem.tail)) (headsV_last es)) ?_
  refine RL.loadN (vs := [_, _, _, _]) Try.isAgg58 Try.sizeOf58 rfl rfl rfl rfl (by first | (apply Rds.cel; (solve | (repeat (first | exact List.Mem.head _ | apply List.Mem.tail))); exact at_spec ⟨rfl, rfl, rfl, rfl, trivial⟩) | (apply Rds.celI; (solve | (repeat (first | exact List.Mem.head _ | apply List.Mem.tail))); exact at_spec ⟨rfl, rfl, rfl, rfl, trivial⟩) | assumption | (apply RdsI.rds; assumption)) ?_
  refine RL.callv (rnext_any (headOf es) (headOf_length es) x) Try.call40 rfl rfl rfl rfl (by repeat (first | exact Lend.nil | (refine Lend.inI ?_ ?_; (solve | (repeat (first | exact List.Mem.head _ | apply List.Mem.tail)))) | (refine Lend.inH ?_ ?_; (solve | (repeat (first | exact List.Mem.head _ | apply List.Mem.tail)))))) ?_
  refine RL.move rfl rfl rfl rfl ?_
  -- STOP: op; op 14: d=21 ["extract", ["t", 7], 0] guard=None (ref.go:64)
  rw [next_yes hx]
  refine RL.extract rfl rfl rfl rfl rfl ?_
  refine RL.extract rfl rfl rfl rfl rfl ?_
  refine RL.alloc (cs := List.replicate 32 (U8 0#8)) Try.zeroValue61 rfl rfl rfl rfl rfl ?_
  intro b2
  refine RL.storeW Try.sizeOf61 rfl rfl rfl rfl rfl rfl rfl (by first | rfl | exact ones_map one8 _ | exact ones_map (fun _ => rfl) _) (by repeat (first | exact Upd.here | apply Upd.there)) (by first | rfl | assumption | (simp only [List.length_map]; assumption) | (simp only [List.length_map, List.length_replicate, nextD_length]; done) | (simp; done)) (by first | rfl | assumption | (simp only [List.length_map]; assumption) | (simp only [List.length_map, List.length_replicate, nextD_length]; done) | (simp; done)) ?_
  refine RL.assign rfl rfl rfl rfl ?_
  refine RL.nil ?_
  refine NQ.seq ?_
  refine CW.only (.cons (k := 0) rfl (.cons (k := 3) rfl (.cons (k := 5) rfl (.cons (k := 6) rfl .nil)))) ?_
  refine CW.seq ?_
  refine CW.seq ?_
  refine CW.region (ef := []) (bk := []) ?_
  refine RL.move rfl rfl rfl rfl ?_
  refine RL.bin rfl rfl rfl rfl rfl rfl ?_
  refine RL.nil ?_
  refine NQ.seq ?_
  -- STOP: if; todo top: ["code", ["cond", ["t", 24], ["seq", ["region", 3, [{"d": 25, "op": ["move", ["t", 6]], "ty": 35, "pos": "ref.go:66", "after": [], "guard": null}, {"d": 4, "op": ["assign", ["t", 25]], "ty": 35, "pos"
  refine CW.condF rfl (rfl) ?_
  refine CW.skip ?_
  refine NQ.seq ?_
  refine CW.seq ?_
  -- STOP: region; todo top: ["code", ["region", 4, [{"d": 26, "op": ["move", ["t", 0]], "ty": 53, "pos": "ref.go:68", "after": [], "guard": null}, {"d": 27, "op": ["move", ["t", 0]], "ty": 53, "pos": "ref.go:68", "after": [], "g
  refine CW.freezeP (A := [_, _]) (B := [_, _, _]) (.take (.take (.leave (.leave (.leave .nil))))) rfl ?_
  simp only [List.cons_append, List.nil_append]
  refine CW.regionD (.cons 0 (.cons 1 (.cons 2 (.cons 3 (.cons 4 (.cons 5 (.cons 6 (.cons 9 (.cons 10 (.cons 11 (.cons 13 (.fork [7, 12, 14] (fun k => (bif Nat.beq k 7 then (.fork [8, 12, 14] (fun k => (bif Nat.beq k 8 then (Sq.of [12, 14, 15, 16, 17, 18, 19, 20, 21]) else (bif Nat.beq k 12 then (.fork [8, 14] (fun k => (bif Nat.beq k 8 then (Sq.of [14, 15, 16, 17, 18, 19, 20, 21]) else (Sq.of [8, 15, 16, 17, 18, 19, 20, 21])))) else (.fork [8, 12] (fun k => (bif Nat.beq k 8 then (Sq.of [12, 15, 16, 17, 18, 19, 20, 21]) else (Sq.of [8, 15, 16, 17, 18, 19, 20, 21])))))))) else (bif Nat.beq k 12 then (.fork [7, 14] (fun k => (bif Nat.beq k 7 then (.fork [8, 14] (fun k => (bif Nat.beq k 8 then (Sq.of [14, 15, 16, 17, 18, 19, 20, 21]) else (Sq.of [8, 15, 16, 17, 18, 19, 20, 21])))) else (Sq.of [7, 8, 15, 16, 17, 18, 19, 20, 21])))) else (.fork [7, 12] (fun k => (bif Nat.beq k 7 then (.fork [8, 12] (fun k => (bif Nat.beq k 8 then (Sq.of [12, 15, 16, 17, 18, 19, 20, 21]) else (Sq.of [8, 15, 16, 17, 18, 19, 20, 21])))) else (Sq.of [7, 8, 15, 16, 17, 18, 19, 20, 21]))))))))))))))))))) [7, 8, 14, 15, 18, 21] [8, 15, 18, 21] [0, 1, 2, 3, 4, 6, 9, 10, 11, 13, 16, 17, 19, 20] mixed (by kernel_rfl) ?_
  refine RL.move rfl rfl rfl rfl ?_
  refine RL.move rfl rfl rfl rfl ?_
  refine RL.move rfl rfl rfl rfl ?_
  refine RL.nilCheck rfl rfl rfl rfl ?_
  refine RL.fieldAddr fa_66_1 rfl rfl rfl rfl ?_
  refine RL.load Try.isAgg63 rfl rfl rfl rfl (by first | assumption | (apply RdI.rd; assumption) | (apply Rd.get; (solve | (repeat (first | exact List.Mem.head _ | apply List.Mem.tail))); assumption) | (apply Rd.getS; (solve | (repeat (first | exact List.Mem.head _ | apply List.Mem.tail))); assumption) | (apply Rd.getO; (solve | (repeat (first | exact List.Mem.head _ | apply List.Mem.tail))); assumption) | (apply Rd.getI; (solve | (repeat (first | exact List.Mem.head _ | apply List.Mem.tail))); assumption) | (apply Rd.cel; (solve | (repeat (first | exact List.Mem.head _ | apply List.Mem.tail))); exact rfl) | (apply Rd.celI; (solve | (repeat (first | exact List.Mem.head _ | apply List.Mem.tail))); exact rfl)) ?_
  refine RL.loadNT (vs := [_, _, _, _]) Try.isAgg58 Try.sizeOf58 rfl rfl rfl rfl (by first | (apply Rds.cel; (solve | (repeat (first | exact List.Mem.head _ | apply List.Mem.tail))); exact at_spec ⟨rfl, rfl, rfl, rfl, trivial⟩) | (apply Rds.celI; (solve | (repeat (first | exact List.Mem.head _ | apply List.Mem.tail))); exact at_spec ⟨rfl, rfl, rfl, rfl, trivial⟩) | assumption | (apply RdsI.rds; assumption)) ?_
  refine RL.move rfl rfl rfl rfl ?_
  refine RL.nilCheck rfl rfl rfl rfl ?_
  refine RL.fieldAddr fa_66_2 rfl rfl rfl rfl ?_
  refine RL.loadWT Try.isAgg61 Try.sizeOf61 rfl rfl rfl rfl (by repeat (first | exact List.Mem.head _ | apply List.Mem.tail)) (by first | rfl | assumption | (simp only [List.length_map]; assumption) | (simp only [List.length_map, List.length_replicate, nextD_length]; done) | (simp; done)) ?_
  -- STOP: fork; todo top: ["code", ["region", 4, [{"d": 26, "op": ["move", ["t", 0]], "ty": 53, "pos": "ref.go:68", "after": [], "guard": null}, {"d": 27, "op": ["move", ["t", 0]], "ty": 53, "pos": "ref.go:68", "after": [], "g
  refine RL.fork ⟨?_, ?_, ?_, trivial⟩
  ·
    refine RL.buildSlice [_, _, _, _] Try.runUnderlying63 Try.sizeOf58 Try.zeroValue58 rfl rfl (by decide) (by decide) rfl rfl rfl rfl rfl rfl ?_
    intro b3
    refine RL.fork ⟨?_, ?_, ?_, trivial⟩
    ·
      refine RL.appendA el_63 rfl rfl rfl rfl rfl rfl rfl (by first | exact ⟨(.take (Pick.none _)), rfl⟩ | exact ⟨(.leave (.take (Pick.none _))), rfl⟩ | exact ⟨(.leave (.leave (.take (Pick.none _)))), rfl⟩ | exact ⟨(.leave (.leave (.leave (.take (Pick.none _))))), rfl⟩ | exact ⟨(.leave (.leave (.leave (.leave (.take (Pick.none _)))))), rfl⟩ | exact ⟨(.leave (.leave (.leave (.leave (.leave (.take (Pick.none _))))))), rfl⟩ | exact ⟨(.leave (.leave (.leave (.leave (.leave (.leave (.take (Pick.none _)))))))), rfl⟩ | exact ⟨(.leave (.leave (.leave (.leave (.leave (.leave (.leave (.take (Pick.none _))))))))), rfl⟩ | exact ⟨(.leave (.leave (.leave (.leave (.leave (.leave (.leave (.leave (.take (Pick.none _)))))))))), rfl⟩ | exact ⟨(.leave (.leave (.leave (.leave (.leave (.leave (.leave (.leave (.leave (.take (Pick.none _))))))))))), rfl⟩) (by first | (exact Src.cel (by (solve | (repeat (first | exact List.Mem.head _ | apply List.Mem.tail)))) (by first | rfl | assumption | (simp only [List.length_map]; assumption) | (simp only [List.length_map, List.length_replicate, nextD_length]; done) | (simp; done))) | (exact Src.ownS (by (solve | (repeat (first | exact List.Mem.head _ | apply List.Mem.tail))))) | (exact Src.own (by (solve | (repeat (first | exact List.Mem.head _ | apply List.Mem.tail))))) | (exact Src.sls (by (solve | (repeat (first | exact List.Mem.head _ | apply List.Mem.tail))))) | (exact Src.celI (by (solve | (repeat (first | exact List.Mem.head _ | apply List.Mem.tail)))) (by first | rfl | assumption | (simp only [List.length_map]; assumption) | (simp only [List.length_map, List.length_replicate, nextD_length]; done) | (simp; done)))) (by first | exact one_map one8 _ | exact ones_spec rfl | exact one_map (fun _ => rfl) _ | (intro u hu; simp at hu; simp [hu, Value.oneCell'])) (by first | omega | (simp only [maxLen]; omega)) (by first | omega | (simp only [maxLen]; omega)) ?_
      intro ob1 cap1 ho1
      refine RL.load Try.isAgg64 rfl rfl rfl rfl (by first | assumption | (apply RdI.rd; assumption) | (apply Rd.get; (solve | (repeat (first | exact List.Mem.head _ | apply List.Mem.tail))); assumption) | (apply Rd.getS; (solve | (repeat (first | exact List.Mem.head _ | apply List.Mem.tail))); assumption) | (apply Rd.getO; (solve | (repeat (first | exact List.Mem.head _ | apply List.Mem.tail))); assumption) | (apply Rd.getI; (solve | (repeat (first | exact List.Mem.head _ | apply List.Mem.tail))); assumption) | (apply Rd.cel; (solve | (repeat (first | exact List.Mem.head _ | apply List.Mem.tail))); exact rfl) | (apply Rd.celI; (solve | (repeat (first | exact List.Mem.head _ | apply List.Mem.tail))); exact rfl)) ?_
      refine RL.buildSlice [_, _, _, _, _, _, _, _, _, _, _, _, _, _, _, _, _, _, _, _, _, _, _, _, _, _, _, _, _, _, _, _] Try.runUnderlying64 Try.sizeOf61 Try.zeroValue61 rfl rfl (by decide) (by decide) rfl rfl rfl rfl rfl rfl ?_
      intro b4
      refine RL.appendA el_64 rfl rfl rfl rfl rfl rfl rfl (by first | exact ⟨(.take (Pick.none _)), rfl⟩ | exact ⟨(.leave (.take (Pick.none _))), rfl⟩ | exact ⟨(.leave (.leave (.take (Pick.none _)))), rfl⟩ | exact ⟨(.leave (.leave (.leave (.take (Pick.none _))))), rfl⟩ | exact ⟨(.leave (.leave (.leave (.leave (.take (Pick.none _)))))), rfl⟩ | exact ⟨(.leave (.leave (.leave (.leave (.leave (.take (Pick.none _))))))), rfl⟩ | exact ⟨(.leave (.leave (.leave (.leave (.leave (.leave (.take (Pick.none _)))))))), rfl⟩ | exact ⟨(.leave (.leave (.leave (.leave (.leave (.leave (.leave (.take (Pick.none _))))))))), rfl⟩ | exact ⟨(.leave (.leave (.leave (.leave (.leave (.leave (.leave (.leave (.take (Pick.none _)))))))))), rfl⟩ | exact ⟨(.leave (.leave (.leave (.leave (.leave (.leave (.leave (.leave (.leave (.take (Pick.none _))))))))))), rfl⟩) (by first | (exact Src.cel (by (solve | (repeat (first | exact List.Mem.head _ | apply List.Mem.tail)))) (by first | rfl | assumption | (simp only [List.length_map]; assumption) | (simp only [List.length_map, List.length_replicate, nextD_length]; done) | (simp; done))) | (exact Src.ownS (by (solve | (repeat (first | exact List.Mem.head _ | apply List.Mem.tail))))) | (exact Src.own (by (solve | (repeat (first | exact List.Mem.head _ | apply List.Mem.tail))))) | (exact Src.sls (by (solve | (repeat (first | exact List.Mem.head _ | apply List.Mem.tail))))) | (exact Src.celI (by (solve | (repeat (first | exact List.Mem.head _ | apply List.Mem.tail)))) (by first | rfl | assumption | (simp only [List.length_map]; assumption) | (simp only [List.length_map, List.length_replicate, nextD_length]; done) | (simp; done)))) (by first | exact one_map one8 _ | exact ones_spec rfl | exact one_map (fun _ => rfl) _ | (intro u hu; simp at hu; simp [hu, Value.oneCell'])) (by first | omega | (simp only [maxLen]; omega)) (by first | omega | (simp only [maxLen]; omega)) ?_
      intro ob2 cap2 ho2
      refine RL.nilCheck rfl rfl rfl rfl ?_
      refine RL.fieldAddr fa_66_1 rfl rfl rfl rfl ?_
      refine RL.store (vs := [_]) Try.sizeOf63 rfl rfl rfl rfl rfl rfl rfl rfl rfl (by repeat (first | exact Upd.here | apply Upd.there)) ?_
      refine RL.nilCheck rfl rfl rfl rfl ?_
      refine RL.fieldAddr fa_66_2 rfl rfl rfl rfl ?_
      refine RL.store (vs := [_]) Try.sizeOf64 rfl rfl rfl rfl rfl rfl rfl rfl rfl (by repeat (first | exact Upd.here | apply Upd.there)) ?_
      refine RL.nil ?_
      refine NQ.seq ?_
      refine CW.only .nil ?_
      refine CW.seq ?_
      refine CW.region (ef := []) (bk := []) ?_
      refine RL.assign rfl rfl rfl rfl ?_
      refine RL.nil ?_
      refine NQ.seq ?_
      refine CW.ret ?_
      exact radd_fin (y := y) (m := m) (x := x) rfl rfl ho2 (by repeat (first | exact Rea.nil | (apply Rea.cons; (solve | (repeat (first | exact Del.here | apply Del.there))))))
    ·
      refine RL.load Try.isAgg64 rfl rfl rfl rfl (by first | assumption | (apply RdI.rd; assumption) | (apply Rd.get; (solve | (repeat (first | exact List.Mem.head _ | apply List.Mem.tail))); assumption) | (apply Rd.getS; (solve | (repeat (first | exact List.Mem.head _ | apply List.Mem.tail))); assumption) | (apply Rd.getO; (solve | (repeat (first | exact List.Mem.head _ | apply List.Mem.tail))); assumption) | (apply Rd.getI; (solve | (repeat (first | exact List.Mem.head _ | apply List.Mem.tail))); assumption) | (apply Rd.cel; (solve | (repeat (first | exact List.Mem.head _ | apply List.Mem.tail))); exact rfl) | (apply Rd.celI; (solve | (repeat (first | exact List.Mem.head _ | apply List.Mem.tail))); exact rfl)) ?_
      refine RL.fork ⟨?_, ?_, trivial⟩
      ·
        refine RL.appendA el_63 rfl rfl rfl rfl rfl rfl rfl (by first | exact ⟨(.take (Pick.none _)), rfl⟩ | exact ⟨(.leave (.take (Pick.none _))), rfl⟩ | exact ⟨(.leave (.leave (.take (Pick.none _)))), rfl⟩ | exact ⟨(.leave (.leave (.leave (.take (Pick.none _))))), rfl⟩ | exact ⟨(.leave (.leave (.leave (.leave (.take (Pick.none _)))))), rfl⟩ | exact ⟨(.leave (.leave (.leave (.leave (.leave (.take (Pick.none _))))))), rfl⟩ | exact ⟨(.leave (.leave (.leave (.leave (.leave (.leave (.take (Pick.none _)))))))), rfl⟩ | exact ⟨(.leave (.leave (.leave (.leave (.leave (.leave (.leave (.take (Pick.none _))))))))), rfl⟩ | exact ⟨(.leave (.leave (.leave (.leave (.leave (.leave (.leave (.leave (.take (Pick.none _)))))))))), rfl⟩ | exact ⟨(.leave (.leave (.leave (.leave (.leave (.leave (.leave (.leave (.leave (.take (Pick.none _))))))))))), rfl⟩) (by first | (exact Src.cel (by (solve | (repeat (first | exact List.Mem.head _ | apply List.Mem.tail)))) (by first | rfl | assumption | (simp only [List.length_map]; assumption) | (simp only [List.length_map, List.length_replicate, nextD_length]; done) | (simp; done))) | (exact Src.ownS (by (solve | (repeat (first | exact List.Mem.head _ | apply List.Mem.tail))))) | (exact Src.own (by (solve | (repeat (first | exact List.Mem.head _ | apply List.Mem.tail))))) | (exact Src.sls (by (solve | (repeat (first | exact List.Mem.head _ | apply List.Mem.tail))))) | (exact Src.celI (by (solve | (repeat (first | exact List.Mem.head _ | apply List.Mem.tail)))) (by first | rfl | assumption | (simp only [List.length_map]; assumption) | (simp only [List.length_map, List.length_replicate, nextD_length]; done) | (simp; done)))) (by first | exact one_map one8 _ | exact ones_spec rfl | exact one_map (fun _ => rfl) _ | (intro u hu; simp at hu; simp [hu, Value.oneCell'])) (by first | omega | (simp only [maxLen]; omega)) (by first | omega | (simp only [maxLen]; omega)) ?_
        intro ob1 cap1 ho1
        refine RL.buildSlice [_, _, _, _, _, _, _, _, _, _, _, _, _, _, _, _, _, _, _, _, _, _, _, _, _, _, _, _, _, _, _, _] Try.runUnderlying64 Try.sizeOf61 Try.zeroValue61 rfl rfl (by decide) (by decide) rfl rfl rfl rfl rfl rfl ?_
        intro b4
        refine RL.appendA el_64 rfl rfl rfl rfl rfl rfl rfl (by first | exact ⟨(.take (Pick.none _)), rfl⟩ | exact ⟨(.leave (.take (Pick.none _))), rfl⟩ | exact ⟨(.leave (.leave (.take (Pick.none _)))), rfl⟩ | exact ⟨(.leave (.leave (.leave (.take (Pick.none _))))), rfl⟩ | exact ⟨(.leave (.leave (.leave (.leave (.take (Pick.none _)))))), rfl⟩ | exact ⟨(.leave (.leave (.leave (.leave (.leave (.take (Pick.none _))))))), rfl⟩ | exact ⟨(.leave (.leave (.leave (.leave (.leave (.leave (.take (Pick.none _)))))))), rfl⟩ | exact ⟨(.leave (.leave (.leave (.leave (.leave (.leave (.leave (.take (Pick.none _))))))))), rfl⟩ | exact ⟨(.leave (.leave (.leave (.leave (.leave (.leave (.leave (.leave (.take (Pick.none _)))))))))), rfl⟩ | exact ⟨(.leave (.leave (.leave (.leave (.leave (.leave (.leave (.leave (.leave (.take (Pick.none _))))))))))), rfl⟩) (by first | (exact Src.cel (by (solve | (repeat (first | exact List.Mem.head _ | apply List.Mem.tail)))) (by first | rfl | assumption | (simp only [List.length_map]; assumption) | (simp only [List.length_map, List.length_replicate, nextD_length]; done) | (simp; done))) | (exact Src.ownS (by (solve | (repeat (first | exact List.Mem.head _ | apply List.Mem.tail))))) | (exact Src.own (by (solve | (repeat (first | exact List.Mem.head _ | apply List.Mem.tail))))) | (exact Src.sls (by (solve | (repeat (first | exact List.Mem.head _ | apply List.Mem.tail))))) | (exact Src.celI (by (solve | (repeat (first | exact List.Mem.head _ | apply List.Mem.tail)))) (by first | rfl | assumption | (simp only [List.length_map]; assumption) | (simp only [List.length_map, List.length_replicate, nextD_length]; done) | (simp; done)))) (by first | exact one_map one8 _ | exact ones_spec rfl | exact one_map (fun _ => rfl) _ | (intro u hu; simp at hu; simp [hu, Value.oneCell'])) (by first | omega | (simp only [maxLen]; omega)) (by first | omega | (simp only [maxLen]; omega)) ?_
        intro ob2 cap2 ho2
        refine RL.nilCheck rfl rfl rfl rfl ?_
        refine RL.fieldAddr fa_66_1 rfl rfl rfl rfl ?_
        refine RL.store (vs := [_]) Try.sizeOf63 rfl rfl rfl rfl rfl rfl rfl rfl rfl (by repeat (first | exact Upd.here | apply Upd.there)) ?_
        refine RL.nilCheck rfl rfl rfl rfl ?_
        refine RL.fieldAddr fa_66_2 rfl rfl rfl rfl ?_
        refine RL.store (vs := [_]) Try.sizeOf64 rfl rfl rfl rfl rfl rfl rfl rfl rfl (by repeat (first | exact Upd.here | apply Upd.there)) ?_
        refine RL.nil ?_
        refine NQ.seq ?_
        refine CW.only .nil ?_
        refine CW.seq ?_
        refine CW.region (ef := []) (bk := []) ?_
        refine RL.assign rfl rfl rfl rfl ?_
        refine RL.nil ?_
        refine NQ.seq ?_
        refine CW.ret ?_
        exact radd_fin (y := y) (m := m) (x := x) rfl rfl ho2 (by repeat (first | exact Rea.nil | (apply Rea.cons; (solve | (repeat (first | exact Del.here | apply Del.there))))))
      ·
        refine RL.buildSlice [_, _, _, _, _, _, _, _, _, _, _, _, _, _, _, _, _, _, _, _, _, _, _, _, _, _, _, _, _, _, _, _] Try.runUnderlying64 Try.sizeOf61 Try.zeroValue61 rfl rfl (by decide) (by decide) rfl rfl rfl rfl rfl rfl ?_
        intro b4
        refine RL.appendA el_63 rfl rfl rfl rfl rfl rfl rfl (by first | exact ⟨(.take (Pick.none _)), rfl⟩ | exact ⟨(.leave (.take (Pick.none _))), rfl⟩ | exact ⟨(.leave (.leave (.take (Pick.none _)))), rfl⟩ | exact ⟨(.leave (.leave (.leave (.take (Pick.none _))))), rfl⟩ | exact ⟨(.leave (.leave (.leave (.leave (.take (Pick.none _)))))), rfl⟩ | exact ⟨(.leave (.leave (.leave (.leave (.leave (.take (Pick.none _))))))), rfl⟩ | exact ⟨(.leave (.leave (.leave (.leave (.leave (.leave (.take (Pick.none _)))))))), rfl⟩ | exact ⟨(.leave (.leave (.leave (.leave (.leave (.leave (.leave (.take (Pick.none _))))))))), rfl⟩ | exact ⟨(.leave (.leave (.leave (.leave (.leave (.leave (.leave (.leave (.take (Pick.none _)))))))))), rfl⟩ | exact ⟨(.leave (.leave (.leave (.leave (.leave (.leave (.leave (.leave (.leave (.take (Pick.none _))))))))))), rfl⟩) (by first | (exact Src.cel (by (solve | (repeat (first | exact List.Mem.head _ | apply List.Mem.tail)))) (by first | rfl | assumption | (simp only [List.length_map]; assumption) | (simp only [List.length_map, List.length_replicate, nextD_length]; done) | (simp; done))) | (exact Src.ownS (by (solve | (repeat (first | exact List.Mem.head _ | apply List.Mem.tail))))) | (exact Src.own (by (solve | (repeat (first | exact List.Mem.head _ | apply List.Mem.tail))))) | (exact Src.sls (by (solve | (repeat (first | exact List.Mem.head _ | apply List.Mem.tail))))) | (exact Src.celI (by (solve | (repeat (first | exact List.Mem.head _ | apply List.Mem.tail)))) (by first | rfl | assumption | (simp only [List.length_map]; assumption) | (simp only [List.length_map, List.length_replicate, nextD_length]; done) | (simp; done)))) (by first | exact one_map one8 _ | exact ones_spec rfl | exact one_map (fun _ => rfl) _ | (intro u hu; simp at hu; simp [hu, Value.oneCell'])) (by first | omega | (simp only [maxLen]; omega)) (by first | omega | (simp only [maxLen]; omega)) ?_
        intro ob1 cap1 ho1
        refine RL.appendA el_64 rfl rfl rfl rfl rfl rfl rfl (by first | exact ⟨(.take (Pick.none _)), rfl⟩ | exact ⟨(.leave (.take (Pick.none _))), rfl⟩ | exact ⟨(.leave (.leave (.take (Pick.none _)))), rfl⟩ | exact ⟨(.leave (.leave (.leave (.take (Pick.none _))))), rfl⟩ | exact ⟨(.leave (.leave (.leave (.leave (.take (Pick.none _)))))), rfl⟩ | exact ⟨(.leave (.leave (.leave (.leave (.leave (.take (Pick.none _))))))), rfl⟩ | exact ⟨(.leave (.leave (.leave (.leave (.leave (.leave (.take (Pick.none _)))))))), rfl⟩ | exact ⟨(.leave (.leave (.leave (.leave (.leave (.leave (.leave (.take (Pick.none _))))))))), rfl⟩ | exact ⟨(.leave (.leave (.leave (.leave (.leave (.leave (.leave (.leave (.take (Pick.none _)))))))))), rfl⟩ | exact ⟨(.leave (.leave (.leave (.leave (.leave (.leave (.leave (.leave (.leave (.take (Pick.none _))))))))))), rfl⟩) (by first | (exact Src.cel (by (solve | (repeat (first | exact List.Mem.head _ | apply List.Mem.tail)))) (by first | rfl | assumption | (simp only [List.length_map]; assumption) | (simp only [List.length_map, List.length_replicate, nextD_length]; done) | (simp; done))) | (exact Src.ownS (by (solve | (repeat (first | exact List.Mem.head _ | apply List.Mem.tail))))) | (exact Src.own (by (solve | (repeat (first | exact List.Mem.head _ | apply List.Mem.tail))))) | (exact Src.sls (by (solve | (repeat (first | exact List.Mem.head _ | apply List.Mem.tail))))) | (exact Src.celI (by (solve | (repeat (first | exact List.Mem.head _ | apply List.Mem.tail)))) (by first | rfl | assumption | (simp only [List.length_map]; assumption) | (simp only [List.length_map, List.length_replicate, nextD_length]; done) | (simp; done)))) (by first | exact one_map one8 _ | exact ones_spec rfl | exact one_map (fun _ => rfl) _ | (intro u hu; simp at hu; simp [hu, Value.oneCell'])) (by first | omega | (simp only [maxLen]; omega)) (by first | omega | (simp only [maxLen]; omega)) ?_
        intro ob2 cap2 ho2
        refine RL.nilCheck rfl rfl rfl rfl ?_
        refine RL.fieldAddr fa_66_1 rfl rfl rfl rfl ?_
        refine RL.store (vs := [_]) Try.sizeOf63 rfl rfl rfl rfl rfl rfl rfl rfl rfl (by repeat (first | exact Upd.here | apply Upd.there)) ?_
        refine RL.nilCheck rfl rfl rfl rfl ?_
        refine RL.fieldAddr fa_66_2 rfl rfl rfl rfl ?_
        refine RL.store (vs := [_]) Try.sizeOf64 rfl rfl rfl rfl rfl rfl rfl rfl rfl (by repeat (first | exact Upd.here | apply Upd.there)) ?_
        refine RL.nil ?_
        refine NQ.seq ?_
        refine CW.only .nil ?_
        refine CW.seq ?_
        refine CW.region (ef := []) (bk := []) ?_
        refine RL.assign rfl rfl rfl rfl ?_
        refine RL.nil ?_
        refine NQ.seq ?_
        refine CW.ret ?_
        exact radd_fin (y := y) (m := m) (x := x) rfl rfl ho2 (by repeat (first | exact Rea.nil | (apply Rea.cons; (solve | (repeat (first | exact Del.here | apply Del.there))))))
    ·
      refine RL.buildSlice [_, _, _, _, _, _, _, _, _, _, _, _, _, _, _, _, _, _, _, _, _, _, _, _, _, _, _, _, _, _, _, _] Try.runUnderlying64 Try.sizeOf61 Try.zeroValue61 rfl rfl (by decide) (by decide) rfl rfl rfl rfl rfl rfl ?_
      intro b4
      refine RL.fork ⟨?_, ?_, trivial⟩
      ·
        refine RL.appendA el_63 rfl rfl rfl rfl rfl rfl rfl (by first | exact ⟨(.take (Pick.none _)), rfl⟩ | exact ⟨(.leave (.take (Pick.none _))), rfl⟩ | exact ⟨(.leave (.leave (.take (Pick.none _)))), rfl⟩ | exact ⟨(.leave (.leave (.leave (.take (Pick.none _))))), rfl⟩ | exact ⟨(.leave (.leave (.leave (.leave (.take (Pick.none _)))))), rfl⟩ | exact ⟨(.leave (.leave (.leave (.leave (.leave (.take (Pick.none _))))))), rfl⟩ | exact ⟨(.leave (.leave (.leave (.leave (.leave (.leave (.take (Pick.none _)))))))), rfl⟩ | exact ⟨(.leave (.leave (.leave (.leave (.leave (.leave (.leave (.take (Pick.none _))))))))), rfl⟩ | exact ⟨(.leave (.leave (.leave (.leave (.leave (.leave (.leave (.leave (.take (Pick.none _)))))))))), rfl⟩ | exact ⟨(.leave (.leave (.leave (.leave (.leave (.leave (.leave (.leave (.leave (.take (Pick.none _))))))))))), rfl⟩) (by first | (exact Src.cel (by (solve | (repeat (first | exact List.Mem.head _ | apply List.Mem.tail)))) (by first | rfl | assumption | (simp only [List.length_map]; assumption) | (simp only [List.length_map, List.length_replicate, nextD_length]; done) | (simp; done))) | (exact Src.ownS (by (solve | (repeat (first | exact List.Mem.head _ | apply List.Mem.tail))))) | (exact Src.own (by (solve | (repeat (first | exact List.Mem.head _ | apply List.Mem.tail))))) | (exact Src.sls (by (solve | (repeat (first | exact List.Mem.head _ | apply List.Mem.tail))))) | (exact Src.celI (by (solve | (repeat (first | exact List.Mem.head _ | apply List.Mem.tail)))) (by first | rfl | assumption | (simp only [List.length_map]; assumption) | (simp only [List.length_map, List.length_replicate, nextD_length]; done) | (simp; done)))) (by first | exact one_map one8 _ | exact ones_spec rfl | exact one_map (fun _ => rfl) _ | (intro u hu; simp at hu; simp [hu, Value.oneCell'])) (by first | omega | (simp only [maxLen]; omega)) (by first | omega | (simp only [maxLen]; omega)) ?_
        intro ob1 cap1 ho1
        refine RL.load Try.isAgg64 rfl rfl rfl rfl (by first | assumption | (apply RdI.rd; assumption) | (apply Rd.get; (solve | (repeat (first | exact List.Mem.head _ | apply List.Mem.tail))); assumption) | (apply Rd.getS; (solve | (repeat (first | exact List.Mem.head _ | apply List.Mem.tail))); assumption) | (apply Rd.getO; (solve | (repeat (first | exact List.Mem.head _ | apply List.Mem.tail))); assumption) | (apply Rd.getI; (solve | (repeat (first | exact List.Mem.head _ | apply List.Mem.tail))); assumption) | (apply Rd.cel; (solve | (repeat (first | exact List.Mem.head _ | apply List.Mem.tail))); exact rfl) | (apply Rd.celI; (solve | (repeat (first | exact List.Mem.head _ | apply List.Mem.tail))); exact rfl)) ?_
        refine RL.appendA el_64 rfl rfl rfl rfl rfl rfl rfl (by first | exact ⟨(.take (Pick.none _)), rfl⟩ | exact ⟨(.leave (.take (Pick.none _))), rfl⟩ | exact ⟨(.leave (.leave (.take (Pick.none _)))), rfl⟩ | exact ⟨(.leave (.leave (.leave (.take (Pick.none _))))), rfl⟩ | exact ⟨(.leave (.leave (.leave (.leave (.take (Pick.none _)))))), rfl⟩ | exact ⟨(.leave (.leave (.leave (.leave (.leave (.take (Pick.none _))))))), rfl⟩ | exact ⟨(.leave (.leave (.leave (.leave (.leave (.leave (.take (Pick.none _)))))))), rfl⟩ | exact ⟨(.leave (.leave (.leave (.leave (.leave (.leave (.leave (.take (Pick.none _))))))))), rfl⟩ | exact ⟨(.leave (.leave (.leave (.leave (.leave (.leave (.leave (.leave (.take (Pick.none _)))))))))), rfl⟩ | exact ⟨(.leave (.leave (.leave (.leave (.leave (.leave (.leave (.leave (.leave (.take (Pick.none _))))))))))), rfl⟩) (by first | (exact Src.cel (by (solve | (repeat (first | exact List.Mem.head _ | apply List.Mem.tail)))) (by first | rfl | assumption | (simp only [List.length_map]; assumption) | (simp only [List.length_map, List.length_replicate, nextD_length]; done) | (simp; done))) | (exact Src.ownS (by (solve | (repeat (first | exact List.Mem.head _ | apply List.Mem.tail))))) | (exact Src.own (by (solve | (repeat (first | exact List.Mem.head _ | apply List.Mem.tail))))) | (exact Src.sls (by (solve | (repeat (first | exact List.Mem.head _ | apply List.Mem.tail))))) | (exact Src.celI (by (solve | (repeat (first | exact List.Mem.head _ | apply List.Mem.tail)))) (by first | rfl | assumption | (simp only [List.length_map]; assumption) | (simp only [List.length_map, List.length_replicate, nextD_length]; done) | (simp; done)))) (by first | exact one_map one8 _ | exact ones_spec rfl | exact one_map (fun _ => rfl) _ | (intro u hu; simp at hu; simp [hu, Value.oneCell'])) (by first | omega | (simp only [maxLen]; omega)) (by first | omega | (simp only [maxLen]; omega)) ?_
        intro ob2 cap2 ho2
        refine RL.nilCheck rfl rfl rfl rfl ?_
        refine RL.fieldAddr fa_66_1 rfl rfl rfl rfl ?_
        refine RL.store (vs := [_]) Try.sizeOf63 rfl rfl rfl rfl rfl rfl rfl rfl rfl (by repeat (first | exact Upd.here | apply Upd.there)) ?_
        refine RL.nilCheck rfl rfl rfl rfl ?_
        refine RL.fieldAddr fa_66_2 rfl rfl rfl rfl ?_
        refine RL.store (vs := [_]) Try.sizeOf64 rfl rfl rfl rfl rfl rfl rfl rfl rfl (by repeat (first | exact Upd.here | apply Upd.there)) ?_
        refine RL.nil ?_
        refine NQ.seq ?_
        refine CW.only .nil ?_
        refine CW.seq ?_
        refine CW.region (ef := []) (bk := []) ?_
        refine RL.assign rfl rfl rfl rfl ?_
        refine RL.nil ?_
        refine NQ.seq ?_
        refine CW.ret ?_
        exact radd_fin (y := y) (m := m) (x := x) rfl rfl ho2 (by repeat (first | exact Rea.nil | (apply Rea.cons; (solve | (repeat (first | exact Del.here | apply Del.there))))))
      ·
        refine RL.load Try.isAgg64 rfl rfl rfl rfl (by first | assumption | (apply RdI.rd; assumption) | (apply Rd.get; (solve | (repeat (first | exact List.Mem.head _ | apply List.Mem.tail))); assumption) | (apply Rd.getS; (solve | (repeat (first | exact List.Mem.head _ | apply List.Mem.tail))); assumption) | (apply Rd.getO; (solve | (repeat (first | exact List.Mem.head _ | apply List.Mem.tail))); assumption) | (apply Rd.getI; (solve | (repeat (first | exact List.Mem.head _ | apply List.Mem.tail))); assumption) | (apply Rd.cel; (solve | (repeat (first | exact List.Mem.head _ | apply List.Mem.tail))); exact rfl) | (apply Rd.celI; (solve | (repeat (first | exact List.Mem.head _ | apply List.Mem.tail))); exact rfl)) ?_
        refine RL.appendA el_63 rfl rfl rfl rfl rfl rfl rfl (by first | exact ⟨(.take (Pick.none _)), rfl⟩ | exact ⟨(.leave (.take (Pick.none _))), rfl⟩ | exact ⟨(.leave (.leave (.take (Pick.none _)))), rfl⟩ | exact ⟨(.leave (.leave (.leave (.take (Pick.none _))))), rfl⟩ | exact ⟨(.leave (.leave (.leave (.leave (.take (Pick.none _)))))), rfl⟩ | exact ⟨(.leave (.leave (.leave (.leave (.leave (.take (Pick.none _))))))), rfl⟩ | exact ⟨(.leave (.leave (.leave (.leave (.leave (.leave (.take (Pick.none _)))))))), rfl⟩ | exact ⟨(.leave (.leave (.leave (.leave (.leave (.leave (.leave (.take (Pick.none _))))))))), rfl⟩ | exact ⟨(.leave (.leave (.leave (.leave (.leave (.leave (.leave (.leave (.take (Pick.none _)))))))))), rfl⟩ | exact ⟨(.leave (.leave (.leave (.leave (.leave (.leave (.leave (.leave (.leave (.take (Pick.none _))))))))))), rfl⟩) (by first | (exact Src.cel (by (solve | (repeat (first | exact List.Mem.head _ | apply List.Mem.tail)))) (by first | rfl | assumption | (simp only [List.length_map]; assumption) | (simp only [List.length_map, List.length_replicate, nextD_length]; done) | (simp; done))) | (exact Src.ownS (by (solve | (repeat (first | exact List.Mem.head _ | apply List.Mem.tail))))) | (exact Src.own (by (solve | (repeat (first | exact List.Mem.head _ | apply List.Mem.tail))))) | (exact Src.sls (by (solve | (repeat (first | exact List.Mem.head _ | apply List.Mem.tail))))) | (exact Src.celI (by (solve | (repeat (first | exact List.Mem.head _ | apply List.Mem.tail)))) (by first | rfl | assumption | (simp only [List.length_map]; assumption) | (simp only [List.length_map, List.length_replicate, nextD_length]; done) | (simp; done)))) (by first | exact one_map one8 _ | exact ones_spec rfl | exact one_map (fun _ => rfl) _ | (intro u hu; simp at hu; simp [hu, Value.oneCell'])) (by first | omega | (simp only [maxLen]; omega)) (by first | omega | (simp only [maxLen]; omega)) ?_
        intro ob1 cap1 ho1
        refine RL.appendA el_64 rfl rfl rfl rfl rfl rfl rfl (by first | exact ⟨(.take (Pick.none _)), rfl⟩ | exact ⟨(.leave (.take (Pick.none _))), rfl⟩ | exact ⟨(.leave (.leave (.take (Pick.none _)))), rfl⟩ | exact ⟨(.leave (.leave (.leave (.take (Pick.none _))))), rfl⟩ | exact ⟨(.leave (.leave (.leave (.leave (.take (Pick.none _)))))), rfl⟩ | exact ⟨(.leave (.leave (.leave (.leave (.leave (.take (Pick.none _))))))), rfl⟩ | exact ⟨(.leave (.leave (.leave (.leave (.leave (.leave (.take (Pick.none _)))))))), rfl⟩ | exact ⟨(.leave (.leave (.leave (.leave (.leave (.leave (.leave (.take (Pick.none _))))))))), rfl⟩ | exact ⟨(.leave (.leave (.leave (.leave (.leave (.leave (.leave (.leave (.take (Pick.none _)))))))))), rfl⟩ | exact ⟨(.leave (.leave (.leave (.leave (.leave (.leave (.leave (.leave (.leave (.take (Pick.none _))))))))))), rfl⟩) (by first | (exact Src.cel (by (solve | (repeat (first | exact List.Mem.head _ | apply List.Mem.tail)))) (by first | rfl | assumption | (simp only [List.length_map]; assumption) | (simp only [List.length_map, List.length_replicate, nextD_length]; done) | (simp; done))) | (exact Src.ownS (by (solve | (repeat (first | exact List.Mem.head _ | apply List.Mem.tail))))) | (exact Src.own (by (solve | (repeat (first | exact List.Mem.head _ | apply List.Mem.tail))))) | (exact Src.sls (by (solve | (repeat (first | exact List.Mem.head _ | apply List.Mem.tail))))) | (exact Src.celI (by (solve | (repeat (first | exact List.Mem.head _ | apply List.Mem.tail)))) (by first | rfl | assumption | (simp only [List.length_map]; assumption) | (simp only [List.length_map, List.length_replicate, nextD_length]; done) | (simp; done)))) (by first | exact one_map one8 _ | exact ones_spec rfl | exact one_map (fun _ => rfl) _ | (intro u hu; simp at hu; simp [hu, Value.oneCell'])) (by first | omega | (simp only [maxLen]; omega)) (by first | omega | (simp only [maxLen]; omega)) ?_
        intro ob2 cap2 ho2
        refine RL.nilCheck rfl rfl rfl rfl ?_
        refine RL.fieldAddr fa_66_1 rfl rfl rfl rfl ?_
        refine RL.store (vs := [_]) Try.sizeOf63 rfl rfl rfl rfl rfl rfl rfl rfl rfl (by repeat (first | exact Upd.here | apply Upd.there)) ?_
        refine RL.nilCheck rfl rfl rfl rfl ?_
        refine RL.fieldAddr fa_66_2 rfl rfl rfl rfl ?_
        refine RL.store (vs := [_]) Try.sizeOf64 rfl rfl rfl rfl rfl rfl rfl rfl rfl (by repeat (first | exact Upd.here | apply Upd.there)) ?_
        refine RL.nil ?_
        refine NQ.seq ?_
        refine CW.only .nil ?_
        refine CW.seq ?_
        refine CW.region (ef := []) (bk := []) ?_
        refine RL.assign rfl rfl rfl rfl ?_
        refine RL.nil ?_
        refine NQ.seq ?_
        refine CW.ret ?_
        exact radd_fin (y := y) (m := m) (x := x) rfl rfl ho2 (by repeat (first | exact Rea.nil | (apply Rea.cons; (solve | (repeat (first | exact Del.here | apply Del.there))))))
  ·
    refine RL.load Try.isAgg64 rfl rfl rfl rfl (by first | assumption | (apply RdI.rd; assumption) | (apply Rd.get; (solve | (repeat (first | exact List.Mem.head _ | apply List.Mem.tail))); assumption) | (apply Rd.getS; (solve | (repeat (first | exact List.Mem.head _ | apply List.Mem.tail))); assumption) | (apply Rd.getO; (solve | (repeat (first | exact List.Mem.head _ | apply List.Mem.tail))); assumption) | (apply Rd.getI; (solve | (repeat (first | exact List.Mem.head _ | apply List.Mem.tail))); assumption) | (apply Rd.cel; (solve | (repeat (first | exact List.Mem.head _ | apply List.Mem.tail))); exact rfl) | (apply Rd.celI; (solve | (repeat (first | exact List.Mem.head _ | apply List.Mem.tail))); exact rfl)) ?_
    refine RL.fork ⟨?_, ?_, trivial⟩
    ·
      refine RL.buildSlice [_, _, _, _] Try.runUnderlying63 Try.sizeOf58 Try.zeroValue58 rfl rfl (by decide) (by decide) rfl rfl rfl rfl rfl rfl ?_
      intro b3
      refine RL.fork ⟨?_, ?_, trivial⟩
      ·
        refine RL.appendA el_63 rfl rfl rfl rfl rfl rfl rfl (by first | exact ⟨(.take (Pick.none _)), rfl⟩ | exact ⟨(.leave (.take (Pick.none _))), rfl⟩ | exact ⟨(.leave (.leave (.take (Pick.none _)))), rfl⟩ | exact ⟨(.leave (.leave (.leave (.take (Pick.none _))))), rfl⟩ | exact ⟨(.leave (.leave (.leave (.leave (.take (Pick.none _)))))), rfl⟩ | exact ⟨(.leave (.leave (.leave (.leave (.leave (.take (Pick.none _))))))), rfl⟩ | exact ⟨(.leave (.leave (.leave (.leave (.leave (.leave (.take (Pick.none _)))))))), rfl⟩ | exact ⟨(.leave (.leave (.leave (.leave (.leave (.leave (.leave (.take (Pick.none _))))))))), rfl⟩ | exact ⟨(.leave (.leave (.leave (.leave (.leave (.leave (.leave (.leave (.take (Pick.none _)))))))))), rfl⟩ | exact ⟨(.leave (.leave (.leave (.leave (.leave (.leave (.leave (.leave (.leave (.take (Pick.none _))))))))))), rfl⟩) (by first | (exact Src.cel (by (solve | (repeat (first | exact List.Mem.head _ | apply List.Mem.tail)))) (by first | rfl | assumption | (simp only [List.length_map]; assumption) | (simp only [List.length_map, List.length_replicate, nextD_length]; done) | (simp; done))) | (exact Src.ownS (by (solve | (repeat (first | exact List.Mem.head _ | apply List.Mem.tail))))) | (exact Src.own (by (solve | (repeat (first | exact List.Mem.head _ | apply List.Mem.tail))))) | (exact Src.sls (by (solve | (repeat (first | exact List.Mem.head _ | apply List.Mem.tail))))) | (exact Src.celI (by (solve | (repeat (first | exact List.Mem.head _ | apply List.Mem.tail)))) (by first | rfl | assumption | (simp only [List.length_map]; assumption) | (simp only [List.length_map, List.length_replicate, nextD_length]; done) | (simp; done)))) (by first | exact one_map one8 _ | exact ones_spec rfl | exact one_map (fun _ => rfl) _ | (intro u hu; simp at hu; simp [hu, Value.oneCell'])) (by first | omega | (simp only [maxLen]; omega)) (by first | omega | (simp only [maxLen]; omega)) ?_
        intro ob1 cap1 ho1
        refine RL.buildSlice [_, _, _, _, _, _, _, _, _, _, _, _, _, _, _, _, _, _, _, _, _, _, _, _, _, _, _, _, _, _, _, _] Try.runUnderlying64 Try.sizeOf61 Try.zeroValue61 rfl rfl (by decide) (by decide) rfl rfl rfl rfl rfl rfl ?_
        intro b4
        refine RL.appendA el_64 rfl rfl rfl rfl rfl rfl rfl (by first | exact ⟨(.take (Pick.none _)), rfl⟩ | exact ⟨(.leave (.take (Pick.none _))), rfl⟩ | exact ⟨(.leave (.leave (.take (Pick.none _)))), rfl⟩ | exact ⟨(.leave (.leave (.leave (.take (Pick.none _))))), rfl⟩ | exact ⟨(.leave (.leave (.leave (.leave (.take (Pick.none _)))))), rfl⟩ | exact ⟨(.leave (.leave (.leave (.leave (.leave (.take (Pick.none _))))))), rfl⟩ | exact ⟨(.leave (.leave (.leave (.leave (.leave (.leave (.take (Pick.none _)))))))), rfl⟩ | exact ⟨(.leave (.leave (.leave (.leave (.leave (.leave (.leave (.take (Pick.none _))))))))), rfl⟩ | exact ⟨(.leave (.leave (.leave (.leave (.leave (.leave (.leave (.leave (.take (Pick.none _)))))))))), rfl⟩ | exact ⟨(.leave (.leave (.leave (.leave (.leave (.leave (.leave (.leave (.leave (.take (Pick.none _))))))))))), rfl⟩) (by first | (exact Src.cel (by (solve | (repeat (first | exact List.Mem.head _ | apply List.Mem.tail)))) (by first | rfl | assumption | (simp only [List.length_map]; assumption) | (simp only [List.length_map, List.length_replicate, nextD_length]; done) | (simp; done))) | (exact Src.ownS (by (solve | (repeat (first | exact List.Mem.head _ | apply List.Mem.tail))))) | (exact Src.own (by (solve | (repeat (first | exact List.Mem.head _ | apply List.Mem.tail))))) | (exact Src.sls (by (solve | (repeat (first | exact List.Mem.head _ | apply List.Mem.tail))))) | (exact Src.celI (by (solve | (repeat (first | exact List.Mem.head _ | apply List.Mem.tail)))) (by first | rfl | assumption | (simp only [List.length_map]; assumption) | (simp only [List.length_map, List.length_replicate, nextD_length]; done) | (simp; done)))) (by first | exact one_map one8 _ | exact ones_spec rfl | exact one_map (fun _ => rfl) _ | (intro u hu; simp at hu; simp [hu, Value.oneCell'])) (by first | omega | (simp only [maxLen]; omega)) (by first | omega | (simp only [maxLen]; omega)) ?_
        intro ob2 cap2 ho2
        refine RL.nilCheck rfl rfl rfl rfl ?_
        refine RL.fieldAddr fa_66_1 rfl rfl rfl rfl ?_
        refine RL.store (vs := [_]) Try.sizeOf63 rfl rfl rfl rfl rfl rfl rfl rfl rfl (by repeat (first | exact Upd.here | apply Upd.there)) ?_
        refine RL.nilCheck rfl rfl rfl rfl ?_
        refine RL.fieldAddr fa_66_2 rfl rfl rfl rfl ?_
        refine RL.store (vs := [_]) Try.sizeOf64 rfl rfl rfl rfl rfl rfl rfl rfl rfl (by repeat (first | exact Upd.here | apply Upd.there)) ?_
        refine RL.nil ?_
        refine NQ.seq ?_
        refine CW.only .nil ?_
        refine CW.seq ?_
        refine CW.region (ef := []) (bk := []) ?_
        refine RL.assign rfl rfl rfl rfl ?_
        refine RL.nil ?_
        refine NQ.seq ?_
        refine CW.ret ?_
        exact radd_fin (y := y) (m := m) (x := x) rfl rfl ho2 (by repeat (first | exact Rea.nil | (apply Rea.cons; (solve | (repeat (first | exact Del.here | apply Del.there))))))
      ·
        refine RL.buildSlice [_, _, _, _, _, _, _, _, _, _, _, _, _, _, _, _, _, _, _, _, _, _, _, _, _, _, _, _, _, _, _, _] Try.runUnderlying64 Try.sizeOf61 Try.zeroValue61 rfl rfl (by decide) (by decide) rfl rfl rfl rfl rfl rfl ?_
        intro b4
        refine RL.appendA el_63 rfl rfl rfl rfl rfl rfl rfl (by first | exact ⟨(.take (Pick.none _)), rfl⟩ | exact ⟨(.leave (.take (Pick.none _))), rfl⟩ | exact ⟨(.leave (.leave (.take (Pick.none _)))), rfl⟩ | exact ⟨(.leave (.leave (.leave (.take (Pick.none _))))), rfl⟩ | exact ⟨(.leave (.leave (.leave (.leave (.take (Pick.none _)))))), rfl⟩ | exact ⟨(.leave (.leave (.leave (.leave (.leave (.take (Pick.none _))))))), rfl⟩ | exact ⟨(.leave (.leave (.leave (.leave (.leave (.leave (.take (Pick.none _)))))))), rfl⟩ | exact ⟨(.leave (.leave (.leave (.leave (.leave (.leave (.leave (.take (Pick.none _))))))))), rfl⟩ | exact ⟨(.leave (.leave (.leave (.leave (.leave (.leave (.leave (.leave (.take (Pick.none _)))))))))), rfl⟩ | exact ⟨(.leave (.leave (.leave (.leave (.leave (.leave (.leave (.leave (.leave (.take (Pick.none _))))))))))), rfl⟩) (by first | (exact Src.cel (by (solve | (repeat (first | exact List.Mem.head _ | apply List.Mem.tail)))) (by first | rfl | assumption | (simp only [List.length_map]; assumption) | (simp only [List.length_map, List.length_replicate, nextD_length]; done) | (simp; done))) | (exact Src.ownS (by (solve | (repeat (first | exact List.Mem.head _ | apply List.Mem.tail))))) | (exact Src.own (by (solve | (repeat (first | exact List.Mem.head _ | apply List.Mem.tail))))) | (exact Src.sls (by (solve | (repeat (first | exact List.Mem.head _ | apply List.Mem.tail))))) | (exact Src.celI (by (solve | (repeat (first | exact List.Mem.head _ | apply List.Mem.tail)))) (by first | rfl | assumption | (simp only [List.length_map]; assumption) | (simp only [List.length_map, List.length_replicate, nextD_length]; done) | (simp; done)))) (by first | exact one_map one8 _ | exact ones_spec rfl | exact one_map (fun _ => rfl) _ | (intro u hu; simp at hu; simp [hu, Value.oneCell'])) (by first | omega | (simp only [maxLen]; omega)) (by first | omega | (simp only [maxLen]; omega)) ?_
        intro ob1 cap1 ho1
        refine RL.appendA el_64 rfl rfl rfl rfl rfl rfl rfl (by first | exact ⟨(.take (Pick.none _)), rfl⟩ | exact ⟨(.leave (.take (Pick.none _))), rfl⟩ | exact ⟨(.leave (.leave (.take (Pick.none _)))), rfl⟩ | exact ⟨(.leave (.leave (.leave (.take (Pick.none _))))), rfl⟩ | exact ⟨(.leave (.leave (.leave (.leave (.take (Pick.none _)))))), rfl⟩ | exact ⟨(.leave (.leave (.leave (.leave (.leave (.take (Pick.none _))))))), rfl⟩ | exact ⟨(.leave (.leave (.leave (.leave (.leave (.leave (.take (Pick.none _)))))))), rfl⟩ | exact ⟨(.leave (.leave (.leave (.leave (.leave (.leave (.leave (.take (Pick.none _))))))))), rfl⟩ | exact ⟨(.leave (.leave (.leave (.leave (.leave (.leave (.leave (.leave (.take (Pick.none _)))))))))), rfl⟩ | exact ⟨(.leave (.leave (.leave (.leave (.leave (.leave (.leave (.leave (.leave (.take (Pick.none _))))))))))), rfl⟩) (by first | (exact Src.cel (by (solve | (repeat (first | exact List.Mem.head _ | apply List.Mem.tail)))) (by first | rfl | assumption | (simp only [List.length_map]; assumption) | (simp only [List.length_map, List.length_replicate, nextD_length]; done) | (simp; done))) | (exact Src.ownS (by (solve | (repeat (first | exact List.Mem.head _ | apply List.Mem.tail))))) | (exact Src.own (by (solve | (repeat (first | exact List.Mem.head _ | apply List.Mem.tail))))) | (exact Src.sls (by (solve | (repeat (first | exact List.Mem.head _ | apply List.Mem.tail))))) | (exact Src.celI (by (solve | (repeat (first | exact List.Mem.head _ | apply List.Mem.tail)))) (by first | rfl | assumption | (simp only [List.length_map]; assumption) | (simp only [List.length_map, List.length_replicate, nextD_length]; done) | (simp; done)))) (by first | exact one_map one8 _ | exact ones_spec rfl | exact one_map (fun _ => rfl) _ | (intro u hu; simp at hu; simp [hu, Value.oneCell'])) (by first | omega | (simp only [maxLen]; omega)) (by first | omega | (simp only [maxLen]; omega)) ?_
        intro ob2 cap2 ho2
        refine RL.nilCheck rfl rfl rfl rfl ?_
        refine RL.fieldAddr fa_66_1 rfl rfl rfl rfl ?_
        refine RL.store (vs := [_]) Try.sizeOf63 rfl rfl rfl rfl rfl rfl rfl rfl rfl (by repeat (first | exact Upd.here | apply Upd.there)) ?_
        refine RL.nilCheck rfl rfl rfl rfl ?_
        refine RL.fieldAddr fa_66_2 rfl rfl rfl rfl ?_
        refine RL.store (vs := [_]) Try.sizeOf64 rfl rfl rfl rfl rfl rfl rfl rfl rfl (by repeat (first | exact Upd.here | apply Upd.there)) ?_
        refine RL.nil ?_
        refine NQ.seq ?_
        refine CW.only .nil ?_
        refine CW.seq ?_
        refine CW.region (ef := []) (bk := []) ?_
        refine RL.assign rfl rfl rfl rfl ?_
        refine RL.nil ?_
        refine NQ.seq ?_
        refine CW.ret ?_
        exact radd_fin (y := y) (m := m) (x := x) rfl rfl ho2 (by repeat (first | exact Rea.nil | (apply Rea.cons; (solve | (repeat (first | exact Del.here | apply Del.there))))))
    ·
      refine RL.buildSlice [_, _, _, _, _, _, _, _, _, _, _, _, _, _, _, _, _, _, _, _, _, _, _, _, _, _, _, _, _, _, _, _] Try.runUnderlying64 Try.sizeOf61 Try.zeroValue61 rfl rfl (by decide) (by decide) rfl rfl rfl rfl rfl rfl ?_
      intro b4
      refine RL.buildSlice [_, _, _, _] Try.runUnderlying63 Try.sizeOf58 Try.zeroValue58 rfl rfl (by decide) (by decide) rfl rfl rfl rfl rfl rfl ?_
      intro b3
      refine RL.appendA el_63 rfl rfl rfl rfl rfl rfl rfl (by first | exact ⟨(.take (Pick.none _)), rfl⟩ | exact ⟨(.leave (.take (Pick.none _))), rfl⟩ | exact ⟨(.leave (.leave (.take (Pick.none _)))), rfl⟩ | exact ⟨(.leave (.leave (.leave (.take (Pick.none _))))), rfl⟩ | exact ⟨(.leave (.leave (.leave (.leave (.take (Pick.none _)))))), rfl⟩ | exact ⟨(.leave (.leave (.leave (.leave (.leave (.take (Pick.none _))))))), rfl⟩ | exact ⟨(.leave (.leave (.leave (.leave (.leave (.leave (.take (Pick.none _)))))))), rfl⟩ | exact ⟨(.leave (.leave (.leave (.leave (.leave (.leave (.leave (.take (Pick.none _))))))))), rfl⟩ | exact ⟨(.leave (.leave (.leave (.leave (.leave (.leave (.leave (.leave (.take (Pick.none _)))))))))), rfl⟩ | exact ⟨(.leave (.leave (.leave (.leave (.leave (.leave (.leave (.leave (.leave (.take (Pick.none _))))))))))), rfl⟩) (by first | (exact Src.cel (by (solve | (repeat (first | exact List.Mem.head _ | apply List.Mem.tail)))) (by first | rfl | assumption | (simp only [List.length_map]; assumption) | (simp only [List.length_map, List.length_replicate, nextD_length]; done) | (simp; done))) | (exact Src.ownS (by (solve | (repeat (first | exact List.Mem.head _ | apply List.Mem.tail))))) | (exact Src.own (by (solve | (repeat (first | exact List.Mem.head _ | apply List.Mem.tail))))) | (exact Src.sls (by (solve | (repeat (first | exact List.Mem.head _ | apply List.Mem.tail))))) | (exact Src.celI (by (solve | (repeat (first | exact List.Mem.head _ | apply List.Mem.tail)))) (by first | rfl | assumption | (simp only [List.length_map]; assumption) | (simp only [List.length_map, List.length_replicate, nextD_length]; done) | (simp; done)))) (by first | exact one_map one8 _ | exact ones_spec rfl | exact one_map (fun _ => rfl) _ | (intro u hu; simp at hu; simp [hu, Value.oneCell'])) (by first | omega | (simp only [maxLen]; omega)) (by first | omega | (simp only [maxLen]; omega)) ?_
      intro ob1 cap1 ho1
      refine RL.appendA el_64 rfl rfl rfl rfl rfl rfl rfl (by first | exact ⟨(.take (Pick.none _)), rfl⟩ | exact ⟨(.leave (.take (Pick.none _))), rfl⟩ | exact ⟨(.leave (.leave (.take (Pick.none _)))), rfl⟩ | exact ⟨(.leave (.leave (.leave (.take (Pick.none _))))), rfl⟩ | exact ⟨(.leave (.leave (.leave (.leave (.take (Pick.none _)))))), rfl⟩ | exact ⟨(.leave (.leave (.leave (.leave (.leave (.take (Pick.none _))))))), rfl⟩ | exact ⟨(.leave (.leave (.leave (.leave (.leave (.leave (.take (Pick.none _)))))))), rfl⟩ | exact ⟨(.leave (.leave (.leave (.leave (.leave (.leave (.leave (.take (Pick.none _))))))))), rfl⟩ | exact ⟨(.leave (.leave (.leave (.leave (.leave (.leave (.leave (.leave (.take (Pick.none _)))))))))), rfl⟩ | exact ⟨(.leave (.leave (.leave (.leave (.leave (.leave (.leave (.leave (.leave (.take (Pick.none _))))))))))), rfl⟩) (by first | (exact Src.cel (by (solve | (repeat (first | exact List.Mem.head _ | apply List.Mem.tail)))) (by first | rfl | assumption | (simp only [List.length_map]; assumption) | (simp only [List.length_map, List.length_replicate, nextD_length]; done) | (simp; done))) | (exact Src.ownS (by (solve | (repeat (first | exact List.Mem.head _ | apply List.Mem.tail))))) | (exact Src.own (by (solve | (repeat (first | exact List.Mem.head _ | apply List.Mem.tail))))) | (exact Src.sls (by (solve | (repeat (first | exact List.Mem.head _ | apply List.Mem.tail))))) | (exact Src.celI (by (solve | (repeat (first | exact List.Mem.head _ | apply List.Mem.tail)))) (by first | rfl | assumption | (simp only [List.length_map]; assumption) | (simp only [List.length_map, List.length_replicate, nextD_length]; done) | (simp; done)))) (by first | exact one_map one8 _ | exact ones_spec rfl | exact one_map (fun _ => rfl) _ | (intro u hu; simp at hu; simp [hu, Value.oneCell'])) (by first | omega | (simp only [maxLen]; omega)) (by first | omega | (simp only [maxLen]; omega)) ?_
      intro ob2 cap2 ho2
      refine RL.nilCheck rfl rfl rfl rfl ?_
      refine RL.fieldAddr fa_66_1 rfl rfl rfl rfl ?_
      refine RL.store (vs := [_]) Try.sizeOf63 rfl rfl rfl rfl rfl rfl rfl rfl rfl (by repeat (first | exact Upd.here | apply Upd.there)) ?_
      refine RL.nilCheck rfl rfl rfl rfl ?_
      refine RL.fieldAddr fa_66_2 rfl rfl rfl rfl ?_
      refine RL.store (vs := [_]) Try.sizeOf64 rfl rfl rfl rfl rfl rfl rfl rfl rfl (by repeat (first | exact Upd.here | apply Upd.there)) ?_
      refine RL.nil ?_
      refine NQ.seq ?_
      refine CW.only .nil ?_
      refine CW.seq ?_
      refine CW.region (ef := []) (bk := []) ?_
      refine RL.assign rfl rfl rfl rfl ?_
      refine RL.nil ?_
      refine NQ.seq ?_
      refine CW.ret ?_
      exact radd_fin (y := y) (m := m) (x := x) rfl rfl ho2 (by repeat (first | exact Rea.nil | (apply Rea.cons; (solve | (repeat (first | exact Del.here | apply Del.there))))))
  ·
    refine RL.buildSlice [_, _, _, _, _, _, _, _, _, _, _, _, _, _, _, _, _, _, _, _, _, _, _, _, _, _, _, _, _, _, _, _] Try.runUnderlying64 Try.sizeOf61 Try.zeroValue61 rfl rfl (by decide) (by decide) rfl rfl rfl rfl rfl rfl ?_
    intro b4
    refine RL.fork ⟨?_, ?_, trivial⟩
    ·
      refine RL.buildSlice [_, _, _, _] Try.runUnderlying63 Try.sizeOf58 Try.zeroValue58 rfl rfl (by decide) (by decide) rfl rfl rfl rfl rfl rfl ?_
      intro b3
      refine RL.fork ⟨?_, ?_, trivial⟩
      ·
        refine RL.appendA el_63 rfl rfl rfl rfl rfl rfl rfl (by first | exact ⟨(.take (Pick.none _)), rfl⟩ | exact ⟨(.leave (.take (Pick.none _))), rfl⟩ | exact ⟨(.leave (.leave (.take (Pick.none _)))), rfl⟩ | exact ⟨(.leave (.leave (.leave (.take (Pick.none _))))), rfl⟩ | exact ⟨(.leave (.leave (.leave (.leave (.take (Pick.none _)))))), rfl⟩ | exact ⟨(.leave (.leave (.leave (.leave (.leave (.take (Pick.none _))))))), rfl⟩ | exact ⟨(.leave (.leave (.leave (.leave (.leave (.leave (.take (Pick.none _)))))))), rfl⟩ | exact ⟨(.leave (.leave (.leave (.leave (.leave (.leave (.leave (.take (Pick.none _))))))))), rfl⟩ | exact ⟨(.leave (.leave (.leave (.leave (.leave (.leave (.leave (.leave (.take (Pick.none _)))))))))), rfl⟩ | exact ⟨(.leave (.leave (.leave (.leave (.leave (.leave (.leave (.leave (.leave (.take (Pick.none _))))))))))), rfl⟩) (by first | (exact Src.cel (by (solve | (repeat (first | exact List.Mem.head _ | apply List.Mem.tail)))) (by first | rfl | assumption | (simp only [List.length_map]; assumption) | (simp only [List.length_map, List.length_replicate, nextD_length]; done) | (simp; done))) | (exact Src.ownS (by (solve | (repeat (first | exact List.Mem.head _ | apply List.Mem.tail))))) | (exact Src.own (by (solve | (repeat (first | exact List.Mem.head _ | apply List.Mem.tail))))) | (exact Src.sls (by (solve | (repeat (first | exact List.Mem.head _ | apply List.Mem.tail))))) | (exact Src.celI (by (solve | (repeat (first | exact List.Mem.head _ | apply List.Mem.tail)))) (by first | rfl | assumption | (simp only [List.length_map]; assumption) | (simp only [List.length_map, List.length_replicate, nextD_length]; done) | (simp; done)))) (by first | exact one_map one8 _ | exact ones_spec rfl | exact one_map (fun _ => rfl) _ | (intro u hu; simp at hu; simp [hu, Value.oneCell'])) (by first | omega | (simp only [maxLen]; omega)) (by first | omega | (simp only [maxLen]; omega)) ?_
        intro ob1 cap1 ho1
        refine RL.load Try.isAgg64 rfl rfl rfl rfl (by first | assumption | (apply RdI.rd; assumption) | (apply Rd.get; (solve | (repeat (first | exact List.Mem.head _ | apply List.Mem.tail))); assumption) | (apply Rd.getS; (solve | (repeat (first | exact List.Mem.head _ | apply List.Mem.tail))); assumption) | (apply Rd.getO; (solve | (repeat (first | exact List.Mem.head _ | apply List.Mem.tail))); assumption) | (apply Rd.getI; (solve | (repeat (first | exact List.Mem.head _ | apply List.Mem.tail))); assumption) | (apply Rd.cel; (solve | (repeat (first | exact List.Mem.head _ | apply List.Mem.tail))); exact rfl) | (apply Rd.celI; (solve | (repeat (first | exact List.Mem.head _ | apply List.Mem.tail))); exact rfl)) ?_
        refine RL.appendA el_64 rfl rfl rfl rfl rfl rfl rfl (by first | exact ⟨(.take (Pick.none _)), rfl⟩ | exact ⟨(.leave (.take (Pick.none _))), rfl⟩ | exact ⟨(.leave (.leave (.take (Pick.none _)))), rfl⟩ | exact ⟨(.leave (.leave (.leave (.take (Pick.none _))))), rfl⟩ | exact ⟨(.leave (.leave (.leave (.leave (.take (Pick.none _)))))), rfl⟩ | exact ⟨(.leave (.leave (.leave (.leave (.leave (.take (Pick.none _))))))), rfl⟩ | exact ⟨(.leave (.leave (.leave (.leave (.leave (.leave (.take (Pick.none _)))))))), rfl⟩ | exact ⟨(.leave (.leave (.leave (.leave (.leave (.leave (.leave (.take (Pick.none _))))))))), rfl⟩ | exact ⟨(.leave (.leave (.leave (.leave (.leave (.leave (.leave (.leave (.take (Pick.none _)))))))))), rfl⟩ | exact ⟨(.leave (.leave (.leave (.leave (.leave (.leave (.leave (.leave (.leave (.take (Pick.none _))))))))))), rfl⟩) (by first | (exact Src.cel (by (solve | (repeat (first | exact List.Mem.head _ | apply List.Mem.tail)))) (by first | rfl | assumption | (simp only [List.length_map]; assumption) | (simp only [List.length_map, List.length_replicate, nextD_length]; done) | (simp; done))) | (exact Src.ownS (by (solve | (repeat (first | exact List.Mem.head _ | apply List.Mem.tail))))) | (exact Src.own (by (solve | (repeat (first | exact List.Mem.head _ | apply List.Mem.tail))))) | (exact Src.sls (by (solve | (repeat (first | exact List.Mem.head _ | apply List.Mem.tail))))) | (exact Src.celI (by (solve | (repeat (first | exact List.Mem.head _ | apply List.Mem.tail)))) (by first | rfl | assumption | (simp only [List.length_map]; assumption) | (simp only [List.length_map, List.length_replicate, nextD_length]; done) | (simp; done)))) (by first | exact one_map one8 _ | exact ones_spec rfl | exact one_map (fun _ => rfl) _ | (intro u hu; simp at hu; simp [hu, Value.oneCell'])) (by first | omega | (simp only [maxLen]; omega)) (by first | omega | (simp only [maxLen]; omega)) ?_
        intro ob2 cap2 ho2
        refine RL.nilCheck rfl rfl rfl rfl ?_
        refine RL.fieldAddr fa_66_1 rfl rfl rfl rfl ?_
        refine RL.store (vs := [_]) Try.sizeOf63 rfl rfl rfl rfl rfl rfl rfl rfl rfl (by repeat (first | exact Upd.here | apply Upd.there)) ?_
        refine RL.nilCheck rfl rfl rfl rfl ?_
        refine RL.fieldAddr fa_66_2 rfl rfl rfl rfl ?_
        refine RL.store (vs := [_]) Try.sizeOf64 rfl rfl rfl rfl rfl rfl rfl rfl rfl (by repeat (first | exact Upd.here | apply Upd.there)) ?_
        refine RL.nil ?_
        refine NQ.seq ?_
        refine CW.only .nil ?_
        refine CW.seq ?_
        refine CW.region (ef := []) (bk := []) ?_
        refine RL.assign rfl rfl rfl rfl ?_
        refine RL.nil ?_
        refine NQ.seq ?_
        refine CW.ret ?_
        exact radd_fin (y := y) (m := m) (x := x) rfl rfl ho2 (by repeat (first | exact Rea.nil | (apply Rea.cons; (solve | (repeat (first | exact Del.here | apply Del.there))))))
      ·
        refine RL.load Try.isAgg64 rfl rfl rfl rfl (by first | assumption | (apply RdI.rd; assumption) | (apply Rd.get; (solve | (repeat (first | exact List.Mem.head _ | apply List.Mem.tail))); assumption) | (apply Rd.getS; (solve | (repeat (first | exact List.Mem.head _ | apply List.Mem.tail))); assumption) | (apply Rd.getO; (solve | (repeat (first | exact List.Mem.head _ | apply List.Mem.tail))); assumption) | (apply Rd.getI; (solve | (repeat (first | exact List.Mem.head _ | apply List.Mem.tail))); assumption) | (apply Rd.cel; (solve | (repeat (first | exact List.Mem.head _ | apply List.Mem.tail))); exact rfl) | (apply Rd.celI; (solve | (repeat (first | exact List.Mem.head _ | apply List.Mem.tail))); exact rfl)) ?_
        refine RL.appendA el_63 rfl rfl rfl rfl rfl rfl rfl (by first | exact ⟨(.take (Pick.none _)), rfl⟩ | exact ⟨(.leave (.take (Pick.none _))), rfl⟩ | exact ⟨(.leave (.leave (.take (Pick.none _)))), rfl⟩ | exact ⟨(.leave (.leave (.leave (.take (Pick.none _))))), rfl⟩ | exact ⟨(.leave (.leave (.leave (.leave (.take (Pick.none _)))))), rfl⟩ | exact ⟨(.leave (.leave (.leave (.leave (.leave (.take (Pick.none _))))))), rfl⟩ | exact ⟨(.leave (.leave (.leave (.leave (.leave (.leave (.take (Pick.none _)))))))), rfl⟩ | exact ⟨(.leave (.leave (.leave (.leave (.leave (.leave (.leave (.take (Pick.none _))))))))), rfl⟩ | exact ⟨(.leave (.leave (.leave (.leave (.leave (.leave (.leave (.leave (.take (Pick.none _)))))))))), rfl⟩ | exact ⟨(.leave (.leave (.leave (.leave (.leave (.leave (.leave (.leave (.leave (.take (Pick.none _))))))))))), rfl⟩) (by first | (exact Src.cel (by (solve | (repeat (first | exact List.Mem.head _ | apply List.Mem.tail)))) (by first | rfl | assumption | (simp only [List.length_map]; assumption) | (simp only [List.length_map, List.length_replicate, nextD_length]; done) | (simp; done))) | (exact Src.ownS (by (solve | (repeat (first | exact List.Mem.head _ | apply List.Mem.tail))))) | (exact Src.own (by (solve | (repeat (first | exact List.Mem.head _ | apply List.Mem.tail))))) | (exact Src.sls (by (solve | (repeat (first | exact List.Mem.head _ | apply List.Mem.tail))))) | (exact Src.celI (by (solve | (repeat (first | exact List.Mem.head _ | apply List.Mem.tail)))) (by first | rfl | assumption | (simp only [List.length_map]; assumption) | (simp only [List.length_map, List.length_replicate, nextD_length]; done) | (simp; done)))) (by first | exact one_map one8 _ | exact ones_spec rfl | exact one_map (fun _ => rfl) _ | (intro u hu; simp at hu; simp [hu, Value.oneCell'])) (by first | omega | (simp only [maxLen]; omega)) (by first | omega | (simp only [maxLen]; omega)) ?_
        intro ob1 cap1 ho1
        refine RL.appendA el_64 rfl rfl rfl rfl rfl rfl rfl (by first | exact ⟨(.take (Pick.none _)), rfl⟩ | exact ⟨(.leave (.take (Pick.none _))), rfl⟩ | exact ⟨(.leave (.leave (.take (Pick.none _)))), rfl⟩ | exact ⟨(.leave (.leave (.leave (.take (Pick.none _))))), rfl⟩ | exact ⟨(.leave (.leave (.leave (.leave (.take (Pick.none _)))))), rfl⟩ | exact ⟨(.leave (.leave (.leave (.leave (.leave (.take (Pick.none _))))))), rfl⟩ | exact ⟨(.leave (.leave (.leave (.leave (.leave (.leave (.take (Pick.none _)))))))), rfl⟩ | exact ⟨(.leave (.leave (.leave (.leave (.leave (.leave (.leave (.take (Pick.none _))))))))), rfl⟩ | exact ⟨(.leave (.leave (.leave (.leave (.leave (.leave (.leave (.leave (.take (Pick.none _)))))))))), rfl⟩ | exact ⟨(.leave (.leave (.leave (.leave (.leave (.leave (.leave (.leave (.leave (.take (Pick.none _))))))))))), rfl⟩) (by first | (exact Src.cel (by (solve | (repeat (first | exact List.Mem.head _ | apply List.Mem.tail)))) (by first | rfl | assumption | (simp only [List.length_map]; assumption) | (simp only [List.length_map, List.length_replicate, nextD_length]; done) | (simp; done))) | (exact Src.ownS (by (solve | (repeat (first | exact List.Mem.head _ | apply List.Mem.tail))))) | (exact Src.own (by (solve | (repeat (first | exact List.Mem.head _ | apply List.Mem.tail))))) | (exact Src.sls (by (solve | (repeat (first | exact List.Mem.head _ | apply List.Mem.tail))))) | (exact Src.celI (by (solve | (repeat (first | exact List.Mem.head _ | apply List.Mem.tail)))) (by first | rfl | assumption | (simp only [List.length_map]; assumption) | (simp only [List.length_map, List.length_replicate, nextD_length]; done) | (simp; done)))) (by first | exact one_map one8 _ | exact ones_spec rfl | exact one_map (fun _ => rfl) _ | (intro u hu; simp at hu; simp [hu, Value.oneCell'])) (by first | omega | (simp only [maxLen]; omega)) (by first | omega | (simp only [maxLen]; omega)) ?_
        intro ob2 cap2 ho2
        refine RL.nilCheck rfl rfl rfl rfl ?_
        refine RL.fieldAddr fa_66_1 rfl rfl rfl rfl ?_
        refine RL.store (vs := [_]) Try.sizeOf63 rfl rfl rfl rfl rfl rfl rfl rfl rfl (by repeat (first | exact Upd.here | apply Upd.there)) ?_
        refine RL.nilCheck rfl rfl rfl rfl ?_
        refine RL.fieldAddr fa_66_2 rfl rfl rfl rfl ?_
        refine RL.store (vs := [_]) Try.sizeOf64 rfl rfl rfl rfl rfl rfl rfl rfl rfl (by repeat (first | exact Upd.here | apply Upd.there)) ?_
        refine RL.nil ?_
        refine NQ.seq ?_
        refine CW.only .nil ?_
        refine CW.seq ?_
        refine CW.region (ef := []) (bk := []) ?_
        refine RL.assign rfl rfl rfl rfl ?_
        refine RL.nil ?_
        refine NQ.seq ?_
        refine CW.ret ?_
        exact radd_fin (y := y) (m := m) (x := x) rfl rfl ho2 (by repeat (first | exact Rea.nil | (apply Rea.cons; (solve | (repeat (first | exact Del.here | apply Del.there))))))
    ·
      refine RL.load Try.isAgg64 rfl rfl rfl rfl (by first | assumption | (apply RdI.rd; assumption) | (apply Rd.get; (solve | (repeat (first | exact List.Mem.head _ | apply List.Mem.tail))); assumption) | (apply Rd.getS; (solve | (repeat (first | exact List.Mem.head _ | apply List.Mem.tail))); assumption) | (apply Rd.getO; (solve | (repeat (first | exact List.Mem.head _ | apply List.Mem.tail))); assumption) | (apply Rd.getI; (solve | (repeat (first | exact List.Mem.head _ | apply List.Mem.tail))); assumption) | (apply Rd.cel; (solve | (repeat (first | exact List.Mem.head _ | apply List.Mem.tail))); exact rfl) | (apply Rd.celI; (solve | (repeat (first | exact List.Mem.head _ | apply List.Mem.tail))); exact rfl)) ?_
      refine RL.buildSlice [_, _, _, _] Try.runUnderlying63 Try.sizeOf58 Try.zeroValue58 rfl rfl (by decide) (by decide) rfl rfl rfl rfl rfl rfl ?_
      intro b3
      refine RL.appendA el_63 rfl rfl rfl rfl rfl rfl rfl (by first | exact ⟨(.take (Pick.none _)), rfl⟩ | exact ⟨(.leave (.take (Pick.none _))), rfl⟩ | exact ⟨(.leave (.leave (.take (Pick.none _)))), rfl⟩ | exact ⟨(.leave (.leave (.leave (.take (Pick.none _))))), rfl⟩ | exact ⟨(.leave (.leave (.leave (.leave (.take (Pick.none _)))))), rfl⟩ | exact ⟨(.leave (.leave (.leave (.leave (.leave (.take (Pick.none _))))))), rfl⟩ | exact ⟨(.leave (.leave (.leave (.leave (.leave (.leave (.take (Pick.none _)))))))), rfl⟩ | exact ⟨(.leave (.leave (.leave (.leave (.leave (.leave (.leave (.take (Pick.none _))))))))), rfl⟩ | exact ⟨(.leave (.leave (.leave (.leave (.leave (.leave (.leave (.leave (.take (Pick.none _)))))))))), rfl⟩ | exact ⟨(.leave (.leave (.leave (.leave (.leave (.leave (.leave (.leave (.leave (.take (Pick.none _))))))))))), rfl⟩) (by first | (exact Src.cel (by (solve | (repeat (first | exact List.Mem.head _ | apply List.Mem.tail)))) (by first | rfl | assumption | (simp only [List.length_map]; assumption) | (simp only [List.length_map, List.length_replicate, nextD_length]; done) | (simp; done))) | (exact Src.ownS (by (solve | (repeat (first | exact List.Mem.head _ | apply List.Mem.tail))))) | (exact Src.own (by (solve | (repeat (first | exact List.Mem.head _ | apply List.Mem.tail))))) | (exact Src.sls (by (solve | (repeat (first | exact List.Mem.head _ | apply List.Mem.tail))))) | (exact Src.celI (by (solve | (repeat (first | exact List.Mem.head _ | apply List.Mem.tail)))) (by first | rfl | assumption | (simp only [List.length_map]; assumption) | (simp only [List.length_map, List.length_replicate, nextD_length]; done) | (simp; done)))) (by first | exact one_map one8 _ | exact ones_spec rfl | exact one_map (fun _ => rfl) _ | (intro u hu; simp at hu; simp [hu, Value.oneCell'])) (by first | omega | (simp only [maxLen]; omega)) (by first | omega | (simp only [maxLen]; omega)) ?_
      intro ob1 cap1 ho1
      refine RL.appendA el_64 rfl rfl rfl rfl rfl rfl rfl (by first | exact ⟨(.take (Pick.none _)), rfl⟩ | exact ⟨(.leave (.take (Pick.none _))), rfl⟩ | exact ⟨(.leave (.leave (.take (Pick.none _)))), rfl⟩ | exact ⟨(.leave (.leave (.leave (.take (Pick.none _))))), rfl⟩ | exact ⟨(.leave (.leave (.leave (.leave (.take (Pick.none _)))))), rfl⟩ | exact ⟨(.leave (.leave (.leave (.leave (.leave (.take (Pick.none _))))))), rfl⟩ | exact ⟨(.leave (.leave (.leave (.leave (.leave (.leave (.take (Pick.none _)))))))), rfl⟩ | exact ⟨(.leave (.leave (.leave (.leave (.leave (.leave (.leave (.take (Pick.none _))))))))), rfl⟩ | exact ⟨(.leave (.leave (.leave (.leave (.leave (.leave (.leave (.leave (.take (Pick.none _)))))))))), rfl⟩ | exact ⟨(.leave (.leave (.leave (.leave (.leave (.leave (.leave (.leave (.leave (.take (Pick.none _))))))))))), rfl⟩) (by first | (exact Src.cel (by (solve | (repeat (first | exact List.Mem.head _ | apply List.Mem.tail)))) (by first | rfl | assumption | (simp only [List.length_map]; assumption) | (simp only [List.length_map, List.length_replicate, nextD_length]; done) | (simp; done))) | (exact Src.ownS (by (solve | (repeat (first | exact List.Mem.head _ | apply List.Mem.tail))))) | (exact Src.own (by (solve | (repeat (first | exact List.Mem.head _ | apply List.Mem.tail))))) | (exact Src.sls (by (solve | (repeat (first | exact List.Mem.head _ | apply List.Mem.tail))))) | (exact Src.celI (by (solve | (repeat (first | exact List.Mem.head _ | apply List.Mem.tail)))) (by first | rfl | assumption | (simp only [List.length_map]; assumption) | (simp only [List.length_map, List.length_replicate, nextD_length]; done) | (simp; done)))) (by first | exact one_map one8 _ | exact ones_spec rfl | exact one_map (fun _ => rfl) _ | (intro u hu; simp at hu; simp [hu, Value.oneCell'])) (by first | omega | (simp only [maxLen]; omega)) (by first | omega | (simp only [maxLen]; omega)) ?_
      intro ob2 cap2 ho2
      refine RL.nilCheck rfl rfl rfl rfl ?_
      refine RL.fieldAddr fa_66_1 rfl rfl rfl rfl ?_
      refine RL.store (vs := [_]) Try.sizeOf63 rfl rfl rfl rfl rfl rfl rfl rfl rfl (by repeat (first | exact Upd.here | apply Upd.there)) ?_
      refine RL.nilCheck rfl rfl rfl rfl ?_
      refine RL.fieldAddr fa_66_2 rfl rfl rfl rfl ?_
      refine RL.store (vs := [_]) Try.sizeOf64 rfl rfl rfl rfl rfl rfl rfl rfl rfl (by repeat (first | exact Upd.here | apply Upd.there)) ?_
      refine RL.nil ?_
      refine NQ.seq ?_
      refine CW.only .nil ?_
      refine CW.seq ?_
      refine CW.region (ef := []) (bk := []) ?_
      refine RL.assign rfl rfl rfl rfl ?_
      refine RL.nil ?_
      refine NQ.seq ?_
      refine CW.ret ?_
      exact radd_fin (y := y) (m := m) (x := x) rfl rfl ho2 (by repeat (first | exact Rea.nil | (apply Rea.cons; (solve | (repeat (first | exact Del.here | apply Del.there))))))
theorem radd_any (y m : Nat) (es : List Ent) (ol : Option Nat) (cl hb ch : Nat) (x : Ent) (hl : es.length ≤ 1000000) :
    Spc Try.prog 29 #[.pointer (some ⟨y, 0, none⟩), .agg x.cells.toArray] [] (RefH y m es ol cl hb ch)
      (fun v I' H' => v = .int .i64 (if x.ok then 0 else 2) ∧ I' = [] ∧ ∃ ol cl hb ch, H' = RefH y m (esA es x) ol cl hb ch) := by
  cases hx : x.ok with
  | false => exact Spc.weaken (radd_no y m es ol cl hb ch x hl hx) (fun v I' H' ⟨h1, h2, h3⟩ => ⟨by rw [h1]; rfl, h2, ol, cl, hb, ch, by rw [h3]; simp [esA, hx]⟩)
  | true => exact Spc.weaken (radd_yes y m es ol cl hb ch x hl hx) (fun v I' H' ⟨h1, h2, h3⟩ => ⟨by rw [h1]; rfl, h2, by simpa [esA, hx] using h3⟩)
end Go.Proofs.Ytflpiaeffnoepaa
