import Derived.Test.YtflpiaeffnoepaaT8
namespace Go.Proofs.Ytflpiaeffnoepaa
open Go.PK

theorem rep_a {p : Rep} {sl : Value} (h1 : p.fr.length = 32) (h2 : p.to.length = 32) : (p.cells sl)[0 + 64]? = some (.int .i64 p.a) := by simp [Rep.cells, List.getElem?_append, h1, h2]
theorem rep_fr {p : Rep} {sl : Value} (h1 : p.fr.length = 32) : ∀ (j : Nat) (u : Value), (bytes p.fr)[j]? = some u → (p.cells sl)[0 + 0 + j]? = some u := fun j u hj => by
  have := (List.getElem?_eq_some_iff.1 hj).1
  rw [Rep.cells, List.getElem?_append_left (by omega), show 0 + 0 + j = j by omega]; exact hj
theorem rep_to {p : Rep} {sl : Value} (h1 : p.fr.length = 32) : ∀ (j : Nat) (u : Value), (bytes p.to)[j]? = some u → (p.cells sl)[0 + 32 + j]? = some u := fun j u hj => by
  have := (List.getElem?_eq_some_iff.1 hj).1
  rw [Rep.cells, List.getElem?_append_right (by simp [h1]), List.getElem?_append_left (by simp [h1] at this ⊢; omega)]
  simpa [h1] using hj
theorem ent_rd {I H : List It} {b n i : Nat} {l : List Ent} {x : Ent} {v : Value} {o : Nat} (hm : sls (some ⟨b, 0, none⟩) 4 n (entsV l) ∈ I) (hx : l[i]? = some x) (hv : x.cells[o]? = some v) : Rd I H ⟨b, 0 + i * 4 + o, none⟩ v := by
  have hlt : o < 4 := (List.getElem?_eq_some_iff.1 hv).1
  have h := (Rds.sls (H := H) hm).rd (j := i * 4 + o) (v := v) (by rw [get_flat (ent_len l) hx hlt]; exact hv)
  rw [add_none] at h
  rwa [show 0 + i * 4 + o = 0 + (i * 4 + o) by omega]

theorem same_refl (p : Rep) (oa ob : Option Nat) (ca cb n : Nat) (h1 : p.fr.length = 32) (h2 : p.to.length = 32) (hn : p.L.length = n) (hl : n ≤ 1000000) :
    Spc Try.prog 34 #[.agg (p.cells (slO oa n ca)).toArray, .agg (p.cells (slO ob n cb)).toArray] [sls (oa.map fun b => ⟨b, 0, none⟩) 4 n (entsV p.L), sls (ob.map fun b => ⟨b, 0, none⟩) 4 n (entsV p.L)] [] (Is (.bool true)) := by
  subst hn
  refine Spc.enter Try.func34 rfl rfl rfl (fun w0 hw0 => ?_)
  refine CW.seq ?_
  refine CW.region (ef := [0, 1]) (bk := []) ?_
  refine RL.box rfl rfl rfl rfl rfl rfl ?_
  intro b1
  refine RL.box rfl rfl rfl rfl rfl rfl ?_
  intro b2
  refine RL.assign rfl rfl rfl rfl ?_
  refine RL.nil ?_
  refine NQ.seq ?_
  refine CW.seq ?_
  refine CW.seq ?_
  -- STOP: region; todo top: ["code", ["region", 1, [{"d": 6, "op": ["fieldAddr", 70, ["t", 2], 0], "ty": 0, "pos": "law.go:42", "after": [], "guard": null}, {"d": 7, "op": ["load", 61, ["t", 6]], "ty": 61, "pos": "law.go:42", "a
  refine CW.freezeAll rfl ?_
  simp only [List.cons_append, List.nil_append]
  generalize hJ : ([cel b2 (p.cells (slO ob p.L.length cb)) 74, cel b1 (p.cells (slO oa p.L.length ca)) 70, sls (oa.map fun b => ⟨b, 0, none⟩) 4 p.L.length (entsV p.L), sls (ob.map fun b => ⟨b, 0, none⟩) 4 p.L.length (entsV p.L)] : List It) = J
  have f1 : Rds J [] ⟨b1, 0 + 0, none⟩ (bytes p.fr) := by rw [← hJ]; exact Rds.celI (by repeat (first | exact List.Mem.head _ | apply List.Mem.tail)) (rep_fr h1)
  have f2 : Rds J [] ⟨b2, 0 + 0, none⟩ (bytes p.fr) := by rw [← hJ]; exact Rds.celI (by repeat (first | exact List.Mem.head _ | apply List.Mem.tail)) (rep_fr h1)
  have f3 : Rds J [] ⟨b1, 0 + 32, none⟩ (bytes p.to) := by rw [← hJ]; exact Rds.celI (by repeat (first | exact List.Mem.head _ | apply List.Mem.tail)) (rep_to h1)
  have f4 : Rds J [] ⟨b2, 0 + 32, none⟩ (bytes p.to) := by rw [← hJ]; exact Rds.celI (by repeat (first | exact List.Mem.head _ | apply List.Mem.tail)) (rep_to h1)
  have f5 : Rd J [] ⟨b1, 0 + 64, none⟩ (.int .i64 p.a) := by rw [← hJ]; exact Rd.getI (by repeat (first | exact List.Mem.head _ | apply List.Mem.tail)) (rep_a h1 h2)
  have f6 : Rd J [] ⟨b2, 0 + 64, none⟩ (.int .i64 p.a) := by rw [← hJ]; exact Rd.getI (by repeat (first | exact List.Mem.head _ | apply List.Mem.tail)) (rep_a h1 h2)
  have f7 : Rd J [] ⟨b1, 0 + 65, none⟩ (slO oa p.L.length ca) := by rw [← hJ]; exact Rd.getI (by repeat (first | exact List.Mem.head _ | apply List.Mem.tail)) (rep_sl h1 h2)
  have f8 : Rd J [] ⟨b2, 0 + 65, none⟩ (slO ob p.L.length cb) := by rw [← hJ]; exact Rd.getI (by repeat (first | exact List.Mem.head _ | apply List.Mem.tail)) (rep_sl h1 h2)
  have m1 : sls (oa.map fun b => ⟨b, 0, none⟩) 4 p.L.length (entsV p.L) ∈ J := by rw [← hJ]; exact (by repeat (first | exact List.Mem.head _ | apply List.Mem.tail))
  have m2 : sls (ob.map fun b => ⟨b, 0, none⟩) 4 p.L.length (entsV p.L) ∈ J := by rw [← hJ]; exact (by repeat (first | exact List.Mem.head _ | apply List.Mem.tail))
  clear hJ
  refine CW.region (ef := []) (bk := []) ?_
  refine RL.fieldAddr fa_70_0 rfl rfl rfl rfl ?_
  first | refine RL.loadM Try.isAgg61 Try.sizeOf61 rfl rfl rfl rfl (by assumption) ?_ | refine RL.loadA Try.isAgg61 Try.sizeOf61 rfl rfl rfl rfl (by first | assumption | (apply RdsI.rds; assumption)) (by first | rfl | assumption | (simp only [List.length_map]; assumption) | (simp only [List.length_map, List.length_replicate]; done) | (simp; done)) ?_
  refine RL.fieldAddr fa_74_0 rfl rfl rfl rfl ?_
  first | refine RL.loadM Try.isAgg61 Try.sizeOf61 rfl rfl rfl rfl (by assumption) ?_ | refine RL.loadA Try.isAgg61 Try.sizeOf61 rfl rfl rfl rfl (by first | assumption | (apply RdsI.rds; assumption)) (by first | rfl | assumption | (simp only [List.length_map]; assumption) | (simp only [List.length_map, List.length_replicate]; done) | (simp; done)) ?_
  refine RL.cmp rfl rfl rfl rfl rfl (dig_ne _ _ (by first | rfl | assumption | (simp only [List.length_map]; assumption) | (simp only [List.length_map, List.length_replicate]; done) | (simp; done)) (by first | rfl | assumption | (simp only [List.length_map]; assumption) | (simp only [List.length_map, List.length_replicate]; done) | (simp; done)) _ _) ?_
  refine RL.move rfl rfl rfl rfl ?_
  apply RL.orB (d := 11) (dp := 17) (l' := (Sq.of [12, 13, 14, 15, 16, 17, 18, 19, 20, 21, 22, 23, 24, 25, 26, 27])) rfl (.cons (k := 2) rfl (.cons (k := 3) rfl (.cons (k := 4) rfl .nil)))
  ·
    intro hb6 K6
    refine RL.fieldAddr fa_70_1 rfl rfl rfl rfl ?_
    first | refine RL.loadM Try.isAgg61 Try.sizeOf61 rfl rfl rfl rfl (by assumption) ?_ | refine RL.loadA Try.isAgg61 Try.sizeOf61 rfl rfl rfl rfl (by first | assumption | (apply RdsI.rds; assumption)) (by first | rfl | assumption | (simp only [List.length_map]; assumption) | (simp only [List.length_map, List.length_replicate]; done) | (simp; done)) ?_
    refine RL.fieldAddr fa_74_1 rfl rfl rfl rfl ?_
    first | refine RL.loadM Try.isAgg61 Try.sizeOf61 rfl rfl rfl rfl (by assumption) ?_ | refine RL.loadA Try.isAgg61 Try.sizeOf61 rfl rfl rfl rfl (by first | assumption | (apply RdsI.rds; assumption)) (by first | rfl | assumption | (simp only [List.length_map]; assumption) | (simp only [List.length_map, List.length_replicate]; done) | (simp; done)) ?_
    refine RL.cmp rfl rfl rfl rfl rfl (dig_ne _ _ (by first | rfl | assumption | (simp only [List.length_map]; assumption) | (simp only [List.length_map, List.length_replicate]; done) | (simp; done)) (by first | rfl | assumption | (simp only [List.length_map]; assumption) | (simp only [List.length_map, List.length_replicate]; done) | (simp; done)) _ _) ?_
    refine RL.pickF rfl rfl rfl rfl rfl ?_
    exact K6 _ (.cons rfl (.cons (k := 2) rfl (.cons (k := 3) rfl (.cons (k := 4) rfl .nil))))
  ·
    intro hb6 K6
    refine RL.skip rfl rfl rfl rfl ?_
    refine RL.skip rfl rfl rfl rfl ?_
    refine RL.skip rfl rfl rfl rfl ?_
    refine RL.skip rfl rfl rfl rfl ?_
    refine RL.skip rfl rfl rfl rfl ?_
    refine RL.pickT rfl rfl rfl rfl rfl ?_
    exact K6 _ (.cons rfl (.cons (k := 2) rfl (.cons (k := 3) rfl (.cons (k := 4) rfl .nil))))
  refine RL.move rfl rfl rfl rfl ?_
  apply RL.orB (d := 18) (dp := 24) (l' := (Sq.of [19, 20, 21, 22, 23, 24, 25, 26, 27])) rfl (.cons (k := 2) rfl (.cons (k := 3) rfl (.cons (k := 4) rfl .nil)))
  ·
    intro hb13 K13
    refine RL.fieldAddr fa_70_2 rfl rfl rfl rfl ?_
    refine RL.load Try.isAgg3 rfl rfl rfl rfl (by first | assumption | (apply RdI.rd; assumption) | (apply Rd.get; (solve | (repeat (first | exact List.Mem.head _ | apply List.Mem.tail))); assumption) | (apply Rd.getS; (solve | (repeat (first | exact List.Mem.head _ | apply List.Mem.tail))); assumption) | (apply Rd.getO; (solve | (repeat (first | exact List.Mem.head _ | apply List.Mem.tail))); assumption) | (apply Rd.getI; (solve | (repeat (first | exact List.Mem.head _ | apply List.Mem.tail))); assumption) | (apply Rd.cel; (solve | (repeat (first | exact List.Mem.head _ | apply List.Mem.tail))); exact rfl) | (apply Rd.celI; (solve | (repeat (first | exact List.Mem.head _ | apply List.Mem.tail))); exact rfl)) ?_
    refine RL.fieldAddr fa_74_2 rfl rfl rfl rfl ?_
    refine RL.load Try.isAgg3 rfl rfl rfl rfl (by first | assumption | (apply RdI.rd; assumption) | (apply Rd.get; (solve | (repeat (first | exact List.Mem.head _ | apply List.Mem.tail))); assumption) | (apply Rd.getS; (solve | (repeat (first | exact List.Mem.head _ | apply List.Mem.tail))); assumption) | (apply Rd.getO; (solve | (repeat (first | exact List.Mem.head _ | apply List.Mem.tail))); assumption) | (apply Rd.getI; (solve | (repeat (first | exact List.Mem.head _ | apply List.Mem.tail))); assumption) | (apply Rd.cel; (solve | (repeat (first | exact List.Mem.head _ | apply List.Mem.tail))); exact rfl) | (apply Rd.celI; (solve | (repeat (first | exact List.Mem.head _ | apply List.Mem.tail))); exact rfl)) ?_
    refine RL.bin rfl rfl rfl rfl rfl rfl ?_
    refine RL.pickF rfl rfl rfl rfl rfl ?_
    exact K13 _ (.cons rfl (.cons (k := 2) rfl (.cons (k := 3) rfl (.cons (k := 4) rfl .nil))))
  ·
    intro hb13 K13
    refine RL.skip rfl rfl rfl rfl ?_
    refine RL.skip rfl rfl rfl rfl ?_
    refine RL.skip rfl rfl rfl rfl ?_
    refine RL.skip rfl rfl rfl rfl ?_
    refine RL.skip rfl rfl rfl rfl ?_
    refine RL.pickT rfl rfl rfl rfl rfl ?_
    exact K13 _ (.cons rfl (.cons (k := 2) rfl (.cons (k := 3) rfl (.cons (k := 4) rfl .nil))))
  refine RL.move rfl rfl rfl rfl ?_
  apply RL.orB (d := 25) (dp := 33) (l' := (Sq.of [])) rfl (.cons (k := 2) rfl (.cons (k := 3) rfl (.cons (k := 4) rfl .nil)))
  ·
    intro hb20 K20
    refine RL.fieldAddr fa_70_3 rfl rfl rfl rfl ?_
    refine RL.load Try.isAgg49 rfl rfl rfl rfl (by first | assumption | (apply RdI.rd; assumption) | (apply Rd.get; (solve | (repeat (first | exact List.Mem.head _ | apply List.Mem.tail))); assumption) | (apply Rd.getS; (solve | (repeat (first | exact List.Mem.head _ | apply List.Mem.tail))); assumption) | (apply Rd.getO; (solve | (repeat (first | exact List.Mem.head _ | apply List.Mem.tail))); assumption) | (apply Rd.getI; (solve | (repeat (first | exact List.Mem.head _ | apply List.Mem.tail))); assumption) | (apply Rd.cel; (solve | (repeat (first | exact List.Mem.head _ | apply List.Mem.tail))); exact rfl) | (apply Rd.celI; (solve | (repeat (first | exact List.Mem.head _ | apply List.Mem.tail))); exact rfl)) ?_
    refine RL.lenS Try.runUnderlying49 rfl rfl rfl rfl ?_
    refine RL.fieldAddr fa_74_3 rfl rfl rfl rfl ?_
    refine RL.load Try.isAgg63 rfl rfl rfl rfl (by first | assumption | (apply RdI.rd; assumption) | (apply Rd.get; (solve | (repeat (first | exact List.Mem.head _ | apply List.Mem.tail))); assumption) | (apply Rd.getS; (solve | (repeat (first | exact List.Mem.head _ | apply List.Mem.tail))); assumption) | (apply Rd.getO; (solve | (repeat (first | exact List.Mem.head _ | apply List.Mem.tail))); assumption) | (apply Rd.getI; (solve | (repeat (first | exact List.Mem.head _ | apply List.Mem.tail))); assumption) | (apply Rd.cel; (solve | (repeat (first | exact List.Mem.head _ | apply List.Mem.tail))); exact rfl) | (apply Rd.celI; (solve | (repeat (first | exact List.Mem.head _ | apply List.Mem.tail))); exact rfl)) ?_
    refine RL.lenS Try.runUnderlying63 rfl rfl rfl rfl ?_
    refine RL.bin rfl rfl rfl rfl rfl rfl ?_
    refine RL.pickF rfl rfl rfl rfl rfl ?_
    exact K20 _ (.cons rfl (.cons (k := 2) rfl (.cons (k := 3) rfl (.cons (k := 4) rfl .nil))))
  ·
    intro hb20 K20
    refine RL.skip rfl rfl rfl rfl ?_
    refine RL.skip rfl rfl rfl rfl ?_
    refine RL.skip rfl rfl rfl rfl ?_
    refine RL.skip rfl rfl rfl rfl ?_
    refine RL.skip rfl rfl rfl rfl ?_
    refine RL.skip rfl rfl rfl rfl ?_
    refine RL.skip rfl rfl rfl rfl ?_
    refine RL.pickT rfl rfl rfl rfl rfl ?_
    exact K20 _ (.cons rfl (.cons (k := 2) rfl (.cons (k := 3) rfl (.cons (k := 4) rfl .nil))))
  refine RL.nil ?_
  refine NQ.seq ?_
  -- STOP: if; todo top: ["code", ["cond", ["t", 33], ["seq", ["region", 2, [{"d": 4, "op": ["assign", ["c", ["bool", false]]], "ty": 4, "pos": "law.go:43", "after": [], "guard": null}], false], ["ret"]], ["skip"]]]
  refine CW.condF rfl ((by simp)) ?_
  refine CW.skip ?_
  refine NQ.seq ?_
  refine CW.seq ?_
  refine CW.seq ?_
  refine CW.region (ef := []) (bk := []) ?_
  refine RL.assign rfl rfl rfl rfl ?_
  refine RL.nil ?_
  refine NQ.seq ?_
  refine CW.block ?_
  -- STOP: loop; todo top: ["code", ["loop", ["seq", ["seq", ["region", 4, [{"d": 34, "op": ["move", ["t", 5]], "ty": 3, "pos": "law.go:45", "after": [], "guard": null}, {"d": 35, "op": ["fieldAddr", 70, ["t", 2], 3], "ty": 0, 
  refine CW.loop (γ := Nat) (fun i => i ≤ p.L.length) (fun i => [(2, .pointer (some ⟨b1, 0, none⟩)), (3, .pointer (some ⟨b2, 0, none⟩)), (5, .int .i64 (i : Int))]) (fun _ => J) (fun _ => []) (fun i => p.L.length - i) 0 (by omega) (.cons rfl (.cons rfl (.cons rfl .nil))) (fun w h => h) ?_
  intro i hi
  refine CW.fact (p := oa = none → p.L.length = 0) (fun w hC e => sls_nil (hC.s.i _ m1) (by rw [e]; rfl)) (fun hpa => ?_)
  refine CW.fact (p := ob = none → p.L.length = 0) (fun w hC e => sls_nil (hC.s.i _ m2) (by rw [e]; rfl)) (fun hpb => ?_)
  refine CW.seq ?_
  refine CW.seq ?_
  refine CW.region (ef := []) (bk := []) ?_
  refine RL.move rfl rfl rfl rfl ?_
  refine RL.fieldAddr fa_70_3 rfl rfl rfl rfl ?_
  refine RL.load Try.isAgg49 rfl rfl rfl rfl (by first | assumption | (apply RdI.rd; assumption) | (apply Rd.get; (solve | (repeat (first | exact List.Mem.head _ | apply List.Mem.tail))); assumption) | (apply Rd.getS; (solve | (repeat (first | exact List.Mem.head _ | apply List.Mem.tail))); assumption) | (apply Rd.getO; (solve | (repeat (first | exact List.Mem.head _ | apply List.Mem.tail))); assumption) | (apply Rd.getI; (solve | (repeat (first | exact List.Mem.head _ | apply List.Mem.tail))); assumption) | (apply Rd.cel; (solve | (repeat (first | exact List.Mem.head _ | apply List.Mem.tail))); exact rfl) | (apply Rd.celI; (solve | (repeat (first | exact List.Mem.head _ | apply List.Mem.tail))); exact rfl)) ?_
  refine RL.lenS Try.runUnderlying49 rfl rfl rfl rfl ?_
  refine RL.bin rfl rfl rfl rfl rfl rfl ?_
  refine RL.nil ?_
  refine NQ.seq ?_
  -- STOP: if; todo top: ["code", ["cond", ["t", 38], ["skip"], ["exit", 0]]]
  refine CW.cond rfl (fun hlt => ?_) (fun hlt => ?_)
  ·
    have hlt : i < p.L.length := by simp at hlt; omega
    cases oa with
    | none => exact absurd (hpa rfl) (by omega)
    | some ba =>
    cases ob with
    | none => exact absurd (hpb rfl) (by omega)
    | some bb =>
    have hx := List.getElem?_eq_getElem hlt
    generalize p.L[i] = x at hx
    have a1 : Rd J [] ⟨ba, 0 + i * 4 + 0, none⟩ (.int .i64 x.t) := ent_rd m1 hx rfl
    have a2 : Rd J [] ⟨ba, 0 + i * 4 + 1, none⟩ (.int .i64 x.k) := ent_rd m1 hx rfl
    have a3 : Rd J [] ⟨ba, 0 + i * 4 + 2, none⟩ (.int .i64 x.s) := ent_rd m1 hx rfl
    have a4 : Rd J [] ⟨ba, 0 + i * 4 + 3, none⟩ (.int .i64 x.e) := ent_rd m1 hx rfl
    have b1' : Rd J [] ⟨bb, 0 + i * 4 + 0, none⟩ (.int .i64 x.t) := ent_rd m2 hx rfl
    have b2' : Rd J [] ⟨bb, 0 + i * 4 + 1, none⟩ (.int .i64 x.k) := ent_rd m2 hx rfl
    have b3' : Rd J [] ⟨bb, 0 + i * 4 + 2, none⟩ (.int .i64 x.s) := ent_rd m2 hx rfl
    have b4' : Rd J [] ⟨bb, 0 + i * 4 + 3, none⟩ (.int .i64 x.e) := ent_rd m2 hx rfl
    refine CW.skip ?_
    refine NQ.seq ?_
    refine CW.seq ?_
    refine CW.block ?_
    refine CW.seq ?_
    refine CW.regionD (Sq.of [0, 1, 2, 3, 4, 5, 6, 7, 8, 9, 10, 11, 12, 13, 14, 15, 16, 17, 18, 19, 20, 21, 22, 23, 24, 25, 26, 27, 28, 29, 30, 31, 32, 33, 34, 35, 36, 37, 38, 39, 40, 41, 42, 43, 44, 45, 46, 47, 48, 49, 50, 51, 52, 53, 54, 55, 56, 57]) [] [] [0, 2, 3, 4, 6, 8, 9, 10, 12, 13, 14, 16, 17, 18, 20, 22, 23, 24, 26, 27, 28, 29, 31, 32, 33, 35, 37, 38, 39, 41, 42, 43, 44, 46, 47, 48, 50, 52, 53, 54, 56, 57] mixed (by kernel_rfl) ?_
    refine RL.fieldAddr fa_70_3 rfl rfl rfl rfl ?_
    refine RL.load Try.isAgg49 rfl rfl rfl rfl (by first | assumption | (apply RdI.rd; assumption) | (apply Rd.get; (solve | (repeat (first | exact List.Mem.head _ | apply List.Mem.tail))); assumption) | (apply Rd.getS; (solve | (repeat (first | exact List.Mem.head _ | apply List.Mem.tail))); assumption) | (apply Rd.getO; (solve | (repeat (first | exact List.Mem.head _ | apply List.Mem.tail))); assumption) | (apply Rd.getI; (solve | (repeat (first | exact List.Mem.head _ | apply List.Mem.tail))); assumption) | (apply Rd.cel; (solve | (repeat (first | exact List.Mem.head _ | apply List.Mem.tail))); exact rfl) | (apply Rd.celI; (solve | (repeat (first | exact List.Mem.head _ | apply List.Mem.tail))); exact rfl)) ?_
    refine RL.move rfl rfl rfl rfl ?_
    refine RL.idxAt (j := i) Try.runUnderlying49 Try.sizeOf57 rfl rfl rfl rfl rfl rfl (hlt) ?_
    refine RL.fieldAddr fa_57_0 rfl rfl rfl rfl ?_
    refine RL.load Try.isAgg3 rfl rfl rfl rfl (by first | assumption | (apply RdI.rd; assumption) | (apply Rd.get; (solve | (repeat (first | exact List.Mem.head _ | apply List.Mem.tail))); assumption) | (apply Rd.getS; (solve | (repeat (first | exact List.Mem.head _ | apply List.Mem.tail))); assumption) | (apply Rd.getO; (solve | (repeat (first | exact List.Mem.head _ | apply List.Mem.tail))); assumption) | (apply Rd.getI; (solve | (repeat (first | exact List.Mem.head _ | apply List.Mem.tail))); assumption) | (apply Rd.cel; (solve | (repeat (first | exact List.Mem.head _ | apply List.Mem.tail))); exact rfl) | (apply Rd.celI; (solve | (repeat (first | exact List.Mem.head _ | apply List.Mem.tail))); exact rfl)) ?_
    refine RL.fieldAddr fa_74_3 rfl rfl rfl rfl ?_
    refine RL.load Try.isAgg63 rfl rfl rfl rfl (by first | assumption | (apply RdI.rd; assumption) | (apply Rd.get; (solve | (repeat (first | exact List.Mem.head _ | apply List.Mem.tail))); assumption) | (apply Rd.getS; (solve | (repeat (first | exact List.Mem.head _ | apply List.Mem.tail))); assumption) | (apply Rd.getO; (solve | (repeat (first | exact List.Mem.head _ | apply List.Mem.tail))); assumption) | (apply Rd.getI; (solve | (repeat (first | exact List.Mem.head _ | apply List.Mem.tail))); assumption) | (apply Rd.cel; (solve | (repeat (first | exact List.Mem.head _ | apply List.Mem.tail))); exact rfl) | (apply Rd.celI; (solve | (repeat (first | exact List.Mem.head _ | apply List.Mem.tail))); exact rfl)) ?_
    refine RL.move rfl rfl rfl rfl ?_
    refine RL.idxAt (j := i) Try.runUnderlying63 Try.sizeOf58 rfl rfl rfl rfl rfl rfl (hlt) ?_
    refine RL.fieldAddr fa_58_0 rfl rfl rfl rfl ?_
    refine RL.load Try.isAgg3 rfl rfl rfl rfl (by first | assumption | (apply RdI.rd; assumption) | (apply Rd.get; (solve | (repeat (first | exact List.Mem.head _ | apply List.Mem.tail))); assumption) | (apply Rd.getS; (solve | (repeat (first | exact List.Mem.head _ | apply List.Mem.tail))); assumption) | (apply Rd.getO; (solve | (repeat (first | exact List.Mem.head _ | apply List.Mem.tail))); assumption) | (apply Rd.getI; (solve | (repeat (first | exact List.Mem.head _ | apply List.Mem.tail))); assumption) | (apply Rd.cel; (solve | (repeat (first | exact List.Mem.head _ | apply List.Mem.tail))); exact rfl) | (apply Rd.celI; (solve | (repeat (first | exact List.Mem.head _ | apply List.Mem.tail))); exact rfl)) ?_
    refine RL.bin rfl rfl rfl rfl rfl rfl ?_
    refine RL.move rfl rfl rfl rfl ?_
    apply RL.orB (d := 54) (dp := 68) (l' := (Sq.of [28, 29, 30, 31, 32, 33, 34, 35, 36, 37, 38, 39, 40, 41, 42, 43, 44, 45, 46, 47, 48, 49, 50, 51, 52, 53, 54, 55, 56, 57])) rfl (.cons (k := 2) rfl (.cons (k := 3) rfl (.cons (k := 5) rfl .nil)))
    ·
      intro hb14 K14
      refine RL.fieldAddr fa_70_3 rfl rfl rfl rfl ?_
      refine RL.load Try.isAgg49 rfl rfl rfl rfl (by first | assumption | (apply RdI.rd; assumption) | (apply Rd.get; (solve | (repeat (first | exact List.Mem.head _ | apply List.Mem.tail))); assumption) | (apply Rd.getS; (solve | (repeat (first | exact List.Mem.head _ | apply List.Mem.tail))); assumption) | (apply Rd.getO; (solve | (repeat (first | exact List.Mem.head _ | apply List.Mem.tail))); assumption) | (apply Rd.getI; (solve | (repeat (first | exact List.Mem.head _ | apply List.Mem.tail))); assumption) | (apply Rd.cel; (solve | (repeat (first | exact List.Mem.head _ | apply List.Mem.tail))); exact rfl) | (apply Rd.celI; (solve | (repeat (first | exact List.Mem.head _ | apply List.Mem.tail))); exact rfl)) ?_
      refine RL.move rfl rfl rfl rfl ?_
      refine RL.idxAt (j := i) Try.runUnderlying49 Try.sizeOf57 rfl rfl rfl rfl rfl rfl (hlt) ?_
      refine RL.fieldAddr fa_57_1 rfl rfl rfl rfl ?_
      refine RL.load Try.isAgg3 rfl rfl rfl rfl (by first | assumption | (apply RdI.rd; assumption) | (apply Rd.get; (solve | (repeat (first | exact List.Mem.head _ | apply List.Mem.tail))); assumption) | (apply Rd.getS; (solve | (repeat (first | exact List.Mem.head _ | apply List.Mem.tail))); assumption) | (apply Rd.getO; (solve | (repeat (first | exact List.Mem.head _ | apply List.Mem.tail))); assumption) | (apply Rd.getI; (solve | (repeat (first | exact List.Mem.head _ | apply List.Mem.tail))); assumption) | (apply Rd.cel; (solve | (repeat (first | exact List.Mem.head _ | apply List.Mem.tail))); exact rfl) | (apply Rd.celI; (solve | (repeat (first | exact List.Mem.head _ | apply List.Mem.tail))); exact rfl)) ?_
      refine RL.fieldAddr fa_74_3 rfl rfl rfl rfl ?_
      refine RL.load Try.isAgg63 rfl rfl rfl rfl (by first | assumption | (apply RdI.rd; assumption) | (apply Rd.get; (solve | (repeat (first | exact List.Mem.head _ | apply List.Mem.tail))); assumption) | (apply Rd.getS; (solve | (repeat (first | exact List.Mem.head _ | apply List.Mem.tail))); assumption) | (apply Rd.getO; (solve | (repeat (first | exact List.Mem.head _ | apply List.Mem.tail))); assumption) | (apply Rd.getI; (solve | (repeat (first | exact List.Mem.head _ | apply List.Mem.tail))); assumption) | (apply Rd.cel; (solve | (repeat (first | exact List.Mem.head _ | apply List.Mem.tail))); exact rfl) | (apply Rd.celI; (solve | (repeat (first | exact List.Mem.head _ | apply List.Mem.tail))); exact rfl)) ?_
      refine RL.move rfl rfl rfl rfl ?_
      refine RL.idxAt (j := i) Try.runUnderlying63 Try.sizeOf58 rfl rfl rfl rfl rfl rfl (hlt) ?_
      refine RL.fieldAddr fa_58_1 rfl rfl rfl rfl ?_
      refine RL.load Try.isAgg3 rfl rfl rfl rfl (by first | assumption | (apply RdI.rd; assumption) | (apply Rd.get; (solve | (repeat (first | exact List.Mem.head _ | apply List.Mem.tail))); assumption) | (apply Rd.getS; (solve | (repeat (first | exact List.Mem.head _ | apply List.Mem.tail))); assumption) | (apply Rd.getO; (solve | (repeat (first | exact List.Mem.head _ | apply List.Mem.tail))); assumption) | (apply Rd.getI; (solve | (repeat (first | exact List.Mem.head _ | apply List.Mem.tail))); assumption) | (apply Rd.cel; (solve | (repeat (first | exact List.Mem.head _ | apply List.Mem.tail))); exact rfl) | (apply Rd.celI; (solve | (repeat (first | exact List.Mem.head _ | apply List.Mem.tail))); exact rfl)) ?_
      refine RL.bin rfl rfl rfl rfl rfl rfl ?_
      refine RL.pickF rfl rfl rfl rfl rfl ?_
      exact K14 _ (.cons rfl (.cons (k := 2) rfl (.cons (k := 3) rfl (.cons (k := 5) rfl .nil))))
    ·
      intro hb14 K14
      refine RL.skip rfl rfl rfl rfl ?_
      refine RL.skip rfl rfl rfl rfl ?_
      refine RL.skip rfl rfl rfl rfl ?_
      refine RL.skip rfl rfl rfl rfl ?_
      refine RL.skip rfl rfl rfl rfl ?_
      refine RL.skip rfl rfl rfl rfl ?_
      refine RL.skip rfl rfl rfl rfl ?_
      refine RL.skip rfl rfl rfl rfl ?_
      refine RL.skip rfl rfl rfl rfl ?_
      refine RL.skip rfl rfl rfl rfl ?_
      refine RL.skip rfl rfl rfl rfl ?_
      refine RL.skip rfl rfl rfl rfl ?_
      refine RL.skip rfl rfl rfl rfl ?_
      refine RL.pickT rfl rfl rfl rfl rfl ?_
      exact K14 _ (.cons rfl (.cons (k := 2) rfl (.cons (k := 3) rfl (.cons (k := 5) rfl .nil))))
    refine RL.move rfl rfl rfl rfl ?_
    apply RL.orB (d := 69) (dp := 83) (l' := (Sq.of [43, 44, 45, 46, 47, 48, 49, 50, 51, 52, 53, 54, 55, 56, 57])) rfl (.cons (k := 2) rfl (.cons (k := 3) rfl (.cons (k := 5) rfl .nil)))
    ·
      intro hb29 K29
      refine RL.fieldAddr fa_70_3 rfl rfl rfl rfl ?_
      refine RL.load Try.isAgg49 rfl rfl rfl rfl (by first | assumption | (apply RdI.rd; assumption) | (apply Rd.get; (solve | (repeat (first | exact List.Mem.head _ | apply List.Mem.tail))); assumption) | (apply Rd.getS; (solve | (repeat (first | exact List.Mem.head _ | apply List.Mem.tail))); assumption) | (apply Rd.getO; (solve | (repeat (first | exact List.Mem.head _ | apply List.Mem.tail))); assumption) | (apply Rd.getI; (solve | (repeat (first | exact List.Mem.head _ | apply List.Mem.tail))); assumption) | (apply Rd.cel; (solve | (repeat (first | exact List.Mem.head _ | apply List.Mem.tail))); exact rfl) | (apply Rd.celI; (solve | (repeat (first | exact List.Mem.head _ | apply List.Mem.tail))); exact rfl)) ?_
      refine RL.move rfl rfl rfl rfl ?_
      refine RL.idxAt (j := i) Try.runUnderlying49 Try.sizeOf57 rfl rfl rfl rfl rfl rfl (hlt) ?_
      refine RL.fieldAddr fa_57_2 rfl rfl rfl rfl ?_
      refine RL.load Try.isAgg3 rfl rfl rfl rfl (by first | assumption | (apply RdI.rd; assumption) | (apply Rd.get; (solve | (repeat (first | exact List.Mem.head _ | apply List.Mem.tail))); assumption) | (apply Rd.getS; (solve | (repeat (first | exact List.Mem.head _ | apply List.Mem.tail))); assumption) | (apply Rd.getO; (solve | (repeat (first | exact List.Mem.head _ | apply List.Mem.tail))); assumption) | (apply Rd.getI; (solve | (repeat (first | exact List.Mem.head _ | apply List.Mem.tail))); assumption) | (apply Rd.cel; (solve | (repeat (first | exact List.Mem.head _ | apply List.Mem.tail))); exact rfl) | (apply Rd.celI; (solve | (repeat (first | exact List.Mem.head _ | apply List.Mem.tail))); exact rfl)) ?_
      refine RL.fieldAddr fa_74_3 rfl rfl rfl rfl ?_
      refine RL.load Try.isAgg63 rfl rfl rfl rfl (by first | assumption | (apply RdI.rd; assumption) | (apply Rd.get; (solve | (repeat (first | exact List.Mem.head _ | apply List.Mem.tail))); assumption) | (apply Rd.getS; (solve | (repeat (first | exact List.Mem.head _ | apply List.Mem.tail))); assumption) | (apply Rd.getO; (solve | (repeat (first | exact List.Mem.head _ | apply List.Mem.tail))); assumption) | (apply Rd.getI; (solve | (repeat (first | exact List.Mem.head _ | apply List.Mem.tail))); assumption) | (apply Rd.cel; (solve | (repeat (first | exact List.Mem.head _ | apply List.Mem.tail))); exact rfl) | (apply Rd.celI; (solve | (repeat (first | exact List.Mem.head _ | apply List.Mem.tail))); exact rfl)) ?_
      refine RL.move rfl rfl rfl rfl ?_
      refine RL.idxAt (j := i) Try.runUnderlying63 Try.sizeOf58 rfl rfl rfl rfl rfl rfl (hlt) ?_
      refine RL.fieldAddr fa_58_2 rfl rfl rfl rfl ?_
      refine RL.load Try.isAgg3 rfl rfl rfl rfl (by first | assumption | (apply RdI.rd; assumption) | (apply Rd.get; (solve | (repeat (first | exact List.Mem.head _ | apply List.Mem.tail))); assumption) | (apply Rd.getS; (solve | (repeat (first | exact List.Mem.head _ | apply List.Mem.tail))); assumption) | (apply Rd.getO; (solve | (repeat (first | exact List.Mem.head _ | apply List.Mem.tail))); assumption) | (apply Rd.getI; (solve | (repeat (first | exact List.Mem.head _ | apply List.Mem.tail))); assumption) | (apply Rd.cel; (solve | (repeat (first | exact List.Mem.head _ | apply List.Mem.tail))); exact rfl) | (apply Rd.celI; (solve | (repeat (first | exact List.Mem.head _ | apply List.Mem.tail))); exact rfl)) ?_
      refine RL.bin rfl rfl rfl rfl rfl rfl ?_
      refine RL.pickF rfl rfl rfl rfl rfl ?_
      exact K29 _ (.cons rfl (.cons (k := 2) rfl (.cons (k := 3) rfl (.cons (k := 5) rfl .nil))))
    ·
      intro hb29 K29
      refine RL.skip rfl rfl rfl rfl ?_
      refine RL.skip rfl rfl rfl rfl ?_
      refine RL.skip rfl rfl rfl rfl ?_
      refine RL.skip rfl rfl rfl rfl ?_
      refine RL.skip rfl rfl rfl rfl ?_
      refine RL.skip rfl rfl rfl rfl ?_
      refine RL.skip rfl rfl rfl rfl ?_
      refine RL.skip rfl rfl rfl rfl ?_
      refine RL.skip rfl rfl rfl rfl ?_
      refine RL.skip rfl rfl rfl rfl ?_
      refine RL.skip rfl rfl rfl rfl ?_
      refine RL.skip rfl rfl rfl rfl ?_
      refine RL.skip rfl rfl rfl rfl ?_
      refine RL.pickT rfl rfl rfl rfl rfl ?_
      exact K29 _ (.cons rfl (.cons (k := 2) rfl (.cons (k := 3) rfl (.cons (k := 5) rfl .nil))))
    refine RL.move rfl rfl rfl rfl ?_
    apply RL.orB (d := 84) (dp := 98) (l' := (Sq.of [])) rfl (.cons (k := 2) rfl (.cons (k := 3) rfl (.cons (k := 5) rfl .nil)))
    ·
      intro hb44 K44
      refine RL.fieldAddr fa_70_3 rfl rfl rfl rfl ?_
      refine RL.load Try.isAgg49 rfl rfl rfl rfl (by first | assumption | (apply RdI.rd; assumption) | (apply Rd.get; (solve | (repeat (first | exact List.Mem.head _ | apply List.Mem.tail))); assumption) | (apply Rd.getS; (solve | (repeat (first | exact List.Mem.head _ | apply List.Mem.tail))); assumption) | (apply Rd.getO; (solve | (repeat (first | exact List.Mem.head _ | apply List.Mem.tail))); assumption) | (apply Rd.getI; (solve | (repeat (first | exact List.Mem.head _ | apply List.Mem.tail))); assumption) | (apply Rd.cel; (solve | (repeat (first | exact List.Mem.head _ | apply List.Mem.tail))); exact rfl) | (apply Rd.celI; (solve | (repeat (first | exact List.Mem.head _ | apply List.Mem.tail))); exact rfl)) ?_
      refine RL.move rfl rfl rfl rfl ?_
      refine RL.idxAt (j := i) Try.runUnderlying49 Try.sizeOf57 rfl rfl rfl rfl rfl rfl (hlt) ?_
      refine RL.fieldAddr fa_57_3 rfl rfl rfl rfl ?_
      refine RL.load Try.isAgg3 rfl rfl rfl rfl (by first | assumption | (apply RdI.rd; assumption) | (apply Rd.get; (solve | (repeat (first | exact List.Mem.head _ | apply List.Mem.tail))); assumption) | (apply Rd.getS; (solve | (repeat (first | exact List.Mem.head _ | apply List.Mem.tail))); assumption) | (apply Rd.getO; (solve | (repeat (first | exact List.Mem.head _ | apply List.Mem.tail))); assumption) | (apply Rd.getI; (solve | (repeat (first | exact List.Mem.head _ | apply List.Mem.tail))); assumption) | (apply Rd.cel; (solve | (repeat (first | exact List.Mem.head _ | apply List.Mem.tail))); exact rfl) | (apply Rd.celI; (solve | (repeat (first | exact List.Mem.head _ | apply List.Mem.tail))); exact rfl)) ?_
      refine RL.fieldAddr fa_74_3 rfl rfl rfl rfl ?_
      refine RL.load Try.isAgg63 rfl rfl rfl rfl (by first | assumption | (apply RdI.rd; assumption) | (apply Rd.get; (solve | (repeat (first | exact List.Mem.head _ | apply List.Mem.tail))); assumption) | (apply Rd.getS; (solve | (repeat (first | exact List.Mem.head _ | apply List.Mem.tail))); assumption) | (apply Rd.getO; (solve | (repeat (first | exact List.Mem.head _ | apply List.Mem.tail))); assumption) | (apply Rd.getI; (solve | (repeat (first | exact List.Mem.head _ | apply List.Mem.tail))); assumption) | (apply Rd.cel; (solve | (repeat (first | exact List.Mem.head _ | apply List.Mem.tail))); exact rfl) | (apply Rd.celI; (solve | (repeat (first | exact List.Mem.head _ | apply List.Mem.tail))); exact rfl)) ?_
      refine RL.move rfl rfl rfl rfl ?_
      refine RL.idxAt (j := i) Try.runUnderlying63 Try.sizeOf58 rfl rfl rfl rfl rfl rfl (hlt) ?_
      refine RL.fieldAddr fa_58_3 rfl rfl rfl rfl ?_
      refine RL.load Try.isAgg3 rfl rfl rfl rfl (by first | assumption | (apply RdI.rd; assumption) | (apply Rd.get; (solve | (repeat (first | exact List.Mem.head _ | apply List.Mem.tail))); assumption) | (apply Rd.getS; (solve | (repeat (first | exact List.Mem.head _ | apply List.Mem.tail))); assumption) | (apply Rd.getO; (solve | (repeat (first | exact List.Mem.head _ | apply List.Mem.tail))); assumption) | (apply Rd.getI; (solve | (repeat (first | exact List.Mem.head _ | apply List.Mem.tail))); assumption) | (apply Rd.cel; (solve | (repeat (first | exact List.Mem.head _ | apply List.Mem.tail))); exact rfl) | (apply Rd.celI; (solve | (repeat (first | exact List.Mem.head _ | apply List.Mem.tail))); exact rfl)) ?_
      refine RL.bin rfl rfl rfl rfl rfl rfl ?_
      refine RL.pickF rfl rfl rfl rfl rfl ?_
      exact K44 _ (.cons rfl (.cons (k := 2) rfl (.cons (k := 3) rfl (.cons (k := 5) rfl .nil))))
    ·
      intro hb44 K44
      refine RL.skip rfl rfl rfl rfl ?_
      refine RL.skip rfl rfl rfl rfl ?_
      refine RL.skip rfl rfl rfl rfl ?_
      refine RL.skip rfl rfl rfl rfl ?_
      refine RL.skip rfl rfl rfl rfl ?_
      refine RL.skip rfl rfl rfl rfl ?_
      refine RL.skip rfl rfl rfl rfl ?_
      refine RL.skip rfl rfl rfl rfl ?_
      refine RL.skip rfl rfl rfl rfl ?_
      refine RL.skip rfl rfl rfl rfl ?_
      refine RL.skip rfl rfl rfl rfl ?_
      refine RL.skip rfl rfl rfl rfl ?_
      refine RL.skip rfl rfl rfl rfl ?_
      refine RL.pickT rfl rfl rfl rfl rfl ?_
      exact K44 _ (.cons rfl (.cons (k := 2) rfl (.cons (k := 3) rfl (.cons (k := 5) rfl .nil))))
    refine RL.nil ?_
    refine NQ.seq ?_
    -- STOP: if; todo top: ["code", ["cond", ["t", 98], ["seq", ["region", 7, [{"d": 4, "op": ["assign", ["c", ["bool", false]]], "ty": 4, "pos": "law.go:47", "after": [], "guard": null}], false], ["ret"]], ["skip"]]]
    refine CW.condF rfl ((by simp)) ?_
    refine CW.skip ?_
    refine NQ.block ?_
    refine NQ.seq ?_
    refine CW.region (ef := []) (bk := []) ?_
    refine RL.move rfl rfl rfl rfl ?_
    refine RL.binX rfl rfl rfl rfl rfl rfl (wrapV_i64 (by omega) (by omega)) ?_
    refine RL.assign rfl rfl rfl rfl ?_
    refine RL.nil ?_
    -- STOP: round; todo top: ["N"]
    refine NQ.round (g := i) (i + 1) hlt (by show p.L.length - (i + 1) < p.L.length - i; omega) (.cons rfl (.cons rfl (.cons rfl .nil))) (fun w h => h)
  ·
    refine CW.exit ?_
    refine XQ.seq ?_
    refine XQ.seq ?_
    refine XQ.hit ?_
    refine NQ.seq ?_
    refine CW.only .nil ?_
    refine CW.seq ?_
    refine CW.region (ef := []) (bk := []) ?_
    refine RL.assign rfl rfl rfl rfl ?_
    refine RL.nil ?_
    refine NQ.seq ?_
    refine CW.ret ?_
    -- STOP: ret; end
    exact RQ.post (res1 rfl rfl) (Split.none _) ⟨rfl, rfl, rfl⟩
end Go.Proofs.Ytflpiaeffnoepaa
