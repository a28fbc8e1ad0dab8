import Derived.Test.YtbdnebedmdoehaaT6
namespace Go.Proofs.Ytbdnebedmdoehaa
open Go.PK

theorem rep_a {p : Rep} {sl : Value} (h1 : p.fr.length = 32) (h2 : p.to.length = 32) : (p.cells sl)[0 + 64]? = some (.int .i64 p.a) := by simp [Rep.cells, List.getElem?_append, h1, h2]
theorem rep_fr {p : Rep} {sl : Value} (h1 : p.fr.length = 32) : ∀ (j : Nat) (u : Value), (bytes p.fr)[j]? = some u → (p.cells sl)[0 + 0 + j]? = some u := fun j u hj => by
  have := (List.getElem?_eq_some_iff.1 hj).1
  rw [Rep.cells, List.getElem?_append_left (by omega), show 0 + 0 + j = j by omega]; exact hj
theorem rep_to {p : Rep} {sl : Value} (h1 : p.fr.length = 32) : ∀ (j : Nat) (u : Value), (bytes p.to)[j]? = some u → (p.cells sl)[0 + 32 + j]? = some u := fun j u hj => by
  have := (List.getElem?_eq_some_iff.1 hj).1
  rw [Rep.cells, List.getElem?_append_right (by simp [h1]), List.getElem?_append_left (by simp [h1] at this ⊢; omega)]
  simpa [h1] using hj
theorem ent_rd {I H : List It} {b n i : Nat} {l : List Ent} {x : Ent} {v : Value} {o : Nat} (hm : sls (some ⟨b, 0, none⟩) 4 n (entsV l) ∈ I) (hx : l[i]? = some x) (hv : x.cells[o]? = some v) : Rd I H ⟨b, 0 + i * 4 + o, none⟩ v := by
  have hlt : o < 4 := (List.getElem?_eq_some_iff.1 hv).1
  have h := (Rds.sls (H := H) hm).rd (j := i * 4 + o) (v := v) (by rw [get_flat (ent_len l) hx hlt]; exact hv)
  rw [add_none] at h
  rwa [show 0 + i * 4 + o = 0 + (i * 4 + o) by omega]

theorem same_refl (p : Rep) (oa ob : Option Nat) (ca cb n : Nat) (h1 : p.fr.length = 32) (h2 : p.to.length = 32) (hn : p.L.length = n) (hl : n ≤ 1000000) :
    Spc Try.prog 35 #[.agg (p.cells (slO oa n ca)).toArray, .agg (p.cells (slO ob n cb)).toArray] [sls (oa.map fun b => ⟨b, 0, none⟩) 4 n (entsV p.L), sls (ob.map fun b => ⟨b, 0, none⟩) 4 n (entsV p.L)] [] (Is (.bool true)) := by
  subst hn
  refine Spc.enter Try.func35 rfl rfl rfl (fun w0 hw0 => ?_)
  refine CW.seq (CW.region (ef := [0, 1]) (bk := []) (RL.box rfl rfl rfl rfl rfl rfl ?_))
  intro b1
  refine RL.box rfl rfl rfl rfl rfl rfl ?_
  intro b2
  refine RL.p rfl (RL.nil (NQ.seq (CW.seq (CW.seq (CW.freezeAll rfl ?_)))))
  simp only [List.cons_append, List.nil_append]
  generalize hJ : ([cel b2 (p.cells (slO ob p.L.length cb)) 93, cel b1 (p.cells (slO oa p.L.length ca)) 81, sls (oa.map fun b => ⟨b, 0, none⟩) 4 p.L.length (entsV p.L), sls (ob.map fun b => ⟨b, 0, none⟩) 4 p.L.length (entsV p.L)] : List It) = J
  have f1 : Rds J [] ⟨b1, 0 + 0, none⟩ (bytes p.fr) := by rw [← hJ]; exact Rds.celI (by repeat (first | exact List.Mem.head _ | apply List.Mem.tail)) (rep_fr h1)
  have f2 : Rds J [] ⟨b2, 0 + 0, none⟩ (bytes p.fr) := by rw [← hJ]; exact Rds.celI (by repeat (first | exact List.Mem.head _ | apply List.Mem.tail)) (rep_fr h1)
  have f3 : Rds J [] ⟨b1, 0 + 32, none⟩ (bytes p.to) := by rw [← hJ]; exact Rds.celI (by repeat (first | exact List.Mem.head _ | apply List.Mem.tail)) (rep_to h1)
  have f4 : Rds J [] ⟨b2, 0 + 32, none⟩ (bytes p.to) := by rw [← hJ]; exact Rds.celI (by repeat (first | exact List.Mem.head _ | apply List.Mem.tail)) (rep_to h1)
  have f5 : Rd J [] ⟨b1, 0 + 64, none⟩ (.int .i64 p.a) := by rw [← hJ]; exact Rd.getI (by repeat (first | exact List.Mem.head _ | apply List.Mem.tail)) (rep_a h1 h2)
  have f6 : Rd J [] ⟨b2, 0 + 64, none⟩ (.int .i64 p.a) := by rw [← hJ]; exact Rd.getI (by repeat (first | exact List.Mem.head _ | apply List.Mem.tail)) (rep_a h1 h2)
  have f7 : Rd J [] ⟨b1, 0 + 65, none⟩ (slO oa p.L.length ca) := by rw [← hJ]; exact Rd.getI (by repeat (first | exact List.Mem.head _ | apply List.Mem.tail)) (rep_sl h1 h2)
  have f8 : Rd J [] ⟨b2, 0 + 65, none⟩ (slO ob p.L.length cb) := by rw [← hJ]; exact Rd.getI (by repeat (first | exact List.Mem.head _ | apply List.Mem.tail)) (rep_sl h1 h2)
  have m1 : sls (oa.map fun b => ⟨b, 0, none⟩) 4 p.L.length (entsV p.L) ∈ J := by rw [← hJ]; exact (by repeat (first | exact List.Mem.head _ | apply List.Mem.tail))
  have m2 : sls (ob.map fun b => ⟨b, 0, none⟩) 4 p.L.length (entsV p.L) ∈ J := by rw [← hJ]; exact (by repeat (first | exact List.Mem.head _ | apply List.Mem.tail))
  clear hJ
  refine CW.rg (RL.fieldAddr fa_81_0 rfl rfl rfl rfl (RL.loadSq Try.isAgg78 Try.sizeOf78 rfl rfl rfl rfl ?_))
  refine RL.fieldAddr fa_93_0 rfl rfl rfl rfl (RL.loadSq Try.isAgg78 Try.sizeOf78 rfl rfl rfl rfl ?_)
  refine RL.cmp rfl rfl rfl rfl rfl (dig_ne _ _ (by first | rfl | assumption | (simp only [List.length_map]; assumption) | (simp only [List.length_map, List.length_replicate]; done) | (simp; done)) (by first | rfl | assumption | (simp only [List.length_map]; assumption) | (simp only [List.length_map, List.length_replicate]; done) | (simp; done)) _ _) ?_
  refine RL.p rfl ?_
  apply RL.orB (d := 11) (dp := 17) (l' := (Sq.of [12, 13, 14, 15, 16, 17, 18, 19, 20, 21, 22, 23, 24, 25, 26, 27])) rfl (sK [2, 3, 4] rfl)
  ·
    intro hb6 K6
    refine RL.fieldAddr fa_81_1 rfl rfl rfl rfl (RL.loadSq Try.isAgg78 Try.sizeOf78 rfl rfl rfl rfl ?_)
    refine RL.fieldAddr fa_93_1 rfl rfl rfl rfl (RL.loadSq Try.isAgg78 Try.sizeOf78 rfl rfl rfl rfl ?_)
    refine RL.cmp rfl rfl rfl rfl rfl (dig_ne _ _ (by first | rfl | assumption | (simp only [List.length_map]; assumption) | (simp only [List.length_map, List.length_replicate]; done) | (simp; done)) (by first | rfl | assumption | (simp only [List.length_map]; assumption) | (simp only [List.length_map, List.length_replicate]; done) | (simp; done)) _ _) ?_
    refine RL.p rfl ?_
    exact K6 _ (.cons rfl (sK [2, 3, 4] rfl))
  ·
    intro hb6 K6
    refine RL.p rfl (RL.p rfl (RL.p rfl (RL.p rfl (RL.p rfl (RL.p rfl ?_)))))
    exact K6 _ (.cons rfl (sK [2, 3, 4] rfl))
  refine RL.p rfl ?_
  apply RL.orB (d := 18) (dp := 24) (l' := (Sq.of [19, 20, 21, 22, 23, 24, 25, 26, 27])) rfl (sK [2, 3, 4] rfl)
  ·
    intro hb13 K13
    refine RL.fieldAddr fa_81_2 rfl rfl rfl rfl (RL.loadq Try.isAgg3 rfl rfl rfl rfl ?_)
    refine RL.fieldAddr fa_93_2 rfl rfl rfl rfl (RL.loadq Try.isAgg3 rfl rfl rfl rfl ?_)
    refine RL.p rfl (RL.p rfl ?_)
    exact K13 _ (.cons rfl (sK [2, 3, 4] rfl))
  ·
    intro hb13 K13
    refine RL.p rfl (RL.p rfl (RL.p rfl (RL.p rfl (RL.p rfl (RL.p rfl ?_)))))
    exact K13 _ (.cons rfl (sK [2, 3, 4] rfl))
  refine RL.p rfl ?_
  apply RL.orB (d := 25) (dp := 33) (l' := (Sq.of [])) rfl (sK [2, 3, 4] rfl)
  ·
    intro hb20 K20
    refine RL.fieldAddr fa_81_3 rfl rfl rfl rfl (RL.loadq Try.isAgg79 rfl rfl rfl rfl ?_)
    refine RL.lenS Try.runUnderlying79 rfl rfl rfl rfl (RL.fieldAddr fa_93_3 rfl rfl rfl rfl (RL.loadq Try.isAgg91 rfl rfl rfl rfl ?_))
    refine RL.lenS Try.runUnderlying91 rfl rfl rfl rfl (RL.p rfl (RL.p rfl ?_))
    exact K20 _ (.cons rfl (sK [2, 3, 4] rfl))
  ·
    intro hb20 K20
    refine RL.p rfl (RL.p rfl (RL.p rfl (RL.p rfl (RL.p rfl (RL.p rfl (RL.p rfl (RL.p rfl ?_)))))))
    exact K20 _ (.cons rfl (sK [2, 3, 4] rfl))
  refine RL.nil (NQ.seq (CW.condF rfl ((by simp)) ?_))
  refine CW.skip (NQ.seq (CW.seq (CW.seq (CW.rg (RL.p rfl (RL.nil (NQ.seq (CW.block (CW.loop (γ := Nat) (fun i => i ≤ p.L.length) (fun i => [(2, .pointer (some ⟨b1, 0, none⟩)), (3, .pointer (some ⟨b2, 0, none⟩)), (5, .int .i64 (i : Int))]) (fun _ => J) (fun _ => []) (fun i => p.L.length - i) 0 (by omega) (.cons rfl (.cons rfl (.cons rfl .nil))) (fun w h => h) ?_)))))))))
  intro i hi
  refine CW.fact (p := oa = none → p.L.length = 0) (fun w hC e => sls_nil (hC.s.i _ m1) (by rw [e]; rfl)) (fun hpa => ?_)
  refine CW.fact (p := ob = none → p.L.length = 0) (fun w hC e => sls_nil (hC.s.i _ m2) (by rw [e]; rfl)) (fun hpb => ?_)
  refine CW.seq (CW.seq (CW.rg (RL.p rfl (RL.fieldAddr fa_81_3 rfl rfl rfl rfl (RL.loadq Try.isAgg79 rfl rfl rfl rfl ?_)))))
  refine RL.lenS Try.runUnderlying79 rfl rfl rfl rfl (RL.p rfl (RL.nil (NQ.seq ?_)))
  refine CW.cond rfl (fun hlt => ?_) (fun hlt => ?_)
  ·
    have hlt : i < p.L.length := by simp at hlt; omega
    cases oa with
    | none => exact absurd (hpa rfl) (by omega)
    | some ba =>
    cases ob with
    | none => exact absurd (hpb rfl) (by omega)
    | some bb =>
    have hx := List.getElem?_eq_getElem hlt
    generalize p.L[i] = x at hx
    have a1 : Rd J [] ⟨ba, 0 + i * 4 + 0, none⟩ (.int .i64 x.t) := ent_rd m1 hx rfl
    have a2 : Rd J [] ⟨ba, 0 + i * 4 + 1, none⟩ (.int .i64 x.k) := ent_rd m1 hx rfl
    have a3 : Rd J [] ⟨ba, 0 + i * 4 + 2, none⟩ (.int .i64 x.s) := ent_rd m1 hx rfl
    have a4 : Rd J [] ⟨ba, 0 + i * 4 + 3, none⟩ (.int .i64 x.e) := ent_rd m1 hx rfl
    have b1' : Rd J [] ⟨bb, 0 + i * 4 + 0, none⟩ (.int .i64 x.t) := ent_rd m2 hx rfl
    have b2' : Rd J [] ⟨bb, 0 + i * 4 + 1, none⟩ (.int .i64 x.k) := ent_rd m2 hx rfl
    have b3' : Rd J [] ⟨bb, 0 + i * 4 + 2, none⟩ (.int .i64 x.s) := ent_rd m2 hx rfl
    have b4' : Rd J [] ⟨bb, 0 + i * 4 + 3, none⟩ (.int .i64 x.e) := ent_rd m2 hx rfl
    refine CW.skip (NQ.seq (CW.seq (CW.block (CW.seq (CW.regionD (Sq.of [0, 1, 2, 3, 4, 5, 6, 7, 8, 9, 10, 11, 12, 13, 14, 15, 16, 17, 18, 19, 20, 21, 22, 23, 24, 25, 26, 27, 28, 29, 30, 31, 32, 33, 34, 35, 36, 37, 38, 39, 40, 41, 42, 43, 44, 45, 46, 47, 48, 49, 50, 51, 52, 53, 54, 55, 56, 57]) [] [] [0, 2, 3, 4, 6, 8, 9, 10, 12, 13, 14, 16, 17, 18, 20, 22, 23, 24, 26, 27, 28, 29, 31, 32, 33, 35, 37, 38, 39, 41, 42, 43, 44, 46, 47, 48, 50, 52, 53, 54, 56, 57] mixed (by kernel_rfl) ?_)))))
    refine RL.fieldAddr fa_81_3 rfl rfl rfl rfl (RL.loadq Try.isAgg79 rfl rfl rfl rfl ?_)
    refine RL.p rfl (RL.idxAt (j := i) Try.runUnderlying79 Try.sizeOf83 rfl rfl rfl rfl rfl rfl (hlt) (RL.fieldAddr fa_83_0 rfl rfl rfl rfl (RL.loadq Try.isAgg3 rfl rfl rfl rfl ?_)))
    refine RL.fieldAddr fa_93_3 rfl rfl rfl rfl (RL.loadq Try.isAgg91 rfl rfl rfl rfl ?_)
    refine RL.p rfl (RL.idxAt (j := i) Try.runUnderlying91 Try.sizeOf87 rfl rfl rfl rfl rfl rfl (hlt) (RL.fieldAddr fa_87_0 rfl rfl rfl rfl (RL.loadq Try.isAgg3 rfl rfl rfl rfl ?_)))
    refine RL.p rfl (RL.p rfl ?_)
    apply RL.orB (d := 54) (dp := 68) (l' := (Sq.of [28, 29, 30, 31, 32, 33, 34, 35, 36, 37, 38, 39, 40, 41, 42, 43, 44, 45, 46, 47, 48, 49, 50, 51, 52, 53, 54, 55, 56, 57])) rfl (sK [2, 3, 5] rfl)
    ·
      intro hb14 K14
      refine RL.fieldAddr fa_81_3 rfl rfl rfl rfl (RL.loadq Try.isAgg79 rfl rfl rfl rfl ?_)
      refine RL.p rfl (RL.idxAt (j := i) Try.runUnderlying79 Try.sizeOf83 rfl rfl rfl rfl rfl rfl (hlt) (RL.fieldAddr fa_83_1 rfl rfl rfl rfl (RL.loadq Try.isAgg3 rfl rfl rfl rfl ?_)))
      refine RL.fieldAddr fa_93_3 rfl rfl rfl rfl (RL.loadq Try.isAgg91 rfl rfl rfl rfl ?_)
      refine RL.p rfl (RL.idxAt (j := i) Try.runUnderlying91 Try.sizeOf87 rfl rfl rfl rfl rfl rfl (hlt) (RL.fieldAddr fa_87_1 rfl rfl rfl rfl (RL.loadq Try.isAgg3 rfl rfl rfl rfl ?_)))
      refine RL.p rfl (RL.p rfl ?_)
      exact K14 _ (.cons rfl (sK [2, 3, 5] rfl))
    ·
      intro hb14 K14
      refine RL.p rfl (RL.p rfl (RL.p rfl (RL.p rfl (RL.p rfl (RL.p rfl (RL.p rfl (RL.p rfl (RL.p rfl (RL.p rfl (RL.p rfl (RL.p rfl (RL.p rfl (RL.p rfl ?_)))))))))))))
      exact K14 _ (.cons rfl (sK [2, 3, 5] rfl))
    refine RL.p rfl ?_
    apply RL.orB (d := 69) (dp := 83) (l' := (Sq.of [43, 44, 45, 46, 47, 48, 49, 50, 51, 52, 53, 54, 55, 56, 57])) rfl (sK [2, 3, 5] rfl)
    ·
      intro hb29 K29
      refine RL.fieldAddr fa_81_3 rfl rfl rfl rfl (RL.loadq Try.isAgg79 rfl rfl rfl rfl ?_)
      refine RL.p rfl (RL.idxAt (j := i) Try.runUnderlying79 Try.sizeOf83 rfl rfl rfl rfl rfl rfl (hlt) (RL.fieldAddr fa_83_2 rfl rfl rfl rfl (RL.loadq Try.isAgg3 rfl rfl rfl rfl ?_)))
      refine RL.fieldAddr fa_93_3 rfl rfl rfl rfl (RL.loadq Try.isAgg91 rfl rfl rfl rfl ?_)
      refine RL.p rfl (RL.idxAt (j := i) Try.runUnderlying91 Try.sizeOf87 rfl rfl rfl rfl rfl rfl (hlt) (RL.fieldAddr fa_87_2 rfl rfl rfl rfl (RL.loadq Try.isAgg3 rfl rfl rfl rfl ?_)))
      refine RL.p rfl (RL.p rfl ?_)
      exact K29 _ (.cons rfl (sK [2, 3, 5] rfl))
    ·
      intro hb29 K29
      refine RL.p rfl (RL.p rfl (RL.p rfl (RL.p rfl (RL.p rfl (RL.p rfl (RL.p rfl (RL.p rfl (RL.p rfl (RL.p rfl (RL.p rfl (RL.p rfl (RL.p rfl (RL.p rfl ?_)))))))))))))
      exact K29 _ (.cons rfl (sK [2, 3, 5] rfl))
    refine RL.p rfl ?_
    apply RL.orB (d := 84) (dp := 98) (l' := (Sq.of [])) rfl (sK [2, 3, 5] rfl)
    ·
      intro hb44 K44
      refine RL.fieldAddr fa_81_3 rfl rfl rfl rfl (RL.loadq Try.isAgg79 rfl rfl rfl rfl ?_)
      refine RL.p rfl (RL.idxAt (j := i) Try.runUnderlying79 Try.sizeOf83 rfl rfl rfl rfl rfl rfl (hlt) (RL.fieldAddr fa_83_3 rfl rfl rfl rfl (RL.loadq Try.isAgg3 rfl rfl rfl rfl ?_)))
      refine RL.fieldAddr fa_93_3 rfl rfl rfl rfl (RL.loadq Try.isAgg91 rfl rfl rfl rfl ?_)
      refine RL.p rfl (RL.idxAt (j := i) Try.runUnderlying91 Try.sizeOf87 rfl rfl rfl rfl rfl rfl (hlt) (RL.fieldAddr fa_87_3 rfl rfl rfl rfl (RL.loadq Try.isAgg3 rfl rfl rfl rfl ?_)))
      refine RL.p rfl (RL.p rfl ?_)
      exact K44 _ (.cons rfl (sK [2, 3, 5] rfl))
    ·
      intro hb44 K44
      refine RL.p rfl (RL.p rfl (RL.p rfl (RL.p rfl (RL.p rfl (RL.p rfl (RL.p rfl (RL.p rfl (RL.p rfl (RL.p rfl (RL.p rfl (RL.p rfl (RL.p rfl (RL.p rfl ?_)))))))))))))
      exact K44 _ (.cons rfl (sK [2, 3, 5] rfl))
    refine RL.nil (NQ.seq (CW.condF rfl ((by simp)) ?_))
    refine CW.skip (NQ.block (NQ.seq (CW.rg (RL.p rfl (RL.bx rfl (wrapV_i64 (by omega) (by omega)) ?_)))))
    refine RL.p rfl (RL.nil ?_)
    refine NQ.round (g := i) (i + 1) hlt (by show p.L.length - (i + 1) < p.L.length - i; omega) (.cons rfl (.cons rfl (.cons rfl .nil))) (fun w h => h)
  ·
    refine CW.exit (XQ.seq (XQ.seq (XQ.hit (NQ.seq (CW.ok [] rfl (CW.seq (CW.rg (RL.p rfl (RL.nil (NQ.seq (CW.ret ?_)))))))))))
    exact RQ.post (res1 rfl rfl) (Split.none _) ⟨rfl, rfl, rfl⟩
end Go.Proofs.Ytbdnebedmdoehaa
