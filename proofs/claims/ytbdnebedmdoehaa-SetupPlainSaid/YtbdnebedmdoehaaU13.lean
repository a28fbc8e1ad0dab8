import Derived.Test.YtbdnebedmdoehaaU12
namespace Go.Proofs.Ytbdnebedmdoehaa
open Go.PK
theorem srs_len {L : List Sr} (hL : ∀ s ∈ L, s.cells.length = 48) : (L.flatMap Sr.cells).length = L.length * 48 := by
  induction L with
  | nil => rfl
  | cons s L ih =>
    rw [List.flatMap_cons, List.length_append, ih (fun x hx => hL x (by simp [hx])), hL s (by simp), List.length_cons]; omega
theorem srs_cut {L : List Sr} {i : Nat} (hi : i ≤ L.length) (hL : ∀ s ∈ L, s.cells.length = 48) : (L.flatMap Sr.cells).take (i * 48) = (L.take i).flatMap Sr.cells := by
  have hl : ((L.take i).flatMap Sr.cells).length = i * 48 := by rw [srs_len (fun s hs => hL s (List.mem_of_mem_take hs)), List.length_take, Nat.min_eq_left hi]
  have he : L.flatMap Sr.cells = (L.take i).flatMap Sr.cells ++ (L.drop i).flatMap Sr.cells := by rw [← List.flatMap_append, List.take_append_drop]
  rw [he]; exact List.take_left' hl
theorem srs_ones (L : List Sr) : ∀ u ∈ L.flatMap Sr.cells, u.oneCell' = true := fun u hu => by
  obtain ⟨s, -, hs⟩ := List.mem_flatMap.1 hu
  exact ones_spec (sr_ones s) u hs
theorem fill_one48 {cs zs : List Value} (h : cs.length = 48) (hz : zs.length = 48) : fillL (fun j => some (j * 48, 48)) (reps zs 1) [(0, .agg cs.toArray)] = some cs := by
  refine fill_seg [] zs [] rfl (agg_cells _) (by simp [reps]) rfl hz h ?_
  simp [fillL]
/-- A configuration, its sources its own. -/
def CfR (U : TypeId) (c : Cf) : Value → List It → List It → Prop := fun v I' H' => ∃ ob cap, v = .agg (c.cells (slO ob c.L.length cap)).toArray ∧ I' = [] ∧ H' = [own ob cap U 48 c.L.length (c.L.flatMap Sr.cells)]
def Cf.few (c : Cf) : Cf := { c with L := c.L.take 12 }
theorem lfew_any (c : Cf) (pa : Option Addr) (ca n : Nat) (hc : c.cm.length = 32) (hL : ∀ s ∈ c.L, s.cells.length = 48) (hn : c.L.length = n) (hca : n ≤ ca) (hb : n ≤ maxLen) : Spc Try.prog 12 #[.agg (c.cells (.slice pa n ca)).toArray] [sls pa 48 n (c.L.flatMap Sr.cells)] [] (CfR 57 c.few) := by
  subst hn
  have hml : (c.L.take 12).length = min c.L.length 12 := by rw [List.length_take]; omega
  have hl45 := fun sl => cf_len hc sl
  have hmin : min ((c.L.length : Nat) : Int) 12 = ((min c.L.length 12 : Nat) : Int) := by omega
  have hsrc : ∀ H, Src [sls pa 48 c.L.length (c.L.flatMap Sr.cells)] H (if ca = 0 then pa else pa.map (·.add (0 * 48))) (min c.L.length 12 - 0) 48 ((c.L.take 12).flatMap Sr.cells) := fun H => by
    have := Src.sub (lo := 0) (hi := min c.L.length 12) (cap := ca) (Src.sls (I := [sls pa 48 c.L.length (c.L.flatMap Sr.cells)]) (H := H) (p := pa) (sz := 48) (nn := c.L.length) (xs := c.L.flatMap Sr.cells) (List.Mem.head _)) (by omega) (by omega) (by omega)
    rw [Nat.zero_mul, List.drop_zero, Nat.sub_zero, srs_cut (by omega) hL, show c.L.take (min c.L.length 12) = c.L.take 12 by rw [Nat.min_comm, ← List.take_take, List.take_length]] at this
    simpa using this
  refine Spc.enter Try.func12 rfl rfl rfl (fun w0 hw0 => ?_)
  refine CW.seq (CW.region (ef := [0, 1]) (bk := []) (RL.box rfl rfl rfl rfl rfl rfl ?_))
  intro b1
  refine RL.alloc Try.zeroValue33 rfl rfl rfl rfl rfl ?_
  intro b2
  refine RL.nil (NQ.seq (CW.seq (CW.region (ef := [0, 8, 10]) (bk := [8, 10]) (RL.buildOwn [] Try.runUnderlying23 Try.sizeOf57 Try.zeroValue57 rfl rfl (by decide) (by decide) rfl (by decide) rfl rfl rfl rfl rfl rfl ?_))))
  intro oq
  refine RL.fieldAddr fa_33_0 rfl rfl rfl rfl (RL.load Try.isAgg23 rfl rfl rfl rfl (Rd.cel (by repeat (first | exact List.Mem.head _ | apply List.Mem.tail)) rfl) ?_)
  refine RL.fieldAddr fa_33_0 rfl rfl rfl rfl (RL.load Try.isAgg23 rfl rfl rfl rfl (Rd.cel (by repeat (first | exact List.Mem.head _ | apply List.Mem.tail)) rfl) ?_)
  refine RL.lenS Try.runUnderlying23 rfl rfl rfl rfl (RL.min rfl rfl rfl rfl rfl ?_)
  rw [hmin]
  refine RL.slice (lo := 0) (hi := min c.L.length 12) Try.runUnderlying23 Try.sizeOf57 rfl rfl rfl rfl rfl rfl (by omega) (by omega) ?_
  refine RL.appendA el_23 rfl rfl rfl rfl rfl rfl rfl (by first | exact ⟨(.take (Pick.none _)), rfl⟩ | exact ⟨(.leave (.take (Pick.none _))), rfl⟩ | exact ⟨(.leave (.leave (.take (Pick.none _)))), rfl⟩ | exact ⟨(.leave (.leave (.leave (.take (Pick.none _))))), rfl⟩ | exact ⟨(.leave (.leave (.leave (.leave (.take (Pick.none _)))))), rfl⟩ | exact ⟨(.leave (.leave (.leave (.leave (.leave (.take (Pick.none _))))))), rfl⟩ | exact ⟨(.leave (.leave (.leave (.leave (.leave (.leave (.take (Pick.none _)))))))), rfl⟩ | exact ⟨(.leave (.leave (.leave (.leave (.leave (.leave (.leave (.take (Pick.none _))))))))), rfl⟩ | exact ⟨(.leave (.leave (.leave (.leave (.leave (.leave (.leave (.leave (.take (Pick.none _)))))))))), rfl⟩ | exact ⟨(.leave (.leave (.leave (.leave (.leave (.leave (.leave (.leave (.leave (.take (Pick.none _))))))))))), rfl⟩) (hsrc _) (srs_ones _) (by first | omega | (simp only [maxLen]; omega)) (by first | omega | (simp only [maxLen]; omega)) ?_
  intro ob1 cap1 ho1
  refine RL.fieldAddr fa_33_0 rfl rfl rfl rfl (RL.storeX (vs := [_]) cf_set Try.sizeOf23 rfl rfl rfl rfl rfl rfl rfl rfl (by repeat (first | exact Upd.here | apply Upd.there)) (by rw [hl45]; show 0 + 0 + 1 ≤ 45; decide) ?_)
  refine RL.nil (NQ.seq (CW.ok [1, 2] rfl (CW.seq ?_)))
  rw [show 0 + (min c.L.length 12 - 0) = c.few.L.length by show _ = (c.L.take 12).length; omega, List.nil_append]
  refine CW.region (ef := [1]) (bk := [1]) (RL.loadW Try.isAgg33 Try.sizeOf33 rfl rfl rfl rfl (by repeat (first | exact List.Mem.head _ | apply List.Mem.tail)) (hl45 _) ?_)
  refine RL.storeW Try.sizeOf33 rfl rfl rfl rfl rfl rfl rfl (cf_ones _ rfl) (by repeat (first | exact Upd.here | apply Upd.there)) (hl45 _) rfl ?_
  refine RL.nil (NQ.seq (CW.ret (RQ.rea (fun _ h => h) (H' := [own ob1 cap1 57 48 c.few.L.length ((c.L.take 12).flatMap Sr.cells), cel b2 (c.cells (slO ob1 c.few.L.length cap1)) 33]) (by repeat (first | exact Rea.nil | (apply Rea.cons; (solve | (repeat (first | exact Del.here | apply Del.there)))))) ?_)))
  exact RQ.post (resW rfl rfl Try.isAgg33 Try.sizeOf33 (by repeat (first | exact List.Mem.head _ | apply List.Mem.tail)) (hl45 _)) (.keep (Split.none _)) ⟨ob1, cap1, rfl, rfl, rfl⟩
theorem lplain_any (c : Cf) (oa : Option Nat) (ca n : Nat) (hn : c.L.length = n) (hc : c.cm.length = 32) (hL : ∀ s ∈ c.L, s.rt.length = 32) (hl : n ≤ 12) :
    Spc Try.prog 8 #[.agg (c.cells (slO oa n ca)).toArray] [sls (oa.map fun b => ⟨b, 0, none⟩) 48 n (c.L.flatMap Sr.cells)] [] (CfR 46 c) := by
  subst hn
  have hLl : ∀ s ∈ c.L, s.cells.length = 48 := fun s hs => sr_len (hL s hs)
  have hl45 := fun sl => cf_len hc sl
  refine Spc.enter Try.func8 rfl rfl rfl (fun w0 hw0 => ?_)
  refine CW.seq (CW.region (ef := [0, 1]) (bk := []) (RL.box rfl rfl rfl rfl rfl rfl ?_))
  intro b1
  refine RL.alloc Try.zeroValue38 rfl rfl rfl rfl rfl ?_
  intro b2
  refine RL.nil (NQ.seq (CW.seq (CW.freezeP (A := [cel b1 (c.cells (slO oa c.L.length ca)) 33]) (B := [cel b2 (zeroC.cells (.slice none 0 0)) 38]) (by repeat (first | exact Pick.nil | apply Pick.take | apply Pick.leave)) rfl ?_)))
  simp only [List.cons_append, List.nil_append]
  generalize hJ : ([cel b1 (c.cells (slO oa c.L.length ca)) 33, sls (oa.map fun b => ⟨b, 0, none⟩) 48 c.L.length (c.L.flatMap Sr.cells)] : List It) = J
  have m1 : cel b1 (c.cells (slO oa c.L.length ca)) 33 ∈ J := by rw [← hJ]; exact (by repeat (first | exact List.Mem.head _ | apply List.Mem.tail))
  have m2 : sls (oa.map fun b => ⟨b, 0, none⟩) 48 c.L.length (c.L.flatMap Sr.cells) ∈ J := by rw [← hJ]; exact (by repeat (first | exact List.Mem.head _ | apply List.Mem.tail))
  clear hJ
  have fS : RdI J ⟨b1, 0 + 0, none⟩ (slO oa c.L.length ca) := ⟨fun _ => Rd.celI m1 rfl⟩
  have fG : RdsN J ⟨b1, 0 + 1, none⟩ 3 [.int .i64 c.g0, .int .i64 c.g1, .int .i64 c.g2] := RdsN.told m1 (fun j u hj => by
    match j, hj with
    | 0, hj => exact hj
    | 1, hj => exact hj
    | 2, hj => exact hj
    | j + 3, hj => simp at hj) rfl
  have fD : RdI J ⟨b1, 0 + 4, none⟩ (.int .i64 c.dr) := ⟨fun _ => Rd.celI m1 rfl⟩
  have q0 : RdI J ⟨b1, 0 + 5 + 0, none⟩ (.int .i64 c.sc.st) := ⟨fun _ => Rd.celI m1 rfl⟩
  have q1 : RdI J ⟨b1, 0 + 5 + 1, none⟩ (.int .i64 c.sc.ln) := ⟨fun _ => Rd.celI m1 rfl⟩
  have q2 : RdI J ⟨b1, 0 + 5 + 2, none⟩ (.int .i64 c.sc.lg) := ⟨fun _ => Rd.celI m1 rfl⟩
  have q3 : RdI J ⟨b1, 0 + 5 + 3, none⟩ (.int .i64 c.sc.of) := ⟨fun _ => Rd.celI m1 rfl⟩
  have hb : (bytes c.cm).length = 32 := by rw [List.length_map, hc]
  have qC : RdsN J ⟨b1, 0 + 9, none⟩ 32 (bytes c.cm) := RdsN.told m1 (fun j u hj => by
    rw [show 0 + 9 + j = j + 1 + 1 + 1 + 1 + 1 + 1 + 1 + 1 + 1 by omega, Cf.cells]
    simp only [List.getElem?_cons_succ]
    rw [List.getElem?_append_left (List.getElem?_eq_some_iff.1 hj).1]; exact hj) hb
  have f1 : RdI J ⟨b1, 0 + 41, none⟩ (.int .i64 c.mo) := ⟨fun _ => Rd.getI m1 (cf_t hc _ 0)⟩
  have f2 : RdI J ⟨b1, 0 + 42, none⟩ (.int .i64 c.ti) := ⟨fun _ => Rd.getI m1 (cf_t hc _ 1)⟩
  have f3 : RdI J ⟨b1, 0 + 43, none⟩ (.int .i64 c.gr) := ⟨fun _ => Rd.getI m1 (cf_t hc _ 2)⟩
  have f4 : RdI J ⟨b1, 0 + 44, none⟩ (.int .u64 c.sd) := ⟨fun _ => Rd.getI m1 (cf_t hc _ 3)⟩
  refine CW.region (ef := [28, 29]) (bk := [29]) (RL.fieldAddr fa_33_1 rfl rfl rfl rfl (RL.loadSq Try.isAgg26 Try.sizeOf26 rfl rfl rfl rfl ?_))
  refine RL.fieldAddr fa_33_2 rfl rfl rfl rfl (RL.loadq Try.isAgg24 rfl rfl rfl rfl ?_)
  refine RL.fieldAddr fa_33_3 rfl rfl rfl rfl (RL.fieldAddr fa_28_0 rfl rfl rfl rfl (RL.loadq Try.isAgg3 rfl rfl rfl rfl ?_))
  refine RL.fieldAddr fa_33_3 rfl rfl rfl rfl (RL.fieldAddr fa_28_1 rfl rfl rfl rfl (RL.loadq Try.isAgg3 rfl rfl rfl rfl ?_))
  refine RL.fieldAddr fa_33_3 rfl rfl rfl rfl (RL.fieldAddr fa_28_2 rfl rfl rfl rfl (RL.loadq Try.isAgg3 rfl rfl rfl rfl ?_))
  refine RL.fieldAddr fa_33_3 rfl rfl rfl rfl (RL.fieldAddr fa_28_3 rfl rfl rfl rfl (RL.loadq Try.isAgg3 rfl rfl rfl rfl ?_))
  refine RL.buildS [_, _, _, _] Try.zeroValue36 pl_36 rfl rfl rfl rfl rfl (RL.fieldAddr fa_33_4 rfl rfl rfl rfl (RL.loadSq Try.isAgg30 Try.sizeOf30 rfl rfl rfl rfl ?_))
  refine RL.fieldAddr fa_33_5 rfl rfl rfl rfl (RL.loadq Try.isAgg3 rfl rfl rfl rfl ?_)
  refine RL.fieldAddr fa_33_6 rfl rfl rfl rfl (RL.loadq Try.isAgg3 rfl rfl rfl rfl ?_)
  refine RL.fieldAddr fa_33_7 rfl rfl rfl rfl (RL.loadq Try.isAgg3 rfl rfl rfl rfl ?_)
  refine RL.fieldAddr fa_33_8 rfl rfl rfl rfl (RL.loadq Try.isAgg31 rfl rfl rfl rfl ?_)
  refine RL.buildS (c.cells (.slice none 0 0)) Try.zeroValue38 pl_38 rfl rfl rfl rfl (fill_cf hc rfl) (RL.alloc Try.zeroValue38 rfl rfl rfl rfl rfl ?_)
  intro b3
  refine RL.storeW Try.sizeOf38 rfl rfl rfl rfl rfl rfl rfl (cf_ones _ rfl) (by repeat (first | exact Upd.here | apply Upd.there)) (hl45 _) rfl ?_
  refine RL.nil (NQ.seq (CW.ok [1, 2, 3] rfl (CW.seq (CW.seq (CW.rg (RL.p rfl (RL.nil (NQ.seq (CW.block (CW.ownNone (e := 46) 48 ?_))))))))))
  refine CW.loop (γ := Nat × Option Nat × Nat) (fun g => g.1 ≤ c.L.length) (fun g => [(1, .pointer (some ⟨b1, 0, none⟩)), (2, .pointer (some ⟨b2, 0, none⟩)), (3, .pointer (some ⟨b3, 0, none⟩)), (4, .int .i64 (g.1 : Int))]) (fun _ => J)
    (fun g => [cel b3 (c.cells (slO g.2.1 g.1 g.2.2)) 38, own g.2.1 g.2.2 46 48 g.1 ((c.L.take g.1).flatMap Sr.cells), cel b2 (zeroC.cells (.slice none 0 0)) 38]) (fun g => c.L.length - g.1) (0, none, 0) (Nat.zero_le _) (.cons rfl (.cons rfl (.cons rfl (.cons rfl .nil)))) (fun w h => h.rea (fun _ h => h) (by repeat (first | exact Rea.nil | (apply Rea.cons; (solve | (repeat (first | exact Del.here | apply Del.there))))))) ?_
  rintro ⟨i, ob, cp⟩ hi
  dsimp only at hi ⊢
  refine CW.fact (p := oa = none → c.L.length = 0) (fun w hC e => sls_nil (hC.s.i _ m2) (by rw [e]; rfl)) (fun hpa => ?_)
  refine CW.seq (CW.seq (CW.rg (RL.p rfl (RL.fieldAddr fa_33_0 rfl rfl rfl rfl (RL.loadq Try.isAgg23 rfl rfl rfl rfl ?_)))))
  refine RL.lenS Try.runUnderlying23 rfl rfl rfl rfl (RL.p rfl (RL.p rfl ?_))
  apply RL.andB (d := 38) (dp := 41) (l' := (Sq.of [])) rfl (sK [1, 2, 3, 4] rfl)
  ·
    intro hb6 K6
    refine RL.p rfl (RL.p rfl (RL.p rfl ?_))
    exact K6 _ (.cons rfl (sK [1, 2, 3, 4] rfl))
  ·
    intro hb6 K6
    refine RL.p rfl (RL.p rfl (RL.p rfl ?_))
    exact K6 _ (.cons rfl (sK [1, 2, 3, 4] rfl))
  refine RL.nil (NQ.seq ?_)
  refine CW.cond rfl (fun hlt => ?_) (fun hlt => ?_)
  ·
    have hlt : i < c.L.length := by simp at hlt; omega
    cases oa with
    | none => exact absurd (hpa rfl) (by omega)
    | some ba =>
    have hx := List.getElem?_eq_getElem hlt
    have htk : c.L.take (i + 1) = c.L.take i ++ [c.L[i]] := by rw [List.take_add_one, hx]; rfl
    generalize c.L[i] = s at hx htk
    have hs := hL s (List.mem_of_getElem? hx)
    have hsl := hLl s (List.mem_of_getElem? hx)
    have fE : RdsN J ⟨ba, 0 + i * 48, none⟩ 48 s.cells := flat_rdsN (f := Sr.cells) m2 hx hLl
    refine CW.skip (NQ.seq (CW.seq (CW.block (CW.regionD (Sq.of [0, 1, 2, 3, 4, 5, 6, 7, 8, 9, 10, 11]) [8, 9, 11] [9, 11] [0, 2, 3, 4, 5, 6, 7, 10] mixed (by kernel_rfl) ?_))))
    refine RL.fieldAddr fa_38_0 rfl rfl rfl rfl (RL.load Try.isAgg35 rfl rfl rfl rfl (Rd.cel (by repeat (first | exact List.Mem.head _ | apply List.Mem.tail)) rfl) ?_)
    refine RL.fieldAddr fa_33_0 rfl rfl rfl rfl (RL.loadTq Try.isAgg23 rfl rfl rfl rfl ?_)
    refine RL.p rfl (RL.idxAt (j := i) Try.runUnderlying23 Try.sizeOf57 rfl rfl rfl rfl rfl rfl (hlt) (RL.loadSTq Try.isAgg57 Try.sizeOf57 rfl rfl rfl rfl ?_))
    refine RL.callTq (lsource s hs) Try.call21 rfl rfl rfl rfl ?_
    refine RL.buildSlice s.cells Try.runUnderlying35 Try.sizeOf46 Try.zeroValue46 rfl rfl (by decide) (by decide) rfl rfl rfl rfl rfl (fill_one48 hsl rfl) ?_
    intro b4
    refine RL.appendA el_35 rfl rfl rfl rfl rfl rfl rfl (by first | exact ⟨(.take (Pick.none _)), rfl⟩ | exact ⟨(.leave (.take (Pick.none _))), rfl⟩ | exact ⟨(.leave (.leave (.take (Pick.none _)))), rfl⟩ | exact ⟨(.leave (.leave (.leave (.take (Pick.none _))))), rfl⟩ | exact ⟨(.leave (.leave (.leave (.leave (.take (Pick.none _)))))), rfl⟩ | exact ⟨(.leave (.leave (.leave (.leave (.leave (.take (Pick.none _))))))), rfl⟩ | exact ⟨(.leave (.leave (.leave (.leave (.leave (.leave (.take (Pick.none _)))))))), rfl⟩ | exact ⟨(.leave (.leave (.leave (.leave (.leave (.leave (.leave (.take (Pick.none _))))))))), rfl⟩ | exact ⟨(.leave (.leave (.leave (.leave (.leave (.leave (.leave (.leave (.take (Pick.none _)))))))))), rfl⟩ | exact ⟨(.leave (.leave (.leave (.leave (.leave (.leave (.leave (.leave (.leave (.take (Pick.none _))))))))))), rfl⟩) (Src.cel (cs := s.cells) (by repeat (first | exact List.Mem.head _ | apply List.Mem.tail)) hsl) (ones_spec (sr_ones s)) (by first | omega | (simp only [maxLen]; omega)) (by first | omega | (simp only [maxLen]; omega)) ?_
    intro ob1 cap1 ho1
    refine RL.fieldAddr fa_38_0 rfl rfl rfl rfl (RL.storeX (vs := [_]) cf_set Try.sizeOf35 rfl rfl rfl rfl rfl rfl rfl rfl (by repeat (first | exact Upd.here | apply Upd.there)) (by rw [hl45]; show 0 + 0 + 1 ≤ 45; decide) ?_)
    refine RL.nil (NQ.block (NQ.seq (CW.ok [1, 2, 3, 4] rfl (CW.rg (RL.p rfl (RL.bx rfl (wrapV_i64 (by omega) (by omega)) ?_))))))
    refine RL.p rfl (RL.nil ?_)
    refine NQ.round (g := (i, ob, cp)) (i + 1, ob1, cap1) hlt (by show c.L.length - (i + 1) < c.L.length - i; omega) (.cons rfl (.cons rfl (.cons rfl (.cons rfl .nil)))) (fun w h => h.rea (H' := [cel b3 (c.cells (slO ob1 (i + 1) cap1)) 38, own ob1 cap1 46 48 (i + 1) ((c.L.take (i + 1)).flatMap Sr.cells), cel b2 (zeroC.cells (.slice none 0 0)) 38]) (fun _ h => h) (by rw [htk, List.flatMap_append, List.flatMap_cons, List.flatMap_nil, List.append_nil]; exact (by repeat (first | exact Rea.nil | (apply Rea.cons; (solve | (repeat (first | exact Del.here | apply Del.there))))))))
  ·
    have hin : i = c.L.length := by simp at hlt; omega
    subst hin
    rw [List.take_length]
    refine CW.exit (XQ.seq (XQ.seq (XQ.hit (NQ.seq (CW.seq (CW.region (ef := [1]) (bk := [1]) (RL.loadW Try.isAgg38 Try.sizeOf38 rfl rfl rfl rfl (by repeat (first | exact List.Mem.head _ | apply List.Mem.tail)) (hl45 _) ?_)))))))
    refine RL.storeW Try.sizeOf38 rfl rfl rfl rfl rfl rfl rfl (cf_ones _ rfl) (by repeat (first | exact Upd.here | apply Upd.there)) (hl45 _) rfl ?_
    refine RL.nil (NQ.seq (CW.ret (RQ.rea (fun _ h => h) (H' := [own ob cp 46 48 c.L.length (c.L.flatMap Sr.cells), cel b2 (c.cells (slO ob c.L.length cp)) 38]) (by repeat (first | exact Rea.nil | (apply Rea.cons; (solve | (repeat (first | exact Del.here | apply Del.there)))))) ?_)))
    exact RQ.post (resW rfl rfl Try.isAgg38 Try.sizeOf38 (by repeat (first | exact List.Mem.head _ | apply List.Mem.tail)) (hl45 _)) (.keep (Split.none _)) ⟨ob, cp, rfl, rfl, rfl⟩
end Go.Proofs.Ytbdnebedmdoehaa
