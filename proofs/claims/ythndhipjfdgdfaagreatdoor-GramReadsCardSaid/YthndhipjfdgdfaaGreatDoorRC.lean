import Derived.Test.YthndhipjfdgdfaaGreatDoorRB
import Derived.Test.YthndhipjfdgdfaaGreatDoorUD
import Derived.Test.YthndhipjfdgdfaaGreatDoorXA
set_option linter.unusedVariables false
set_option linter.unusedSimpArgs false
namespace Go.Proofs.YthndhipjfdgdfaaGreatDoor
open Go.PK
/-! ### The reference reads a source -/
theorem nums2 {a b : Tx} : numsL [a, b] = match numT a, numT b with
    | some x, some y => some [x, y]
    | _, _ => none := by
  cases ha : numT a <;> cases hb : numT b <;> simp [numsL, ha, hb]
def SrcR (ws : List Tx) : Value → List It → List It → Prop := fun v I' H' => ∃ r : Sr, r.rt.length = 32 ∧ v = .tuple #[.agg r.cells.toArray, .bool (srcT ws).isSome] ∧ (∀ s, srcT ws = some s → r = s) ∧ I' = [] ∧ H' = []
abbrev zSr : Sr := ⟨0, 0, List.replicate 32 0#8, 0, 0, 0, 0, ⟨0, 0, 0, 0, 0, 0, 0, 0, 0, 0⟩⟩
theorem SrcR.no {ws : List Tx} (h : srcT ws = none) : SrcR ws (.tuple #[.agg zSr.cells.toArray, .bool false]) [] [] := by
  refine ⟨zSr, rfl, ?_, fun s hs => ?_, rfl, rfl⟩
  · rw [h]; rfl
  · rw [h] at hs; cases hs
theorem nms_none {ws : List Tx} {n : Nat} (h : numsL ws = none) : NmsR ws n = fun v I' H' => ∃ ob cap, v = .tuple #[slO ob 0 cap, .bool false] ∧ I' = [] ∧ H' = [own ob cap 2 1 0 []] := by
  funext v I' H'; unfold NmsR; rw [h]; rfl
theorem nms_some {ws : List Tx} {n : Nat} {l : List Int} (h : numsL ws = some l) : NmsR ws n = fun v I' H' => ∃ ob cap, v = .tuple #[slO ob l.length cap, .bool (decide (ws.length = n))] ∧ I' = [] ∧ H' = [own ob cap 2 1 l.length (i64s l)] := by
  funext v I' H'; unfold NmsR; rw [h]; simp
theorem spl_behind : ∀ (A B : List Value) (j : Nat) (vs : List Value), spl (A ++ B) (A.length + j) vs = A ++ spl B j vs
  | [], B, j, vs => by rw [List.nil_append, List.length_nil, Nat.zero_add, List.nil_append]
  | a :: A, B, j, vs => by
    have h := spl_behind A B j vs
    rw [List.length_cons, Nat.add_right_comm, List.cons_append, List.cons_append, ← h]
    rfl
theorem set_tl {s s' : Sr} {j o : Nat} {v : Value} (h : s.rt.length = 32) (ho : o = 34 + j) (e1 : s'.id = s.id) (e2 : s'.kd = s.kd) (e3 : s'.rt = s.rt) (et : spl s.tl j [v] = s'.tl) : spl s.cells o [v] = s'.cells := by
  subst ho
  have e0 : ∀ s : Sr, s.cells = ([.int .i64 s.id, .int .i64 s.kd] ++ bytes s.rt) ++ s.tl := fun s => rfl
  have hl : ([.int .i64 s.id, .int .i64 s.kd] ++ bytes s.rt : List Value).length = 34 := by simp [h]
  rw [e0 s, e0 s', e1, e2, e3, ← et]
  generalize ([.int .i64 s.id, .int .i64 s.kd] ++ bytes s.rt : List Value) = A at hl
  rw [← hl]
  exact spl_behind A s.tl j [v]
theorem numsL_len' : ∀ {ws : List Tx} {l : List Int}, numsL ws = some l → l.length = ws.length
  | [], l, h => by rw [← Option.some.inj h]; rfl
  | s :: r, l, h => by
    cases hv : numT s with
    | none => rw [nuNone hv] at h; cases h
    | some v =>
      rw [nuSome hv] at h
      cases hr : numsL r with
      | none => rw [hr] at h; cases h
      | some l' => rw [hr] at h; rw [← Option.some.inj h]; simp [numsL_len' hr]
theorem src_no1 {a b k : Tx} {r : List Tx} (h : numsL [a, b] = none) : srcT (a :: b :: k :: r) = none := by
  rw [nums2] at h
  rw [srcT]
  cases ha : numT a <;> cases hb : numT b <;> rw [ha, hb] at h <;> first | rfl | cases h
theorem src_no2 {a b k : Tx} {r : List Tx} (h : keyT k = none) : srcT (a :: b :: k :: r) = none := by
  rw [srcT]
  cases ha : numT a <;> cases hb : numT b <;> simp [h]
theorem nums2_some {a b : Tx} {l : List Int} (h : numsL [a, b] = some l) : ∃ x y, numT a = some x ∧ numT b = some y ∧ l = [x, y] := by
  rw [nums2] at h
  cases ha : numT a with
  | none => rw [ha] at h; cases h
  | some x =>
    cases hb : numT b with
    | none => rw [ha, hb] at h; cases h
    | some y => rw [ha, hb] at h; exact ⟨x, y, rfl, rfl, (Option.some.inj h).symm⟩
theorem rsource_any (ws : List Tx) (p : Option Addr) (c m : Nat) (hm : ws.length = m) (hc : m ≤ c) (hb : m ≤ 1000000) : Spc Tryz.prog 82 #[.slice p m c] [sls p 1 m (ws.map strV)] [] (SrcR ws) := by
  subst hm
  refine Spc.enter Tryz.func82 rfl rfl rfl (fun w0 hw0 => ?_)
  refine CW.seq (CW.region (ef := [0]) (bk := []) (RL.alloc Tryz.zeroValue108 rfl rfl rfl rfl rfl ?_))
  intro b1
  refine RL.p rfl (RL.nil (NQ.seq (CW.seq (CW.seq ?_))))
  refine CW.genI (fun J hJ => ?_)
  have m2 : sls p 1 ws.length (ws.map strV) ∈ J := hJ _ (by simp)
  clear hJ
  refine CW.fact (p := p = none → ws.length = 0) (fun w hC e => sls_nil (hC.s.i _ m2) e) (fun hpa => ?_)
  refine CW.rg (RL.p rfl (RL.lenS Tryz.runUnderlying62 rfl rfl rfl rfl (RL.p rfl (RL.nil (NQ.seq ?_)))))
  refine CW.cond rfl (fun hl => ?_) (fun hl => ?_)
  · have hl' : ws.length < 3 := by simp at hl; omega
    have hT : srcT ws = none := by
      match ws, hl' with
      | [], _ => rfl
      | [_], _ => rfl
      | [_, _], _ => rfl
    refine CW.seq (CW.region (ef := [1]) (bk := [1]) (RL.buildS _ Tryz.zeroValue108 pl_108 rfl rfl rfl rfl rfl (RL.storeWq Tryz.sizeOf108 rfl rfl rfl rfl rfl rfl rfl ?_)))
    refine RL.p rfl (RL.nil (NQ.seq (CW.ret (RQ.seq ?_))))
    exact RQ.post (resWT rfl rfl rfl Tryz.isAgg108 Tryz.sizeOf108 (by repeat (first | exact List.Mem.head _ | apply List.Mem.tail)) rfl) (Split.none _) (SrcR.no hT)
  ·
    have hl' : 3 ≤ ws.length := by simp at hl; omega
    obtain ⟨a, b, k, r, rfl⟩ : ∃ a b k r, ws = a :: b :: k :: r := by
      match ws, hl' with
      | a :: b :: k :: r, _ => exact ⟨a, b, k, r, rfl⟩
    cases p with
    | none => exact absurd (hpa rfl) (by simp)
    | some q =>
    clear hl hpa
    generalize hn : (a :: b :: k :: r).length = n at hc hb m2 hl' ⊢
    have hrn : r.length + 3 = n := by rw [← hn]; rfl
    have fK : RdI J (q.add (2 * 1)) (strV k) := ⟨fun H => Rd.getS (H := H) (v := strV k) (j := 2 * 1) m2 rfl⟩
    have lA : ∀ H, Lend J H [sls (if c = 0 then some q else (some q).map (·.add (0 * 1))) 1 (2 - 0) ([a, b].map strV)] := fun H => Lend.subP (lo := 0) (k := 2 - 0) m2 (by omega) hc .nil
    have hnu := rnums_any [a, b] (if c = 0 then some q else (some q).map (·.add (0 * 1))) (c - 0) (2 - 0) 2 rfl (by decide)
    have hky := rkey_any k
    cases hL : numsL [a, b] with
    | none =>
      have hT : srcT (a :: b :: k :: r) = none := src_no1 hL
      rw [nms_none hL] at hnu
      have hkx : ((keyT k).getD (List.replicate 32 0#8)).length = 32 := by
        cases h : keyT k with
        | none => rfl
        | some x => rw [keyT] at h; split at h; · rw [← Option.some.inj h]; simp [keyB]
                    · cases h
      have hkb : (bytes ((keyT k).getD (List.replicate 32 0#8))).length = 32 := by rw [List.length_map, hkx]
      refine CW.skip (NQ.seq (CW.seq (CW.region (ef := [2]) (bk := []) (RL.p rfl (RL.slice (lo := 0) (hi := 2) Tryz.runUnderlying62 Tryz.sizeOf9 rfl rfl rfl rfl rfl rfl (by omega) (by omega) ?_)))))
      refine RL.call (hnu) Tryz.call86 rfl rfl rfl rfl rfl (by repeat (first | exact Pick.nil | apply Pick.take | apply Pick.leave)) (lA _) (.inl rfl) ?_
      rintro _ _ _ ⟨o1, c1, rfl, rfl, rfl⟩
      refine RL.p rfl (RL.p rfl (RL.p rfl (RL.p rfl (RL.p rfl (RL.nil (NQ.seq (CW.ok [0, 2, 4, 5] rfl (CW.seq (CW.region (ef := [7, 8]) (bk := [8]) (RL.p rfl (RL.idx (j := 2) Tryz.runUnderlying62 Tryz.sizeOf9 rfl rfl rfl rfl rfl rfl (by omega) ?_)))))))))))
      refine RL.loadq Tryz.isAgg9 rfl rfl rfl rfl ?_
      refine RL.callv (hky) Tryz.call84 rfl rfl rfl rfl .nil (RL.p rfl (RL.p rfl (RL.p rfl (RL.alloc (cs := List.replicate 32 (U8 0#8)) Tryz.zeroValue29 rfl rfl rfl rfl rfl ?_))))
      intro b2
      refine RL.storeWq Tryz.sizeOf29 rfl rfl rfl rfl rfl rfl rfl ?_
      refine RL.p rfl (RL.nil (NQ.seq (CW.ok [0, 2, 4, 5, 6, 7] rfl (CW.seq (CW.seq (CW.rg (RL.p rfl (RL.p rfl (RL.p rfl ?_)))))))))
      apply RL.orB (d := 29) (dp := 32) (l' := (Sq.of [])) rfl (sK [0, 2, 4, 5, 6] rfl)
      ·
        intro hb3 K3
        refine RL.p rfl (RL.p rfl (RL.p rfl ?_))
        exact K3 _ (.cons rfl (sK [0, 2, 4, 5, 6] rfl))
      ·
        intro hb3 K3
        refine RL.p rfl (RL.p rfl (RL.p rfl ?_))
        exact K3 _ (.cons rfl (sK [0, 2, 4, 5, 6] rfl))
      refine RL.nil (NQ.seq (CW.condT rfl ((by rfl)) ?_))
      refine CW.seq (CW.region (ef := [1]) (bk := [1]) (RL.buildS _ Tryz.zeroValue108 pl_108 rfl rfl rfl rfl rfl (RL.storeWq Tryz.sizeOf108 rfl rfl rfl rfl rfl rfl rfl ?_)))
      refine RL.p rfl (RL.nil (NQ.seq (CW.ret (RQ.seq ?_))))
      exact RQ.post (resWT rfl rfl rfl Tryz.isAgg108 Tryz.sizeOf108 (by repeat (first | exact List.Mem.head _ | apply List.Mem.tail)) rfl) (Split.none _) (SrcR.no hT)
    | some l =>
      obtain ⟨x, y, hx, hy, rfl⟩ := nums2_some hL
      rw [nms_some hL] at hnu
      cases hK : keyT k with
      | none =>
        have hT : srcT (a :: b :: k :: r) = none := src_no2 hK
        rw [keyP, hK] at hky
        refine CW.skip (NQ.seq (CW.seq (CW.region (ef := [2]) (bk := []) (RL.p rfl (RL.slice (lo := 0) (hi := 2) Tryz.runUnderlying62 Tryz.sizeOf9 rfl rfl rfl rfl rfl rfl (by omega) (by omega) ?_)))))
        refine RL.call (hnu) Tryz.call86 rfl rfl rfl rfl rfl (by repeat (first | exact Pick.nil | apply Pick.take | apply Pick.leave)) (lA _) (.inl rfl) ?_
        rintro _ _ _ ⟨o1, c1, rfl, rfl, rfl⟩
        refine RL.p rfl (RL.p rfl (RL.p rfl (RL.p rfl (RL.p rfl (RL.nil (NQ.seq (CW.ok [0, 2, 4, 5] rfl (CW.seq (CW.region (ef := [7, 8]) (bk := [8]) (RL.p rfl (RL.idx (j := 2) Tryz.runUnderlying62 Tryz.sizeOf9 rfl rfl rfl rfl rfl rfl (by omega) ?_)))))))))))
        refine RL.loadq Tryz.isAgg9 rfl rfl rfl rfl ?_
        refine RL.callv (hky) Tryz.call84 rfl rfl rfl rfl .nil (RL.p rfl (RL.p rfl (RL.p rfl (RL.alloc (cs := List.replicate 32 (U8 0#8)) Tryz.zeroValue29 rfl rfl rfl rfl rfl ?_))))
        intro b2
        refine RL.storeWq Tryz.sizeOf29 rfl rfl rfl rfl rfl rfl rfl ?_
        refine RL.p rfl (RL.nil (NQ.seq (CW.ok [0, 2, 4, 5, 6, 7] rfl (CW.seq (CW.seq (CW.rg (RL.p rfl (RL.p rfl (RL.p rfl ?_)))))))))
        apply RL.orB (d := 29) (dp := 32) (l' := (Sq.of [])) rfl (sK [0, 2, 4, 5, 6] rfl)
        ·
          intro hb3 K3
          refine RL.p rfl (RL.p rfl (RL.p rfl ?_))
          exact K3 _ (.cons rfl (sK [0, 2, 4, 5, 6] rfl))
        ·
          intro hb3 K3
          refine RL.p rfl (RL.p rfl (RL.p rfl ?_))
          exact K3 _ (.cons rfl (sK [0, 2, 4, 5, 6] rfl))
        refine RL.nil (NQ.seq (CW.condT rfl ((by rfl)) ?_))
        refine CW.seq (CW.region (ef := [1]) (bk := [1]) (RL.buildS _ Tryz.zeroValue108 pl_108 rfl rfl rfl rfl rfl (RL.storeWq Tryz.sizeOf108 rfl rfl rfl rfl rfl rfl rfl ?_)))
        refine RL.p rfl (RL.nil (NQ.seq (CW.ret (RQ.seq ?_))))
        exact RQ.post (resWT rfl rfl rfl Tryz.isAgg108 Tryz.sizeOf108 (by repeat (first | exact List.Mem.head _ | apply List.Mem.tail)) rfl) (Split.none _) (SrcR.no hT)
      | some rt =>
        rw [keyP, hK] at hky
        have hrt : rt.length = 32 := by
          rw [keyT] at hK
          split at hK
          · rw [← Option.some.inj hK]; simp [keyB]
          · cases hK
        have hrb : (bytes rt).length = 32 := by rw [List.length_map, hrt]
        refine CW.skip (NQ.seq (CW.seq (CW.region (ef := [2]) (bk := []) (RL.p rfl (RL.slice (lo := 0) (hi := 2) Tryz.runUnderlying62 Tryz.sizeOf9 rfl rfl rfl rfl rfl rfl (by omega) (by omega) ?_)))))
        refine RL.call (hnu) Tryz.call86 rfl rfl rfl rfl rfl (by repeat (first | exact Pick.nil | apply Pick.take | apply Pick.leave)) (lA _) (.inl rfl) ?_
        rintro _ _ _ ⟨o1, c1, rfl, rfl, rfl⟩
        refine RL.p rfl (RL.p rfl (RL.p rfl (RL.p rfl (RL.p rfl (RL.nil (NQ.seq (CW.ok [0, 2, 4, 5] rfl (CW.seq (CW.region (ef := [7, 8]) (bk := [8]) (RL.p rfl (RL.idx (j := 2) Tryz.runUnderlying62 Tryz.sizeOf9 rfl rfl rfl rfl rfl rfl (by omega) ?_)))))))))))
        refine RL.loadq Tryz.isAgg9 rfl rfl rfl rfl ?_
        refine RL.callv (hky) Tryz.call84 rfl rfl rfl rfl .nil (RL.p rfl (RL.p rfl (RL.p rfl (RL.alloc (cs := List.replicate 32 (U8 0#8)) Tryz.zeroValue29 rfl rfl rfl rfl rfl ?_))))
        intro b2
        refine RL.storeWq Tryz.sizeOf29 rfl rfl rfl rfl rfl rfl rfl ?_
        refine RL.p rfl (RL.nil (NQ.seq (CW.ok [0, 2, 4, 5, 6, 7] rfl (CW.seq (CW.seq (CW.rg (RL.p rfl (RL.p rfl (RL.p rfl ?_)))))))))
        apply RL.orB (d := 29) (dp := 32) (l' := (Sq.of [])) rfl (sK [0, 2, 4, 5, 6] rfl)
        ·
          intro hb3 K3
          refine RL.p rfl (RL.p rfl (RL.p rfl ?_))
          exact K3 _ (.cons rfl (sK [0, 2, 4, 5, 6] rfl))
        ·
          intro hb3 K3
          refine RL.p rfl (RL.p rfl (RL.p rfl ?_))
          exact K3 _ (.cons rfl (sK [0, 2, 4, 5, 6] rfl))
        refine RL.nil (NQ.seq (CW.condF rfl ((by rfl)) ?_))
        refine CW.skip (NQ.seq (CW.seq (CW.freezeP (A := [cel b2 (bytes rt) 29, own o1 c1 2 1 2 (i64s [x, y])]) (B := [cel b1 zSr.cells 108]) (by repeat (first | exact Pick.nil | apply Pick.take | apply Pick.leave)) rfl ?_)))
        refine CW.genI (fun J3 hJ => ?_)
        have h3 : ∀ z ∈ J, z ∈ J3 := fun z hz => hJ z (by simp [hz])
        have n1 : own o1 c1 2 1 2 (i64s [x, y]) ∈ J3 := hJ _ (by simp)
        have n2 : cel b2 (bytes rt) 29 ∈ J3 := hJ _ (by simp)
        clear hJ lA fK
        have m2 := h3 _ m2
        refine CW.fact (p := o1.isSome = true) (fun w hC => ?_) (fun ho1 => ?_)
        · have h := hC.s.i _ n1
          cases o1 with
          | none => have := own_none h; omega
          | some b => rfl
        obtain ⟨bo, rfl⟩ := Option.isSome_iff_exists.1 ho1
        have f0 : RdI J3 ⟨bo, 0 + 0 * 1, none⟩ (.int .i64 x) := ownRdI n1 rfl
        have f1 : RdI J3 ⟨bo, 0 + 1 * 1, none⟩ (.int .i64 y) := ownRdI n1 rfl
        have fk : RdsN J3 ⟨b2, 0, none⟩ 32 (bytes rt) := RdsN.told n2 (fun j u hu => by rw [Nat.zero_add]; exact hu) hrb
        have hsl : ∀ s : Sr, s.rt = rt → s.cells.length = 48 := fun s h => sr_len (by rw [h, hrt])
        refine CW.regionD (Sq.of [0, 1, 2, 3, 4, 5, 6, 7, 8, 9]) [8, 9] [9] [0, 1, 2, 3, 4, 5, 6, 7] mixed (by kernel_rfl) ?_
        refine RL.p rfl (RL.idxAt (j := 0) Tryz.runUnderlying189 Tryz.sizeOf2 rfl rfl rfl rfl rfl rfl (Nat.le_of_ble_eq_true rfl) (RL.loadTq Tryz.isAgg2 rfl rfl rfl rfl ?_))
        refine RL.p rfl (RL.idxAt (j := 1) Tryz.runUnderlying189 Tryz.sizeOf2 rfl rfl rfl rfl rfl rfl (Nat.le_of_ble_eq_true rfl) (RL.loadTq Tryz.isAgg2 rfl rfl rfl rfl ?_))
        refine RL.loadSTq Tryz.isAgg29 Tryz.sizeOf29 rfl rfl rfl rfl ?_
        refine RL.buildS (Sr.cells ⟨x, y, rt, 0, 0, 0, 0, zW⟩) Tryz.zeroValue108 pl_108 rfl rfl rfl rfl (fill_bare hrt rfl) (RL.alloc Tryz.zeroValue108 rfl rfl rfl rfl rfl ?_)
        intro b3
        refine RL.storeW Tryz.sizeOf108 rfl rfl rfl rfl rfl rfl rfl (sr_ones _) (by repeat (first | exact Upd.here | apply Upd.there)) (hsl _ rfl) rfl ?_
        refine RL.nil (NQ.seq (CW.ok [0, 2, 8] rfl (CW.seq (CW.seq (CW.rg (RL.fieldAddr fa_108_1 rfl rfl rfl rfl (RL.loadq Tryz.isAgg3 rfl rfl rfl rfl ?_)))))))
        refine RL.p rfl (RL.p rfl ?_)
        apply RL.orB (d := 45) (dp := 49) (l' := (Sq.of [])) rfl (sK [0, 2, 8] rfl)
        ·
          intro hb4 K4
          refine RL.fieldAddr fa_108_1 rfl rfl rfl rfl (RL.loadq Tryz.isAgg3 rfl rfl rfl rfl ?_)
          refine RL.p rfl (RL.p rfl ?_)
          exact K4 _ (.cons rfl (sK [0, 2, 8] rfl))
        ·
          intro hb4 K4
          refine RL.p rfl (RL.p rfl (RL.p rfl (RL.p rfl ?_)))
          exact K4 _ (.cons rfl (sK [0, 2, 8] rfl))
        refine RL.nil (NQ.seq ?_)
        refine CW.cond rfl (fun hkd => ?_) (fun hkd => ?_)
        · have ha : ¬ aidB y = true := by simp [aidB] at hkd ⊢; omega
          have hS : srcT (a :: b :: k :: r) = if r = [] then some ⟨x, y, rt, 0, 0, 0, 0, zW⟩ else none := by
            rw [srcT]; simp [hx, hy, hK, ha]
          refine CW.seq (CW.region (ef := [4]) (bk := [4]) (RL.loadW Tryz.isAgg108 Tryz.sizeOf108 rfl rfl rfl rfl (by repeat (first | exact List.Mem.head _ | apply List.Mem.tail)) (hsl _ rfl) ?_))
          refine RL.p rfl (RL.lenS Tryz.runUnderlying62 rfl rfl rfl rfl (RL.p rfl (RL.storeW Tryz.sizeOf108 rfl rfl rfl rfl rfl rfl rfl (sr_ones _) (by repeat (first | exact Upd.here | apply Upd.there)) (hsl _ rfl) rfl ?_)))
          refine RL.p rfl (RL.nil (NQ.seq (CW.ret (RQ.seq ?_))))
          refine RQ.post (resWT rfl rfl rfl Tryz.isAgg108 Tryz.sizeOf108 (by repeat (first | exact List.Mem.head _ | apply List.Mem.tail)) (hsl ⟨x, y, rt, 0, 0, 0, 0, zW⟩ rfl)) (Split.none _) ⟨⟨x, y, rt, 0, 0, 0, 0, zW⟩, hrt, ?_, ?_, rfl, rfl⟩
          · rw [hS]
            congr 3
            by_cases hr : r = []
            · subst hr
              rw [if_pos rfl]
              have : n = 3 := by rw [← hrn]; rfl
              subst this; rfl
            · have := List.length_pos_iff.2 hr
              rw [if_neg hr]
              simp; omega
          · intro s hs
            rw [hS] at hs
            split at hs
            · exact Option.some.inj hs
            · cases hs
        ·
          have ha : aidB y = true := by simp [aidB] at hkd ⊢; omega
          have hS : srcT (a :: b :: k :: r) = match numsL r with
              | some [w, g, st, hz, go, gg, gm, sl, mo, sa, ra, ba, ho, pr] => some ⟨x, y, rt, w, g, st, hz, ⟨go, gg, gm, sl, mo, sa, ra, ba, ho, pr⟩⟩
              | _ => none := by
            rw [srcT]; simp only [hx, hy, hK, ha, if_true]; rfl
          have hrl : r.length = n - 3 := by omega
          have lB : ∀ H, Lend J3 H [sls (if c = 3 then some q else (some q).map (·.add (3 * 1))) 1 (n - 3) (r.map strV)] := fun H => by
            have h := Lend.subP (F := H) (lo := 3) (k := n - 3) m2 (by omega) hc .nil
            have e : (((a :: b :: k :: r).map strV).drop (3 * 1)).take ((n - 3) * 1) = r.map strV := by
              show (r.map strV).take ((n - 3) * 1) = _
              rw [List.take_of_length_le (by rw [List.length_map]; omega)]
            rw [e] at h
            exact h
          have hnv := rnums_any r (if c = 3 then some q else (some q).map (·.add (3 * 1))) (c - 3) (n - 3) 14 hrl (by omega)
          cases hM : numsL r with
          | none =>
            have hT : srcT (a :: b :: k :: r) = none := by rw [hS, hM]
            rw [nms_none hM] at hnv
            refine CW.skip (NQ.seq (CW.seq (CW.region (ef := [2]) (bk := []) (RL.p rfl (RL.slice (lo := 3) (hi := n) Tryz.runUnderlying62 Tryz.sizeOf9 rfl rfl rfl rfl rfl rfl hl' hc (RL.call (hnv) Tryz.call86 rfl rfl rfl rfl rfl (by repeat (first | exact Pick.nil | apply Pick.take | apply Pick.leave)) (lB _) (.inl rfl) ?_))))))
            rintro _ _ _ ⟨o2, c2, rfl, rfl, rfl⟩
            refine RL.p rfl (RL.p rfl (RL.p rfl (RL.p rfl (RL.p rfl (RL.nil (NQ.seq (CW.ok [2, 5, 8, 9] rfl (CW.seq (CW.seq (CW.rg (RL.p rfl (RL.p rfl (RL.nil ?_)))))))))))))
            refine NQ.seq (CW.condT rfl ((by rfl)) ?_)
            refine CW.seq (CW.region (ef := [1]) (bk := [1]) (RL.buildS _ Tryz.zeroValue108 pl_108 rfl rfl rfl rfl rfl (RL.storeWq Tryz.sizeOf108 rfl rfl rfl rfl rfl rfl rfl ?_)))
            refine RL.p rfl (RL.nil (NQ.seq (CW.ret (RQ.seq ?_))))
            exact RQ.post (resWT rfl rfl rfl Tryz.isAgg108 Tryz.sizeOf108 (by repeat (first | exact List.Mem.head _ | apply List.Mem.tail)) rfl) (Split.none _) (SrcR.no hT)
          | some l =>
            have hll := numsL_len' hM
            rw [nms_some hM] at hnv
            refine CW.skip (NQ.seq (CW.seq (CW.region (ef := [2]) (bk := []) (RL.p rfl (RL.slice (lo := 3) (hi := n) Tryz.runUnderlying62 Tryz.sizeOf9 rfl rfl rfl rfl rfl rfl hl' hc (RL.call (hnv) Tryz.call86 rfl rfl rfl rfl rfl (by repeat (first | exact Pick.nil | apply Pick.take | apply Pick.leave)) (lB _) (.inl rfl) ?_))))))
            rintro _ _ _ ⟨o2, c2, rfl, rfl, rfl⟩
            refine RL.p rfl (RL.p rfl (RL.p rfl (RL.p rfl (RL.p rfl (RL.nil (NQ.seq (CW.ok [2, 5, 8, 9] rfl (CW.seq (CW.seq (CW.rg (RL.p rfl (RL.p rfl (RL.nil ?_)))))))))))))
            refine NQ.seq ?_
            refine CW.cond rfl (fun h14 => ?_) (fun h14 => ?_)
            · have h14' : r.length ≠ 14 := by simpa using h14
              have hT : srcT (a :: b :: k :: r) = none := by
                rw [hS, hM]
                match l, hll with
                | [w, g, st, hz, go, gg, gm, sl, mo, sa, ra, ba, ho, pr], hll => exact absurd hll.symm h14'
                | [], _ => rfl
                | [_], _ => rfl
                | [_, _], _ => rfl
                | [_, _, _], _ => rfl
                | [_, _, _, _], _ => rfl
                | [_, _, _, _, _], _ => rfl
                | [_, _, _, _, _, _], _ => rfl
                | [_, _, _, _, _, _, _], _ => rfl
                | [_, _, _, _, _, _, _, _], _ => rfl
                | [_, _, _, _, _, _, _, _, _], _ => rfl
                | [_, _, _, _, _, _, _, _, _, _], _ => rfl
                | [_, _, _, _, _, _, _, _, _, _, _], _ => rfl
                | [_, _, _, _, _, _, _, _, _, _, _, _], _ => rfl
                | [_, _, _, _, _, _, _, _, _, _, _, _, _], _ => rfl
                | _ :: _ :: _ :: _ :: _ :: _ :: _ :: _ :: _ :: _ :: _ :: _ :: _ :: _ :: _ :: _, _ => rfl
              refine CW.seq (CW.region (ef := [1]) (bk := [1]) (RL.buildS _ Tryz.zeroValue108 pl_108 rfl rfl rfl rfl rfl (RL.storeWq Tryz.sizeOf108 rfl rfl rfl rfl rfl rfl rfl ?_)))
              refine RL.p rfl (RL.nil (NQ.seq (CW.ret (RQ.seq ?_))))
              exact RQ.post (resWT rfl rfl rfl Tryz.isAgg108 Tryz.sizeOf108 (by repeat (first | exact List.Mem.head _ | apply List.Mem.tail)) rfl) (Split.none _) (SrcR.no hT)
            ·
              have h14' : r.length = 14 := by simpa using h14
              obtain ⟨w, g, st, hz, go, gg, gm, sl, mo, sa, ra, ba, ho, pr, rfl⟩ : ∃ w g st hz go gg gm sl mo sa ra ba ho pr, l = [w, g, st, hz, go, gg, gm, sl, mo, sa, ra, ba, ho, pr] := by
                rw [h14'] at hll
                match l, hll with
                | [w, g, st, hz, go, gg, gm, sl, mo, sa, ra, ba, ho, pr], _ => exact ⟨w, g, st, hz, go, gg, gm, sl, mo, sa, ra, ba, ho, pr, rfl⟩
              have hT : srcT (a :: b :: k :: r) = some ⟨x, y, rt, w, g, st, hz, ⟨go, gg, gm, sl, mo, sa, ra, ba, ho, pr⟩⟩ := by rw [hS, hM]
              refine CW.skip (NQ.seq (CW.seq (CW.freezeP (A := [own o2 c2 2 1 14 (i64s [w, g, st, hz, go, gg, gm, sl, mo, sa, ra, ba, ho, pr])]) (B := [cel b3 (Sr.cells ⟨x, y, rt, 0, 0, 0, 0, ⟨0, 0, 0, 0, 0, 0, 0, 0, 0, 0⟩⟩) 108, cel b1 zSr.cells 108]) (by repeat (first | exact Pick.nil | apply Pick.take | apply Pick.leave)) rfl ?_)))
              refine CW.genI (fun J4 hJ => ?_)
              have n4 : own o2 c2 2 1 14 (i64s [w, g, st, hz, go, gg, gm, sl, mo, sa, ra, ba, ho, pr]) ∈ J4 := hJ _ (List.Mem.head _)
              clear hJ
              refine CW.fact (p := o2.isSome = true) (fun w hC => ?_) (fun ho2 => ?_)
              · have h := hC.s.i _ n4
                cases o2 with
                | none => have := own_none h; omega
                | some b => rfl
              obtain ⟨bp, rfl⟩ := Option.isSome_iff_exists.1 ho2
              have v0 : RdI J4 ⟨bp, 0 + 0 * 1, none⟩ (.int .i64 w) := ownRdI n4 rfl
              have v1 : RdI J4 ⟨bp, 0 + 1 * 1, none⟩ (.int .i64 g) := ownRdI n4 rfl
              have v2 : RdI J4 ⟨bp, 0 + 2 * 1, none⟩ (.int .i64 st) := ownRdI n4 rfl
              have v3 : RdI J4 ⟨bp, 0 + 3 * 1, none⟩ (.int .i64 hz) := ownRdI n4 rfl
              have v4 : RdI J4 ⟨bp, 0 + 4 * 1, none⟩ (.int .i64 go) := ownRdI n4 rfl
              have v5 : RdI J4 ⟨bp, 0 + 5 * 1, none⟩ (.int .i64 gg) := ownRdI n4 rfl
              have v6 : RdI J4 ⟨bp, 0 + 6 * 1, none⟩ (.int .i64 gm) := ownRdI n4 rfl
              have v7 : RdI J4 ⟨bp, 0 + 7 * 1, none⟩ (.int .i64 sl) := ownRdI n4 rfl
              have v8 : RdI J4 ⟨bp, 0 + 8 * 1, none⟩ (.int .i64 mo) := ownRdI n4 rfl
              have v9 : RdI J4 ⟨bp, 0 + 9 * 1, none⟩ (.int .i64 sa) := ownRdI n4 rfl
              have v10 : RdI J4 ⟨bp, 0 + 10 * 1, none⟩ (.int .i64 ra) := ownRdI n4 rfl
              have v11 : RdI J4 ⟨bp, 0 + 11 * 1, none⟩ (.int .i64 ba) := ownRdI n4 rfl
              have v12 : RdI J4 ⟨bp, 0 + 12 * 1, none⟩ (.int .i64 ho) := ownRdI n4 rfl
              have v13 : RdI J4 ⟨bp, 0 + 13 * 1, none⟩ (.int .i64 pr) := ownRdI n4 rfl
              clear hS hnv hnu hky hL
              refine CW.regionD (Sq.of [0, 1, 2, 3, 4, 5, 6, 7, 8, 9, 10, 11, 12, 13, 14, 15, 16, 17, 18, 19]) [13, 15, 17, 19] [13, 15, 17, 19] [0, 1, 2, 3, 4, 5, 6, 7, 8, 9, 10, 11, 12, 14, 16, 18] mixed (by kernel_rfl) ?_
              refine RL.p rfl (RL.idxAt (j := 0) Tryz.runUnderlying189 Tryz.sizeOf2 rfl rfl rfl rfl rfl rfl (Nat.le_of_ble_eq_true rfl) (RL.loadTq Tryz.isAgg2 rfl rfl rfl rfl ?_))
              refine RL.p rfl (RL.idxAt (j := 1) Tryz.runUnderlying189 Tryz.sizeOf2 rfl rfl rfl rfl rfl rfl (Nat.le_of_ble_eq_true rfl) (RL.loadTq Tryz.isAgg2 rfl rfl rfl rfl ?_))
              refine RL.p rfl (RL.idxAt (j := 2) Tryz.runUnderlying189 Tryz.sizeOf2 rfl rfl rfl rfl rfl rfl (Nat.le_of_ble_eq_true rfl) (RL.loadTq Tryz.isAgg2 rfl rfl rfl rfl ?_))
              refine RL.p rfl (RL.idxAt (j := 3) Tryz.runUnderlying189 Tryz.sizeOf2 rfl rfl rfl rfl rfl rfl (Nat.le_of_ble_eq_true rfl) (RL.loadTq Tryz.isAgg2 rfl rfl rfl rfl ?_))
              refine RL.fieldAddr fa_108_3 rfl rfl rfl rfl (RL.storeX (vs := [_]) (set_tl (s := ⟨x, y, rt, 0, 0, 0, 0, ⟨0, 0, 0, 0, 0, 0, 0, 0, 0, 0⟩⟩) (s' := ⟨x, y, rt, w, 0, 0, 0, ⟨0, 0, 0, 0, 0, 0, 0, 0, 0, 0⟩⟩) (j := 0) (o := 0 + 34) (v := .int .i64 w) hrt rfl rfl rfl rfl rfl) Tryz.sizeOf3 rfl rfl rfl rfl rfl rfl rfl rfl (by repeat (first | exact Upd.here | apply Upd.there)) (by rw [hsl _ rfl]; exact Nat.le_of_ble_eq_true rfl) ?_)
              refine RL.fieldAddr fa_108_4 rfl rfl rfl rfl (RL.storeX (vs := [_]) (set_tl (s := ⟨x, y, rt, w, 0, 0, 0, ⟨0, 0, 0, 0, 0, 0, 0, 0, 0, 0⟩⟩) (s' := ⟨x, y, rt, w, g, 0, 0, ⟨0, 0, 0, 0, 0, 0, 0, 0, 0, 0⟩⟩) (j := 1) (o := 0 + 35) (v := .int .i64 g) hrt rfl rfl rfl rfl rfl) Tryz.sizeOf3 rfl rfl rfl rfl rfl rfl rfl rfl (by repeat (first | exact Upd.here | apply Upd.there)) (by rw [hsl _ rfl]; exact Nat.le_of_ble_eq_true rfl) ?_)
              refine RL.fieldAddr fa_108_5 rfl rfl rfl rfl (RL.storeX (vs := [_]) (set_tl (s := ⟨x, y, rt, w, g, 0, 0, ⟨0, 0, 0, 0, 0, 0, 0, 0, 0, 0⟩⟩) (s' := ⟨x, y, rt, w, g, st, 0, ⟨0, 0, 0, 0, 0, 0, 0, 0, 0, 0⟩⟩) (j := 2) (o := 0 + 36) (v := .int .i64 st) hrt rfl rfl rfl rfl rfl) Tryz.sizeOf23 rfl rfl rfl rfl rfl rfl rfl rfl (by repeat (first | exact Upd.here | apply Upd.there)) (by rw [hsl _ rfl]; exact Nat.le_of_ble_eq_true rfl) ?_)
              refine RL.fieldAddr fa_108_6 rfl rfl rfl rfl (RL.storeX (vs := [_]) (set_tl (s := ⟨x, y, rt, w, g, st, 0, ⟨0, 0, 0, 0, 0, 0, 0, 0, 0, 0⟩⟩) (s' := ⟨x, y, rt, w, g, st, hz, ⟨0, 0, 0, 0, 0, 0, 0, 0, 0, 0⟩⟩) (j := 3) (o := 0 + 37) (v := .int .i64 hz) hrt rfl rfl rfl rfl rfl) Tryz.sizeOf3 rfl rfl rfl rfl rfl rfl rfl rfl (by repeat (first | exact Upd.here | apply Upd.there)) (by rw [hsl _ rfl]; exact Nat.le_of_ble_eq_true rfl) ?_)
              refine RL.nil (NQ.seq (CW.ok [2, 8, 9] rfl (CW.seq (CW.regionD (Sq.of [0, 1, 2, 3, 4, 5, 6, 7, 8, 9, 10, 11, 12, 13, 14, 15, 16, 17, 18, 19, 20]) [12, 16, 20] [12, 16, 20] [0, 1, 2, 3, 4, 5, 6, 7, 8, 9, 10, 11, 13, 14, 15, 17, 18, 19] mixed (by kernel_rfl) ?_))))
              refine RL.p rfl (RL.idxAt (j := 4) Tryz.runUnderlying189 Tryz.sizeOf2 rfl rfl rfl rfl rfl rfl (Nat.le_of_ble_eq_true rfl) (RL.loadTq Tryz.isAgg2 rfl rfl rfl rfl ?_))
              refine RL.p rfl (RL.idxAt (j := 5) Tryz.runUnderlying189 Tryz.sizeOf2 rfl rfl rfl rfl rfl rfl (Nat.le_of_ble_eq_true rfl) (RL.loadTq Tryz.isAgg2 rfl rfl rfl rfl ?_))
              refine RL.p rfl (RL.idxAt (j := 6) Tryz.runUnderlying189 Tryz.sizeOf2 rfl rfl rfl rfl rfl rfl (Nat.le_of_ble_eq_true rfl) (RL.loadTq Tryz.isAgg2 rfl rfl rfl rfl ?_))
              refine RL.fieldAddr fa_108_7 rfl rfl rfl rfl (RL.fieldAddr fa_106_0 rfl rfl rfl rfl (RL.fieldAddr fa_104_0 rfl rfl rfl rfl (RL.storeX (vs := [_]) (set_tl (s := ⟨x, y, rt, w, g, st, hz, ⟨0, 0, 0, 0, 0, 0, 0, 0, 0, 0⟩⟩) (s' := ⟨x, y, rt, w, g, st, hz, ⟨go, 0, 0, 0, 0, 0, 0, 0, 0, 0⟩⟩) (j := 4) (o := 0 + 38 + 0 + 0) (v := .int .i64 go) hrt rfl rfl rfl rfl rfl) Tryz.sizeOf23 rfl rfl rfl rfl rfl rfl rfl rfl (by repeat (first | exact Upd.here | apply Upd.there)) (by rw [hsl _ rfl]; exact Nat.le_of_ble_eq_true rfl) ?_)))
              refine RL.fieldAddr fa_108_7 rfl rfl rfl rfl (RL.fieldAddr fa_106_0 rfl rfl rfl rfl (RL.fieldAddr fa_104_1 rfl rfl rfl rfl (RL.storeX (vs := [_]) (set_tl (s := ⟨x, y, rt, w, g, st, hz, ⟨go, 0, 0, 0, 0, 0, 0, 0, 0, 0⟩⟩) (s' := ⟨x, y, rt, w, g, st, hz, ⟨go, gg, 0, 0, 0, 0, 0, 0, 0, 0⟩⟩) (j := 5) (o := 0 + 38 + 0 + 1) (v := .int .i64 gg) hrt rfl rfl rfl rfl rfl) Tryz.sizeOf23 rfl rfl rfl rfl rfl rfl rfl rfl (by repeat (first | exact Upd.here | apply Upd.there)) (by rw [hsl _ rfl]; exact Nat.le_of_ble_eq_true rfl) ?_)))
              refine RL.fieldAddr fa_108_7 rfl rfl rfl rfl (RL.fieldAddr fa_106_0 rfl rfl rfl rfl (RL.fieldAddr fa_104_2 rfl rfl rfl rfl (RL.storeX (vs := [_]) (set_tl (s := ⟨x, y, rt, w, g, st, hz, ⟨go, gg, 0, 0, 0, 0, 0, 0, 0, 0⟩⟩) (s' := ⟨x, y, rt, w, g, st, hz, ⟨go, gg, gm, 0, 0, 0, 0, 0, 0, 0⟩⟩) (j := 6) (o := 0 + 38 + 0 + 2) (v := .int .i64 gm) hrt rfl rfl rfl rfl rfl) Tryz.sizeOf23 rfl rfl rfl rfl rfl rfl rfl rfl (by repeat (first | exact Upd.here | apply Upd.there)) (by rw [hsl _ rfl]; exact Nat.le_of_ble_eq_true rfl) ?_)))
              refine RL.nil (NQ.seq (CW.ok [2, 8, 9] rfl (CW.seq (CW.regionD (Sq.of [0, 1, 2, 3, 4, 5, 6, 7, 8, 9, 10, 11, 12, 13, 14, 15, 16, 17, 18, 19, 20, 21, 22, 23]) [14, 17, 20, 23] [14, 17, 20, 23] [0, 1, 2, 3, 4, 5, 6, 7, 8, 9, 10, 11, 12, 13, 15, 16, 18, 19, 21, 22] mixed (by kernel_rfl) ?_))))
              refine RL.p rfl (RL.idxAt (j := 7) Tryz.runUnderlying189 Tryz.sizeOf2 rfl rfl rfl rfl rfl rfl (Nat.le_of_ble_eq_true rfl) (RL.loadTq Tryz.isAgg2 rfl rfl rfl rfl ?_))
              refine RL.p rfl (RL.idxAt (j := 8) Tryz.runUnderlying189 Tryz.sizeOf2 rfl rfl rfl rfl rfl rfl (Nat.le_of_ble_eq_true rfl) (RL.loadTq Tryz.isAgg2 rfl rfl rfl rfl ?_))
              refine RL.p rfl (RL.idxAt (j := 9) Tryz.runUnderlying189 Tryz.sizeOf2 rfl rfl rfl rfl rfl rfl (Nat.le_of_ble_eq_true rfl) (RL.loadTq Tryz.isAgg2 rfl rfl rfl rfl ?_))
              refine RL.p rfl (RL.idxAt (j := 10) Tryz.runUnderlying189 Tryz.sizeOf2 rfl rfl rfl rfl rfl rfl (Nat.le_of_ble_eq_true rfl) (RL.loadTq Tryz.isAgg2 rfl rfl rfl rfl ?_))
              refine RL.fieldAddr fa_108_7 rfl rfl rfl rfl (RL.fieldAddr fa_106_1 rfl rfl rfl rfl (RL.storeX (vs := [_]) (set_tl (s := ⟨x, y, rt, w, g, st, hz, ⟨go, gg, gm, 0, 0, 0, 0, 0, 0, 0⟩⟩) (s' := ⟨x, y, rt, w, g, st, hz, ⟨go, gg, gm, sl, 0, 0, 0, 0, 0, 0⟩⟩) (j := 7) (o := 0 + 38 + 3) (v := .int .i64 sl) hrt rfl rfl rfl rfl rfl) Tryz.sizeOf23 rfl rfl rfl rfl rfl rfl rfl rfl (by repeat (first | exact Upd.here | apply Upd.there)) (by rw [hsl _ rfl]; exact Nat.le_of_ble_eq_true rfl) ?_))
              refine RL.fieldAddr fa_108_7 rfl rfl rfl rfl (RL.fieldAddr fa_106_2 rfl rfl rfl rfl (RL.storeX (vs := [_]) (set_tl (s := ⟨x, y, rt, w, g, st, hz, ⟨go, gg, gm, sl, 0, 0, 0, 0, 0, 0⟩⟩) (s' := ⟨x, y, rt, w, g, st, hz, ⟨go, gg, gm, sl, mo, 0, 0, 0, 0, 0⟩⟩) (j := 8) (o := 0 + 38 + 4) (v := .int .i64 mo) hrt rfl rfl rfl rfl rfl) Tryz.sizeOf23 rfl rfl rfl rfl rfl rfl rfl rfl (by repeat (first | exact Upd.here | apply Upd.there)) (by rw [hsl _ rfl]; exact Nat.le_of_ble_eq_true rfl) ?_))
              refine RL.fieldAddr fa_108_7 rfl rfl rfl rfl (RL.fieldAddr fa_106_3 rfl rfl rfl rfl (RL.storeX (vs := [_]) (set_tl (s := ⟨x, y, rt, w, g, st, hz, ⟨go, gg, gm, sl, mo, 0, 0, 0, 0, 0⟩⟩) (s' := ⟨x, y, rt, w, g, st, hz, ⟨go, gg, gm, sl, mo, sa, 0, 0, 0, 0⟩⟩) (j := 9) (o := 0 + 38 + 5) (v := .int .i64 sa) hrt rfl rfl rfl rfl rfl) Tryz.sizeOf3 rfl rfl rfl rfl rfl rfl rfl rfl (by repeat (first | exact Upd.here | apply Upd.there)) (by rw [hsl _ rfl]; exact Nat.le_of_ble_eq_true rfl) ?_))
              refine RL.fieldAddr fa_108_7 rfl rfl rfl rfl (RL.fieldAddr fa_106_4 rfl rfl rfl rfl (RL.storeX (vs := [_]) (set_tl (s := ⟨x, y, rt, w, g, st, hz, ⟨go, gg, gm, sl, mo, sa, 0, 0, 0, 0⟩⟩) (s' := ⟨x, y, rt, w, g, st, hz, ⟨go, gg, gm, sl, mo, sa, ra, 0, 0, 0⟩⟩) (j := 10) (o := 0 + 38 + 6) (v := .int .i64 ra) hrt rfl rfl rfl rfl rfl) Tryz.sizeOf23 rfl rfl rfl rfl rfl rfl rfl rfl (by repeat (first | exact Upd.here | apply Upd.there)) (by rw [hsl _ rfl]; exact Nat.le_of_ble_eq_true rfl) ?_))
              refine RL.nil (NQ.seq (CW.ok [2, 8, 9] rfl (CW.seq (CW.regionD (Sq.of [0, 1, 2, 3, 4, 5, 6, 7, 8, 9, 10, 11, 12, 13, 14, 15, 16, 17]) [11, 14, 17] [11, 14, 17] [0, 1, 2, 3, 4, 5, 6, 7, 8, 9, 10, 12, 13, 15, 16] mixed (by kernel_rfl) ?_))))
              refine RL.p rfl (RL.idxAt (j := 11) Tryz.runUnderlying189 Tryz.sizeOf2 rfl rfl rfl rfl rfl rfl (Nat.le_of_ble_eq_true rfl) (RL.loadTq Tryz.isAgg2 rfl rfl rfl rfl ?_))
              refine RL.p rfl (RL.idxAt (j := 12) Tryz.runUnderlying189 Tryz.sizeOf2 rfl rfl rfl rfl rfl rfl (Nat.le_of_ble_eq_true rfl) (RL.loadTq Tryz.isAgg2 rfl rfl rfl rfl ?_))
              refine RL.p rfl (RL.idxAt (j := 13) Tryz.runUnderlying189 Tryz.sizeOf2 rfl rfl rfl rfl rfl rfl (Nat.le_of_ble_eq_true rfl) (RL.loadTq Tryz.isAgg2 rfl rfl rfl rfl ?_))
              refine RL.fieldAddr fa_108_7 rfl rfl rfl rfl (RL.fieldAddr fa_106_5 rfl rfl rfl rfl (RL.storeX (vs := [_]) (set_tl (s := ⟨x, y, rt, w, g, st, hz, ⟨go, gg, gm, sl, mo, sa, ra, 0, 0, 0⟩⟩) (s' := ⟨x, y, rt, w, g, st, hz, ⟨go, gg, gm, sl, mo, sa, ra, ba, 0, 0⟩⟩) (j := 11) (o := 0 + 38 + 7) (v := .int .i64 ba) hrt rfl rfl rfl rfl rfl) Tryz.sizeOf3 rfl rfl rfl rfl rfl rfl rfl rfl (by repeat (first | exact Upd.here | apply Upd.there)) (by rw [hsl _ rfl]; exact Nat.le_of_ble_eq_true rfl) ?_))
              refine RL.fieldAddr fa_108_7 rfl rfl rfl rfl (RL.fieldAddr fa_106_6 rfl rfl rfl rfl (RL.storeX (vs := [_]) (set_tl (s := ⟨x, y, rt, w, g, st, hz, ⟨go, gg, gm, sl, mo, sa, ra, ba, 0, 0⟩⟩) (s' := ⟨x, y, rt, w, g, st, hz, ⟨go, gg, gm, sl, mo, sa, ra, ba, ho, 0⟩⟩) (j := 12) (o := 0 + 38 + 8) (v := .int .i64 ho) hrt rfl rfl rfl rfl rfl) Tryz.sizeOf3 rfl rfl rfl rfl rfl rfl rfl rfl (by repeat (first | exact Upd.here | apply Upd.there)) (by rw [hsl _ rfl]; exact Nat.le_of_ble_eq_true rfl) ?_))
              refine RL.fieldAddr fa_108_7 rfl rfl rfl rfl (RL.fieldAddr fa_106_7 rfl rfl rfl rfl (RL.storeX (vs := [_]) (set_tl (s := ⟨x, y, rt, w, g, st, hz, ⟨go, gg, gm, sl, mo, sa, ra, ba, ho, 0⟩⟩) (s' := ⟨x, y, rt, w, g, st, hz, ⟨go, gg, gm, sl, mo, sa, ra, ba, ho, pr⟩⟩) (j := 13) (o := 0 + 38 + 9) (v := .int .i64 pr) hrt rfl rfl rfl rfl rfl) Tryz.sizeOf3 rfl rfl rfl rfl rfl rfl rfl rfl (by repeat (first | exact Upd.here | apply Upd.there)) (by rw [hsl _ rfl]; exact Nat.le_of_ble_eq_true rfl) ?_))
              refine RL.nil (NQ.seq (CW.ok [2, 8] rfl (CW.seq (CW.region (ef := [1]) (bk := [1]) (RL.loadW Tryz.isAgg108 Tryz.sizeOf108 rfl rfl rfl rfl (by repeat (first | exact List.Mem.head _ | apply List.Mem.tail)) (hsl _ rfl) ?_)))))
              refine RL.storeW Tryz.sizeOf108 rfl rfl rfl rfl rfl rfl rfl (sr_ones _) (by repeat (first | exact Upd.here | apply Upd.there)) (hsl _ rfl) rfl ?_
              refine RL.p rfl (RL.nil (NQ.seq (CW.ret ?_)))
              refine RQ.post (resWT rfl rfl rfl Tryz.isAgg108 Tryz.sizeOf108 (by repeat (first | exact List.Mem.head _ | apply List.Mem.tail)) (hsl ⟨x, y, rt, w, g, st, hz, ⟨go, gg, gm, sl, mo, sa, ra, ba, ho, pr⟩⟩ rfl)) (Split.none _) ⟨⟨x, y, rt, w, g, st, hz, ⟨go, gg, gm, sl, mo, sa, ra, ba, ho, pr⟩⟩, hrt, ?_, ?_, rfl, rfl⟩
              · rw [hT]; rfl
              · intro s hs
                rw [hT] at hs
                exact Option.some.inj hs
end Go.Proofs.YthndhipjfdgdfaaGreatDoor

namespace Go.Proofs.YthndhipjfdgdfaaGreatDoor
open Go.PK
/-! ### The reference reads a zone -/
def ZnsR (ws : List Tx) : Value → List It → List It → Prop := fun v I' H' => ∃ (z : Zn) (ob : Option Nat) (cap : Nat), v = .tuple #[.agg (znC z.keep (slO ob z.L.length cap) z.fl z.rf).toArray, .bool (zonT ws).isSome] ∧ (∀ s, zonT ws = some s → z = s) ∧ I' = [] ∧ H' = [own ob cap 79 2 z.L.length (z.L.flatMap Pt.cells)]
theorem ZnsR.no {ws : List Tx} (h : zonT ws = none) : ZnsR ws (.tuple #[.agg (znC false (.slice none 0 0) 0 0).toArray, .bool false]) [] [own none 0 79 2 0 []] := by
  refine ⟨⟨false, [], 0, 0⟩, none, 0, ?_, fun s hs => ?_, rfl, rfl⟩
  · rw [h]; rfl
  · rw [h] at hs; cases hs
theorem prs_len : ∀ l : List Int, (pairsL l).length = l.length / 2
  | [] => rfl
  | [_] => by simp [pairsL]
  | a :: b :: r => by rw [pairsL, List.length_cons, prs_len r, List.length_cons, List.length_cons]; omega
theorem prs_at : ∀ (l : List Int) (j : Nat) (a b : Int), l[2 * j]? = some a → l[2 * j + 1]? = some b → (pairsL l)[j]? = some (a, b)
  | [], j, a, b, h, _ => by simp at h
  | [x], 0, a, b, _, h => by simp at h
  | [x], j + 1, a, b, h, _ => by simp [Nat.mul_add] at h
  | x :: y :: r, 0, a, b, h1, h2 => by
    simp at h1 h2; subst h1 h2; rfl
  | x :: y :: r, j + 1, a, b, h1, h2 => by
    rw [pairsL, List.getElem?_cons_succ]
    refine prs_at r j a b ?_ ?_
    · rw [← h1, show 2 * (j + 1) = 2 * j + 1 + 1 by omega]; rfl
    · rw [← h2, show 2 * (j + 1) + 1 = 2 * j + 1 + 1 + 1 by omega]; rfl
theorem zon_len {ws : List Tx} {z : Zn} (h : zonT ws = some z) : 3 ≤ ws.length ∧ ws.length % 2 = 1 := by
  cases ws with
  | nil => cases h
  | cons k r =>
    rw [zonT] at h
    split at h
    · cases hr : numsL r with
      | none => rw [hr] at h; cases h
      | some l =>
        have hl := numsL_len' hr
        rw [hr] at h
        match l, hl with
        | [], _ => cases h
        | [_], _ => cases h
        | f :: g :: l, hl =>
          have h : (if l.length % 2 = 0 then some (⟨decide (k = nIn), pairsL l, f, g⟩ : Zn) else none) = some z := h
          split at h
          · rw [List.length_cons, List.length_cons] at hl
            rw [List.length_cons]; omega
          · cases h
    · cases h
theorem zon_none {ws : List Tx} (h : ws.length < 3 ∨ ws.length % 2 = 0) : zonT ws = none := by
  cases hz : zonT ws with
  | none => rfl
  | some z => have := zon_len hz; omega
theorem rzone_any (ws : List Tx) (p : Option Addr) (c m : Nat) (hm : ws.length = m) (hc : m ≤ c) (hb : m ≤ 1000000) : Spc Tryz.prog 83 #[.slice p m c] [sls p 1 m (ws.map strV)] [] (ZnsR ws) := by
  subst hm
  refine Spc.enter Tryz.func83 rfl rfl rfl (fun w0 hw0 => ?_)
  refine CW.seq (CW.region (ef := [0]) (bk := []) (RL.alloc Tryz.zeroValue77 rfl rfl rfl rfl rfl ?_))
  intro b1
  refine RL.p rfl (RL.nil (NQ.seq (CW.seq (CW.seq ?_))))
  refine CW.genI (fun J hJ => ?_)
  have m2 : sls p 1 ws.length (ws.map strV) ∈ J := hJ _ (by simp)
  clear hJ
  refine CW.fact (p := p = none → ws.length = 0) (fun w hC e => sls_nil (hC.s.i _ m2) e) (fun hpa => ?_)
  refine CW.rg (RL.p rfl (RL.lenS Tryz.runUnderlying62 rfl rfl rfl rfl (RL.p rfl (RL.p rfl ?_))))
  refine RL.part (d := 11) rfl (fun h0 => ?_) (fun h0 => ?_)
  · have hT : zonT ws = none := zon_none (.inl (by simp at h0; omega))
    refine RL.p rfl (RL.p rfl (RL.p rfl (RL.p rfl (RL.p rfl (RL.p rfl (RL.p rfl (RL.p rfl (RL.p rfl (RL.p rfl (RL.p rfl (RL.p rfl (RL.p rfl (RL.p rfl ?_)))))))))))))
    refine RL.p rfl (RL.p rfl (RL.p rfl (RL.nil (NQ.seq (CW.ok [0, 2, 3, 28] rfl (CW.condT rfl rfl (CW.seq (CW.region (ef := [1]) (bk := [1]) (RL.buildS _ Tryz.zeroValue77 pl_77 rfl rfl rfl rfl rfl (RL.store (vs := [_, _, _, _]) Tryz.sizeOf77 rfl rfl rfl rfl rfl rfl rfl rfl rfl (by repeat (first | exact Upd.here | apply Upd.there)) ?_))))))))))
    refine RL.p rfl (RL.nil (NQ.seq (CW.ret (RQ.seq (RQ.ownNone (e := 79) 2 ?_)))))
    exact RQ.post (resWT rfl rfl rfl Tryz.isAgg77 Tryz.sizeOf77 (by repeat (first | exact List.Mem.head _ | apply List.Mem.tail)) rfl) (.keep (Split.none _)) (ZnsR.no hT)
  · have h0' : 3 ≤ ws.length := by simp at h0; omega
    have e2 : Int.tmod (ws.length : Int) 2 = ((ws.length % 2 : Nat) : Int) := rfl
    refine RL.p rfl (RL.lenS Tryz.runUnderlying62 rfl rfl rfl rfl (RL.rem rfl rfl rfl rfl rfl (by decide) ?_))
    refine RL.p rfl (RL.p rfl (RL.p rfl ?_))
    refine RL.part (d := 17) rfl (fun h1 => ?_) (fun h1 => ?_)
    · have hT : zonT ws = none := zon_none (.inr (by rw [e2] at h1; simp at h1; omega))
      refine RL.p rfl (RL.p rfl (RL.p rfl (RL.p rfl (RL.p rfl (RL.p rfl (RL.p rfl (RL.p rfl (RL.p rfl (RL.p rfl (RL.p rfl (RL.nil (NQ.seq (CW.ok [0, 2, 3, 28] rfl ?_)))))))))))))
      refine CW.condT rfl rfl (CW.seq (CW.region (ef := [1]) (bk := [1]) (RL.buildS _ Tryz.zeroValue77 pl_77 rfl rfl rfl rfl rfl (RL.store (vs := [_, _, _, _]) Tryz.sizeOf77 rfl rfl rfl rfl rfl rfl rfl rfl rfl (by repeat (first | exact Upd.here | apply Upd.there)) ?_))))
      refine RL.p rfl (RL.nil (NQ.seq (CW.ret (RQ.seq (RQ.ownNone (e := 79) 2 ?_)))))
      exact RQ.post (resWT rfl rfl rfl Tryz.isAgg77 Tryz.sizeOf77 (by repeat (first | exact List.Mem.head _ | apply List.Mem.tail)) rfl) (.keep (Split.none _)) (ZnsR.no hT)
    · have h1' : ws.length % 2 = 1 := by rw [e2] at h1; simp at h1; omega
      clear e2
      obtain ⟨k, r, rfl⟩ : ∃ k r, ws = k :: r := by
        cases ws with
        | nil => exact absurd h0' (by simp)
        | cons k r => exact ⟨k, r, rfl⟩
      cases p with
      | none => exact absurd (hpa rfl) (by simp)
      | some q =>
      clear h0 h1 hpa
      generalize hn : (k :: r).length = n at hc hb m2 h0' h1' ⊢
      have hrn : r.length + 1 = n := by rw [← hn]; rfl
      have fK : RdI J (q.add (0 * 1)) (strV k) := ⟨fun H => Rd.getS (H := H) (v := strV k) (j := 0 * 1) m2 rfl⟩
      refine RL.p rfl (RL.idx (j := 0) Tryz.runUnderlying62 Tryz.sizeOf9 rfl rfl rfl rfl rfl rfl (by omega) ?_)
      refine RL.loadq Tryz.isAgg9 rfl rfl rfl rfl ?_
      refine RL.cmp rfl rfl rfl rfl rfl (fun w => neq_txt k nIn w) ?_
      refine RL.p rfl ?_
      apply RL.andB (d := 22) (dp := 27) (l' := (Sq.of [20])) rfl (sK [0, 2, 3, 17] rfl)
      ·
        intro hb15 K15
        refine RL.p rfl (RL.idx (j := 0) Tryz.runUnderlying62 Tryz.sizeOf9 rfl rfl rfl rfl rfl rfl (by omega) ?_)
        refine RL.loadq Tryz.isAgg9 rfl rfl rfl rfl ?_
        refine RL.cmp rfl rfl rfl rfl rfl (fun w => neq_txt k nOut w) ?_
        refine RL.p rfl ?_
        exact K15 _ (.cons rfl (sK [0, 2, 3, 17] rfl))
      ·
        intro hb15 K15
        refine RL.p rfl (RL.p rfl (RL.p rfl (RL.p rfl (RL.p rfl ?_))))
        exact K15 _ (.cons rfl (sK [0, 2, 3, 17] rfl))
      refine RL.p rfl (RL.nil (NQ.seq ?_))
      refine CW.cond rfl (fun hk => ?_) (fun hk => ?_)
      · have hk' : ¬ (k = nIn ∨ k = nOut) := by simpa using hk
        have hT : zonT (k :: r) = none := by rw [zonT, if_neg hk']
        refine CW.seq (CW.region (ef := [1]) (bk := [1]) (RL.buildS _ Tryz.zeroValue77 pl_77 rfl rfl rfl rfl rfl (RL.store (vs := [_, _, _, _]) Tryz.sizeOf77 rfl rfl rfl rfl rfl rfl rfl rfl rfl (by repeat (first | exact Upd.here | apply Upd.there)) ?_)))
        refine RL.p rfl (RL.nil (NQ.seq (CW.ret (RQ.seq (RQ.ownNone (e := 79) 2 ?_)))))
        exact RQ.post (resWT rfl rfl rfl Tryz.isAgg77 Tryz.sizeOf77 (by repeat (first | exact List.Mem.head _ | apply List.Mem.tail)) rfl) (.keep (Split.none _)) (ZnsR.no hT)
      ·
        have hk' : k = nIn ∨ k = nOut := by
          rcases Decidable.em (k = nIn) with h | h
          · exact .inl h
          · rcases Decidable.em (k = nOut) with h2 | h2
            · exact .inr h2
            · exfalso; simp [h, h2] at hk
        have hrl : r.length = n - 1 := by omega
        have lB : ∀ H, Lend J H [sls (if c = 1 then some q else (some q).map (·.add (1 * 1))) 1 (n - 1) (r.map strV)] := fun H => by
          have h := Lend.subP (F := H) (lo := 1) (k := n - 1) m2 (by omega) hc .nil
          have e : (((k :: r).map strV).drop (1 * 1)).take ((n - 1) * 1) = r.map strV := by
            show (r.map strV).take ((n - 1) * 1) = _
            rw [List.take_of_length_le (by rw [List.length_map]; omega)]
          rw [e] at h
          exact h
        have hnv := rnums_any r (if c = 1 then some q else (some q).map (·.add (1 * 1))) (c - 1) (n - 1) (n - 1) hrl (by omega)
        have hZ : zonT (k :: r) = match numsL r with
            | some (f :: g :: l) => if l.length % 2 = 0 then some ⟨decide (k = nIn), pairsL l, f, g⟩ else none
            | _ => none := by rw [zonT, if_pos hk']; rfl
        cases hM : numsL r with
        | none =>
          have hT : zonT (k :: r) = none := by rw [hZ, hM]
          rw [nms_none hM] at hnv
          refine CW.skip (NQ.seq (CW.seq (CW.region (ef := [5]) (bk := []) (RL.p rfl (RL.slice (lo := 1) (hi := n) Tryz.runUnderlying62 Tryz.sizeOf9 rfl rfl rfl rfl rfl rfl (by omega) hc ?_)))))
          refine RL.p rfl (RL.lenS Tryz.runUnderlying62 rfl rfl rfl rfl (RL.bx rfl (wrapV_i64 (by omega) (by omega)) ?_))
          rw [show (n : Int) - 1 = ((n - 1 : Nat) : Int) by omega]
          refine RL.call (hnv) Tryz.call86 rfl rfl rfl rfl rfl (by repeat (first | exact Pick.nil | apply Pick.take | apply Pick.leave)) (lB _) (.inl rfl) ?_
          rintro _ _ _ ⟨o2, c2, rfl, rfl, rfl⟩
          refine RL.p rfl (RL.p rfl (RL.p rfl (RL.p rfl (RL.p rfl (RL.nil (NQ.seq (CW.ok [0, 2, 4, 5] rfl (CW.seq (CW.seq (CW.rg (RL.p rfl (RL.p rfl (RL.nil ?_)))))))))))))
          refine NQ.seq (CW.condT rfl ((by rfl)) ?_)
          refine CW.seq (CW.region (ef := [1]) (bk := [1]) (RL.buildS _ Tryz.zeroValue77 pl_77 rfl rfl rfl rfl rfl (RL.store (vs := [_, _, _, _]) Tryz.sizeOf77 rfl rfl rfl rfl rfl rfl rfl rfl rfl (by repeat (first | exact Upd.here | apply Upd.there)) ?_)))
          refine RL.p rfl (RL.nil (NQ.seq (CW.ret (RQ.seq (RQ.ownNone (e := 79) 2 ?_)))))
          exact RQ.post (resWT rfl rfl rfl Tryz.isAgg77 Tryz.sizeOf77 (by repeat (first | exact List.Mem.head _ | apply List.Mem.tail)) rfl) (.keep (Split.none _)) (ZnsR.no hT)
        | some L =>
          have hll := numsL_len' hM
          rw [nms_some hM] at hnv
          obtain ⟨f, g, l, rfl⟩ : ∃ f g l, L = f :: g :: l := by
            match L, hll with
            | f :: g :: l, _ => exact ⟨f, g, l, rfl⟩
            | [], h => simp at h; omega
            | [_], h => simp at h; omega
          have hln : l.length + 2 = n - 1 := by rw [← hrl, ← hll]; rfl
          have hT : zonT (k :: r) = some ⟨decide (k = nIn), pairsL l, f, g⟩ := by rw [hZ, hM]; exact if_pos (by omega)
          refine CW.skip (NQ.seq (CW.seq (CW.region (ef := [5]) (bk := []) (RL.p rfl (RL.slice (lo := 1) (hi := n) Tryz.runUnderlying62 Tryz.sizeOf9 rfl rfl rfl rfl rfl rfl (by omega) hc ?_)))))
          refine RL.p rfl (RL.lenS Tryz.runUnderlying62 rfl rfl rfl rfl (RL.bx rfl (wrapV_i64 (by omega) (by omega)) ?_))
          rw [show (n : Int) - 1 = ((n - 1 : Nat) : Int) by omega]
          refine RL.call (hnv) Tryz.call86 rfl rfl rfl rfl rfl (by repeat (first | exact Pick.nil | apply Pick.take | apply Pick.leave)) (lB _) (.inl rfl) ?_
          rintro _ _ _ ⟨o2, c2, rfl, rfl, rfl⟩
          refine RL.p rfl (RL.p rfl (RL.p rfl (RL.p rfl (RL.p rfl (RL.nil (NQ.seq (CW.ok [0, 2, 4, 5] rfl (CW.seq (CW.seq (CW.rg (RL.p rfl (RL.p rfl (RL.nil ?_)))))))))))))
          refine NQ.seq (CW.condF rfl ((by simp [hrl])) ?_)
          refine CW.skip (NQ.seq (CW.seq (CW.freezeP (A := [own o2 c2 2 1 (f :: g :: l).length (i64s (f :: g :: l))]) (B := [cel b1 (znC false (.slice none 0 0) 0 0) 77]) (by repeat (first | exact Pick.nil | apply Pick.take | apply Pick.leave)) rfl ?_)))
          refine CW.genI (fun J3 hJ => ?_)
          have n1 : own o2 c2 2 1 (f :: g :: l).length (i64s (f :: g :: l)) ∈ J3 := hJ _ (List.Mem.head _)
          have m3 : sls (some q) 1 n ((k :: r).map strV) ∈ J3 := hJ _ (List.mem_append_right _ m2)
          clear hJ lB fK hnv
          refine CW.fact (p := o2.isSome = true) (fun w hC => ?_) (fun ho2 => ?_)
          · have h := hC.s.i _ n1
            cases o2 with
            | none => have := own_none h; simp at this
            | some b => rfl
          obtain ⟨bo, rfl⟩ := Option.isSome_iff_exists.1 ho2
          have fK : RdI J3 (q.add (0 * 1)) (strV k) := ⟨fun H => Rd.getS (H := H) (v := strV k) (j := 0 * 1) m3 rfl⟩
          have v0 : RdI J3 ⟨bo, 0 + 0 * 1, none⟩ (.int .i64 f) := ownRdI n1 rfl
          have v1 : RdI J3 ⟨bo, 0 + 1 * 1, none⟩ (.int .i64 g) := ownRdI n1 rfl
          have hbk : (k == nIn) = decide (k = nIn) := by rw [Bool.eq_iff_iff]; simp
          have hLL : (f :: g :: l).length = l.length + 2 := rfl
          have hpl := prs_len l
          rw [hLL] at n1 ⊢
          refine CW.regionD (Sq.of [0, 1, 2, 3, 4, 5, 6, 7, 8, 9, 10, 11, 12]) [11, 12] [12] [0, 1, 2, 3, 4, 5, 6, 7, 8, 9, 10] mixed (by kernel_rfl) ?_
          refine RL.p rfl (RL.idx (j := 0) Tryz.runUnderlying62 Tryz.sizeOf9 rfl rfl rfl rfl rfl rfl (by omega) ?_)
          refine RL.loadTq Tryz.isAgg9 rfl rfl rfl rfl ?_
          refine RL.cmp rfl rfl rfl rfl rfl (fun w => eql_txt k nIn w) ?_
          rw [hbk]
          refine RL.p rfl (RL.idxAt (j := 0) Tryz.runUnderlying189 Tryz.sizeOf2 rfl rfl rfl rfl rfl rfl (by omega) ?_)
          refine RL.loadTq Tryz.isAgg2 rfl rfl rfl rfl ?_
          refine RL.p rfl (RL.idxAt (j := 1) Tryz.runUnderlying189 Tryz.sizeOf2 rfl rfl rfl rfl rfl rfl (by omega) ?_)
          refine RL.loadTq Tryz.isAgg2 rfl rfl rfl rfl ?_
          refine RL.buildS [_, _, _, _] Tryz.zeroValue77 pl_77 rfl rfl rfl rfl rfl (RL.alloc Tryz.zeroValue77 rfl rfl rfl rfl rfl ?_)
          intro b2
          refine RL.store (vs := [_, _, _, _]) Tryz.sizeOf77 rfl rfl rfl rfl rfl rfl rfl rfl rfl (by repeat (first | exact Upd.here | apply Upd.there)) ?_
          refine RL.nil (NQ.seq (CW.ok [2, 4, 6] rfl (CW.seq (CW.seq (CW.rg (RL.p rfl (RL.nil (NQ.seq (CW.block (CW.ownNone (e := 79) 2 ?_))))))))))
          refine CW.loop (γ := Nat × Option Nat × Nat) (fun g => g.1 ≤ (pairsL l).length) (fun z => [(2, .pointer (some ⟨b1, 0, none⟩)), (4, slO (some bo) (l.length + 2) c2), (6, .pointer (some ⟨b2, 0, none⟩)), (7, .int .i64 ((2 + 2 * z.1 : Nat) : Int))]) (fun _ => J3)
            (fun z => [cel b2 (znC (decide (k = nIn)) (slO z.2.1 z.1 z.2.2) f g) 77, own z.2.1 z.2.2 79 2 z.1 (((pairsL l).take z.1).flatMap Pt.cells), cel b1 (znC false (.slice none 0 0) 0 0) 77]) (fun z => (pairsL l).length - z.1) (0, none, 0) (Nat.zero_le _) (.cons rfl (.cons rfl (.cons rfl (.cons rfl .nil)))) (fun w h => h.rea (fun _ h => h) (by repeat (first | exact Rea.nil | (apply Rea.cons; (solve | (repeat (first | exact Del.here | apply Del.there))))))) ?_
          rintro ⟨j, op, cp⟩ hj
          dsimp only at hj ⊢
          refine CW.seq (CW.seq (CW.rg (RL.p rfl (RL.bx rfl (wrapV_i64 (by omega) (by omega)) ?_))))
          refine RL.p rfl (RL.lenS Tryz.runUnderlying189 rfl rfl rfl rfl (RL.p rfl (RL.nil (NQ.seq ?_))))
          refine CW.cond rfl (fun hlt => ?_) (fun hlt => ?_)
          ·
            have hlt' : j < (pairsL l).length := by simp at hlt; omega
            obtain ⟨x, hx⟩ : ∃ x, l[2 * j]? = some x := ⟨_, List.getElem?_eq_getElem (by omega)⟩
            obtain ⟨y, hy⟩ : ∃ y, l[2 * j + 1]? = some y := ⟨_, List.getElem?_eq_getElem (by omega)⟩
            have hpt := prs_at l j x y hx hy
            have htk : (pairsL l).take (j + 1) = (pairsL l).take j ++ [(x, y)] := by rw [List.take_add_one, hpt]; rfl
            have w0 : RdI J3 ⟨bo, 0 + (2 + 2 * j) * 1, none⟩ (.int .i64 x) := ownRdI n1 (by rw [List.getElem?_map, show 2 + 2 * j = 2 * j + 1 + 1 by omega, List.getElem?_cons_succ, List.getElem?_cons_succ, hx]; rfl)
            have w1 : RdI J3 ⟨bo, 0 + (2 + 2 * j + 1) * 1, none⟩ (.int .i64 y) := ownRdI n1 (by rw [List.getElem?_map, show 2 + 2 * j + 1 = 2 * j + 1 + 1 + 1 by omega, List.getElem?_cons_succ, List.getElem?_cons_succ, hy]; rfl)
            refine CW.skip (NQ.seq (CW.seq (CW.block (CW.regionD (Sq.of [0, 1, 2, 3, 4, 5, 6, 7, 8, 9, 10, 11, 12, 13, 14, 15]) [12, 13, 15] [13, 15] [0, 2, 3, 4, 5, 6, 7, 8, 9, 10, 11, 14] mixed (by kernel_rfl) ?_))))
            refine RL.fieldAddr fa_77_1 rfl rfl rfl rfl (RL.loadq Tryz.isAgg75 rfl rfl rfl rfl ?_)
            refine RL.p rfl (RL.p rfl (RL.idxAt (j := 2 + 2 * j) Tryz.runUnderlying189 Tryz.sizeOf2 rfl rfl rfl rfl rfl rfl (by omega) ?_))
            refine RL.loadTq Tryz.isAgg2 rfl rfl rfl rfl ?_
            refine RL.p rfl (RL.p rfl (RL.bx rfl (wrapV_i64 (by omega) (by omega)) ?_))
            refine RL.idxAt (j := 2 + 2 * j + 1) Tryz.runUnderlying189 Tryz.sizeOf2 rfl rfl rfl rfl rfl (by omega) (by omega) ?_
            refine RL.loadTq Tryz.isAgg2 rfl rfl rfl rfl ?_
            refine RL.buildA [_, _] Tryz.zeroValue79 Tryz.runUnderlying79 Tryz.sizeOf23 rfl rfl rfl rfl rfl (RL.buildSlice [_, _] Tryz.runUnderlying75 Tryz.sizeOf79 Tryz.zeroValue79 rfl rfl (by decide) (by decide) rfl rfl rfl rfl rfl rfl ?_)
            intro b3
            refine RL.appendq el_75 rfl rfl rfl rfl rfl rfl rfl ?_
            intro ob1 cap1 ho1
            refine RL.fieldAddr fa_77_1 rfl rfl rfl rfl (RL.store (vs := [_]) Tryz.sizeOf75 rfl rfl rfl rfl rfl rfl rfl rfl rfl (by repeat (first | exact Upd.here | apply Upd.there)) ?_)
            refine RL.nil (NQ.block (NQ.seq (CW.ok [2, 4, 6, 7] rfl (CW.rg (RL.p rfl (RL.bx rfl (wrapV_i64 (by omega) (by omega)) ?_))))))
            refine RL.p rfl (RL.nil ?_)
            refine NQ.round (g := (j, op, cp)) (j + 1, ob1, cap1) hlt' (by show (pairsL l).length - (j + 1) < (pairsL l).length - j; omega) (.cons rfl (.cons rfl (.cons rfl (.cons (k := 7) (by show some (Value.int .i64 (((2 + 2 * j : Nat) : Int) + 2)) = some (Value.int .i64 ((2 + 2 * (j + 1) : Nat) : Int)); congr 2) .nil)))) (fun w h => by
              dsimp only
              rw [htk, List.flatMap_append]
              exact h.rea (fun _ h => h) (by repeat (first | exact Rea.nil | (apply Rea.cons; (solve | (repeat (first | exact Del.here | apply Del.there)))))))
          ·
            have hjn : j = (pairsL l).length := by simp at hlt; omega
            subst hjn
            rw [List.take_length]
            refine CW.exit (XQ.seq (XQ.seq (XQ.hit (NQ.seq (CW.ok [2, 6] rfl (CW.seq (CW.region (ef := [1]) (bk := [1]) (RL.loadW Tryz.isAgg77 Tryz.sizeOf77 rfl rfl rfl rfl (by repeat (first | exact List.Mem.head _ | apply List.Mem.tail)) rfl ?_))))))))
            refine RL.storeW Tryz.sizeOf77 rfl rfl rfl rfl rfl rfl rfl rfl (by repeat (first | exact Upd.here | apply Upd.there)) rfl rfl ?_
            refine RL.p rfl (RL.nil (NQ.seq (CW.ret (RQ.rea (fun _ h => h) (H' := [own op cp 79 2 (pairsL l).length ((pairsL l).flatMap Pt.cells), cel b1 (znC (decide (k = nIn)) (slO op (pairsL l).length cp) f g) 77]) (by repeat (first | exact Rea.nil | (apply Rea.cons; (solve | (repeat (first | exact Del.here | apply Del.there)))))) ?_))))
            refine RQ.post (resWT rfl rfl rfl Tryz.isAgg77 Tryz.sizeOf77 (by repeat (first | exact List.Mem.head _ | apply List.Mem.tail)) rfl) (.keep (Split.none _)) ⟨⟨decide (k = nIn), pairsL l, f, g⟩, op, cp, ?_, ?_, rfl, rfl⟩
            · rw [hT]; rfl
            · intro s hs
              rw [hT] at hs
              exact Option.some.inj hs
end Go.Proofs.YthndhipjfdgdfaaGreatDoor

namespace Go.Proofs.YthndhipjfdgdfaaGreatDoor
open Go.PK
/-! ### A plan's cells, one turned -/
def phd (P : Pl) (sl : Value) : List Value := (sl :: .int .i64 P.cf.g0 :: .int .i64 P.cf.g1 :: .int .i64 P.cf.g2 :: .int .i64 P.cf.dr :: P.cf.sc.cells) ++ bytes P.cf.cm
def ptl (P : Pl) (zl : Value) : List Value := [.int .i64 P.cf.mo, .int .i64 P.cf.ti, .int .i64 P.cf.gr, .int .u64 P.cf.sd, zl, .int .i64 P.de, .int .i64 P.ra, .int .i64 P.mo, .int .i64 P.sz]
theorem pl_parts (P : Pl) (sl zl : Value) : plC P sl zl = phd P sl ++ ptl P zl := by
  simp [plC, phd, ptl, Cf.cells, Cf.tl, Sch.cells]
theorem phd_len {P : Pl} (h : P.cf.cm.length = 32) (sl : Value) : (phd P sl).length = 41 := by simp [phd, Sch.cells, h]
theorem set_pt {P P' : Pl} {sl zl zl' : Value} {j o : Nat} {v : Value} (h : P.cf.cm.length = 32) (ho : o = 41 + j) (e : phd P' sl = phd P sl) (et : spl (ptl P zl) j [v] = ptl P' zl') : spl (plC P sl zl) o [v] = plC P' sl zl' := by
  subst ho
  rw [pl_parts, pl_parts, e, ← et, ← phd_len h sl]
  exact spl_behind _ _ _ _
theorem set_cm {P : Pl} {k : List B8} (h : P.cf.cm.length = 32) (hk : k.length = 32) (sl zl : Value) : spl (plC P sl zl) (0 + 0 + 9) (bytes k) = plC { P with cf := { P.cf with cm := k } } sl zl := by
  rw [pl_parts, pl_parts, phd, phd, List.append_assoc, List.append_assoc]
  exact seg_spl (by simp [Sch.cells]) (by simp [h, hk])
theorem sp_sl (P : Pl) (sl sl' zl : Value) : spl (plC P sl zl) (0 + 0 + 0) [sl'] = plC P sl' zl := rfl
theorem sp_grav (P : Pl) (a b c : Int) (sl zl : Value) : spl (plC P sl zl) (0 + 0 + 1) [.int .i64 a, .int .i64 b, .int .i64 c] = plC { P with cf := { P.cf with g0 := a, g1 := b, g2 := c } } sl zl := rfl
theorem sp_dr (P : Pl) (a : Int) (sl zl : Value) : spl (plC P sl zl) (0 + 0 + 4) [.int .i64 a] = plC { P with cf := { P.cf with dr := a } } sl zl := rfl
theorem sp_s0 (P : Pl) (a : Int) (sl zl : Value) : spl (plC P sl zl) (0 + 0 + 5 + 0) [.int .i64 a] = plC { P with cf := { P.cf with sc := { P.cf.sc with st := a } } } sl zl := rfl
theorem sp_s1 (P : Pl) (a : Int) (sl zl : Value) : spl (plC P sl zl) (0 + 0 + 5 + 1) [.int .i64 a] = plC { P with cf := { P.cf with sc := { P.cf.sc with ln := a } } } sl zl := rfl
theorem sp_s2 (P : Pl) (a : Int) (sl zl : Value) : spl (plC P sl zl) (0 + 0 + 5 + 2) [.int .i64 a] = plC { P with cf := { P.cf with sc := { P.cf.sc with lg := a } } } sl zl := rfl
theorem sp_s3 (P : Pl) (a : Int) (sl zl : Value) : spl (plC P sl zl) (0 + 0 + 5 + 3) [.int .i64 a] = plC { P with cf := { P.cf with sc := { P.cf.sc with of := a } } } sl zl := by
  have e : ∀ q : Int, plC { P with cf := { P.cf with sc := { P.cf.sc with of := q } } } sl zl = [sl, .int .i64 P.cf.g0, .int .i64 P.cf.g1, .int .i64 P.cf.g2, .int .i64 P.cf.dr, .int .i64 P.cf.sc.st, .int .i64 P.cf.sc.ln, .int .i64 P.cf.sc.lg] ++ ([.int .i64 q] ++ (bytes P.cf.cm ++ ptl P zl)) := fun q => by
    rw [pl_parts, phd]; simp [Sch.cells, ptl]
  have e0 := e P.cf.sc.of
  rw [show ({ P with cf := { P.cf with sc := { P.cf.sc with of := P.cf.sc.of } } } : Pl) = P from rfl] at e0
  rw [e0, e a]
  exact seg_spl rfl rfl
theorem sp_mo {P : Pl} (h : P.cf.cm.length = 32) (a : Int) (sl zl : Value) : spl (plC P sl zl) (0 + 0 + 41) [.int .i64 a] = plC { P with cf := { P.cf with mo := a } } sl zl := set_pt (j := 0) h rfl rfl rfl
theorem sp_ti {P : Pl} (h : P.cf.cm.length = 32) (a : Int) (sl zl : Value) : spl (plC P sl zl) (0 + 0 + 42) [.int .i64 a] = plC { P with cf := { P.cf with ti := a } } sl zl := set_pt (j := 1) h rfl rfl rfl
theorem sp_gr {P : Pl} (h : P.cf.cm.length = 32) (a : Int) (sl zl : Value) : spl (plC P sl zl) (0 + 0 + 43) [.int .i64 a] = plC { P with cf := { P.cf with gr := a } } sl zl := set_pt (j := 2) h rfl rfl rfl
theorem sp_sd {P : Pl} (h : P.cf.cm.length = 32) (a : Int) (sl zl : Value) : spl (plC P sl zl) (0 + 0 + 44) [.int .u64 a] = plC { P with cf := { P.cf with sd := a } } sl zl := set_pt (j := 3) h rfl rfl rfl
theorem sp_zl {P : Pl} (h : P.cf.cm.length = 32) (sl zl zl' : Value) : spl (plC P sl zl) (0 + 45) [zl'] = plC P sl zl' := set_pt (j := 4) h rfl rfl rfl
theorem sp_de {P : Pl} (h : P.cf.cm.length = 32) (a : Int) (sl zl : Value) : spl (plC P sl zl) (0 + 46) [.int .i64 a] = plC { P with de := a } sl zl := set_pt (j := 5) h rfl rfl rfl
theorem sp_ra {P : Pl} (h : P.cf.cm.length = 32) (a : Int) (sl zl : Value) : spl (plC P sl zl) (0 + 47) [.int .i64 a] = plC { P with ra := a } sl zl := set_pt (j := 6) h rfl rfl rfl
theorem sp_m {P : Pl} (h : P.cf.cm.length = 32) (a : Int) (sl zl : Value) : spl (plC P sl zl) (0 + 48) [.int .i64 a] = plC { P with mo := a } sl zl := set_pt (j := 7) h rfl rfl rfl
theorem sp_sz {P : Pl} (h : P.cf.cm.length = 32) (a : Int) (sl zl : Value) : spl (plC P sl zl) (0 + 49) [.int .i64 a] = plC { P with sz := a } sl zl := set_pt (j := 8) h rfl rfl rfl
end Go.Proofs.YthndhipjfdgdfaaGreatDoor
