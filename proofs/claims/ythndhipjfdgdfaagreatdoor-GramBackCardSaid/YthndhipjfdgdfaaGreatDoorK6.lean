import Derived.Test.YthndhipjfdgdfaaGreatDoorK4
import Derived.Test.YthndhipjfdgdfaaGreatDoorKA
import Derived.Test.YthndhipjfdgdfaaGreatDoorAmong
import Derived.Test.YthndhipjfdgdfaaGreatDoorOwnT
import Derived.Test.YthndhipjfdgdfaaGreatDoorWB
import Derived.Test.YthndhipjfdgdfaaGreatDoorBA
set_option linter.unusedVariables false
set_option linter.unusedSimpArgs false
namespace Go.Proofs.YthndhipjfdgdfaaGreatDoor
open Go.PK
/-! ### GramBack -/
theorem back_ok {F : Pl} (h : FewOk F) (hk : F.ok = true) : BackOk F where
  all := h.all
  cm := h.cm
  bare := fun s hs => by
    unfold Pl.ok at hk
    simp only [Bool.and_eq_true] at hk
    exact List.all_eq_true.1 hk.2.2 s hs
theorem small_ok {F : Pl} (h : FewOk F) : Small F := ⟨h.nl, h.nz, fun z hz => (h.z z hz).2⟩
theorem print_len {P : Pl} (h : BackOk P) (hs : Small P) : (jnL 10#8 ((plP P).map lnJ)).length ≤ 60000 := by
  have h1 := jnL_len 10#8 ((plP P).map lnJ)
  rw [plP_eq, List.map_append, List.flatten_append, List.length_append, List.length_append, List.length_map, List.length_map] at h1
  have h2 := nine_flat h (List.Perm.refl _)
  have h3 := sz_flat h hs
  have h4 := sz_len P
  have := hs.nl
  have := hs.nz
  rw [plP_eq, List.map_append]
  omega
theorem prT_jn (P : Pl) : prT P = jnL 10#8 ((plP P).map lnJ) ++ [10#8] := by
  rw [prT]
  exact flat_jn _ (by rw [plP_eq]; simp [nineP])
theorem cut_note (s : Tx) (n : Nat) : saysT (35#8 :: subst1 10#8 32#8 ((s.drop 0).take (min s.length 100 - 0))) = false ∧ (35#8 :: subst1 10#8 32#8 ((s.drop 0).take (min s.length 100 - 0))).length ≤ 101 ∧ 10#8 ∉ (35#8 :: subst1 10#8 32#8 ((s.drop 0).take (min s.length 100 - 0))) := by
  refine ⟨rfl, ?_, ?_⟩
  · simp [subst1]; omega
  · intro hm
    rcases List.mem_cons.1 hm with h | h
    · revert h; decide
    · rw [subst1] at h
      obtain ⟨x, -, hx⟩ := List.mem_map.1 h
      split at hx
      · revert hx; decide
      · next hne => exact hne hx
theorem spl_setT {L : List Tx} {j : Nat} {s : Tx} (h : j < L.length) : spl (L.map strV) (j * 1) [strV s] = (L.set j s).map strV := by
  rw [Nat.mul_one, List.map_set]
  exact spl_set (by rw [List.length_map]; exact h)
/-- The lines in a slice: two of the first nine change places. -/
theorem swap_cells {A Z : List Tx} {i k : Nat} {x y : Tx} (hA : A.length = 9) (hi : i < 9) (hk : k < 9) : (((A ++ Z).set i y).set k x) = ((A.set i y).set k x) ++ Z := by
  rw [List.set_append_left _ _ (by omega), List.set_append_left _ _ (by rw [List.length_set]; omega)]
theorem sub_ones (L : List Tx) (a b : Nat) : ∀ u ∈ ((L.map strV).drop a).take b, u.oneCell' = true := fun u hu => by
  obtain ⟨x, -, rfl⟩ := List.mem_map.1 (List.mem_of_mem_drop (List.mem_of_mem_take hu))
  rfl
theorem Src.ownTI {I H : List It} {b cap sz nn : Nat} {e : TypeId} {xs : List Value} (hm : own (some b) cap e sz nn xs ∈ I) : Src I H (some ⟨b, 0, none⟩) nn sz xs := fun w hw => by
  have h1 := own_sls (hw.i _ hm)
  refine ⟨h1.1, fun h => (by cases h), fun a h => ?_⟩
  cases h
  exact h1.2.2
theorem fld_cf {P : Pl} (h : P.cf.cm.length = 32) (sl zl : Value) (w : World) : (Instr.field 43 (.agg (plC P sl zl).toArray) 0).run Tryz.prog w = .ok (.agg (P.cf.cells sl).toArray) w := by
  have h1 : List.take 45 (plC P sl zl) = P.cf.cells sl := by
    rw [plC, List.take_append_of_le_length (by rw [cf_len h]; exact Nat.le_refl _)]
    exact List.take_of_length_le (by rw [cf_len h]; exact Nat.le_refl _)
  simp [Instr.field, asAgg, Program.fieldsOf, Go.part, go_sem, h1]
theorem lback (x : PlA) (hx : x.Ok) (od : Sl Int) (hod : od.l.length ≤ od.c ∧ od.c ≤ maxLen ∧ (od.p = none → od.l = [] ∧ od.c = 0)) (note : Tx) (hno : note.length ≤ maxLen) :
    Spc Tryz.prog 5 #[.agg (plC x.P (.slice x.pa x.P.cf.L.length x.ca) (.slice x.pz x.P.zs.length x.cz)).toArray, .slice od.p od.l.length od.c, strV note] (gvI :: sls od.p 1 od.l.length (od.l.map (Value.int .i64)) :: sls x.pa 48 x.P.cf.L.length (x.P.cf.L.flatMap Sr.cells) :: sls x.pz 4 x.P.zs.length (x.ZL.flatMap znA) :: x.ZL.map znB) [] (Is (.bool true)) := by
  obtain ⟨op, ol_c, ol⟩ := od
  dsimp only at hod ⊢
  have hF := few_ok hx
  have hfw := lfw_any x.P x.pa x.pz x.ca x.cz _ _ x.ZL rfl rfl hx.zl hx.cf.cm (fun s hs => (hx.cf.L s hs).rt) hx.cf.l hx.cf.b hx.zn (fun z hz => ⟨Nat.le_trans (hx.z z hz).l.1 (hx.z z hz).l.2, (hx.z z hz).l.1⟩)
  have hpl := pl_len hx.cf.cm (.slice x.pa x.P.cf.L.length x.ca) (.slice x.pz x.P.zs.length x.cz)
  have hpF := fun sl zl => pl_len (P := x.P.few) hF.cm sl zl
  generalize hFe : x.P.few = F at hF hfw hpF
  refine Spc.enter Tryz.func5 rfl rfl rfl (fun w0 hw0 => ?_)
  refine CW.seq (CW.region (ef := [0]) (bk := []) (RL.box rfl rfl rfl rfl rfl rfl ?_))
  intro b1
  refine RL.p rfl (RL.nil (NQ.seq (CW.seq (CW.seq ?_))))
  refine CW.genI (fun J hJ => ?_)
  have mG : gvI ∈ J := hJ _ (by simp)
  have mO : sls op 1 ol.length (ol.map (Value.int .i64)) ∈ J := hJ _ (by simp)
  have mI : ∀ y ∈ (sls x.pa 48 x.P.cf.L.length (x.P.cf.L.flatMap Sr.cells) :: sls x.pz 4 x.P.zs.length (x.ZL.flatMap znA) :: x.ZL.map znB), y ∈ J := fun y hy => hJ _ (List.mem_cons_of_mem _ (List.mem_cons_of_mem _ hy))
  clear hJ
  refine CW.rg (RL.callv (works38) Tryz.call15 rfl rfl rfl rfl (.inI mG .nil) (RL.p rfl (RL.nil (NQ.seq (CW.condF rfl (rfl) (CW.skip (NQ.seq (CW.seq (CW.region (ef := [1, 2]) (bk := [1, 2]) (RL.loadW Tryz.isAgg35 Tryz.sizeOf35 rfl rfl rfl rfl (by repeat (first | exact List.Mem.head _ | apply List.Mem.tail)) hpl ?_))))))))))
  refine RL.call (hfw) Tryz.call6 rfl rfl rfl rfl rfl (by repeat (first | exact Pick.nil | apply Pick.take | apply Pick.leave)) (Lend.many mI) (.inr rfl) ?_
  rintro _ _ _ ⟨o1, c1, q1, d1, Y1, hY1, rfl, rfl, rfl⟩
  simp only [plT]
  refine RL.storeW Tryz.sizeOf35 rfl rfl rfl rfl rfl rfl rfl (pl_ones _ rfl rfl) (by repeat (first | exact Upd.here | apply Upd.there)) (hpF _ _) hpl ?_
  refine RL.nil (NQ.seq (CW.ok [1, 2, 3] rfl (CW.seq (CW.freezeAll rfl ?_))))
  refine CW.genI (fun J2 hJ => ?_)
  have nG : gvI ∈ J2 := hJ _ (by simp [mG])
  have nO : sls op 1 ol.length (ol.map (Value.int .i64)) ∈ J2 := hJ _ (by simp [mO])
  have n1 : cel b1 (plC F (slO o1 F.cf.L.length c1) (slO q1 F.zs.length d1)) 35 ∈ J2 := hJ _ (by simp)
  have n2 : own o1 c1 98 48 F.cf.L.length (F.cf.L.flatMap Sr.cells) ∈ J2 := hJ _ (by simp)
  have n3 : own q1 d1 73 4 F.zs.length (Y1.flatMap znO) ∈ J2 := hJ _ (by simp)
  have n4 : allI (Y1.map (znT 80)) ∈ J2 := hJ _ (by simp)
  clear hJ mG mO mI
  have fA : RdsN J2 ⟨b1, 0, none⟩ 50 (plC F (slO o1 F.cf.L.length c1) (slO q1 F.zs.length d1)) := RdsN.told n1 (fun j u hu => by rw [Nat.zero_add]; exact hu) (hpF _ _)
  have lP : ∀ H, Lend J2 H (plI F o1 q1 Y1) := fun H => Lend.ownI n2 (Lend.ownI n3 (lend_zT (.inr n4) _ (fun _ h => h)))
  have hgp := gprint_any F o1 q1 c1 d1 Y1 (hF.fit hY1) hF.all
  by_cases hok : F.ok = true
  · rw [prV, if_pos hok, prT_jn] at hgp
    have hB := back_ok hF hok
    have hS := small_ok hF
    have hle := print_len hB hS
    have hsp := split_print hB
    refine CW.rg (RL.loadSq Tryz.isAgg35 Tryz.sizeOf35 rfl rfl rfl rfl ?_)
    refine RL.callv (hgp) Tryz.call8 rfl rfl rfl rfl (.inI nG (lP _)) (RL.p rfl (RL.p rfl (RL.p rfl (RL.p rfl (RL.p rfl (RL.nil (NQ.seq (CW.seq (CW.seq (CW.rg (RL.p rfl (RL.p rfl (RL.nil ?_)))))))))))))
    refine NQ.seq (CW.ok [1, 2, 3, 7, 28] rfl (CW.condF rfl (rfl) (CW.skip (NQ.seq (CW.seq (CW.region (ef := [2]) (bk := [2]) (RL.p rfl (RL.callv (suf_any _ (by omega)) Tryz.call19 rfl rfl rfl rfl .nil ?_))))))))
    refine RL.call (splitO_any 10#8 (jnL 10#8 ((plP F).map lnJ)) (by omega)) Tryz.call18 rfl rfl rfl rfl rfl (by repeat (first | exact Pick.nil | apply Pick.take | apply Pick.leave)) (.inI nG .nil) (.inr rfl) ?_
    rintro _ _ _ ⟨bl, rfl, rfl, rfl⟩
    rw [hsp, plP_eq, List.map_append]
    have hzl : ((szW F).map lnJ).length ≤ 24 := by rw [List.length_map, sz_len]; have := hS.nl; have := hS.nz; omega
    have hbk := fun A (hp : A.Perm (nineP F)) odd nt h1 h2 h3 => And.intro (back_len hB hS (A := A) hp (note := nt) h2 odd) (parse_back hB hS hok (A := A) hp (note := nt) h1 h2 h3 odd)
    simp only [backL] at hbk
    generalize (szW F).map lnJ = Z at hzl hbk ⊢
    obtain ⟨m, hm⟩ : ∃ m, 9 + Z.length = m := ⟨_, rfl⟩
    rw [show ((nineP F).map lnJ ++ Z).length = m by rw [List.length_append, List.length_map]; exact hm]
    refine RL.p rfl (RL.nil (NQ.seq (CW.seq (CW.seq (CW.rg (RL.p rfl (RL.nil (NQ.seq (CW.block (CW.loop (γ := Nat × List (List Tx)) (fun g => (g.1 ≤ 9 ∧ g.1 ≤ ol.length) ∧ g.2.Perm (nineP F)) (fun g => [(1, .slice op ol.length ol_c), (2, strV note), (3, .pointer (some ⟨b1, 0, none⟩)), (9, .slice (some ⟨bl, 0, none⟩) m m), (10, .int .i64 (g.1 : Int))]) (fun _ => J2) (fun g => [own (some bl) m 9 1 m ((g.2.map lnJ ++ Z).map strV)]) (fun g => 9 - g.1) (0, nineP F) ⟨⟨Nat.zero_le _, Nat.zero_le _⟩, List.Perm.refl _⟩ (.cons rfl (.cons rfl (.cons rfl (.cons rfl (.cons rfl .nil))))) (fun w h => h.rea (fun _ h => h) (by repeat (first | exact Rea.nil | (apply Rea.cons; (solve | (repeat (first | exact Del.here | apply Del.there))))))) ?_))))))))))
    rintro ⟨i, A⟩ ⟨⟨hi9, hin⟩, hA⟩
    dsimp only at hi9 hin hA ⊢
    have hA9 : (A.map lnJ).length = 9 := by rw [List.length_map]; exact hA.length_eq
    have hAm : (A.map lnJ ++ Z).length = m := by rw [List.length_append, hA9]; exact hm
    have hml : m ≤ 33 := by omega
    refine CW.seq (CW.seq (CW.rg (RL.p rfl (RL.p rfl (RL.lenS Tryz.runUnderlying61 rfl rfl rfl rfl (RL.p rfl (RL.p rfl ?_)))))))
    apply RL.andB (d := 38) (dp := 41) (l' := (Sq.of [])) rfl (sK [1, 2, 3, 9, 10] rfl)
    ·
      intro hb5 K5
      refine RL.p rfl (RL.p rfl (RL.p rfl ?_))
      exact K5 _ (.cons rfl (sK [1, 2, 3, 9, 10] rfl))
    ·
      intro hb5 K5
      refine RL.p rfl (RL.p rfl (RL.p rfl ?_))
      exact K5 _ (.cons rfl (sK [1, 2, 3, 9, 10] rfl))
    refine RL.nil (NQ.seq ?_)
    refine CW.cond rfl (fun hlt => ?_) (fun hlt => ?_)
    · have hlt' : i < ol.length ∧ i < 9 := by simp at hlt; omega
      cases op with
      | none => exact absurd (hod.2.2 rfl).1 (by intro e; rw [e] at hlt'; exact absurd hlt'.1 (Nat.not_lt_zero _))
      | some oa =>
      obtain ⟨v, hv⟩ : ∃ v, ol[i]? = some v := ⟨_, List.getElem?_eq_getElem hlt'.1⟩
      have fO : RdI J2 (oa.add (i * 1)) (.int .i64 v) := ⟨fun H => Rd.getS (H := H) (v := .int .i64 v) (j := i * 1) nO (by rw [show i * 1 = i by omega, List.getElem?_map, hv]; rfl)⟩
      have hk9 := amongN_lt (x := v) (n := 9) (by decide)
      generalize hk : amongN v 9 = k at hk9
      obtain ⟨sx, hsx⟩ : ∃ s, A[i]? = some s := ⟨_, List.getElem?_eq_getElem (by rw [← List.length_map (f := lnJ), hA9]; exact hlt'.2)⟩
      obtain ⟨sy, hsy⟩ : ∃ s, A[k]? = some s := ⟨_, List.getElem?_eq_getElem (by rw [← List.length_map (f := lnJ), hA9]; exact hk9)⟩
      have hcx : (A.map lnJ ++ Z)[i]? = some (lnJ sx) := by rw [List.getElem?_append_left (by omega), List.getElem?_map, hsx]; rfl
      have hcy : (A.map lnJ ++ Z)[k]? = some (lnJ sy) := by rw [List.getElem?_append_left (by omega), List.getElem?_map, hsy]; rfl
      have hfin : ((A.map lnJ ++ Z).set i (lnJ sy)).set k (lnJ sx) = ((A.set i sy).set k sx).map lnJ ++ Z := by rw [swap_cells hA9 hlt'.2 hk9, List.map_set, List.map_set]
      have hln1 : ((A.map lnJ ++ Z).set i (lnJ sy)).length = m := by rw [List.length_set]; exact hAm
      refine CW.skip (NQ.seq (CW.seq (CW.block (CW.seq (CW.rg (RL.p rfl (RL.p rfl (RL.idx (j := i) Tryz.runUnderlying61 Tryz.sizeOf3 rfl rfl rfl rfl rfl rfl hlt'.1 (RL.loadq Tryz.isAgg3 rfl rfl rfl rfl ?_)))))))))
      refine RL.callv ((show Spc _ _ _ _ _ (Is (.int .i64 (k : Int))) from hk ▸ among_any v 9 (by decide) (by decide))) Tryz.call20 rfl rfl rfl rfl .nil ?_
      refine RL.p rfl (RL.nil (NQ.seq (CW.ok [1, 2, 3, 9, 10, 11] rfl (CW.seq (CW.regionD (Sq.of [0, 1, 2, 3, 4, 5, 6, 7, 8, 9]) [] [] [0, 1, 2, 4, 5, 6, 8, 9] mixed (by kernel_rfl) ?_)))))
      refine RL.p rfl (RL.p rfl (RL.idxAt (j := i) Tryz.runUnderlying62 Tryz.sizeOf9 rfl rfl rfl rfl rfl rfl (by omega) ?_))
      refine RL.load Tryz.isAgg9 rfl rfl rfl rfl (ownRd (by repeat (first | exact List.Mem.head _ | apply List.Mem.tail)) hcx) ?_
      refine RL.p rfl (RL.p rfl (RL.idxAt (j := k) Tryz.runUnderlying62 Tryz.sizeOf9 rfl rfl rfl rfl rfl rfl (by omega) ?_))
      refine RL.load Tryz.isAgg9 rfl rfl rfl rfl (ownRd (by repeat (first | exact List.Mem.head _ | apply List.Mem.tail)) hcy) ?_
      refine RL.p rfl (RL.p rfl (RL.nil (NQ.seq (CW.ok [1, 2, 3, 9, 10, 11, 12, 13] rfl (CW.region (ef := [7, 9]) (bk := [7, 9]) (RL.p rfl (RL.p rfl (RL.p rfl (RL.p rfl (RL.p rfl (RL.p rfl (RL.idxAt (j := i) Tryz.runUnderlying62 Tryz.sizeOf9 rfl rfl rfl rfl rfl rfl (by omega) ?_))))))))))))
      refine RL.storeO (off := i * 1) (vs := [_]) (spl_setT (L := A.map lnJ ++ Z) (j := i) (s := lnJ sy) (by omega)) Tryz.sizeOf9 rfl rfl rfl rfl rfl (by rw [add_none]) rfl rfl rfl (by rw [List.length_map, hAm]; show i * 1 + 1 ≤ m; omega) (by repeat (first | exact Upd.here | apply Upd.there)) ?_
      refine RL.idxAt (j := k) Tryz.runUnderlying62 Tryz.sizeOf9 rfl rfl rfl rfl rfl rfl (by omega) ?_
      refine RL.storeO (off := k * 1) (vs := [_]) (spl_setT (L := (A.map lnJ ++ Z).set i (lnJ sy)) (j := k) (s := lnJ sx) (by omega)) Tryz.sizeOf9 rfl rfl rfl rfl rfl (by rw [add_none]) rfl rfl rfl (by rw [List.length_map, hln1]; show k * 1 + 1 ≤ m; omega) (by repeat (first | exact Upd.here | apply Upd.there)) ?_
      refine RL.nil (NQ.block (NQ.seq (CW.ok [1, 2, 3, 9, 10] rfl (CW.rg (RL.p rfl (RL.bx rfl (wrapV_i64 (by omega) (by omega)) ?_))))))
      refine RL.p rfl (RL.nil ?_)
      exact NQ.round (g := (i, A)) (i + 1, (A.set i sy).set k sx) ⟨⟨hlt'.2, hlt'.1⟩, swap_perm hA hsx hsy⟩ (by show 9 - (i + 1) < 9 - i; omega) (.cons rfl (.cons rfl (.cons rfl (.cons rfl (.cons rfl .nil))))) (fun w h => by
        dsimp only
        rw [hfin] at h
        exact h.rea (fun _ h => h) (by repeat (first | exact Rea.nil | (apply Rea.cons; (solve | (repeat (first | exact Del.here | apply Del.there)))))))
    · clear hlt hi9 hin
      refine CW.exit (XQ.seq (XQ.seq (XQ.hit (NQ.seq (CW.seq (CW.rg (RL.p rfl (RL.nil (NQ.seq (CW.seq (CW.seq (CW.rg (RL.p rfl ?_)))))))))))))
      refine RL.lenS Tryz.runUnderlying61 rfl rfl rfl rfl (RL.rem rfl rfl rfl rfl rfl (by decide) ?_)
      refine RL.p rfl (RL.nil (NQ.seq (CW.ok [2, 3, 9, 14, 68] rfl ?_)))
      refine CW.cutG (γ := Bool × Nat × List Tx × Nat × Nat) (fun g => (g.1 = true ∧ g.2.1 = 0 ∧ g.2.2.1 = Z ++ A.map lnJ) ∨ (g.1 = false ∧ g.2.1 = 9 ∧ g.2.2.1 = A.map lnJ ++ Z)) (fun g => [(2, strV note), (3, .pointer (some ⟨b1, 0, none⟩)), (9, .slice (some ⟨g.2.2.2.1, 0, none⟩) m g.2.2.2.2), (14, .int .i64 (g.2.1 : Int))]) (fun _ => J2) (fun g => [own (some g.2.2.2.1) g.2.2.2.2 9 1 m (g.2.2.1.map strV)]) ?_ ?_
      ·
        refine CW.cond rfl (fun ho => ?_) (fun ho => ?_)
        · have hm9 : 9 ≤ m := by omega
          refine CW.regionD (Sq.of [1, 2, 4, 5, 0, 3, 6, 7, 8]) [0, 3, 6] [3, 6] [1, 2, 4, 5, 7, 8] mixed (by kernel_rfl) ?_
          refine RL.p rfl (RL.slice (lo := 9) (hi := m) Tryz.runUnderlying62 Tryz.sizeOf9 rfl rfl rfl rfl rfl rfl (by omega) (Nat.le_refl _) ?_)
          refine RL.p rfl (RL.slice (lo := 0) (hi := 9) Tryz.runUnderlying62 Tryz.sizeOf9 rfl rfl rfl rfl rfl rfl (by omega) (by omega) ?_)
          refine RL.buildOwn [] Tryz.runUnderlying62 Tryz.sizeOf9 Tryz.zeroValue9 rfl rfl (by decide) (by decide) rfl (by decide) rfl rfl rfl rfl rfl rfl ?_
          intro b2
          refine RL.appendA el_62 rfl rfl rfl rfl rfl rfl rfl (by first | exact ⟨(.take (Pick.none _)), rfl⟩ | exact ⟨(.leave (.take (Pick.none _))), rfl⟩ | exact ⟨(.leave (.leave (.take (Pick.none _)))), rfl⟩ | exact ⟨(.leave (.leave (.leave (.take (Pick.none _))))), rfl⟩ | exact ⟨(.leave (.leave (.leave (.leave (.take (Pick.none _)))))), rfl⟩ | exact ⟨(.leave (.leave (.leave (.leave (.leave (.take (Pick.none _))))))), rfl⟩ | exact ⟨(.leave (.leave (.leave (.leave (.leave (.leave (.take (Pick.none _)))))))), rfl⟩ | exact ⟨(.leave (.leave (.leave (.leave (.leave (.leave (.leave (.take (Pick.none _))))))))), rfl⟩ | exact ⟨(.leave (.leave (.leave (.leave (.leave (.leave (.leave (.leave (.take (Pick.none _)))))))))), rfl⟩ | exact ⟨(.leave (.leave (.leave (.leave (.leave (.leave (.leave (.leave (.leave (.take (Pick.none _))))))))))), rfl⟩) (Src.sub (Src.ownS (by repeat (first | exact List.Mem.head _ | apply List.Mem.tail))) (by omega) (Nat.le_refl _) (fun h => h.symm)) (sub_ones _ _ _) (by first | omega | (simp only [maxLen]; omega)) (by first | omega | (simp only [maxLen]; omega)) ?_
          intro od1 cd1 hd1
          refine RL.appendA el_62 rfl rfl rfl rfl rfl rfl rfl (by first | exact ⟨(.take (Pick.none _)), rfl⟩ | exact ⟨(.leave (.take (Pick.none _))), rfl⟩ | exact ⟨(.leave (.leave (.take (Pick.none _)))), rfl⟩ | exact ⟨(.leave (.leave (.leave (.take (Pick.none _))))), rfl⟩ | exact ⟨(.leave (.leave (.leave (.leave (.take (Pick.none _)))))), rfl⟩ | exact ⟨(.leave (.leave (.leave (.leave (.leave (.take (Pick.none _))))))), rfl⟩ | exact ⟨(.leave (.leave (.leave (.leave (.leave (.leave (.take (Pick.none _)))))))), rfl⟩ | exact ⟨(.leave (.leave (.leave (.leave (.leave (.leave (.leave (.take (Pick.none _))))))))), rfl⟩ | exact ⟨(.leave (.leave (.leave (.leave (.leave (.leave (.leave (.leave (.take (Pick.none _)))))))))), rfl⟩ | exact ⟨(.leave (.leave (.leave (.leave (.leave (.leave (.leave (.leave (.leave (.take (Pick.none _))))))))))), rfl⟩) (Src.sub (Src.ownS (by repeat (first | exact List.Mem.head _ | apply List.Mem.tail))) (by omega) (by omega) (fun h => by omega)) (sub_ones _ _ _) (by first | omega | (simp only [maxLen]; omega)) (by first | omega | (simp only [maxLen]; omega)) ?_
          intro od2 cd2 hd2
          refine RL.p rfl (RL.p rfl (RL.nil ?_))
          have e1 : ((A.map lnJ ++ Z).drop 9).take (m - 9) = Z := by rw [List.drop_left' hA9, List.take_of_length_le (by omega)]
          have e2 : ((A.map lnJ ++ Z).drop 0).take 9 = A.map lnJ := by rw [List.drop_zero, List.take_left' hA9]
          have hcat : [] ++ (((A.map lnJ ++ Z).map strV).drop (9 * 1)).take ((m - 9) * 1) ++ (((A.map lnJ ++ Z).map strV).drop (0 * 1)).take ((9 - 0) * 1) = (Z ++ A.map lnJ).map strV := by
            rw [List.nil_append, Nat.mul_one, Nat.mul_one, ← List.map_drop, ← List.map_take, ← List.map_drop, ← List.map_take, e1, List.map_append]
            congr 1
            exact congrArg (List.map strV) e2
          have hn : 0 + (m - 9) + (9 - 0) = m := by omega
          obtain ⟨bx, rfl⟩ := Option.isSome_iff_exists.1 (hd2.resolve_left (by omega))
          exact NQ.midG (true, 0, Z ++ A.map lnJ, bx, cd2) (.inl ⟨rfl, rfl, rfl⟩) (.cons rfl (.cons rfl (.cons (k := 9) (by rw [hn]; rfl) (.cons rfl .nil)))) (fun w h => by rw [hn, hcat] at h; exact h.rea (fun _ h => h) (by repeat (first | exact Rea.nil | (apply Rea.cons; (solve | (repeat (first | exact Del.here | apply Del.there)))))))
        ·
          refine CW.skip ?_
          exact NQ.midG (false, 9, A.map lnJ ++ Z, bl, m) (.inr ⟨rfl, rfl, rfl⟩) (.cons rfl (.cons rfl (.cons rfl (.cons rfl .nil)))) (fun w h => h.rea (fun _ h => h) (by repeat (first | exact Rea.nil | (apply Rea.cons; (solve | (repeat (first | exact Del.here | apply Del.there)))))))
      rintro ⟨odd, n0, L2, bz, cz⟩ hL2
      dsimp only at hL2 ⊢
      obtain ⟨hn1, hn2, hn3⟩ := cut_note note 0
      have hL2m : L2.length = m := by
        rcases hL2 with ⟨-, -, rfl⟩ | ⟨-, -, rfl⟩
        · rw [List.length_append, hA9]; omega
        · exact hAm
      have hn0 : n0 ≤ m := by rcases hL2 with ⟨-, rfl, -⟩ | ⟨-, rfl, -⟩ <;> omega
      have hfin : L2.take n0 ++ ([35#8 :: subst1 10#8 32#8 ((note.drop 0).take (min note.length 100 - 0)), []] ++ L2.drop n0) = (if odd = true then [35#8 :: subst1 10#8 32#8 ((note.drop 0).take (min note.length 100 - 0)), []] ++ (Z ++ A.map lnJ) else A.map lnJ ++ ([35#8 :: subst1 10#8 32#8 ((note.drop 0).take (min note.length 100 - 0)), []] ++ Z)) := by
        rcases hL2 with ⟨rfl, rfl, rfl⟩ | ⟨rfl, rfl, rfl⟩
        · rfl
        · rw [List.take_left' hA9, List.drop_left' hA9]; rfl
      obtain ⟨⟨hk1, hk2, -⟩, hk3⟩ := hbk A hA odd _ hn1 hn2 hn3
      rw [← hfin] at hk1 hk2 hk3
      clear hfin hbk hL2
      have hsl : ((note.drop 0).take (min note.length 100 - 0)).length ≤ 100 := by rw [List.length_take]; omega
      have hrep := rep_any ((note.drop 0).take (min note.length 100 - 0)) (by omega)
      have hsl2 : (subst1 10#8 32#8 ((note.drop 0).take (min note.length 100 - 0))).length ≤ 100 := by rw [subst1, List.length_map]; exact hsl
      refine CW.fact (p := m ≤ cz) (fun w hC => own_cap (hC.s.h _ (List.Mem.head _))) (fun hcz => ?_)
      refine CW.seq (CW.rg (RL.p rfl (RL.p rfl (RL.lenTxt Tryz.runUnderlying9 rfl rfl rfl rfl (RL.min rfl rfl rfl rfl rfl (RL.sliceTxt (s := note) (lo := 0) (hi := min note.length 100) Tryz.runUnderlying9 rfl rfl rfl rfl rfl (by show some (min (note.length : Int) 100) = some ((min note.length 100 : Nat) : Int); congr 1; omega) (Nat.zero_le _) (Nat.min_le_left _ _) ?_))))))
      refine RL.callv (hrep) Tryz.call21 rfl rfl rfl rfl (.inI nG .nil) (RL.addTxt (a := [35#8]) (b := subst1 10#8 32#8 ((note.drop 0).take (min note.length 100 - 0))) rfl rfl rfl rfl rfl (by simp only [List.length_cons, List.length_nil]; omega) ?_)
      refine RL.p rfl (RL.nil (NQ.seq (CW.ok [2, 3, 9, 14] rfl (CW.seq ?_))))
      rw [List.singleton_append]
      generalize 35#8 :: subst1 10#8 32#8 ((note.drop 0).take (min note.length 100 - 0)) = nt at hk1 hk2 hk3 ⊢
      clear hn1 hn2 hn3 hsl hrep hsl2
      refine CW.freezeP (A := [own (some bz) cz 9 1 m (L2.map strV)]) (B := []) (by repeat (first | exact Pick.nil | apply Pick.take | apply Pick.leave)) rfl ?_
      refine CW.genI (fun J3 hJ => ?_)
      have nB : own (some bz) cz 9 1 m (L2.map strV) ∈ J3 := hJ _ (List.mem_cons_self ..)
      have hJ3 : ∀ x ∈ J2, x ∈ J3 := fun x hx => hJ _ (List.mem_append_right _ hx)
      clear hJ
      have sB : ∀ H, Src J3 H (some ⟨bz, 0, none⟩) m 1 (L2.map strV) := fun H => Src.ownTI nB
      have hlen : (L2.take n0 ++ ([nt, []] ++ L2.drop n0)).length = m + 2 := by
        rw [List.length_append, List.length_append, List.length_take, List.length_drop, hL2m]; show min n0 m + (2 + (m - n0)) = _; omega
      have hN : 0 + (n0 - 0) + 2 + (m - n0) = m + 2 := by omega
      have hcat : [] ++ ((L2.map strV).drop (0 * 1)).take ((n0 - 0) * 1) ++ [strV nt, strV []] ++ ((L2.map strV).drop (n0 * 1)).take ((m - n0) * 1) = (L2.take n0 ++ ([nt, []] ++ L2.drop n0)).map strV := by
        have e : ((L2.map strV).drop n0).take (m - n0) = (L2.drop n0).map strV := by rw [← List.map_drop, ← List.map_take, List.take_of_length_le (by rw [List.length_drop]; omega)]
        have e0 : ((L2.map strV).drop 0).take n0 = (L2.take n0).map strV := by rw [List.drop_zero, List.map_take]
        simp only [Nat.mul_one, Nat.sub_zero, e, e0]
        rw [List.map_append, List.map_append, List.nil_append, List.append_assoc]
        rfl
      refine CW.cutG (γ := Nat × Nat) (fun _ => True) (fun g => [(3, .pointer (some ⟨b1, 0, none⟩)), (9, .slice (some ⟨g.1, 0, none⟩) (m + 2) g.2)]) (fun _ => J3) (fun g => [own (some g.1) g.2 9 1 (m + 2) ((L2.take n0 ++ ([nt, []] ++ L2.drop n0)).map strV)]) ?_ ?_
      ·
        refine CW.regionD (.cons 1 (.cons 2 (.cons 3 (.cons 5 (.cons 8 (.cons 9 (.cons 10 (.fork [0, 6] (fun k => (bif Nat.beq k 0 then (.fork [4, 6] (fun k => (bif Nat.beq k 4 then (Sq.of [6, 7, 11, 12]) else (Sq.of [4, 7, 11, 12])))) else (Sq.of [0, 4, 7, 11, 12]))))))))))) [0, 4, 6, 7, 11] [4, 7, 11] [1, 2, 3, 5, 8, 9, 10, 12] mixed (by kernel_rfl) ?_
        refine RL.p rfl (RL.p rfl (RL.slice (lo := 0) (hi := n0) Tryz.runUnderlying62 Tryz.sizeOf9 rfl rfl rfl rfl rfl rfl (Nat.zero_le _) (by omega) ?_))
        refine RL.p rfl (RL.p rfl (RL.p rfl (RL.slice (lo := n0) (hi := m) Tryz.runUnderlying62 Tryz.sizeOf9 rfl rfl rfl rfl rfl rfl hn0 hcz ?_)))
        refine RL.fork ⟨?_, ?_, trivial⟩
        ·
          refine RL.buildOwn [] Tryz.runUnderlying62 Tryz.sizeOf9 Tryz.zeroValue9 rfl rfl (by decide) (by decide) rfl (by decide) rfl rfl rfl rfl rfl rfl ?_
          intro b2
          refine RL.fork ⟨?_, ?_, trivial⟩
          ·
            refine RL.appendA el_62 rfl rfl rfl rfl rfl rfl rfl (by first | exact ⟨(.take (Pick.none _)), rfl⟩ | exact ⟨(.leave (.take (Pick.none _))), rfl⟩ | exact ⟨(.leave (.leave (.take (Pick.none _)))), rfl⟩ | exact ⟨(.leave (.leave (.leave (.take (Pick.none _))))), rfl⟩ | exact ⟨(.leave (.leave (.leave (.leave (.take (Pick.none _)))))), rfl⟩ | exact ⟨(.leave (.leave (.leave (.leave (.leave (.take (Pick.none _))))))), rfl⟩ | exact ⟨(.leave (.leave (.leave (.leave (.leave (.leave (.take (Pick.none _)))))))), rfl⟩ | exact ⟨(.leave (.leave (.leave (.leave (.leave (.leave (.leave (.take (Pick.none _))))))))), rfl⟩ | exact ⟨(.leave (.leave (.leave (.leave (.leave (.leave (.leave (.leave (.take (Pick.none _)))))))))), rfl⟩ | exact ⟨(.leave (.leave (.leave (.leave (.leave (.leave (.leave (.leave (.leave (.take (Pick.none _))))))))))), rfl⟩) (Src.sub (sB _) (Nat.zero_le _) hn0 (fun h => by omega)) (sub_ones _ _ _) (by first | omega | (simp only [maxLen]; omega)) (by first | omega | (simp only [maxLen]; omega)) ?_
            intro od1 cd1 hd1
            refine RL.buildSlice [_, _] Tryz.runUnderlying62 Tryz.sizeOf9 Tryz.zeroValue9 rfl rfl (by decide) (by decide) rfl rfl rfl rfl rfl rfl ?_
            intro bs
            refine RL.appendA el_62 rfl rfl rfl rfl rfl rfl rfl (by first | exact ⟨(.take (Pick.none _)), rfl⟩ | exact ⟨(.leave (.take (Pick.none _))), rfl⟩ | exact ⟨(.leave (.leave (.take (Pick.none _)))), rfl⟩ | exact ⟨(.leave (.leave (.leave (.take (Pick.none _))))), rfl⟩ | exact ⟨(.leave (.leave (.leave (.leave (.take (Pick.none _)))))), rfl⟩ | exact ⟨(.leave (.leave (.leave (.leave (.leave (.take (Pick.none _))))))), rfl⟩ | exact ⟨(.leave (.leave (.leave (.leave (.leave (.leave (.take (Pick.none _)))))))), rfl⟩ | exact ⟨(.leave (.leave (.leave (.leave (.leave (.leave (.leave (.take (Pick.none _))))))))), rfl⟩ | exact ⟨(.leave (.leave (.leave (.leave (.leave (.leave (.leave (.leave (.take (Pick.none _)))))))))), rfl⟩ | exact ⟨(.leave (.leave (.leave (.leave (.leave (.leave (.leave (.leave (.leave (.take (Pick.none _))))))))))), rfl⟩) (Src.cel (cs := [strV nt, strV []]) (by repeat (first | exact List.Mem.head _ | apply List.Mem.tail)) rfl) (ones_spec rfl) (by first | omega | (simp only [maxLen]; omega)) (by first | omega | (simp only [maxLen]; omega)) ?_
            intro od2 cd2 hd2
            refine RL.appendA el_62 rfl rfl rfl rfl rfl rfl rfl (by first | exact ⟨(.take (Pick.none _)), rfl⟩ | exact ⟨(.leave (.take (Pick.none _))), rfl⟩ | exact ⟨(.leave (.leave (.take (Pick.none _)))), rfl⟩ | exact ⟨(.leave (.leave (.leave (.take (Pick.none _))))), rfl⟩ | exact ⟨(.leave (.leave (.leave (.leave (.take (Pick.none _)))))), rfl⟩ | exact ⟨(.leave (.leave (.leave (.leave (.leave (.take (Pick.none _))))))), rfl⟩ | exact ⟨(.leave (.leave (.leave (.leave (.leave (.leave (.take (Pick.none _)))))))), rfl⟩ | exact ⟨(.leave (.leave (.leave (.leave (.leave (.leave (.leave (.take (Pick.none _))))))))), rfl⟩ | exact ⟨(.leave (.leave (.leave (.leave (.leave (.leave (.leave (.leave (.take (Pick.none _)))))))))), rfl⟩ | exact ⟨(.leave (.leave (.leave (.leave (.leave (.leave (.leave (.leave (.leave (.take (Pick.none _))))))))))), rfl⟩) (Src.sub (sB _) hn0 (Nat.le_refl _) (fun h => by omega)) (sub_ones _ _ _) (by first | omega | (simp only [maxLen]; omega)) (by first | omega | (simp only [maxLen]; omega)) ?_
            intro od3 cd3 hd3
            refine RL.p rfl (RL.nil ?_)
            (obtain ⟨bx, rfl⟩ := Option.isSome_iff_exists.1 (hd3.resolve_left (by omega)); exact NQ.midG (bx, cd3) trivial (.cons rfl (.cons (k := 9) (by rw [hN]; rfl) .nil)) (fun w h => by rw [hN, hcat] at h; exact h.rea (fun _ h => h) (by repeat (first | exact Rea.nil | (apply Rea.cons; (solve | (repeat (first | exact Del.here | apply Del.there))))))))
          ·
            refine RL.buildSlice [_, _] Tryz.runUnderlying62 Tryz.sizeOf9 Tryz.zeroValue9 rfl rfl (by decide) (by decide) rfl rfl rfl rfl rfl rfl ?_
            intro bs
            refine RL.appendA el_62 rfl rfl rfl rfl rfl rfl rfl (by first | exact ⟨(.take (Pick.none _)), rfl⟩ | exact ⟨(.leave (.take (Pick.none _))), rfl⟩ | exact ⟨(.leave (.leave (.take (Pick.none _)))), rfl⟩ | exact ⟨(.leave (.leave (.leave (.take (Pick.none _))))), rfl⟩ | exact ⟨(.leave (.leave (.leave (.leave (.take (Pick.none _)))))), rfl⟩ | exact ⟨(.leave (.leave (.leave (.leave (.leave (.take (Pick.none _))))))), rfl⟩ | exact ⟨(.leave (.leave (.leave (.leave (.leave (.leave (.take (Pick.none _)))))))), rfl⟩ | exact ⟨(.leave (.leave (.leave (.leave (.leave (.leave (.leave (.take (Pick.none _))))))))), rfl⟩ | exact ⟨(.leave (.leave (.leave (.leave (.leave (.leave (.leave (.leave (.take (Pick.none _)))))))))), rfl⟩ | exact ⟨(.leave (.leave (.leave (.leave (.leave (.leave (.leave (.leave (.leave (.take (Pick.none _))))))))))), rfl⟩) (Src.sub (sB _) (Nat.zero_le _) hn0 (fun h => by omega)) (sub_ones _ _ _) (by first | omega | (simp only [maxLen]; omega)) (by first | omega | (simp only [maxLen]; omega)) ?_
            intro od1 cd1 hd1
            refine RL.appendA el_62 rfl rfl rfl rfl rfl rfl rfl (by first | exact ⟨(.take (Pick.none _)), rfl⟩ | exact ⟨(.leave (.take (Pick.none _))), rfl⟩ | exact ⟨(.leave (.leave (.take (Pick.none _)))), rfl⟩ | exact ⟨(.leave (.leave (.leave (.take (Pick.none _))))), rfl⟩ | exact ⟨(.leave (.leave (.leave (.leave (.take (Pick.none _)))))), rfl⟩ | exact ⟨(.leave (.leave (.leave (.leave (.leave (.take (Pick.none _))))))), rfl⟩ | exact ⟨(.leave (.leave (.leave (.leave (.leave (.leave (.take (Pick.none _)))))))), rfl⟩ | exact ⟨(.leave (.leave (.leave (.leave (.leave (.leave (.leave (.take (Pick.none _))))))))), rfl⟩ | exact ⟨(.leave (.leave (.leave (.leave (.leave (.leave (.leave (.leave (.take (Pick.none _)))))))))), rfl⟩ | exact ⟨(.leave (.leave (.leave (.leave (.leave (.leave (.leave (.leave (.leave (.take (Pick.none _))))))))))), rfl⟩) (Src.cel (cs := [strV nt, strV []]) (by repeat (first | exact List.Mem.head _ | apply List.Mem.tail)) rfl) (ones_spec rfl) (by first | omega | (simp only [maxLen]; omega)) (by first | omega | (simp only [maxLen]; omega)) ?_
            intro od2 cd2 hd2
            refine RL.appendA el_62 rfl rfl rfl rfl rfl rfl rfl (by first | exact ⟨(.take (Pick.none _)), rfl⟩ | exact ⟨(.leave (.take (Pick.none _))), rfl⟩ | exact ⟨(.leave (.leave (.take (Pick.none _)))), rfl⟩ | exact ⟨(.leave (.leave (.leave (.take (Pick.none _))))), rfl⟩ | exact ⟨(.leave (.leave (.leave (.leave (.take (Pick.none _)))))), rfl⟩ | exact ⟨(.leave (.leave (.leave (.leave (.leave (.take (Pick.none _))))))), rfl⟩ | exact ⟨(.leave (.leave (.leave (.leave (.leave (.leave (.take (Pick.none _)))))))), rfl⟩ | exact ⟨(.leave (.leave (.leave (.leave (.leave (.leave (.leave (.take (Pick.none _))))))))), rfl⟩ | exact ⟨(.leave (.leave (.leave (.leave (.leave (.leave (.leave (.leave (.take (Pick.none _)))))))))), rfl⟩ | exact ⟨(.leave (.leave (.leave (.leave (.leave (.leave (.leave (.leave (.leave (.take (Pick.none _))))))))))), rfl⟩) (Src.sub (sB _) hn0 (Nat.le_refl _) (fun h => by omega)) (sub_ones _ _ _) (by first | omega | (simp only [maxLen]; omega)) (by first | omega | (simp only [maxLen]; omega)) ?_
            intro od3 cd3 hd3
            refine RL.p rfl (RL.nil ?_)
            (obtain ⟨bx, rfl⟩ := Option.isSome_iff_exists.1 (hd3.resolve_left (by omega)); exact NQ.midG (bx, cd3) trivial (.cons rfl (.cons (k := 9) (by rw [hN]; rfl) .nil)) (fun w h => by rw [hN, hcat] at h; exact h.rea (fun _ h => h) (by repeat (first | exact Rea.nil | (apply Rea.cons; (solve | (repeat (first | exact Del.here | apply Del.there))))))))
        ·
          refine RL.buildSlice [_, _] Tryz.runUnderlying62 Tryz.sizeOf9 Tryz.zeroValue9 rfl rfl (by decide) (by decide) rfl rfl rfl rfl rfl rfl ?_
          intro bs
          refine RL.buildOwn [] Tryz.runUnderlying62 Tryz.sizeOf9 Tryz.zeroValue9 rfl rfl (by decide) (by decide) rfl (by decide) rfl rfl rfl rfl rfl rfl ?_
          intro b2
          refine RL.appendA el_62 rfl rfl rfl rfl rfl rfl rfl (by first | exact ⟨(.take (Pick.none _)), rfl⟩ | exact ⟨(.leave (.take (Pick.none _))), rfl⟩ | exact ⟨(.leave (.leave (.take (Pick.none _)))), rfl⟩ | exact ⟨(.leave (.leave (.leave (.take (Pick.none _))))), rfl⟩ | exact ⟨(.leave (.leave (.leave (.leave (.take (Pick.none _)))))), rfl⟩ | exact ⟨(.leave (.leave (.leave (.leave (.leave (.take (Pick.none _))))))), rfl⟩ | exact ⟨(.leave (.leave (.leave (.leave (.leave (.leave (.take (Pick.none _)))))))), rfl⟩ | exact ⟨(.leave (.leave (.leave (.leave (.leave (.leave (.leave (.take (Pick.none _))))))))), rfl⟩ | exact ⟨(.leave (.leave (.leave (.leave (.leave (.leave (.leave (.leave (.take (Pick.none _)))))))))), rfl⟩ | exact ⟨(.leave (.leave (.leave (.leave (.leave (.leave (.leave (.leave (.leave (.take (Pick.none _))))))))))), rfl⟩) (Src.sub (sB _) (Nat.zero_le _) hn0 (fun h => by omega)) (sub_ones _ _ _) (by first | omega | (simp only [maxLen]; omega)) (by first | omega | (simp only [maxLen]; omega)) ?_
          intro od1 cd1 hd1
          refine RL.appendA el_62 rfl rfl rfl rfl rfl rfl rfl (by first | exact ⟨(.take (Pick.none _)), rfl⟩ | exact ⟨(.leave (.take (Pick.none _))), rfl⟩ | exact ⟨(.leave (.leave (.take (Pick.none _)))), rfl⟩ | exact ⟨(.leave (.leave (.leave (.take (Pick.none _))))), rfl⟩ | exact ⟨(.leave (.leave (.leave (.leave (.take (Pick.none _)))))), rfl⟩ | exact ⟨(.leave (.leave (.leave (.leave (.leave (.take (Pick.none _))))))), rfl⟩ | exact ⟨(.leave (.leave (.leave (.leave (.leave (.leave (.take (Pick.none _)))))))), rfl⟩ | exact ⟨(.leave (.leave (.leave (.leave (.leave (.leave (.leave (.take (Pick.none _))))))))), rfl⟩ | exact ⟨(.leave (.leave (.leave (.leave (.leave (.leave (.leave (.leave (.take (Pick.none _)))))))))), rfl⟩ | exact ⟨(.leave (.leave (.leave (.leave (.leave (.leave (.leave (.leave (.leave (.take (Pick.none _))))))))))), rfl⟩) (Src.cel (cs := [strV nt, strV []]) (by repeat (first | exact List.Mem.head _ | apply List.Mem.tail)) rfl) (ones_spec rfl) (by first | omega | (simp only [maxLen]; omega)) (by first | omega | (simp only [maxLen]; omega)) ?_
          intro od2 cd2 hd2
          refine RL.appendA el_62 rfl rfl rfl rfl rfl rfl rfl (by first | exact ⟨(.take (Pick.none _)), rfl⟩ | exact ⟨(.leave (.take (Pick.none _))), rfl⟩ | exact ⟨(.leave (.leave (.take (Pick.none _)))), rfl⟩ | exact ⟨(.leave (.leave (.leave (.take (Pick.none _))))), rfl⟩ | exact ⟨(.leave (.leave (.leave (.leave (.take (Pick.none _)))))), rfl⟩ | exact ⟨(.leave (.leave (.leave (.leave (.leave (.take (Pick.none _))))))), rfl⟩ | exact ⟨(.leave (.leave (.leave (.leave (.leave (.leave (.take (Pick.none _)))))))), rfl⟩ | exact ⟨(.leave (.leave (.leave (.leave (.leave (.leave (.leave (.take (Pick.none _))))))))), rfl⟩ | exact ⟨(.leave (.leave (.leave (.leave (.leave (.leave (.leave (.leave (.take (Pick.none _)))))))))), rfl⟩ | exact ⟨(.leave (.leave (.leave (.leave (.leave (.leave (.leave (.leave (.leave (.take (Pick.none _))))))))))), rfl⟩) (Src.sub (sB _) hn0 (Nat.le_refl _) (fun h => by omega)) (sub_ones _ _ _) (by first | omega | (simp only [maxLen]; omega)) (by first | omega | (simp only [maxLen]; omega)) ?_
          intro od3 cd3 hd3
          refine RL.p rfl (RL.nil ?_)
          (obtain ⟨bx, rfl⟩ := Option.isSome_iff_exists.1 (hd3.resolve_left (by omega)); exact NQ.midG (bx, cd3) trivial (.cons rfl (.cons (k := 9) (by rw [hN]; rfl) .nil)) (fun w h => by rw [hN, hcat] at h; exact h.rea (fun _ h => h) (by repeat (first | exact Rea.nil | (apply Rea.cons; (solve | (repeat (first | exact Del.here | apply Del.there))))))))
      rintro ⟨bf, cf⟩ -
      dsimp only
      generalize L2.take n0 ++ ([nt, []] ++ L2.drop n0) = fin at hk1 hk2 hk3 hlen ⊢
      clear hcat hN sB nB hcz hL2m hn0
      refine CW.fact (p := m + 2 ≤ cf) (fun w hC => own_cap (hC.s.h _ (List.Mem.head _))) (fun hcf => ?_)
      have hj := join_any 10#8 bf cf (m + 2) fin hlen hcf (by omega) (by omega)
      have hga := gparse_any (jnL 10#8 fin)
      rw [hk3] at hga
      refine CW.seq (CW.region (ef := [2, 7, 8]) (bk := [2, 8]) (RL.p rfl (RL.callv (hj) Tryz.call22 rfl rfl rfl rfl (Lend.own (ob := some bf) (cap := cf) (e := 9) (by repeat (first | exact List.Mem.head _ | apply List.Mem.tail)) .nil) ?_)))
      refine RL.call (hga) Tryz.call16 rfl rfl rfl rfl rfl (by repeat (first | exact Pick.nil | apply Pick.take | apply Pick.leave)) (.inI (hJ3 _ nG) .nil) (.inr rfl) ?_
      rintro _ _ _ ⟨o2, c2, q2, d2, Y2, hY2, rfl, rfl, rfl⟩
      simp only [plH]
      refine RL.p rfl (RL.p rfl (RL.p rfl (RL.p rfl (RL.alloc Tryz.zeroValue35 rfl rfl rfl rfl rfl ?_))))
      intro b2
      refine RL.storeW Tryz.sizeOf35 rfl rfl rfl rfl rfl rfl rfl (pl_ones _ rfl rfl) (by repeat (first | exact Upd.here | apply Upd.there)) (hpF _ _) rfl ?_
      refine RL.p rfl (RL.p rfl (RL.nil (NQ.seq (CW.ok [3, 15, 16, 17] rfl (CW.seq (CW.freezeAll rfl ?_))))))
      refine CW.genI (fun J5 hJ => ?_)
      have h5 : ∀ y ∈ J2, y ∈ J5 := fun y hy => hJ _ (by simp [hJ3 y hy])
      have n1 := h5 _ n1
      have n2 := h5 _ n2
      have n3 := h5 _ n3
      have n4 := h5 _ n4
      have r1 : cel b2 (plC F (slO o2 F.cf.L.length c2) (slO q2 F.zs.length d2)) 35 ∈ J5 := hJ _ (by simp)
      have r2 : own o2 c2 98 48 F.cf.L.length (F.cf.L.flatMap Sr.cells) ∈ J5 := hJ _ (by simp)
      have r3 : own q2 d2 73 4 F.zs.length (Y2.flatMap znO) ∈ J5 := hJ _ (by simp)
      have r4 : allI (Y2.map znI) ∈ J5 := hJ _ (by simp)
      clear hJ fA lP
      have fA : RdsN J5 ⟨b1, 0, none⟩ 50 (plC F (slO o1 F.cf.L.length c1) (slO q1 F.zs.length d1)) := RdsN.told n1 (fun j u hu => by rw [Nat.zero_add]; exact hu) (hpF _ _)
      have fB : RdsN J5 ⟨b2, 0, none⟩ 50 (plC F (slO o2 F.cf.L.length c2) (slO q2 F.zs.length d2)) := RdsN.told r1 (fun j u hu => by rw [Nat.zero_add]; exact hu) (hpF _ _)
      have lP : ∀ H, Lend J5 H (plI F o1 q1 Y1) := fun H => Lend.ownI n2 (Lend.ownI n3 (lend_zT (.inr n4) _ (fun _ h => h)))
      have lR : ∀ H, Lend J5 H (plI F o2 q2 Y2) := fun H => Lend.ownI r2 (Lend.ownI r3 (lend_zT (T := 80) (.inr r4) _ (fun _ h => h)))
      have hp1 := lpl_any F o1 q1 c1 d1 _ _ Y1 rfl rfl hY1 hF.cm hF.rt hF.nl hF.nz (fun z hz => (hF.z z hz).2)
      have hp2 := lpl_any F o2 q2 c2 d2 _ _ Y2 rfl rfl hY2 hF.cm hF.rt hF.nl hF.nz (fun z hz => (hF.z z hz).2)
      have hce : F.cf.err = 0 := by
        have h : F.cf.ok = true := by
          have := hok
          unfold Pl.ok at this
          simp only [Bool.and_eq_true] at this
          exact this.1.1.1
        rw [Cf.err, if_pos h]
      refine CW.regionD (Sq.of [0, 1, 2, 3, 4, 5, 6, 7, 9, 8, 10, 11, 12, 13, 14, 15, 16, 17, 18, 19, 20]) [8, 10, 11, 15, 17] [8, 10, 15] [0, 1, 2, 3, 4, 5, 6, 7, 9, 12, 13, 14, 16, 18, 19, 20] mixed (by kernel_rfl) ?_
      refine RL.p rfl (RL.p rfl (RL.p rfl ?_))
      apply RL.andB (d := 104) (dp := 107) (l' := (Sq.of [6, 7, 9, 8, 10, 11, 12, 13, 14, 15, 16, 17, 18, 19, 20])) rfl (sK [3, 15] rfl)
      ·
        intro hb3 K3
        refine RL.p rfl (RL.p rfl (RL.p rfl ?_))
        exact K3 _ (.cons rfl (sK [3, 15] rfl))
      ·
        intro hb3 K3
        refine RL.p rfl (RL.p rfl (RL.p rfl ?_))
        exact K3 _ (.cons rfl (sK [3, 15] rfl))
      refine RL.p rfl (RL.cast (d := 108) (v' := .bool true) rfl ((by rfl)) ?_)
      refine RL.loadSTq Tryz.isAgg35 Tryz.sizeOf35 rfl rfl rfl rfl ?_
      refine RL.loadSTq Tryz.isAgg35 Tryz.sizeOf35 rfl rfl rfl rfl ?_
      refine RL.call (hp1) Tryz.call7 rfl rfl rfl rfl rfl (by repeat (first | exact Pick.nil | apply Pick.take | apply Pick.leave)) (lP _) (.inr rfl) ?_
      rintro _ _ _ ⟨o3, c3, q3, d3, Y3, hY3, rfl, rfl, rfl⟩
      simp only [plT]
      refine RL.call (hp2) Tryz.call7 rfl rfl rfl rfl rfl (by repeat (first | exact Pick.nil | apply Pick.take | apply Pick.leave)) (lR _) (.inr rfl) ?_
      rintro _ _ _ ⟨o4, c4, q4, d4, Y4, hY4, rfl, rfl, rfl⟩
      simp only [plT]
      refine RL.callv (lsame_any F o3 q3 o4 q4 c3 d3 c4 d4 Y3 Y4 hY3 hY4 hF.cm hF.rt (Nat.le_trans hF.nl (by decide)) (Nat.le_trans hF.nz (by decide)) (fun z hz => Nat.le_trans (hF.z z hz).2 (by decide))) Tryz.call12 rfl rfl rfl rfl (Lend.app (Lend.own (by repeat (first | exact List.Mem.head _ | apply List.Mem.tail)) (Lend.own (by repeat (first | exact List.Mem.head _ | apply List.Mem.tail)) (lend_zT (.inl (by repeat (first | exact List.Mem.head _ | apply List.Mem.tail))) _ (fun _ h => h)))) (Lend.own (by repeat (first | exact List.Mem.head _ | apply List.Mem.tail)) (Lend.own (by repeat (first | exact List.Mem.head _ | apply List.Mem.tail)) (lend_zT (.inl (by repeat (first | exact List.Mem.head _ | apply List.Mem.tail))) _ (fun _ h => h))))) ?_
      refine RL.p rfl (RL.p rfl (RL.cast (d := 115) (v' := .bool true) rfl ((by rfl)) ?_))
      refine RL.loadSTq Tryz.isAgg35 Tryz.sizeOf35 rfl rfl rfl rfl ?_
      refine RL.call (hp2) Tryz.call7 rfl rfl rfl rfl rfl (by repeat (first | exact Pick.nil | apply Pick.take | apply Pick.leave)) (lR _) (.inr rfl) ?_
      rintro _ _ _ ⟨o5, c5, q5, d5, Y5, hY5, rfl, rfl, rfl⟩
      simp only [plT]
      have hch := rcheck_any F.cf o5 c5 _ rfl ⟨hF.cm, fun s hs => (hF.L s hs).fit⟩ (Nat.le_trans hF.nl (by decide))
      rw [hce] at hch
      refine RL.field (v := .agg (F.cf.cells (slO o5 F.cf.L.length c5)).toArray) (fun w => fld_cf hF.cm _ _ w) rfl rfl rfl rfl ?_
      refine RL.callv (hch) Tryz.call23 rfl rfl rfl rfl (Lend.own (by repeat (first | exact List.Mem.head _ | apply List.Mem.tail)) .nil) ?_
      refine RL.p rfl (RL.p rfl (RL.p rfl (RL.nil (NQ.seq (CW.ok [6] rfl (CW.ret ?_))))))
      exact RQ.post (res1 rfl rfl) (Split.none _) ⟨by simp, rfl, rfl⟩
  · rw [prV, if_neg hok] at hgp
    refine CW.rg (RL.loadSq Tryz.isAgg35 Tryz.sizeOf35 rfl rfl rfl rfl ?_)
    refine RL.callv (hgp) Tryz.call8 rfl rfl rfl rfl (.inI nG (lP _)) (RL.p rfl (RL.p rfl (RL.p rfl (RL.p rfl (RL.p rfl (RL.nil (NQ.seq (CW.seq (CW.seq (CW.rg (RL.p rfl (RL.p rfl (RL.nil ?_)))))))))))))
    refine NQ.seq (CW.ok [1, 2, 3, 7, 28] rfl (CW.condT rfl (rfl) (CW.seq (CW.rg (RL.p rfl (RL.cmp rfl rfl rfl rfl rfl (fun w => eql_txt [] [] w) ?_))))))
    refine RL.p rfl (RL.nil (NQ.seq (CW.ret (RQ.seq ?_))))
    exact RQ.post (res1 rfl rfl) (Split.none _) ⟨rfl, rfl, rfl⟩
noncomputable def rText : Rdr Tryz.prog 9 (List B8) := Rdr.text (by kernel_rfl) (by kernel_rfl)
noncomputable def rInts : Rdr Tryz.prog 61 (Sl Int) := rInt.slice 1 (by kernel_rfl) (by kernel_rfl) (by kernel_rfl) (by decide) (List.map (Value.int .i64)) (flat_one _)
theorem gramBack_call (W : World) (x : PlA) (od : Sl Int) (note : Tx) (hx : rPl.ok x) (hod : rInts.ok od) (hn : rText.ok note) (tx : ∀ y ∈ rPl.its x, y.A W) (tq : ∀ y ∈ rInts.its od, y.A W) (_ : ∀ y ∈ rText.its note, y.A W) (hv : gvI.A W) :
    Calls Tryz.prog 5 #[rPl.val x, rInts.val od, rText.val note] W (fun e w' => e = .returned (.bool true) ∧ RowKit.Below W.heap.size W w') :=
  (lback x hx od ⟨hod.1, hod.2.1, hod.2.2.1⟩ note hn).lawI (fun y hy => by
    rcases List.mem_cons.1 hy with rfl | hy
    · exact hv
    · rcases List.mem_cons.1 hy with rfl | hy
      · exact tq _ (List.mem_cons_self ..)
      · exact tx y hy)
end Go.Proofs.YthndhipjfdgdfaaGreatDoor
