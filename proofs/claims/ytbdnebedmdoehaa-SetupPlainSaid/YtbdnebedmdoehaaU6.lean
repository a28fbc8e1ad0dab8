import Derived.Test.YtbdnebedmdoehaaU5
namespace Go.Proofs.Ytbdnebedmdoehaa
open Go.PK
/-! ### A navigator's setup -/
def adOf (s : Sr) : Ad := ⟨s.id, s.kd, s.w, s.g, s.st, limS s, s.hz⟩
def adsOf (L : List Sr) : List Ad := (L.filter fun s => aidB s.kd).map adOf
theorem adsOf_yes {L : List Sr} {i : Nat} {s : Sr} (h : L[i]? = some s) (hs : aidB s.kd = true) : adsOf (L.take (i + 1)) = adsOf (L.take i) ++ [adOf s] := by
  rw [adsOf, adsOf, List.take_add_one, h]
  simp [hs]
theorem adsOf_no {L : List Sr} {i : Nat} {s : Sr} (h : L[i]? = some s) (hs : aidB s.kd = false) : adsOf (L.take (i + 1)) = adsOf (L.take i) := by
  rw [adsOf, adsOf, List.take_add_one, h]
  simp [hs]
theorem adsOf_len (L : List Sr) : (adsOf L).length ≤ L.length := by
  rw [adsOf, List.length_map]; exact List.length_filter_le _ _
structure Cf where
  g0 : Int
  g1 : Int
  g2 : Int
  dr : Int
  sc : Sch
  cm : List B8
  mo : Int
  ti : Int
  gr : Int
  sd : Int
  L : List Sr
def Cf.tl (c : Cf) : List Value := [.int .i64 c.mo, .int .i64 c.ti, .int .i64 c.gr, .int .u64 c.sd]
def Cf.cells (c : Cf) (sl : Value) : List Value := sl :: .int .i64 c.g0 :: .int .i64 c.g1 :: .int .i64 c.g2 :: .int .i64 c.dr :: .int .i64 c.sc.st :: .int .i64 c.sc.ln :: .int .i64 c.sc.lg :: .int .i64 c.sc.of :: (bytes c.cm ++ c.tl)
theorem cf_len {c : Cf} (h : c.cm.length = 32) (sl : Value) : (c.cells sl).length = 45 := by simp [Cf.cells, Cf.tl, h]
theorem cf_t {c : Cf} (h : c.cm.length = 32) (sl : Value) (j : Nat) : (c.cells sl)[0 + 41 + j]? = c.tl[j]? := by
  rw [Cf.cells, show 0 + 41 + j = (32 + j) + 1 + 1 + 1 + 1 + 1 + 1 + 1 + 1 + 1 by omega]
  simp only [List.getElem?_cons_succ]
  rw [List.getElem?_append_right (by simp [h]), List.length_map, h, Nat.add_sub_cancel_left]
/-- A setup, its aids its own. -/
def NavR (U : TypeId) (c : Cf) : Value → List It → List It → Prop := fun v I' H' => ∃ ob cap, v = .agg #[.int .i64 c.g0, .int .i64 c.g1, .int .i64 c.g2, .int .i64 c.dr, slO ob (adsOf c.L).length cap] ∧ I' = [] ∧ H' = [own ob cap U 7 (adsOf c.L).length ((adsOf c.L).flatMap Ad.cells)]
theorem adf_snoc (l : List Ad) (a : Ad) : (l ++ [a]).flatMap Ad.cells = l.flatMap Ad.cells ++ [.int .i64 a.src, .int .i64 a.kd, .int .i64 a.w, .int .i64 a.g, .int .i64 a.st, .int .i64 a.lm, .int .i64 a.hz] := by simp [Ad.cells]
theorem ones_app : ∀ {l m : List Value}, ones l = true → ones m = true → ones (l ++ m) = true
  | [], _, _, h => h
  | u :: l, m, h, h2 => by
    simp only [ones, Bool.and_eq_true, List.cons_append] at h ⊢
    exact ⟨h.1, ones_app h.2 h2⟩
theorem sr_ones (s : Sr) : ones s.cells = true := by
  have h : ones (bytes s.rt ++ s.tl) = true := ones_app (ones_map one8 _) rfl
  exact h
theorem snav_any (c : Cf) (oa : Option Nat) (ca n : Nat) (hn : c.L.length = n) (hc : c.cm.length = 32) (hL : ∀ s ∈ c.L, s.Fit) (hl : n ≤ 1000000) :
    Spc Try.prog 19 #[.agg (c.cells (slO oa n ca)).toArray] [sls (oa.map fun b => ⟨b, 0, none⟩) 48 n (c.L.flatMap Sr.cells)] [] (NavR 132 c) := by
  subst hn
  have hLl : ∀ s ∈ c.L, s.cells.length = 48 := fun s hs => sr_len (hL s hs).rt
  refine Spc.enter Try.func19 rfl rfl rfl (fun w0 hw0 => ?_)
  refine CW.seq (CW.region (ef := [0, 1]) (bk := []) (RL.box rfl rfl rfl rfl rfl rfl ?_))
  intro b1
  refine RL.alloc Try.zeroValue66 rfl rfl rfl rfl rfl ?_
  intro b2
  refine RL.nil (NQ.seq (CW.seq (CW.freezeP (A := [cel b1 (c.cells (slO oa c.L.length ca)) 33]) (B := [cel b2 [.int .i64 0, .int .i64 0, .int .i64 0, .int .i64 0, .slice none 0 0] 66]) (by repeat (first | exact Pick.nil | apply Pick.take | apply Pick.leave)) rfl ?_)))
  simp only [List.cons_append, List.nil_append]
  generalize hJ : ([cel b1 (c.cells (slO oa c.L.length ca)) 33, sls (oa.map fun b => ⟨b, 0, none⟩) 48 c.L.length (c.L.flatMap Sr.cells)] : List It) = J
  have m1 : cel b1 (c.cells (slO oa c.L.length ca)) 33 ∈ J := by rw [← hJ]; exact (by repeat (first | exact List.Mem.head _ | apply List.Mem.tail))
  have m2 : sls (oa.map fun b => ⟨b, 0, none⟩) 48 c.L.length (c.L.flatMap Sr.cells) ∈ J := by rw [← hJ]; exact (by repeat (first | exact List.Mem.head _ | apply List.Mem.tail))
  clear hJ
  have fS : RdI J ⟨b1, 0 + 0, none⟩ (slO oa c.L.length ca) := ⟨fun _ => Rd.celI m1 rfl⟩
  have fG : RdsN J ⟨b1, 0 + 1, none⟩ 3 [.int .i64 c.g0, .int .i64 c.g1, .int .i64 c.g2] := RdsN.told m1 (fun j u hj => by
    match j, hj with
    | 0, hj => exact hj
    | 1, hj => exact hj
    | 2, hj => exact hj
    | j + 3, hj => simp at hj) rfl
  have fD : RdI J ⟨b1, 0 + 4, none⟩ (.int .i64 c.dr) := ⟨fun _ => Rd.celI m1 rfl⟩
  refine CW.region (ef := [5, 6]) (bk := [6]) (RL.fieldAddr fa_33_1 rfl rfl rfl rfl (RL.loadSq Try.isAgg26 Try.sizeOf26 rfl rfl rfl rfl ?_))
  refine RL.fieldAddr fa_33_2 rfl rfl rfl rfl (RL.loadq Try.isAgg24 rfl rfl rfl rfl ?_)
  refine RL.buildS [_, _, _, _, _] Try.zeroValue66 pl_66 rfl rfl rfl rfl rfl (RL.alloc Try.zeroValue66 rfl rfl rfl rfl rfl ?_)
  intro b3
  refine RL.store (vs := [_, _, _, _, _]) Try.sizeOf66 rfl rfl rfl rfl rfl rfl rfl rfl rfl (by repeat (first | exact Upd.here | apply Upd.there)) ?_
  refine RL.nil (NQ.seq (CW.ok [1, 2, 3] rfl (CW.seq (CW.seq (CW.rg (RL.fieldAddr fa_33_0 rfl rfl rfl rfl (RL.loadq Try.isAgg23 rfl rfl rfl rfl ?_)))))))
  refine RL.lenS Try.runUnderlying23 rfl rfl rfl rfl (RL.p rfl (RL.nil (NQ.seq (CW.block (CW.ownNone (e := 132) 7 ?_)))))
  refine CW.loop (γ := Nat × List Ad × Option Nat × Nat × Nat) (fun g => g.1 ≤ c.L.length ∧ g.2.1 = adsOf (c.L.take g.1) ∧ g.2.2.2.2 = g.2.1.length) (fun g => [(2, .pointer (some ⟨b2, 0, none⟩)), (3, .pointer (some ⟨b3, 0, none⟩)), (13, slO oa c.L.length ca), (14, .int .i64 (c.L.length : Int)), (15, .int .i64 (g.1 : Int))]) (fun _ => J)
    (fun g => [cel b2 [.int .i64 0, .int .i64 0, .int .i64 0, .int .i64 0, .slice none 0 0] 66, cel b3 [.int .i64 c.g0, .int .i64 c.g1, .int .i64 c.g2, .int .i64 c.dr, slO g.2.2.1 g.2.2.2.2 g.2.2.2.1] 66, own g.2.2.1 g.2.2.2.1 132 7 g.2.2.2.2 (g.2.1.flatMap Ad.cells)]) (fun g => c.L.length - g.1) (0, [], none, 0, 0) ⟨Nat.zero_le _, rfl, rfl⟩ (.cons rfl (.cons rfl (.cons rfl (.cons rfl (.cons rfl .nil))))) (fun w h => h.rea (fun _ h => h) (by repeat (first | exact Rea.nil | (apply Rea.cons; (solve | (repeat (first | exact Del.here | apply Del.there))))))) ?_
  rintro ⟨i, acc, ob, cp, m⟩ ⟨hi, hac, hm⟩
  dsimp only at hi hac hm ⊢
  refine CW.fact (p := oa = none → c.L.length = 0) (fun w hC e => sls_nil (hC.s.i _ m2) (by rw [e]; rfl)) (fun hpa => ?_)
  have hmb : m ≤ 1000000 := by
    rw [hm, hac]; exact Nat.le_trans (adsOf_len _) (by rw [List.length_take]; omega)
  refine CW.seq (CW.rg (RL.p rfl (RL.nil (NQ.seq (CW.seq ?_)))))
  refine CW.cond rfl (fun hlt => ?_) (fun hlt => ?_)
  ·
    have hlt : i < c.L.length := by simp at hlt; omega
    cases oa with
    | none => exact absurd (hpa rfl) (by omega)
    | some ba =>
    have hx := List.getElem?_eq_getElem hlt
    generalize c.L[i] = s at hx
    have hs := hL s (List.mem_of_getElem? hx)
    have hsl := hLl s (List.mem_of_getElem? hx)
    have fA : RdsN J ⟨ba, 0 + i * 48, none⟩ 48 s.cells := flat_rdsN (f := Sr.cells) m2 hx hLl
    refine CW.skip (NQ.seq (CW.seq (CW.block (CW.seq (CW.region (ef := [2, 3]) (bk := [3]) (RL.idxAt (j := i) Try.runUnderlying23 Try.sizeOf57 rfl rfl rfl rfl rfl rfl (hlt) (RL.loadSq Try.isAgg57 Try.sizeOf57 rfl rfl rfl rfl ?_)))))))
    refine RL.alloc Try.zeroValue57 rfl rfl rfl rfl rfl ?_
    intro b4
    refine RL.storeW Try.sizeOf57 rfl rfl rfl rfl rfl rfl rfl (sr_ones s) (by repeat (first | exact Upd.here | apply Upd.there)) hsl rfl ?_
    refine RL.nil (NQ.seq (CW.seq (CW.freezeP (A := [cel b4 s.cells 57]) (B := _) (by repeat (first | exact Pick.nil | apply Pick.take | apply Pick.leave)) rfl ?_)))
    refine CW.genI (fun J2 hJ => ?_)
    have hJ2 : ∀ x ∈ J, x ∈ J2 := fun x hx => hJ x (by simp [hx])
    have mA : cel b4 s.cells 57 ∈ J2 := hJ _ (List.Mem.head _)
    clear hJ
    have s0 : RdI J2 ⟨b4, 0 + 0, none⟩ (.int .i64 s.id) := ⟨fun _ => Rd.celI mA rfl⟩
    have s1 : RdI J2 ⟨b4, 0 + 1, none⟩ (.int .i64 s.kd) := ⟨fun _ => Rd.celI mA rfl⟩
    have s3 : RdI J2 ⟨b4, 0 + 34, none⟩ (.int .i64 s.w) := ⟨fun _ => Rd.getI mA (sr_t hs.rt 0)⟩
    have s4 : RdI J2 ⟨b4, 0 + 35, none⟩ (.int .i64 s.g) := ⟨fun _ => Rd.getI mA (sr_t hs.rt 1)⟩
    have s5 : RdI J2 ⟨b4, 0 + 36, none⟩ (.int .i64 s.st) := ⟨fun _ => Rd.getI mA (sr_t hs.rt 2)⟩
    have s6 : RdI J2 ⟨b4, 0 + 37, none⟩ (.int .i64 s.hz) := ⟨fun _ => Rd.getI mA (sr_t hs.rt 3)⟩
    have sA : RdsN J2 ⟨b4, 0, none⟩ 48 s.cells := ⟨fun _ => Rds.allI mA, hsl⟩
    refine CW.rg (RL.loadSq Try.isAgg57 Try.sizeOf57 rfl rfl rfl rfl ?_)
    refine RL.callvq (aid_any s) Try.call53 rfl rfl rfl rfl ?_
    refine RL.nil (NQ.seq ?_)
    refine CW.cond rfl (fun hk => ?_) (fun hk => ?_)
    ·
      refine CW.seq (CW.regionD (Sq.of [0, 1, 2, 3, 4, 5, 6, 7, 8, 9, 10]) [9, 10] [10] [0, 1, 2, 3, 4, 5, 6, 7, 8] mixed (by kernel_rfl) ?_)
      refine RL.fieldAddr fa_57_4 rfl rfl rfl rfl (RL.loadTq Try.isAgg3 rfl rfl rfl rfl ?_)
      refine RL.fieldAddr fa_57_5 rfl rfl rfl rfl (RL.loadTq Try.isAgg24 rfl rfl rfl rfl ?_)
      refine RL.loadSTq Try.isAgg57 Try.sizeOf57 rfl rfl rfl rfl ?_
      refine RL.callTq (limit_any s hs) Try.call22 rfl rfl rfl rfl ?_
      refine RL.fieldAddr fa_57_6 rfl rfl rfl rfl (RL.loadTq Try.isAgg3 rfl rfl rfl rfl ?_)
      refine RL.buildS [_, _, _, _] Try.zeroValue130 pl_130 rfl rfl rfl rfl rfl (RL.alloc Try.zeroValue130 rfl rfl rfl rfl rfl ?_)
      intro b5
      refine RL.store (vs := [_, _, _, _]) Try.sizeOf130 rfl rfl rfl rfl rfl rfl rfl rfl rfl (by repeat (first | exact Upd.here | apply Upd.there)) ?_
      refine RL.nil (NQ.seq (CW.ok [2, 3, 5, 6, 13, 14, 15] rfl (CW.region (ef := [10, 11, 13]) (bk := [11, 13]) (RL.fieldAddr fa_66_2 rfl rfl rfl rfl (RL.loadq Try.isAgg64 rfl rfl rfl rfl ?_)))))
      refine RL.fieldAddr fa_57_0 rfl rfl rfl rfl (RL.loadq Try.isAgg3 rfl rfl rfl rfl ?_)
      refine RL.fieldAddr fa_57_1 rfl rfl rfl rfl (RL.loadq Try.isAgg3 rfl rfl rfl rfl ?_)
      refine RL.fieldAddr fa_57_3 rfl rfl rfl rfl (RL.loadq Try.isAgg3 rfl rfl rfl rfl ?_)
      refine RL.loadSq Try.isAgg130 Try.sizeOf130 rfl rfl rfl rfl ?_
      refine RL.buildS [_, _, _, _, _, _, _] Try.zeroValue132 pl_132 rfl rfl rfl rfl rfl (RL.buildSlice [_, _, _, _, _, _, _] Try.runUnderlying64 Try.sizeOf132 Try.zeroValue132 rfl rfl (by decide) (by decide) rfl rfl rfl rfl rfl rfl ?_)
      intro b6
      refine RL.appendq el_64 rfl rfl rfl rfl rfl rfl rfl ?_
      intro ob1 cap1 ho1
      refine RL.fieldAddr fa_66_2 rfl rfl rfl rfl (RL.store (vs := [_]) Try.sizeOf64 rfl rfl rfl rfl rfl rfl rfl rfl rfl (by repeat (first | exact Upd.here | apply Upd.there)) ?_)
      refine RL.nil (NQ.block (NQ.seq (CW.ok [2, 3, 13, 14, 15] rfl (CW.rg (RL.bx rfl (wrapV_i64 (by omega) (by omega)) ?_)))))
      refine RL.p rfl (RL.nil ?_)
      refine NQ.round (g := (i, acc, ob, cp, m)) (i + 1, acc ++ [adOf s], ob1, cap1, m + 1) ⟨hlt, by rw [hac]; exact (adsOf_yes hx (by simpa using hk)).symm, by simp [hm]⟩ (by show c.L.length - (i + 1) < c.L.length - i; omega) (.cons rfl (.cons rfl (.cons rfl (.cons rfl (.cons rfl .nil))))) (fun w h => ?_)
      refine h.rea (H' := [cel b2 [.int .i64 0, .int .i64 0, .int .i64 0, .int .i64 0, .slice none 0 0] 66, cel b3 [.int .i64 c.g0, .int .i64 c.g1, .int .i64 c.g2, .int .i64 c.dr, slO ob1 (m + 1) cap1] 66, own ob1 cap1 132 7 (m + 1) ((acc ++ [adOf s]).flatMap Ad.cells)]) hJ2 ?_
      rw [adf_snoc]
      exact (by repeat (first | exact Rea.nil | (apply Rea.cons; (solve | (repeat (first | exact Del.here | apply Del.there))))))
    ·
      refine CW.skip (NQ.block (NQ.seq (CW.ok [2, 3, 13, 14, 15] rfl (CW.rg (RL.bx rfl (wrapV_i64 (by omega) (by omega)) ?_)))))
      refine RL.p rfl (RL.nil ?_)
      refine NQ.round (g := (i, acc, ob, cp, m)) (i + 1, acc, ob, cp, m) ⟨hlt, by rw [hac]; exact (adsOf_no hx (by simpa using hk)).symm, hm⟩ (by show c.L.length - (i + 1) < c.L.length - i; omega) (.cons rfl (.cons rfl (.cons rfl (.cons rfl (.cons rfl .nil))))) (fun w h => h.rea hJ2 (by repeat (first | exact Rea.nil | (apply Rea.cons; (solve | (repeat (first | exact Del.here | apply Del.there)))))))
  ·
    have hin : i = c.L.length := by simp at hlt; omega
    subst hin
    rw [List.take_length] at hac
    subst hac
    refine CW.exit (XQ.seq (XQ.seq (XQ.hit (NQ.seq (CW.seq (CW.region (ef := [1]) (bk := [1]) (RL.loadSq Try.isAgg66 Try.sizeOf66 rfl rfl rfl rfl ?_)))))))
    refine RL.store (vs := [_, _, _, _, _]) Try.sizeOf66 rfl rfl rfl rfl rfl rfl rfl rfl rfl (by repeat (first | exact Upd.here | apply Upd.there)) ?_
    refine RL.nil (NQ.seq (CW.ok [2] rfl (CW.ret ?_)))
    subst hm
    refine RQ.rea (fun _ h => h) (H' := [cel b2 [.int .i64 c.g0, .int .i64 c.g1, .int .i64 c.g2, .int .i64 c.dr, slO ob (adsOf c.L).length cp] 66, own ob cp 132 7 (adsOf c.L).length ((adsOf c.L).flatMap Ad.cells)]) (by repeat (first | exact Rea.nil | (apply Rea.cons; (solve | (repeat (first | exact Del.here | apply Del.there)))))) ?_
    exact RQ.post (resW rfl rfl Try.isAgg66 Try.sizeOf66 (by repeat (first | exact List.Mem.head _ | apply List.Mem.tail)) rfl) (.drop (.keep .nil)) ⟨ob, cp, rfl, rfl, rfl⟩
theorem rsnav_any (c : Cf) (oa : Option Nat) (ca n : Nat) (hn : c.L.length = n) (hc : c.cm.length = 32) (hL : ∀ s ∈ c.L, s.Fit) (hl : n ≤ 1000000) :
    Spc Try.prog 20 #[.agg (c.cells (slO oa n ca)).toArray] [sls (oa.map fun b => ⟨b, 0, none⟩) 48 n (c.L.flatMap Sr.cells)] [] (NavR 135 c) := by
  subst hn
  have hLl : ∀ s ∈ c.L, s.cells.length = 48 := fun s hs => sr_len (hL s hs).rt
  refine Spc.enter Try.func20 rfl rfl rfl (fun w0 hw0 => ?_)
  refine CW.seq (CW.region (ef := [0, 1]) (bk := []) (RL.box rfl rfl rfl rfl rfl rfl ?_))
  intro b1
  refine RL.alloc Try.zeroValue70 rfl rfl rfl rfl rfl ?_
  intro b2
  refine RL.nil (NQ.seq (CW.seq (CW.freezeP (A := [cel b1 (c.cells (slO oa c.L.length ca)) 38]) (B := [cel b2 [.int .i64 0, .int .i64 0, .int .i64 0, .int .i64 0, .slice none 0 0] 70]) (by repeat (first | exact Pick.nil | apply Pick.take | apply Pick.leave)) rfl ?_)))
  simp only [List.cons_append, List.nil_append]
  generalize hJ : ([cel b1 (c.cells (slO oa c.L.length ca)) 38, sls (oa.map fun b => ⟨b, 0, none⟩) 48 c.L.length (c.L.flatMap Sr.cells)] : List It) = J
  have m1 : cel b1 (c.cells (slO oa c.L.length ca)) 38 ∈ J := by rw [← hJ]; exact (by repeat (first | exact List.Mem.head _ | apply List.Mem.tail))
  have m2 : sls (oa.map fun b => ⟨b, 0, none⟩) 48 c.L.length (c.L.flatMap Sr.cells) ∈ J := by rw [← hJ]; exact (by repeat (first | exact List.Mem.head _ | apply List.Mem.tail))
  clear hJ
  have fS : RdI J ⟨b1, 0 + 0, none⟩ (slO oa c.L.length ca) := ⟨fun _ => Rd.celI m1 rfl⟩
  have fG : RdsN J ⟨b1, 0 + 1, none⟩ 3 [.int .i64 c.g0, .int .i64 c.g1, .int .i64 c.g2] := RdsN.told m1 (fun j u hj => by
    match j, hj with
    | 0, hj => exact hj
    | 1, hj => exact hj
    | 2, hj => exact hj
    | j + 3, hj => simp at hj) rfl
  have fD : RdI J ⟨b1, 0 + 4, none⟩ (.int .i64 c.dr) := ⟨fun _ => Rd.celI m1 rfl⟩
  refine CW.region (ef := [5, 6]) (bk := [6]) (RL.fieldAddr fa_38_1 rfl rfl rfl rfl (RL.loadSq Try.isAgg26 Try.sizeOf26 rfl rfl rfl rfl ?_))
  refine RL.fieldAddr fa_38_2 rfl rfl rfl rfl (RL.loadq Try.isAgg24 rfl rfl rfl rfl ?_)
  refine RL.buildS [_, _, _, _, _] Try.zeroValue70 pl_70 rfl rfl rfl rfl rfl (RL.alloc Try.zeroValue70 rfl rfl rfl rfl rfl ?_)
  intro b3
  refine RL.store (vs := [_, _, _, _, _]) Try.sizeOf70 rfl rfl rfl rfl rfl rfl rfl rfl rfl (by repeat (first | exact Upd.here | apply Upd.there)) ?_
  refine RL.nil (NQ.seq (CW.ok [1, 2, 3] rfl (CW.seq (CW.seq (CW.rg (RL.p rfl (RL.nil (NQ.seq (CW.block (CW.ownNone (e := 135) 7 ?_))))))))))
  refine CW.loop (γ := Nat × List Ad × Option Nat × Nat × Nat) (fun g => g.1 ≤ c.L.length ∧ g.2.1 = adsOf (c.L.take g.1) ∧ g.2.2.2.2 = g.2.1.length) (fun g => [(2, .pointer (some ⟨b2, 0, none⟩)), (3, .pointer (some ⟨b3, 0, none⟩)), (1, .pointer (some ⟨b1, 0, none⟩)), (4, .int .i64 (g.1 : Int))]) (fun _ => J)
    (fun g => [cel b2 [.int .i64 0, .int .i64 0, .int .i64 0, .int .i64 0, .slice none 0 0] 70, cel b3 [.int .i64 c.g0, .int .i64 c.g1, .int .i64 c.g2, .int .i64 c.dr, slO g.2.2.1 g.2.2.2.2 g.2.2.2.1] 70, own g.2.2.1 g.2.2.2.1 135 7 g.2.2.2.2 (g.2.1.flatMap Ad.cells)]) (fun g => c.L.length - g.1) (0, [], none, 0, 0) ⟨Nat.zero_le _, rfl, rfl⟩ (.cons rfl (.cons rfl (.cons rfl (.cons rfl .nil)))) (fun w h => h.rea (fun _ h => h) (by repeat (first | exact Rea.nil | (apply Rea.cons; (solve | (repeat (first | exact Del.here | apply Del.there))))))) ?_
  rintro ⟨i, acc, ob, cp, m⟩ ⟨hi, hac, hm⟩
  dsimp only at hi hac hm ⊢
  refine CW.fact (p := oa = none → c.L.length = 0) (fun w hC e => sls_nil (hC.s.i _ m2) (by rw [e]; rfl)) (fun hpa => ?_)
  have hmb : m ≤ 1000000 := by
    rw [hm, hac]; exact Nat.le_trans (adsOf_len _) (by rw [List.length_take]; omega)
  refine CW.seq (CW.seq (CW.rg (RL.p rfl (RL.fieldAddr fa_38_0 rfl rfl rfl rfl (RL.loadq Try.isAgg35 rfl rfl rfl rfl ?_)))))
  refine RL.lenS Try.runUnderlying35 rfl rfl rfl rfl (RL.p rfl (RL.nil (NQ.seq ?_)))
  refine CW.cond rfl (fun hlt => ?_) (fun hlt => ?_)
  ·
    have hlt : i < c.L.length := by simp at hlt; omega
    cases oa with
    | none => exact absurd (hpa rfl) (by omega)
    | some ba =>
    have hx := List.getElem?_eq_getElem hlt
    generalize c.L[i] = s at hx
    have hs := hL s (List.mem_of_getElem? hx)
    have hsl := hLl s (List.mem_of_getElem? hx)
    have fA : RdsN J ⟨ba, 0 + i * 48, none⟩ 48 s.cells := flat_rdsN (f := Sr.cells) m2 hx hLl
    refine CW.skip (NQ.seq (CW.seq (CW.block (CW.seq (CW.region (ef := [5, 6]) (bk := [6]) (RL.fieldAddr fa_38_0 rfl rfl rfl rfl (RL.loadq Try.isAgg35 rfl rfl rfl rfl ?_)))))))
    refine RL.p rfl (RL.idxAt (j := i) Try.runUnderlying35 Try.sizeOf46 rfl rfl rfl rfl rfl rfl (hlt) (RL.loadSq Try.isAgg46 Try.sizeOf46 rfl rfl rfl rfl ?_))
    refine RL.alloc Try.zeroValue46 rfl rfl rfl rfl rfl ?_
    intro b4
    refine RL.storeW Try.sizeOf46 rfl rfl rfl rfl rfl rfl rfl (sr_ones s) (by repeat (first | exact Upd.here | apply Upd.there)) hsl rfl ?_
    refine RL.nil (NQ.seq (CW.ok [1, 2, 3, 4, 5] rfl (CW.seq (CW.freezeP (A := [cel b4 s.cells 46]) (B := _) (by repeat (first | exact Pick.nil | apply Pick.take | apply Pick.leave)) rfl ?_))))
    refine CW.genI (fun J2 hJ => ?_)
    have hJ2 : ∀ x ∈ J, x ∈ J2 := fun x hx => hJ x (by simp [hx])
    have mA : cel b4 s.cells 46 ∈ J2 := hJ _ (List.Mem.head _)
    clear hJ
    have s0 : RdI J2 ⟨b4, 0 + 0, none⟩ (.int .i64 s.id) := ⟨fun _ => Rd.celI mA rfl⟩
    have s1 : RdI J2 ⟨b4, 0 + 1, none⟩ (.int .i64 s.kd) := ⟨fun _ => Rd.celI mA rfl⟩
    have s3 : RdI J2 ⟨b4, 0 + 34, none⟩ (.int .i64 s.w) := ⟨fun _ => Rd.getI mA (sr_t hs.rt 0)⟩
    have s4 : RdI J2 ⟨b4, 0 + 35, none⟩ (.int .i64 s.g) := ⟨fun _ => Rd.getI mA (sr_t hs.rt 1)⟩
    have s5 : RdI J2 ⟨b4, 0 + 36, none⟩ (.int .i64 s.st) := ⟨fun _ => Rd.getI mA (sr_t hs.rt 2)⟩
    have s6 : RdI J2 ⟨b4, 0 + 37, none⟩ (.int .i64 s.hz) := ⟨fun _ => Rd.getI mA (sr_t hs.rt 3)⟩
    have sA : RdsN J2 ⟨b4, 0, none⟩ 48 s.cells := ⟨fun _ => Rds.allI mA, hsl⟩
    refine CW.rg (RL.fieldAddr fa_46_1 rfl rfl rfl rfl (RL.loadq Try.isAgg3 rfl rfl rfl rfl ?_))
    refine RL.callvq (raid_any s.kd) Try.call41 rfl rfl rfl rfl ?_
    refine RL.nil (NQ.seq ?_)
    refine CW.cond rfl (fun hk => ?_) (fun hk => ?_)
    ·
      refine CW.regionD (Sq.of [0, 1, 2, 3, 4, 5, 6, 7, 8, 9, 10, 11, 12, 13, 14, 15, 16, 17, 18, 19, 20, 21]) [18, 19, 21] [19, 21] [0, 2, 3, 4, 5, 6, 7, 8, 9, 10, 11, 12, 13, 14, 15, 16, 17, 20] mixed (by kernel_rfl) ?_
      refine RL.fieldAddr fa_70_2 rfl rfl rfl rfl (RL.loadq Try.isAgg68 rfl rfl rfl rfl ?_)
      refine RL.fieldAddr fa_46_0 rfl rfl rfl rfl (RL.loadTq Try.isAgg3 rfl rfl rfl rfl ?_)
      refine RL.fieldAddr fa_46_1 rfl rfl rfl rfl (RL.loadTq Try.isAgg3 rfl rfl rfl rfl ?_)
      refine RL.fieldAddr fa_46_3 rfl rfl rfl rfl (RL.loadTq Try.isAgg3 rfl rfl rfl rfl ?_)
      refine RL.fieldAddr fa_46_4 rfl rfl rfl rfl (RL.loadTq Try.isAgg3 rfl rfl rfl rfl ?_)
      refine RL.fieldAddr fa_46_5 rfl rfl rfl rfl (RL.loadTq Try.isAgg24 rfl rfl rfl rfl ?_)
      refine RL.loadSTq Try.isAgg46 Try.sizeOf46 rfl rfl rfl rfl ?_
      refine RL.callTq (rlimit_any s hs) Try.call23 rfl rfl rfl rfl ?_
      refine RL.fieldAddr fa_46_6 rfl rfl rfl rfl (RL.loadTq Try.isAgg3 rfl rfl rfl rfl ?_)
      refine RL.buildS [_, _, _, _] Try.zeroValue133 pl_133 rfl rfl rfl rfl rfl (RL.buildS [_, _, _, _, _, _, _] Try.zeroValue135 pl_135 rfl rfl rfl rfl rfl (RL.buildSlice [_, _, _, _, _, _, _] Try.runUnderlying68 Try.sizeOf135 Try.zeroValue135 rfl rfl (by decide) (by decide) rfl rfl rfl rfl rfl rfl ?_))
      intro b5
      refine RL.appendq el_68 rfl rfl rfl rfl rfl rfl rfl ?_
      intro ob1 cap1 ho1
      refine RL.fieldAddr fa_70_2 rfl rfl rfl rfl (RL.store (vs := [_]) Try.sizeOf68 rfl rfl rfl rfl rfl rfl rfl rfl rfl (by repeat (first | exact Upd.here | apply Upd.there)) ?_)
      refine RL.nil (NQ.block (NQ.seq (CW.ok [1, 2, 3, 4] rfl (CW.rg (RL.p rfl (RL.bx rfl (wrapV_i64 (by omega) (by omega)) ?_))))))
      refine RL.p rfl (RL.nil ?_)
      refine NQ.round (g := (i, acc, ob, cp, m)) (i + 1, acc ++ [adOf s], ob1, cap1, m + 1) ⟨hlt, by rw [hac]; exact (adsOf_yes hx (by simpa using hk)).symm, by simp [hm]⟩ (by show c.L.length - (i + 1) < c.L.length - i; omega) (.cons rfl (.cons rfl (.cons rfl (.cons rfl .nil)))) (fun w h => ?_)
      refine h.rea (H' := [cel b2 [.int .i64 0, .int .i64 0, .int .i64 0, .int .i64 0, .slice none 0 0] 70, cel b3 [.int .i64 c.g0, .int .i64 c.g1, .int .i64 c.g2, .int .i64 c.dr, slO ob1 (m + 1) cap1] 70, own ob1 cap1 135 7 (m + 1) ((acc ++ [adOf s]).flatMap Ad.cells)]) hJ2 ?_
      rw [adf_snoc]
      exact (by repeat (first | exact Rea.nil | (apply Rea.cons; (solve | (repeat (first | exact Del.here | apply Del.there))))))
    ·
      refine CW.skip (NQ.block (NQ.seq (CW.rg (RL.p rfl (RL.bx rfl (wrapV_i64 (by omega) (by omega)) ?_)))))
      refine RL.p rfl (RL.nil ?_)
      refine NQ.round (g := (i, acc, ob, cp, m)) (i + 1, acc, ob, cp, m) ⟨hlt, by rw [hac]; exact (adsOf_no hx (by simpa using hk)).symm, hm⟩ (by show c.L.length - (i + 1) < c.L.length - i; omega) (.cons rfl (.cons rfl (.cons rfl (.cons rfl .nil)))) (fun w h => h.rea hJ2 (by repeat (first | exact Rea.nil | (apply Rea.cons; (solve | (repeat (first | exact Del.here | apply Del.there)))))))
  ·
    have hin : i = c.L.length := by simp at hlt; omega
    subst hin
    rw [List.take_length] at hac
    subst hac
    refine CW.exit (XQ.seq (XQ.seq (XQ.hit (NQ.seq (CW.ok [2, 3] rfl (CW.seq (CW.region (ef := [1]) (bk := [1]) (RL.loadSq Try.isAgg70 Try.sizeOf70 rfl rfl rfl rfl ?_))))))))
    refine RL.store (vs := [_, _, _, _, _]) Try.sizeOf70 rfl rfl rfl rfl rfl rfl rfl rfl rfl (by repeat (first | exact Upd.here | apply Upd.there)) ?_
    refine RL.nil (NQ.seq (CW.ret ?_))
    subst hm
    refine RQ.rea (fun _ h => h) (H' := [cel b2 [.int .i64 c.g0, .int .i64 c.g1, .int .i64 c.g2, .int .i64 c.dr, slO ob (adsOf c.L).length cp] 70, own ob cp 135 7 (adsOf c.L).length ((adsOf c.L).flatMap Ad.cells)]) (by repeat (first | exact Rea.nil | (apply Rea.cons; (solve | (repeat (first | exact Del.here | apply Del.there)))))) ?_
    exact RQ.post (resW rfl rfl Try.isAgg70 Try.sizeOf70 (by repeat (first | exact List.Mem.head _ | apply List.Mem.tail)) rfl) (.drop (.keep .nil)) ⟨ob, cp, rfl, rfl, rfl⟩
end Go.Proofs.Ytbdnebedmdoehaa
