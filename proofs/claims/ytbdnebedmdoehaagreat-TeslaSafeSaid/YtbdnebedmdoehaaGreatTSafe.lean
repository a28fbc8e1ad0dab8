import Derived.Test.YtbdnebedmdoehaaGreatL4
namespace Go.Proofs.YtbdnebedmdoehaaGreat
open Go.PK
structure SG where
  i : Nat
  z : RSt
  J : List It
  X : List FrO
  xo : Option Nat
  xc : Nat
structure SG.ok (n : Nat) (J0 : List It) (g : SG) : Prop where
  i : g.i ≤ n
  b : g.i ≤ 40
  v : LInv g.i g.z
  j : ∀ y ∈ J0, y ∈ g.J
  c : ∀ x ∈ g.z.c, bodyO x.2 ∈ g.J
  p : ∃ r, (g.X.map (·.f)).Perm (frs g.z.c ++ r)
  x : ∀ x ∈ g.X, x.Ok ∧ bodyO x ∈ g.J
  l : g.X.length ≤ g.i
/-- The rounds over what was released. -/
structure SK where
  j : Nat
  X : List FrO
  xo : Option Nat
  xc : Nat
  J : List It
structure SK.ok (Y : List FrO) (r : List Fr) (m : Nat) (J0 : List It) (g : SK) : Prop where
  j : g.j ≤ Y.length
  y : ∀ y ∈ J0, y ∈ g.J
  p : (g.X.map (·.f)).Perm ((Y.drop g.j).map (·.f) ++ r)
  x : ∀ x ∈ g.X, x.Ok ∧ bodyO x ∈ g.J
  l : g.X.length ≤ m
theorem tsafe (s : Sch) (sd : B8) (p : Option Addr) (nn : Nat) (L : List Act21) (hL : ∀ x ∈ L, x.Ok) (hc : L.length ≤ nn) : Spc Tryz.prog 5 #[.agg s.cells.toArray, U8 sd, .slice p L.length nn] (sls p 61 L.length (L.flatMap Act21.cells) :: L.flatMap Act21.its) [] (Is (.bool true)) := by
  generalize hJ : (sls p 61 L.length (L.flatMap Act21.cells) :: L.flatMap Act21.its) = J0
  have m1 : sls p 61 L.length (L.flatMap Act21.cells) ∈ J0 := by rw [← hJ]; exact List.Mem.head _
  have m3 : ∀ y ∈ L.flatMap Act21.its, y ∈ J0 := fun y hy => by rw [← hJ]; exact List.Mem.tail _ hy
  clear hJ
  have hk0 := nextN_len (base21_len sd) (12 - 0)
  have hx0 := key21_get sd (show 0 < 13 by decide)
  generalize hke : nextN (base21 sd) (12 - 0) = k0 at *
  have hk032 : (bytes k0).length = 32 := by rw [List.length_map, hk0]
  refine Spc.enter Tryz.func5 rfl rfl rfl (fun w0 hw0 => ?_)
  refine CW.seq (CW.region (ef := [0]) (bk := []) (RL.box rfl rfl rfl rfl rfl rfl ?_))
  intro b1
  refine RL.p rfl (RL.nil (NQ.seq (CW.seq (CW.seq (CW.rg (RL.callvq (works21) Tryz.call12 rfl rfl rfl rfl ?_))))))
  refine RL.p rfl (RL.nil (NQ.seq (CW.condF rfl (rfl) (CW.skip (NQ.seq (CW.seq (CW.region (ef := [1]) (bk := [1]) (RL.p rfl (RL.call (tkeys_any sd) Tryz.call13 rfl rfl rfl rfl rfl (by repeat (first | exact Pick.nil | apply Pick.take | apply Pick.leave)) .nil (.inr rfl) ?_)))))))))
  rintro _ _ _ ⟨kb, kc, rfl, rfl, rfl⟩
  refine RL.p rfl (RL.nil (NQ.seq (CW.ok [2, 3, 7] rfl (CW.seq (CW.freezeAll rfl ?_)))))
  refine CW.genI (fun J hJ => ?_)
  have mK : own (some kb) kc 23 32 13 ((key21 sd 13).flatMap bytes) ∈ J := hJ _ (by simp)
  have mS : cel b1 s.cells 37 ∈ J := hJ _ (by simp)
  have mJ : ∀ y ∈ J0, y ∈ J := fun y hy => hJ y (by simp [hy])
  clear hJ
  have rS : RdsN J ⟨b1, 0, none⟩ 4 [.int .i64 s.st, .int .i64 s.ln, .int .i64 s.lg, .int .i64 s.of] := ⟨fun _ => Rds.allI mS, rfl⟩
  have rS0 : RdI J ⟨b1, 0 + 0, none⟩ (.int .i64 s.st) := ⟨fun _ => Rd.celI mS rfl⟩
  have rS1 : RdI J ⟨b1, 0 + 1, none⟩ (.int .i64 s.ln) := ⟨fun _ => Rd.celI mS rfl⟩
  have rS2 : RdI J ⟨b1, 0 + 2, none⟩ (.int .i64 s.lg) := ⟨fun _ => Rd.celI mS rfl⟩
  have rS3 : RdI J ⟨b1, 0 + 3, none⟩ (.int .i64 s.of) := ⟨fun _ => Rd.celI mS rfl⟩
  have rK : RdsN J ⟨kb, 0 + 0 * 32, none⟩ 32 (bytes k0) := ⟨fun _ => own_rdsI mK hx0 (flatK_len (key21_all sd 13)), hk032⟩
  by_cases hs : s.Ok
  ·
    refine CW.regionD (Sq.of [0, 1, 2, 3, 4, 5, 6, 7, 8, 9]) [4] [4] [1, 2, 5, 6, 7, 8, 9] mixed (by kernel_rfl) ?_
    refine RL.loadSq Tryz.isAgg37 Tryz.sizeOf37 rfl rfl rfl rfl ?_
    refine RL.p rfl (RL.idxAt (j := 0) Tryz.runUnderlying39 Tryz.sizeOf23 rfl rfl rfl rfl rfl (by omega) (by omega) ?_)
    refine RL.loadSq Tryz.isAgg23 Tryz.sizeOf23 rfl rfl rfl rfl ?_
    refine RL.call (tnew_yes s hs k0 hk0) Tryz.call14 rfl rfl rfl rfl rfl (by repeat (first | exact Pick.nil | apply Pick.take | apply Pick.leave)) .nil (.inr rfl) ?_
    rintro _ _ _ ⟨B, rfl, rfl, rfl, rfl⟩
    refine RL.p rfl (RL.p rfl (RL.p rfl (RL.p rfl (RL.p rfl (RL.nil (NQ.seq (CW.ok [2, 3, 7, 8, 9] rfl (CW.seq (CW.seq (CW.rg (RL.p rfl (RL.p rfl (RL.nil ?_)))))))))))))
    refine NQ.seq (CW.condF rfl (rfl) (CW.skip (NQ.seq (CW.seq (CW.region (ef := [9, 10]) (bk := [10]) (RL.fieldAddr fa_37_0 rfl rfl rfl rfl (RL.loadq Tryz.isAgg3 rfl rfl rfl rfl ?_)))))))
    refine RL.fieldAddr fa_37_1 rfl rfl rfl rfl (RL.loadq Tryz.isAgg3 rfl rfl rfl rfl ?_)
    refine RL.fieldAddr fa_37_2 rfl rfl rfl rfl (RL.loadq Tryz.isAgg3 rfl rfl rfl rfl ?_)
    refine RL.fieldAddr fa_37_3 rfl rfl rfl rfl (RL.loadq Tryz.isAgg3 rfl rfl rfl rfl ?_)
    refine RL.buildS B.s.cells Tryz.zeroValue60 pl_60 rfl rfl rfl rfl rfl (RL.alloc Tryz.zeroValue60 rfl rfl rfl rfl rfl ?_)
    intro b2
    refine RL.storeW (vs := B.s.cells) Tryz.sizeOf60 rfl rfl rfl rfl rfl rfl rfl rfl (by repeat (first | exact Upd.here | apply Upd.there)) rfl rfl ?_
    refine RL.nil (NQ.seq (CW.ok [2, 7, 8, 10] rfl (CW.seq (CW.region (ef := [0]) (bk := []) (RL.buildOwn [] Tryz.runUnderlying51 Tryz.sizeOf30 Tryz.zeroValue30 rfl rfl (by decide) (by decide) rfl (by decide) rfl rfl rfl rfl rfl rfl ?_)))))
    intro oq
    refine RL.p rfl (RL.nil (NQ.seq (CW.seq (CW.seq (CW.rg (RL.p rfl (RL.nil (NQ.seq (CW.block (CW.freezeP (A := [_]) (B := [_, _, _, _, _]) (.leave (.take (.leave (.leave (.leave (.leave .nil)))))) rfl ?_))))))))))
    refine CW.genI (fun J5 hJ5 => ?_)
    have mP : cel b2 B.s.cells 60 ∈ J5 := hJ5 _ (by simp)
    have mJ5 : ∀ y ∈ J, y ∈ J5 := fun y hy => hJ5 y (by simp [hy])
    clear hJ5
    refine CW.loop (γ := SG) (SG.ok L.length J5) (fun g => [(2, .slice p L.length nn), (7, slO (some kb) 13 kc), (8, .pointer (some ⟨B.b, 0, none⟩)), (10, .pointer (some ⟨b2, 0, none⟩)), (11, slO g.xo g.X.length g.xc), (12, .int .i64 (g.i : Int))])
      (fun g => g.J) (fun g => own g.xo g.xc 30 21 g.X.length (g.X.flatMap FrO.cells) :: RTI B g.z) (fun g => L.length - g.i) ⟨0, RBk.z0 k0, J5, [], some oq, 0⟩ ⟨Nat.zero_le _, by show 0 ≤ 40; decide, LInv.zero hk0, fun _ h => h, fun x hx => (by cases hx), ⟨[], by simp [frs]⟩, fun x hx => (by cases hx), Nat.le_refl _⟩
      (.cons rfl (.cons rfl (.cons rfl (.cons rfl (.cons rfl (.cons rfl .nil)))))) (fun w h => h.rea (fun _ h => by simpa using h) (by repeat (first | exact Rea.nil | (apply Rea.cons; (solve | (repeat (first | exact Del.here | apply Del.there))))))) ?_
    rintro ⟨i, z, J1, X, xo, xc⟩ ⟨hi, hb, hv, hj, hbc, ⟨rr, hpm⟩, hXo, hXl⟩
    dsimp only at hi hb hv hj hbc hpm hXo hXl ⊢
    refine CW.fact (p := p = none → L.length = 0) (fun w hC e => sls_nil (hC.s.i _ (hj _ (mJ5 _ (mJ _ m1)))) e) (fun hpa => ?_)
    refine CW.seq (CW.seq (CW.rg (RL.p rfl (RL.p rfl (RL.lenS Tryz.runUnderlying38 rfl rfl rfl rfl (RL.p rfl (RL.p rfl ?_)))))))
    apply RL.andB (d := 58) (dp := 61) (l' := (Sq.of [])) rfl (sK [2, 7, 8, 10, 11, 12] rfl)
    ·
      intro hb5 K5
      refine RL.p rfl (RL.p rfl (RL.p rfl ?_))
      exact K5 _ (.cons rfl (sK [2, 7, 8, 10, 11, 12] rfl))
    ·
      intro hb5 K5
      refine RL.p rfl (RL.p rfl (RL.p rfl ?_))
      exact K5 _ (.cons rfl (sK [2, 7, 8, 10, 11, 12] rfl))
    refine RL.nil (NQ.seq ?_)
    refine CW.cond rfl (fun hlt => ?_) (fun hlt => ?_)
    ·
      obtain ⟨hlt, hlt40⟩ : i < L.length ∧ i < 40 := by simp at hlt; omega
      cases p with
      | none => exact absurd (hpa rfl) (by omega)
      | some ad =>
      have hxa := List.getElem?_eq_getElem hlt
      generalize L[i] = x at hxa
      have hma := List.mem_of_getElem? hxa
      have hxo := hL x hma
      have hal := act21_len hxo
      have mF : sls x.x.p 1 x.x.f.b.length (bytes x.x.f.b) ∈ J1 := hj _ (mJ5 _ (mJ _ (its21 m3 hma)))
      have mK1 := hj _ (mJ5 _ mK)
      have w9 : RdsN J1 (ad.add (i * 61)) 61 x.cells := act21_rdsN hL (hj _ (mJ5 _ (mJ _ m1))) hxa
      have hzo := hv.ok (by omega)
      obtain ⟨n, hn⟩ : ∃ n : Nat, x.iv = (n : Int) := ⟨x.iv.toNat, by have := hxo.iv; omega⟩
      have hn32 : n < 4294967296 := by have := hxo.iv; omega
      refine CW.skip (NQ.seq (CW.seq (CW.block (CW.seq (CW.region (ef := [4, 5]) (bk := [5]) (RL.p rfl (RL.p rfl ?_)))))))
      first | refine RL.idxAt (j := i) Tryz.runUnderlying38 Tryz.sizeOf47 rfl rfl rfl rfl rfl rfl (hlt) ?_ | refine RL.idx (j := i) Tryz.runUnderlying38 Tryz.sizeOf47 rfl rfl rfl rfl rfl rfl (hlt) ?_
      refine RL.loadSq Tryz.isAgg47 Tryz.sizeOf47 rfl rfl rfl rfl ?_
      refine RL.alloc Tryz.zeroValue47 rfl rfl rfl rfl rfl ?_
      intro b3
      refine RL.storeW Tryz.sizeOf47 rfl rfl rfl rfl rfl rfl rfl (ones_act21 x) (by repeat (first | exact Upd.here | apply Upd.there)) hal rfl ?_
      refine RL.nil (NQ.seq (CW.seq (CW.freezeP (A := [_]) (B := [_, _, _, _, _]) (.take (.leave (.leave (.leave (.leave (.leave .nil)))))) rfl ?_)))
      refine CW.genI (fun J2 hJ2 => ?_)
      have hJJ : ∀ y ∈ J1, y ∈ J2 := fun y hy => hJ2 y (by simp [hy])
      have mA : cel b3 x.cells 47 ∈ J2 := hJ2 _ (by simp)
      clear hJ2 w9
      have rA : RdsN J2 ⟨b3, 0, none⟩ 61 x.cells := ⟨fun _ => Rds.allI mA, hal⟩
      have rD : RdI J2 ⟨b3, 0 + 0, none⟩ (.int .i64 x.d) := ⟨fun _ => Rd.celI mA rfl⟩
      have rT : RdI J2 ⟨b3, 0 + 1, none⟩ (.int .i64 x.t) := ⟨fun _ => Rd.celI mA rfl⟩
      have rI : RdI J2 ⟨b3, 0 + 2, none⟩ (.int .u32 (n : Int)) := ⟨fun _ => Rd.celI mA (by rw [← hn]; rfl)⟩
      have mK2 := hJJ _ mK1
      have hj2 : ∀ y ∈ J5, y ∈ J2 := fun y hy => hJJ _ (hj y hy)
      have hbc2 : ∀ y ∈ z.c, bodyO y.2 ∈ J2 := fun y hy => hJJ _ (hbc y hy)
      have mF2 := hJJ _ mF
      have hXo2 : ∀ y ∈ X, y.Ok ∧ bodyO y ∈ J2 := fun y hy => ⟨(hXo y hy).1, hJJ _ (hXo y hy).2⟩
      have hkA := keyA_len sd hxo
      refine CW.rg ?_
      first | refine RL.fieldAddr fa_47_0 rfl rfl rfl rfl ?_ | refine RL.fieldAddrG fa_47_0 rfl rfl rfl rfl ?_
      refine RL.loadq Tryz.isAgg3 rfl rfl rfl rfl ?_
      refine RL.callvq (among_any x.d 9 (by decide) (by decide)) Tryz.call15 rfl rfl rfl rfl ?_
      refine RL.p rfl (RL.nil (NQ.seq (CW.ok [2, 7, 8, 10, 11, 12, 13, 14] rfl (CW.block (CW.seq (CW.rg (RL.p rfl (RL.p rfl (RL.p rfl (RL.nil (NQ.seq ?_)))))))))))
      refine CW.cond rfl (fun h8 => ?_) (fun h8 => ?_)
      ·
        refine CW.regionD (Sq.of [0, 1, 2, 3, 4, 5, 6]) [6] [6] [0, 1, 2, 3, 4, 5] mixed (by kernel_rfl) ?_
        refine RL.p rfl ?_
        first | refine RL.fieldAddr fa_47_2 rfl rfl rfl rfl ?_ | refine RL.fieldAddrG fa_47_2 rfl rfl rfl rfl ?_
        refine RL.loadTq Tryz.isAgg24 rfl rfl rfl rfl ?_
        refine RL.p rfl (RL.loadSTq Tryz.isAgg47 Tryz.sizeOf47 rfl rfl rfl rfl ?_)
        refine RL.callvT (tkey_any sd x hxo kb kc J2 mK2) Tryz.call19 rfl rfl rfl rfl (Lend.many (fun _ h => h)) ?_
        refine RL.call (traise_any B z hzo n hn32 (keyA sd x) hkA) Tryz.call22 rfl rfl rfl rfl rfl (by repeat (first | exact Pick.nil | apply Pick.take | apply Pick.leave)) .nil (.inr rfl) ?_
        rintro _ _ _ ⟨e, z', hR, rfl, rfl, rfl⟩
        obtain ⟨hv2, hc2⟩ := hR.inv hv hn32 hkA
        obtain ⟨r2, hp2⟩ := raise_perm hR
        have hmm := hR.m'
        refine RL.nil (NQ.block (NQ.block (NQ.seq (CW.ok [2, 7, 8, 10, 11, 12] rfl (CW.rg (RL.p rfl (RL.bx rfl (wrapV_i64 (by omega) (by omega)) ?_)))))))
        refine RL.p rfl (RL.nil ?_)
        refine NQ.round (g := (⟨i, z, J1, X, xo, xc⟩ : SG)) (⟨i + 1, z', J2, X, xo, xc⟩ : SG) ⟨hlt, by show i + 1 ≤ 40; omega, hv2, hj2, fun y hy => hbc2 y (hc2 y hy), ⟨r2 ++ rr, hpm.trans (by rw [← List.append_assoc]; exact hp2.append_right _)⟩, hXo2, by show X.length ≤ i + 1; omega⟩ (by show L.length - (i + 1) < L.length - i; omega) (.cons rfl (.cons rfl (.cons rfl (.cons rfl (.cons rfl (.cons rfl .nil)))))) (fun w h => ?_)
        show Cls w0 _ J2 [own xo xc 30 21 X.length (X.flatMap FrO.cells), recI B z', mapI B.mt goodE (encT z'.m), bufI B.q B.r, mapQ B.r z'.c] w
        rw [hmm]
        exact h.rea (fun _ h => by simpa using h) (by repeat (first | exact Rea.nil | (apply Rea.cons; (solve | (repeat (first | exact Del.here | apply Del.there))))))
      ·
        refine CW.seq (CW.rg (RL.p rfl (RL.p rfl (RL.p rfl (RL.nil (NQ.seq (CW.ok [2, 7, 8, 10, 11, 12, 13, 122] rfl ?_)))))))
        refine CW.cond rfl (fun h4 => ?_) (fun h4 => ?_)
        ·
          refine CW.seq (CW.regionD (Sq.of [0, 1, 2, 3, 4, 5, 6, 7, 8, 9, 10, 11]) [6] [6] [0, 1, 2, 3, 4, 5, 7, 8, 9, 10, 11] mixed (by kernel_rfl) ?_)
          refine RL.p rfl ?_
          first | refine RL.fieldAddr fa_47_2 rfl rfl rfl rfl ?_ | refine RL.fieldAddrG fa_47_2 rfl rfl rfl rfl ?_
          refine RL.loadTq Tryz.isAgg24 rfl rfl rfl rfl ?_
          refine RL.p rfl (RL.loadSTq Tryz.isAgg47 Tryz.sizeOf47 rfl rfl rfl rfl ?_)
          refine RL.callvT (tkey_any sd x hxo kb kc J2 mK2) Tryz.call19 rfl rfl rfl rfl (Lend.many (fun _ h => h)) ?_
          refine RL.call (tdis_any B z hzo n hn32 (keyA sd x) hkA hv.gt J2 hbc2) Tryz.call18 rfl rfl rfl rfl rfl (by repeat (first | exact Pick.nil | apply Pick.take | apply Pick.leave)) (Lend.many (fun _ h => h)) (.inr rfl) ?_
          rintro _ _ _ ⟨e, T, z', o1, c1, hD, rfl, rfl, rfl⟩
          obtain ⟨hv2, hc2, hT2⟩ := hD.inv hv hn32 hkA
          obtain ⟨r2, hp2⟩ := dis_perm hD
          have hYo : ∀ y ∈ relL (keyA sd x) n T, y.Ok ∧ bodyO y ∈ J2 := fun y hy => by
            obtain ⟨q, hq, rfl⟩ := relL_mem' y hy
            exact ⟨hv.c q (hT2 q hq), hbc2 q (hT2 q hq)⟩
          have hYl : (relL (keyA sd x) n T).length ≤ 16 := Nat.le_trans (relL_le _ _ _) (hD.lenT' hv.l)
          generalize relL (keyA sd x) n T = Y at *
          have hpm2 : (X.map (·.f)).Perm (Y.map (·.f) ++ (frs z'.c ++ r2 ++ rr)) := hpm.trans (by rw [← List.append_assoc]; exact hp2.append_right _)
          refine RL.p rfl (RL.p rfl (RL.p rfl (RL.p rfl (RL.p rfl (RL.nil (NQ.seq (CW.ok [2, 7, 8, 10, 11, 12, 15] rfl (CW.seq (CW.freezeP (A := [_]) (B := [_, _, _, _, _]) (.take (.leave (.leave (.leave (.leave (.leave .nil)))))) rfl ?_)))))))))
          refine CW.genI (fun J3 hJ3 => ?_)
          have mY : own o1 c1 30 21 Y.length (Y.flatMap FrO.cells) ∈ J3 := hJ3 _ (by simp)
          have hJ23 : ∀ y ∈ J2, y ∈ J3 := fun y hy => hJ3 y (by simp [hy])
          clear hJ3
          refine CW.rg (RL.p rfl (RL.nil (NQ.seq (CW.block ?_))))
          refine CW.loop (γ := SK) (SK.ok Y (frs z'.c ++ r2 ++ rr) (i + 1) J3) (fun g => [(2, .slice (some ad) L.length nn), (7, slO (some kb) 13 kc), (8, .pointer (some ⟨B.b, 0, none⟩)), (10, .pointer (some ⟨b2, 0, none⟩)), (11, slO g.xo g.X.length g.xc), (12, .int .i64 (i : Int)), (15, slO o1 Y.length c1), (17, .int .i64 (g.j : Int))])
            (fun g => g.J) (fun g => own g.xo g.xc 30 21 g.X.length (g.X.flatMap FrO.cells) :: RTI B z') (fun g => Y.length - g.j) ⟨0, X, xo, xc, J3⟩ ⟨Nat.zero_le _, fun _ h => h, hpm2, fun y hy => ⟨(hXo2 y hy).1, hJ23 _ (hXo2 y hy).2⟩, by show X.length ≤ i + 1; omega⟩
            (.cons rfl (.cons rfl (.cons rfl (.cons rfl (.cons rfl (.cons rfl (.cons rfl (.cons rfl .nil)))))))) (fun w h => h.rea (fun _ h => by simpa using h) (by repeat (first | exact Rea.nil | (apply Rea.cons; (solve | (repeat (first | exact Del.here | apply Del.there))))))) ?_
          rintro ⟨j, X1, yo, yc, J6⟩ ⟨hjl, hj6, hp6, hx6, hl6⟩
          dsimp only at hjl hj6 hp6 hx6 hl6 ⊢
          refine CW.fact (p := (o1 = none → Y.length = 0) ∧ (yo = none → X1.length = 0)) (fun w hC => ⟨fun e => by subst e; exact own_none (hC.s.i _ (hj6 _ mY)), fun e => by subst e; exact own_none (hC.s.h (own none yc 30 21 X1.length (X1.flatMap FrO.cells)) (by repeat (first | exact List.Mem.head _ | apply List.Mem.tail)))⟩) (fun hno => ?_)
          refine CW.seq (CW.seq (CW.rg (RL.p rfl (RL.p rfl (RL.lenS Tryz.runUnderlying51 rfl rfl rfl rfl (RL.p rfl (RL.nil (NQ.seq ?_))))))))
          refine CW.cond rfl (fun hlj => ?_) (fun hlj => ?_)
          ·
            have hlj : j < Y.length := by simp at hlj; omega
            obtain ⟨qb, rfl⟩ : ∃ q, o1 = some q := by
              cases o1 with
              | none => exact absurd (hno.1 rfl) (by omega)
              | some q => exact ⟨q, rfl⟩
            have hyj := List.getElem?_eq_getElem hlj
            rw [List.drop_eq_getElem_cons hlj] at hp6
            have hym := List.getElem_mem hlj
            generalize Y[j] = y at hyj hp6 hym
            have hyo := (hYo y hym).1
            have mBy : bodyO y ∈ J6 := hj6 _ (hJ23 _ (hYo y hym).2)
            have hy21 := fro_len hyo
            refine CW.skip (NQ.seq (CW.seq (CW.block (CW.seq (CW.region (ef := [0]) (bk := []) (RL.buildOwn [] Tryz.runUnderlying51 Tryz.sizeOf30 Tryz.zeroValue30 rfl rfl (by decide) (by decide) rfl (by decide) rfl rfl rfl rfl rfl rfl ?_))))))
            intro ol
            refine RL.p rfl (RL.p rfl (RL.nil (NQ.seq (CW.seq (CW.seq (CW.freezeP (A := [_]) (B := [_, _, _, _, _]) (.leave (.take (.leave (.leave (.leave (.leave .nil)))))) rfl ?_))))))
            refine CW.genI (fun J7 hJ7 => ?_)
            have mX : own yo yc 30 21 X1.length (X1.flatMap FrO.cells) ∈ J7 := hJ7 _ (by simp)
            have hJ67 : ∀ y ∈ J6, y ∈ J7 := fun y hy => hJ7 y (by simp [hy])
            clear hJ7
            have ry : RdsN J7 ⟨qb, 0 + j * 21, none⟩ 21 y.cells := ⟨fun _ => own_rdsI (hJ67 _ (hj6 _ mY)) hyj (fun q hq => fro_len (hYo q hq).1), hy21⟩
            have mBy7 := hJ67 _ mBy
            refine CW.rg (RL.p rfl (RL.nil (NQ.seq (CW.block ?_))))
            refine CW.loop (γ := Nat × Option Nat × Nat) (fun g => g.1 ≤ X1.length) (fun g => [(2, .slice (some ad) L.length nn), (7, slO (some kb) 13 kc), (8, .pointer (some ⟨B.b, 0, none⟩)), (10, .pointer (some ⟨b2, 0, none⟩)), (11, slO yo X1.length yc), (12, .int .i64 (i : Int)), (15, slO (some qb) Y.length c1), (17, .int .i64 (j : Int)), (18, slO g.2.1 (cutF y.f (X1.take g.1)).length g.2.2), (19, .bool (hasF y.f (X1.take g.1))), (20, .int .i64 (g.1 : Int))])
              (fun _ => J7) (fun g => own g.2.1 g.2.2 30 21 (cutF y.f (X1.take g.1)).length ((cutF y.f (X1.take g.1)).flatMap FrO.cells) :: RTI B z') (fun g => X1.length - g.1) (0, some ol, 0) (Nat.zero_le _)
              (.cons rfl (.cons rfl (.cons rfl (.cons rfl (.cons rfl (.cons rfl (.cons rfl (.cons rfl (.cons rfl (.cons rfl (.cons rfl .nil))))))))))) (fun w h => h.rea (fun _ h => by simpa using h) (by repeat (first | exact Rea.nil | (apply Rea.cons; (solve | (repeat (first | exact Del.here | apply Del.there))))))) ?_
            rintro ⟨m, lo, lc⟩ hm
            dsimp only at hm ⊢
            have hcl := cutF_len y.f (X1.take m)
            rw [List.length_take, Nat.min_eq_left hm] at hcl
            generalize hC : cutF y.f (X1.take m) = C at *
            generalize hH : hasF y.f (X1.take m) = fd at *
            refine CW.seq (CW.seq (CW.rg (RL.p rfl (RL.p rfl (RL.lenS Tryz.runUnderlying51 rfl rfl rfl rfl (RL.p rfl (RL.nil (NQ.seq ?_))))))))
            refine CW.cond rfl (fun hlm => ?_) (fun hlm => ?_)
            ·
              have hlm : m < X1.length := by simp at hlm; omega
              obtain ⟨qa, rfl⟩ : ∃ q, yo = some q := by
                cases yo with
                | none => exact absurd (hno.2 rfl) (by omega)
                | some q => exact ⟨q, rfl⟩
              have hxm := List.getElem?_eq_getElem hlm
              have htk : X1.take (m + 1) = X1.take m ++ [X1[m]] := by rw [List.take_add_one, hxm]; rfl
              have hxi := List.getElem_mem hlm
              generalize X1[m] = c at hxm htk hxi
              have hco := (hx6 c hxi).1
              have mBc : bodyO c ∈ J7 := hJ67 _ (hx6 c hxi).2
              have hc21 := fro_len hco
              have rc : RdsN J7 ⟨qa, 0 + m * 21, none⟩ 21 c.cells := ⟨fun _ => own_rdsI mX hxm (fun q hq => fro_len (hx6 q hq).1), hc21⟩
              refine CW.skip (NQ.seq (CW.seq (CW.block (CW.seq (CW.regionD (Sq.of [0, 1, 2, 3, 4, 5, 6, 7, 8, 9, 10, 11, 12]) [] [] [0, 1, 2, 3, 4, 5, 7, 8, 9, 12] mixed (by kernel_rfl) ?_)))))
              refine RL.p rfl (RL.p rfl (RL.p rfl ?_))
              apply RL.andB (d := 150) (dp := 160) (l' := (Sq.of [])) rfl (sK [2, 7, 8, 10, 11, 12, 15, 17, 18, 19, 20] rfl)
              ·
                intro hb3 K3
                refine RL.p rfl (RL.p rfl ?_)
                first | refine RL.idxAt (j := m) Tryz.runUnderlying51 Tryz.sizeOf30 rfl rfl rfl rfl rfl rfl (hlm) ?_ | refine RL.idx (j := m) Tryz.runUnderlying51 Tryz.sizeOf30 rfl rfl rfl rfl rfl rfl (hlm) ?_
                refine RL.loadSq Tryz.isAgg30 Tryz.sizeOf30 rfl rfl rfl rfl ?_
                refine RL.p rfl (RL.p rfl (RL.idxAt (j := j) Tryz.runUnderlying51 Tryz.sizeOf30 rfl rfl rfl rfl rfl rfl hlj (RL.loadSq Tryz.isAgg30 Tryz.sizeOf30 rfl rfl rfl rfl ?_)))
                refine RL.callv (frsame_any c.f y.f (c.ob.map fun b => ⟨b, 0, none⟩) (y.ob.map fun b => ⟨b, 0, none⟩) c.f.b.length y.f.b.length c.cp y.cp hco.f hyo.f) Tryz.call9 rfl rfl rfl rfl (Lend.ownI mBc (Lend.ownI mBy7 .nil)) ?_
                refine RL.p rfl ?_
                exact K3 _ (.cons rfl (sK [2, 7, 8, 10, 11, 12, 15, 17, 18, 19, 20] rfl))
              ·
                intro hb3 K3
                refine RL.p rfl (RL.p rfl (RL.p rfl (RL.p rfl (RL.p rfl (RL.p rfl (RL.p rfl (RL.p rfl (RL.p rfl (RL.p rfl ?_)))))))))
                exact K3 _ (.cons rfl (sK [2, 7, 8, 10, 11, 12, 15, 17, 18, 19, 20] rfl))
              refine RL.nil (NQ.seq ?_)
              refine CW.cond rfl (fun hhit => ?_) (fun hhit => ?_)
              ·
                refine CW.rg (RL.p rfl (RL.nil (NQ.block (NQ.seq (CW.rg (RL.p rfl (RL.bx rfl (wrapV_i64 (by omega) (by omega)) ?_)))))))
                refine RL.p rfl (RL.nil ?_)
                have hh : fd = false ∧ c.f.same y.f = true := by simpa using hhit
                have e1 : cutF y.f (X1.take (m + 1)) = C := by rw [htk, cutF_hit (by rw [hH, hh.1]) hh.2, hC]
                have e2 : hasF y.f (X1.take (m + 1)) = true := by rw [htk, hasF_snoc, hh.2, Bool.or_true]
                refine NQ.round (g := (m, lo, lc)) (m + 1, lo, lc) hlm (by show X1.length - (m + 1) < X1.length - m; omega) (.cons rfl (.cons rfl (.cons rfl (.cons rfl (.cons rfl (.cons rfl (.cons rfl (.cons rfl (.cons (by dsimp only; rw [e1]; rfl) (.cons (by dsimp only; rw [e2]; rfl) (.cons rfl .nil))))))))))) (fun w h => ?_)
                dsimp only
                rw [e1]
                exact h.rea (fun _ h => by simpa using h) (by repeat (first | exact Rea.nil | (apply Rea.cons; (solve | (repeat (first | exact Del.here | apply Del.there))))))
              ·
                refine CW.region (ef := [5, 6]) (bk := [6]) (RL.p rfl (RL.p rfl (RL.p rfl ?_)))
                first | refine RL.idxAt (j := m) Tryz.runUnderlying51 Tryz.sizeOf30 rfl rfl rfl rfl rfl rfl (hlm) ?_ | refine RL.idx (j := m) Tryz.runUnderlying51 Tryz.sizeOf30 rfl rfl rfl rfl rfl rfl (hlm) ?_
                refine RL.loadSq Tryz.isAgg30 Tryz.sizeOf30 rfl rfl rfl rfl ?_
                refine RL.buildSlice c.cells Tryz.runUnderlying51 Tryz.sizeOf30 Tryz.zeroValue30 rfl rfl (by decide) (by decide) rfl rfl rfl rfl rfl (fill_one21 hc21 rfl) ?_
                intro b4
                refine RL.appendA el_51 rfl rfl rfl rfl rfl rfl rfl (by first | exact ⟨(.take (Pick.none _)), rfl⟩ | exact ⟨(.leave (.take (Pick.none _))), rfl⟩ | exact ⟨(.leave (.leave (.take (Pick.none _)))), rfl⟩ | exact ⟨(.leave (.leave (.leave (.take (Pick.none _))))), rfl⟩ | exact ⟨(.leave (.leave (.leave (.leave (.take (Pick.none _)))))), rfl⟩ | exact ⟨(.leave (.leave (.leave (.leave (.leave (.take (Pick.none _))))))), rfl⟩ | exact ⟨(.leave (.leave (.leave (.leave (.leave (.leave (.take (Pick.none _)))))))), rfl⟩ | exact ⟨(.leave (.leave (.leave (.leave (.leave (.leave (.leave (.take (Pick.none _))))))))), rfl⟩ | exact ⟨(.leave (.leave (.leave (.leave (.leave (.leave (.leave (.leave (.take (Pick.none _)))))))))), rfl⟩ | exact ⟨(.leave (.leave (.leave (.leave (.leave (.leave (.leave (.leave (.leave (.take (Pick.none _))))))))))), rfl⟩) (Src.cel (List.Mem.head _) hc21) (fun u hu => ones_spec (ones_fro c) u hu) (by first | omega | (simp only [maxLen]; omega)) (by first | omega | (simp only [maxLen]; omega)) ?_
                intro ob1 cap1 ho1
                refine RL.p rfl (RL.nil (NQ.block (NQ.seq (CW.ok [2, 7, 8, 10, 11, 12, 15, 17, 18, 19, 20] rfl (CW.rg (RL.p rfl (RL.bx rfl (wrapV_i64 (by omega) (by omega)) ?_)))))))
                refine RL.p rfl (RL.nil ?_)
                have hh : fd = true ∨ c.f.same y.f = false := by
                  cases fd with
                  | true => exact .inl rfl
                  | false => exact .inr (by simpa using hhit)
                have e1 : cutF y.f (X1.take (m + 1)) = C ++ [c] := by rw [htk, cutF_more (hh.imp_left fun h => by rw [hH, h]), hC]
                have e2 : hasF y.f (X1.take (m + 1)) = fd := by
                  rw [htk, hasF_snoc, hH]
                  rcases hh with h | h <;> simp [h]
                refine NQ.round (g := (m, lo, lc)) (m + 1, ob1, cap1) hlm (by show X1.length - (m + 1) < X1.length - m; omega) (.cons rfl (.cons rfl (.cons rfl (.cons rfl (.cons rfl (.cons rfl (.cons rfl (.cons rfl (.cons (by dsimp only; rw [e1, List.length_append]; rfl) (.cons (by dsimp only; rw [e2]; rfl) (.cons rfl .nil))))))))))) (fun w h => ?_)
                dsimp only
                rw [e1, List.length_append, List.flatMap_append, show [c].flatMap FrO.cells = c.cells by simp]
                exact h.rea (fun _ h => by simpa using h) (by repeat (first | exact Rea.nil | (apply Rea.cons; (solve | (repeat (first | exact Del.here | apply Del.there))))))
            ·
              have hmX : m = X1.length := by simp at hlm; omega
              subst hmX
              rw [List.take_length] at hC hH
              have hfd : fd = true := by
                rw [← hH]
                exact hasF_of (hp6.mem_iff.2 (by simp))
              subst hfd
              have hpC : (C.map (·.f)).Perm ((Y.drop (j + 1)).map (·.f) ++ (frs z'.c ++ r2 ++ rr)) := by
                have h1 := (cutF_perm hH).symm.trans hp6
                rw [hC] at h1
                exact h1.cons_inv
              refine CW.exit (XQ.seq (XQ.seq (XQ.hit (NQ.seq (CW.ok [2, 7, 8, 10, 12, 15, 17, 18, 19] rfl (CW.seq (CW.seq (CW.rg (RL.p rfl (RL.p rfl (RL.nil (NQ.seq (CW.condF rfl (rfl) ?_)))))))))))))
              refine CW.skip (NQ.seq (CW.rg (RL.p rfl (RL.p rfl (RL.nil (NQ.block (NQ.seq (CW.rg (RL.p rfl (RL.bx rfl (wrapV_i64 (by omega) (by omega)) ?_))))))))))
              refine RL.p rfl (RL.nil ?_)
              refine NQ.round (g := (⟨j, X1, yo, yc, J6⟩ : SK)) (⟨j + 1, C, lo, lc, J7⟩ : SK) ⟨hlj, fun q hq => hJ67 _ (hj6 q hq), hpC, fun q hq => ?_, by show C.length ≤ i + 1; omega⟩ (by show Y.length - (j + 1) < Y.length - j; omega) (.cons rfl (.cons rfl (.cons rfl (.cons rfl (.cons rfl (.cons rfl (.cons rfl (.cons rfl .nil)))))))) (fun w h => h.rea (fun _ h => by simpa using h) (by repeat (first | exact Rea.nil | (apply Rea.cons; (solve | (repeat (first | exact Del.here | apply Del.there)))))))
              have := hx6 q (cutF_mem q (by rw [hC]; exact hq))
              exact ⟨this.1, hJ67 _ this.2⟩
          ·
            have hjY : j = Y.length := by simp at hlj; omega
            subst hjY
            rw [List.drop_length] at hp6
            refine CW.exit (XQ.seq (XQ.seq (XQ.hit (NQ.block (NQ.block (NQ.seq (CW.ok [2, 7, 8, 10, 11, 12] rfl (CW.rg (RL.p rfl (RL.bx rfl (wrapV_i64 (by omega) (by omega)) ?_))))))))))
            refine RL.p rfl (RL.nil ?_)
            refine NQ.round (g := (⟨i, z, J1, X, xo, xc⟩ : SG)) (⟨i + 1, z', J6, X1, yo, yc⟩ : SG) ⟨hlt, by show i + 1 ≤ 40; omega, hv2, fun q hq => hj6 _ (hJ23 _ (hj2 q hq)), fun q hq => hj6 _ (hJ23 _ (hbc2 q (hc2 q hq))), ⟨r2 ++ rr, by rw [← List.append_assoc]; simpa using hp6⟩, hx6, hl6⟩ (by show L.length - (i + 1) < L.length - i; omega) (.cons rfl (.cons rfl (.cons rfl (.cons rfl (.cons rfl (.cons rfl .nil)))))) (fun w h => h.rea (fun _ h => by simpa using h) (by repeat (first | exact Rea.nil | (apply Rea.cons; (solve | (repeat (first | exact Del.here | apply Del.there)))))))
        ·
          have hso : (shF sd x).Ok := shN_ok hxo.x
          have hsb : (shF sd x).b.length ≤ 100000 := shF_b hxo
          have hzk := hv.k
          have hzk32 : (bytes z.k).length = 32 := by rw [List.length_map, hzk]
          refine CW.seq (CW.region (ef := [2, 3, 4]) (bk := [2, 4]) (RL.p rfl (RL.loadSq Tryz.isAgg47 Tryz.sizeOf47 rfl rfl rfl rfl ?_)))
          refine RL.call (tshown_any sd x hxo kb kc J2 mK2 mF2) Tryz.call17 rfl rfl rfl rfl rfl (by repeat (first | exact Pick.nil | apply Pick.take | apply Pick.leave)) (Lend.many (fun _ h => h)) (.inr rfl) ?_
          rintro _ _ _ ⟨sb, sc, rfl, hcap, rfl, rfl⟩
          generalize shF sd x = F at *
          have hF21 := fr_len hso.tag (slO sb F.b.length sc)
          refine RL.alloc Tryz.zeroValue30 rfl rfl rfl rfl rfl ?_
          intro b4
          refine RL.storeW Tryz.sizeOf30 rfl rfl rfl rfl rfl rfl rfl (ones_fr _ rfl) (by repeat (first | exact Upd.here | apply Upd.there)) (fr_len hso.tag _) rfl ?_
          refine RL.nil (NQ.seq (CW.seq (CW.region (ef := [5, 7]) (bk := [7]) (RL.p rfl (RL.callv (tknown_any B z hzk) Tryz.call20 rfl rfl rfl rfl (.inH (by repeat (first | exact List.Mem.head _ | apply List.Mem.tail)) .nil) ?_)))))
          refine RL.p rfl (RL.p rfl (RL.p rfl (RL.alloc (cs := List.replicate 32 (U8 0#8)) Tryz.zeroValue23 rfl rfl rfl rfl rfl ?_)))
          intro b5
          refine RL.p rfl (RL.storeW Tryz.sizeOf23 rfl rfl rfl rfl rfl rfl rfl (ones_map one8 _) (by repeat (first | exact Upd.here | apply Upd.there)) hzk32 rfl ?_)
          refine RL.nil (NQ.seq (CW.ok [2, 7, 8, 10, 11, 12, 13, 21, 22] rfl (CW.seq (CW.seq (CW.freezeP (A := [_, _]) (B := [_, _, _, _, _, _]) (.leave (.take (.take (.leave (.leave (.leave (.leave (.leave .nil)))))))) rfl ?_)))))
          refine CW.genI (fun J3 hJ3 => ?_)
          have mG : cel b4 (F.cells (slO sb F.b.length sc)) 30 ∈ J3 := hJ3 _ (by simp)
          have mB : bodyO ⟨F, sb, sc⟩ ∈ J3 := hJ3 _ (by simp)
          have hJ23 : ∀ y ∈ J2, y ∈ J3 := fun y hy => hJ3 y (by simp [hy])
          clear hJ3
          have rG : RdsN J3 ⟨b4, 0, none⟩ 21 (F.cells (slO sb F.b.length sc)) := ⟨fun _ => Rds.allI mG, hF21⟩
          have rGb : RdI J3 ⟨b4, 0 + 4, none⟩ (slO sb F.b.length sc) := ⟨fun _ => Rd.celI mG rfl⟩
          have rT3 : RdI J3 ⟨b3, 0 + 1, none⟩ (.int .i64 x.t) := ⟨fun _ => Rd.celI (hJ23 _ mA) rfl⟩
          refine CW.region (ef := [4]) (bk := [4]) (RL.p rfl ?_)
          first | refine RL.fieldAddr fa_47_1 rfl rfl rfl rfl ?_ | refine RL.fieldAddrG fa_47_1 rfl rfl rfl rfl ?_
          refine RL.loadq Tryz.isAgg3 rfl rfl rfl rfl ?_
          refine RL.loadSq Tryz.isAgg30 Tryz.sizeOf30 rfl rfl rfl rfl ?_
          refine RL.call (tmess_any B z hzo x.t F (sb.map fun b => ⟨b, 0, none⟩) sc F.b.length hso rfl hcap hsb) Tryz.call16 rfl rfl rfl rfl rfl (by repeat (first | exact Pick.nil | apply Pick.take | apply Pick.leave)) (.inH (by repeat (first | exact List.Mem.head _ | apply List.Mem.tail)) (Lend.ownI mB .nil)) (.inr rfl) ?_
          rintro _ I3 _ ⟨e, c', rfl, hM, rfl⟩
          obtain ⟨hv2, hb2⟩ := hM.inv hv hso hsb
          obtain ⟨hq1, hq2⟩ := mess_perm hM
          have hbc3 : ∀ y ∈ c', bodyO y.2 ∈ I3 ++ J3 := fun y hy => by
            rcases hb2 y hy with h | h
            · exact List.mem_append_right _ (hJ23 _ (hbc2 y h))
            · exact List.mem_append_left _ h
          refine RL.p rfl (RL.nil (NQ.seq ?_))
          refine CW.cond rfl (fun he => ?_) (fun he => ?_)
          ·
            refine CW.exit (XQ.seq (XQ.miss rfl (XQ.hit (NQ.seq (CW.ok [2, 7, 8, 10, 11, 12] rfl (CW.rg (RL.p rfl (RL.bx rfl (wrapV_i64 (by omega) (by omega)) ?_))))))))
            refine RL.p rfl (RL.nil ?_)
            have he' : e ≠ 0 := by simpa using he
            obtain rfl := hq1 he'
            refine NQ.round (g := (⟨i, z, J1, X, xo, xc⟩ : SG)) (⟨i + 1, { z with c := z.c, m := bump e z.m }, I3 ++ J3, X, xo, xc⟩ : SG) ⟨hlt, by show i + 1 ≤ 40; omega, hv2, fun q hq => List.mem_append_right _ (hJ23 _ (hj2 q hq)), hbc3, ⟨rr, hpm⟩, fun q hq => ⟨(hXo2 q hq).1, List.mem_append_right _ (hJ23 _ (hXo2 q hq).2)⟩, by show X.length ≤ i + 1; omega⟩ (by show L.length - (i + 1) < L.length - i; omega) (.cons rfl (.cons rfl (.cons rfl (.cons rfl (.cons rfl (.cons rfl .nil)))))) (fun w h => h.rea (fun _ h => by simpa using h) (by repeat (first | exact Rea.nil | (apply Rea.cons; (solve | (repeat (first | exact Del.here | apply Del.there)))))))
          ·
            have he' : e = 0 := by simpa using he
            obtain ⟨hfc, hmE⟩ := hq2 he'
            obtain ⟨h29, hsf1, hgt⟩ := msgE_0 hmE
            have hg := rgot_any 5 (sb.map fun b => ⟨b, 0, none⟩) F.b.length sc F.b rfl (by omega)
            rw [gotR5, if_pos h29] at hg
            have hsf := rssafe B.s x.t (mIv F) (mIv_lt F)
            rw [safe_v] at hsf
            refine CW.genI (fun J4 hJ4 => ?_)
            have hJ34 : ∀ y ∈ I3 ++ J3, y ∈ J4 := fun y hy => hJ4 y (by simpa using hy)
            clear hJ4
            have mB4 := hJ34 _ (List.mem_append_right _ mB)
            have rG4 : RdsN J4 ⟨b4, 0, none⟩ 21 (F.cells (slO sb F.b.length sc)) := ⟨fun _ => Rds.allI (hJ34 _ (List.mem_append_right _ mG)), hF21⟩
            have rGb4 : RdI J4 ⟨b4, 0 + 4, none⟩ (slO sb F.b.length sc) := ⟨fun _ => Rd.celI (hJ34 _ (List.mem_append_right _ mG)) rfl⟩
            have rT4 : RdI J4 ⟨b3, 0 + 1, none⟩ (.int .i64 x.t) := ⟨fun _ => Rd.celI (hJ34 _ (List.mem_append_right _ (hJ23 _ mA))) rfl⟩
            have rP4 : RdsN J4 ⟨b2, 0, none⟩ 4 [.int .i64 B.s.st, .int .i64 B.s.ln, .int .i64 B.s.lg, .int .i64 B.s.of] := ⟨fun _ => Rds.allI (hJ34 _ (List.mem_append_right _ (hJ23 _ (hj2 _ mP)))), rfl⟩
            refine CW.skip (NQ.seq (CW.ok [2, 7, 8, 10, 11, 12, 13, 21, 22] rfl (CW.seq (CW.region (ef := [6, 7]) (bk := [7]) ?_))))
            first | refine RL.fieldAddr fa_30_4 rfl rfl rfl rfl ?_ | refine RL.fieldAddrG fa_30_4 rfl rfl rfl rfl ?_
            refine RL.loadq Tryz.isAgg26 rfl rfl rfl rfl ?_
            refine RL.callv (hg) Tryz.call23 rfl rfl rfl rfl (Lend.ownI mB4 .nil) (RL.p rfl (RL.p rfl (RL.p rfl (RL.alloc Tryz.zeroValue68 rfl rfl rfl rfl rfl ?_))))
            intro b6
            refine RL.storeW Tryz.sizeOf68 rfl rfl rfl rfl rfl rfl rfl rfl (Upd.here) (rdg_len _) rfl (RL.p rfl (RL.nil (NQ.seq (CW.ok [2, 7, 8, 10, 11, 12, 13, 21, 22, 24] rfl (CW.seq (CW.seq (CW.rg (RL.loadSq Tryz.isAgg60 Tryz.sizeOf60 rfl rfl rfl rfl ?_))))))))
            first | refine RL.fieldAddr fa_47_1 rfl rfl rfl rfl ?_ | refine RL.fieldAddrG fa_47_1 rfl rfl rfl rfl ?_
            refine RL.loadq Tryz.isAgg3 rfl rfl rfl rfl ?_
            first | refine RL.fieldAddr fa_68_7 rfl rfl rfl rfl ?_ | refine RL.fieldAddrG fa_68_7 rfl rfl rfl rfl ?_
            refine RL.load Tryz.isAgg24 rfl rfl rfl rfl (Rd.get (List.Mem.head _) (rdg_iv _)) (RL.callvq (hsf) Tryz.call24 rfl rfl rfl rfl ?_)
            refine RL.p rfl (RL.p rfl (RL.p rfl (RL.p rfl (RL.p rfl (RL.nil (NQ.seq (CW.ok [2, 7, 8, 10, 11, 12, 21, 22, 24, 26] rfl (CW.seq (CW.rg (RL.p rfl (RL.p rfl (RL.p rfl ?_))))))))))))
            apply RL.orB (d := 102) (dp := 107) (l' := (Sq.of [])) rfl (sK [2, 7, 8, 10, 11, 12, 21] rfl)
            ·
              intro hb3 K3
              first | refine RL.fieldAddr fa_68_7 rfl rfl rfl rfl ?_ | refine RL.fieldAddrG fa_68_7 rfl rfl rfl rfl ?_
              refine RL.load Tryz.isAgg24 rfl rfl rfl rfl (Rd.get (List.Mem.head _) (rdg_iv _)) (RL.p rfl (RL.p rfl (RL.p rfl ?_)))
              exact K3 _ (.cons rfl (sK [2, 7, 8, 10, 11, 12, 21] rfl))
            ·
              intro hb3 K3
              refine RL.p rfl (RL.p rfl (RL.p rfl (RL.p rfl (RL.p rfl ?_))))
              exact K3 _ (.cons rfl (sK [2, 7, 8, 10, 11, 12, 21] rfl))
            refine RL.nil (NQ.seq ?_)
            have hg2 : (!safeB B.s x.t (mIv F) || decide ((getR 5 F.b).interval ≤ (z.iv : Int))) = false := by
              have h1 : ¬ (getR 5 F.b).interval ≤ (z.iv : Int) := by
                show ¬ ((mIv F : Nat) : Int) ≤ (z.iv : Int)
                omega
              rw [hsf1, decide_eq_false h1]; rfl
            refine CW.condF rfl (hg2) (CW.skip (NQ.seq (CW.region (ef := [2, 3]) (bk := [3]) (RL.p rfl (RL.loadSq Tryz.isAgg30 Tryz.sizeOf30 rfl rfl rfl rfl ?_)))))
            refine RL.buildSlice (F.cells (slO sb F.b.length sc)) Tryz.runUnderlying51 Tryz.sizeOf30 Tryz.zeroValue30 rfl rfl (by decide) (by decide) rfl rfl rfl rfl rfl (fill_one21 hF21 rfl) ?_
            intro b7
            refine RL.appendA el_51 rfl rfl rfl rfl rfl rfl rfl (by first | exact ⟨(.take (Pick.none _)), rfl⟩ | exact ⟨(.leave (.take (Pick.none _))), rfl⟩ | exact ⟨(.leave (.leave (.take (Pick.none _)))), rfl⟩ | exact ⟨(.leave (.leave (.leave (.take (Pick.none _))))), rfl⟩ | exact ⟨(.leave (.leave (.leave (.leave (.take (Pick.none _)))))), rfl⟩ | exact ⟨(.leave (.leave (.leave (.leave (.leave (.take (Pick.none _))))))), rfl⟩ | exact ⟨(.leave (.leave (.leave (.leave (.leave (.leave (.take (Pick.none _)))))))), rfl⟩ | exact ⟨(.leave (.leave (.leave (.leave (.leave (.leave (.leave (.take (Pick.none _))))))))), rfl⟩ | exact ⟨(.leave (.leave (.leave (.leave (.leave (.leave (.leave (.leave (.take (Pick.none _)))))))))), rfl⟩ | exact ⟨(.leave (.leave (.leave (.leave (.leave (.leave (.leave (.leave (.leave (.take (Pick.none _))))))))))), rfl⟩) (Src.cel (List.Mem.head _) hF21) (fun u hu => ones_spec (ones_fr _ rfl) u hu) (by first | omega | (simp only [maxLen]; omega)) (by first | omega | (simp only [maxLen]; omega)) ?_
            intro ob1 cap1 ho1
            refine RL.p rfl (RL.nil (NQ.block (NQ.block (NQ.seq (CW.ok [2, 7, 8, 10, 11, 12] rfl (CW.rg (RL.p rfl (RL.bx rfl (wrapV_i64 (by omega) (by omega)) ?_))))))))
            refine RL.p rfl (RL.nil ?_)
            refine NQ.round (g := (⟨i, z, J1, X, xo, xc⟩ : SG)) (⟨i + 1, { z with c := c', m := bump e z.m }, J4, X ++ [⟨F, sb, sc⟩], ob1, cap1⟩ : SG) ⟨hlt, by show i + 1 ≤ 40; omega, hv2, fun q hq => hJ34 _ (List.mem_append_right _ (hJ23 _ (hj2 q hq))), fun q hq => hJ34 _ (hbc3 q hq), ⟨rr, ?_⟩, fun q hq => ?_, by show (X ++ [(⟨F, sb, sc⟩ : FrO)]).length ≤ i + 1; rw [List.length_append]; show X.length + 1 ≤ i + 1; omega⟩ (by show L.length - (i + 1) < L.length - i; omega) (.cons rfl (.cons rfl (.cons rfl (.cons rfl (.cons (by dsimp only; rw [List.length_append]; rfl) (.cons rfl .nil)))))) (fun w h => ?_)
            · show (List.map (·.f) (X ++ [(⟨F, sb, sc⟩ : FrO)])).Perm (frs c' ++ rr)
              rw [hfc, List.map_append, List.append_assoc]
              show (X.map (·.f) ++ [F]).Perm (frs z.c ++ (F :: rr))
              exact List.perm_append_comm.trans (((hpm.cons F)).trans List.perm_middle.symm)
            · rcases List.mem_append.1 hq with hq | hq
              · exact ⟨(hXo2 q hq).1, hJ34 _ (List.mem_append_right _ (hJ23 _ (hXo2 q hq).2))⟩
              · rw [List.mem_singleton] at hq; subst hq
                exact ⟨⟨hso, hsb⟩, mB4⟩
            · dsimp only
              rw [List.length_append, List.flatMap_append, show [(⟨F, sb, sc⟩ : FrO)].flatMap FrO.cells = F.cells (slO sb F.b.length sc) by simp [FrO.cells]]
              exact h.rea (fun _ h => by simpa using h) (by repeat (first | exact Rea.nil | (apply Rea.cons; (solve | (repeat (first | exact Del.here | apply Del.there))))))
    ·
      refine CW.exit (XQ.seq (XQ.seq (XQ.hit (NQ.seq (CW.ok [] rfl (CW.seq (CW.rg (RL.p rfl (RL.nil (NQ.seq (CW.ret ?_)))))))))))
      exact RQ.post (res1 rfl rfl) (Split.none _) ⟨rfl, rfl, rfl⟩
  ·
    refine CW.regionD (Sq.of [0, 1, 2, 3, 4, 5, 6, 7, 8, 9]) [4] [4] [1, 2, 5, 6, 7, 8, 9] mixed (by kernel_rfl) ?_
    refine RL.loadSq Tryz.isAgg37 Tryz.sizeOf37 rfl rfl rfl rfl ?_
    refine RL.p rfl (RL.idxAt (j := 0) Tryz.runUnderlying39 Tryz.sizeOf23 rfl rfl rfl rfl rfl (by omega) (by omega) ?_)
    refine RL.loadSq Tryz.isAgg23 Tryz.sizeOf23 rfl rfl rfl rfl ?_
    refine RL.call (tnew_no s hs k0 hk0) Tryz.call14 rfl rfl rfl rfl rfl (by repeat (first | exact Pick.nil | apply Pick.take | apply Pick.leave)) .nil (.inr rfl) ?_
    rintro _ _ _ ⟨rfl, rfl, rfl⟩
    refine RL.p rfl (RL.p rfl (RL.p rfl (RL.p rfl (RL.p rfl (RL.nil (NQ.seq (CW.ok [2, 3, 7, 8, 9] rfl (CW.seq (CW.seq (CW.rg (RL.p rfl (RL.p rfl (RL.nil ?_)))))))))))))
    refine NQ.seq (CW.condT rfl (rfl) (CW.seq (CW.rg (RL.p rfl (RL.cmp rfl rfl rfl rfl rfl (eql_ptr Tryz.runUnderlying41 _) (RL.p rfl (RL.nil (NQ.seq (CW.ret (RQ.seq ?_))))))))))
    exact RQ.post (res1 rfl rfl) (Split.none _) ⟨rfl, rfl, rfl⟩
theorem teslaSafe_call (W : World) (s : Sch) (sd : B8) (x : Sl Act21) (_ : rSch.ok s) (_ : rU8.ok sd) (hx : rActs21.ok x) (_ : ∀ y ∈ rSch.its s, y.A W) (_ : ∀ y ∈ rU8.its sd, y.A W) (tx : ∀ y ∈ rActs21.its x, y.A W) :
    Calls Tryz.prog 5 #[rSch.val s, rU8.val sd, rActs21.val x] W (fun e w' => e = .returned (.bool true) ∧ RowKit.Below W.heap.size W w') := by
  have ht : ∀ y ∈ (sls x.p 61 x.l.length (x.l.flatMap Act21.cells) :: x.l.flatMap Act21.its), y.A W := tx
  exact (tsafe s sd x.p x.c x.l hx.2.2.2 hx.1).lawI ht
end Go.Proofs.YtbdnebedmdoehaaGreat
