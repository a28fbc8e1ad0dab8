import Derived.Test.YtbdnebedmdoehaaGreatLA
namespace Go.Proofs.YtbdnebedmdoehaaGreat
open Go.PK
/-- What TeslaChain asks for, after a key came. -/
theorem dis_chain {i : Nat} {z z' : RSt} {iv : Nat} {key k0 : List B8} {e : Int} {T : Bq} (hD : DisO z iv key e T z') (hn : nextN z.k z.iv = k0) (hb : z.iv ≤ 512 * i) :
    z'.iv ≤ 512 * (i + 1) ∧ nextN z'.k z'.iv = k0 ∧ ¬ z'.iv < z.iv ∧ (e = 0 ↔ z.iv < z'.iv) := by
  cases hD with
  | no h h0 => exact ⟨by show z.iv ≤ _; omega, hn, by show ¬ z.iv < z.iv; omega, ⟨fun h => absurd h h0, fun (h : z.iv < z.iv) => by omega⟩⟩
  | yes h hT =>
    have h1 : ¬ iv ≤ z.iv := fun hle => by rw [disE, if_pos hle] at h; cases h
    have h2 : ¬ 512 < iv - z.iv := fun hle => by rw [disE, if_neg h1, if_pos hle] at h; cases h
    have h3 : nextN key (iv - z.iv) = z.k := Classical.byContradiction fun hne => by rw [disE, if_neg h1, if_neg h2, if_neg hne] at h; cases h
    refine ⟨by show iv ≤ _; omega, ?_, by show ¬ iv < z.iv; omega, ⟨fun _ => by show z.iv < iv; omega, fun _ => rfl⟩⟩
    show nextN key iv = k0
    rw [← hn, ← h3, ← nextN_add]
    congr 1; omega
structure CG where
  i : Nat
  z : RSt
  J : List It
structure CG.ok (n : Nat) (k0 : List B8) (J0 : List It) (g : CG) : Prop where
  i : g.i ≤ n
  b : g.i ≤ 40
  v : LInv g.i g.z
  j : ∀ y ∈ J0, y ∈ g.J
  c : ∀ x ∈ g.z.c, bodyO x.2 ∈ g.J
  k : nextN g.z.k g.z.iv = k0
  m : g.z.iv ≤ 512 * g.i
theorem tchain (s : Sch) (sd : B8) (p : Option Addr) (nn : Nat) (L : List Act21) (hL : ∀ x ∈ L, x.Ok) (hc : L.length ≤ nn) : Spc Tryz.prog 4 #[.agg s.cells.toArray, U8 sd, .slice p L.length nn] (sls p 61 L.length (L.flatMap Act21.cells) :: L.flatMap Act21.its) [] (Is (.bool true)) := by
  generalize hJ : (sls p 61 L.length (L.flatMap Act21.cells) :: L.flatMap Act21.its) = J0
  have m1 : sls p 61 L.length (L.flatMap Act21.cells) ∈ J0 := by rw [← hJ]; exact List.Mem.head _
  have m3 : ∀ y ∈ L.flatMap Act21.its, y ∈ J0 := fun y hy => by rw [← hJ]; exact List.Mem.tail _ hy
  clear hJ
  have hk0 := nextN_len (base21_len sd) (12 - 0)
  have hx0 := key21_get sd (show 0 < 13 by decide)
  generalize hke : nextN (base21 sd) (12 - 0) = k0 at *
  have hk032 : (bytes k0).length = 32 := by rw [List.length_map, hk0]
  refine Spc.enter Tryz.func4 rfl rfl rfl (fun w0 hw0 => ?_)
  refine CW.seq (CW.region (ef := [0]) (bk := []) (RL.box rfl rfl rfl rfl rfl rfl ?_))
  intro b1
  refine RL.assign rfl rfl rfl rfl (RL.nil (NQ.seq (CW.seq (CW.seq (CW.region (ef := []) (bk := []) (RL.callvq (works21) Tryz.call12 rfl rfl rfl rfl ?_))))))
  refine RL.not rfl rfl rfl rfl (RL.nil (NQ.seq (CW.condF rfl (rfl) (CW.skip (NQ.seq (CW.seq (CW.region (ef := [1]) (bk := [1]) ?_)))))))
  refine RL.move rfl rfl rfl rfl (RL.call (tkeys_any sd) Tryz.call13 rfl rfl rfl rfl rfl (by repeat (first | exact Pick.nil | apply Pick.take | apply Pick.leave)) .nil (.inr rfl) ?_)
  rintro _ _ _ ⟨kb, kc, rfl, rfl, rfl⟩
  refine RL.assign rfl rfl rfl rfl (RL.nil (NQ.seq (CW.only (.cons (k := 2) rfl (.cons (k := 3) rfl (.cons (k := 7) rfl .nil))) (CW.seq (CW.freezeAll rfl ?_)))))
  refine CW.genI (fun J hJ => ?_)
  have mK : own (some kb) kc 23 32 13 ((key21 sd 13).flatMap bytes) ∈ J := hJ _ (by simp)
  have mS : cel b1 s.cells 37 ∈ J := hJ _ (by simp)
  have mJ : ∀ y ∈ J0, y ∈ J := fun y hy => hJ y (by simp [hy])
  clear hJ
  have rS : RdsN J ⟨b1, 0, none⟩ 4 [.int .i64 s.st, .int .i64 s.ln, .int .i64 s.lg, .int .i64 s.of] := ⟨fun _ => Rds.allI mS, rfl⟩
  have rK : RdsN J ⟨kb, 0 + 0 * 32, none⟩ 32 (bytes k0) := ⟨fun _ => own_rdsI mK hx0 (flatK_len (key21_all sd 13)), hk032⟩
  by_cases hs : s.Ok
  ·
    refine CW.regionD (Sq.of [0, 1, 2, 3, 4, 5, 6, 7, 8, 9]) [4] [4] [1, 2, 5, 6, 7, 8, 9] mixed (by kernel_rfl) ?_
    first | refine RL.loadM Tryz.isAgg37 Tryz.sizeOf37 rfl rfl rfl rfl (by assumption) ?_ | refine RL.loadA Tryz.isAgg37 Tryz.sizeOf37 rfl rfl rfl rfl (by first | assumption | (apply RdsI.rds; assumption)) (by first | rfl | assumption | (simp only [List.length_map]; assumption) | (simp only [List.length_map, List.length_replicate, hk032, hk0]; done) | (simp; done)) ?_ | refine RL.loadW Tryz.isAgg37 Tryz.sizeOf37 rfl rfl rfl rfl (by (solve | (repeat (first | exact List.Mem.head _ | apply List.Mem.tail)))) (by first | rfl | assumption | (simp only [List.length_map]; assumption) | (simp only [List.length_map, List.length_replicate, hk032, hk0]; done) | (simp; done)) ?_
    refine RL.move rfl rfl rfl rfl (RL.idxAt (j := 0) Tryz.runUnderlying39 Tryz.sizeOf23 rfl rfl rfl rfl rfl (by omega) (by omega) ?_)
    first | refine RL.loadM Tryz.isAgg23 Tryz.sizeOf23 rfl rfl rfl rfl (by assumption) ?_ | refine RL.loadA Tryz.isAgg23 Tryz.sizeOf23 rfl rfl rfl rfl (by first | assumption | (apply RdsI.rds; assumption)) (by first | rfl | assumption | (simp only [List.length_map]; assumption) | (simp only [List.length_map, List.length_replicate, hk032, hk0]; done) | (simp; done)) ?_ | refine RL.loadW Tryz.isAgg23 Tryz.sizeOf23 rfl rfl rfl rfl (by (solve | (repeat (first | exact List.Mem.head _ | apply List.Mem.tail)))) (by first | rfl | assumption | (simp only [List.length_map]; assumption) | (simp only [List.length_map, List.length_replicate, hk032, hk0]; done) | (simp; done)) ?_
    refine RL.call (tnew_yes s hs k0 hk0) Tryz.call14 rfl rfl rfl rfl rfl (by repeat (first | exact Pick.nil | apply Pick.take | apply Pick.leave)) .nil (.inr rfl) ?_
    rintro _ _ _ ⟨B, rfl, rfl, rfl, rfl⟩
    refine RL.move rfl rfl rfl rfl (RL.extract rfl rfl rfl rfl rfl (RL.extract rfl rfl rfl rfl rfl (RL.assign rfl rfl rfl rfl (RL.assign rfl rfl rfl rfl (RL.nil (NQ.seq (CW.only (.cons (k := 2) rfl (.cons (k := 7) rfl (.cons (k := 8) rfl (.cons (k := 9) rfl .nil)))) ?_)))))))
    refine CW.seq (CW.seq (CW.region (ef := []) (bk := []) (RL.move rfl rfl rfl rfl (RL.bin rfl rfl rfl rfl rfl rfl (RL.nil (NQ.seq (CW.condF rfl (rfl) ?_)))))))
    refine CW.skip (NQ.seq (CW.seq (CW.region (ef := []) (bk := []) (RL.assign rfl rfl rfl rfl (RL.nil (NQ.seq (CW.seq ?_)))))))
    refine CW.seq (CW.region (ef := []) (bk := []) (RL.assign rfl rfl rfl rfl (RL.nil (NQ.seq (CW.block ?_)))))
    refine CW.loop (γ := CG) (CG.ok L.length k0 J) (fun g => [(2, .slice p L.length nn), (7, slO (some kb) 13 kc), (8, .pointer (some ⟨B.b, 0, none⟩)), (10, .int .u32 (g.z.iv : Int)), (11, .int .i64 (g.i : Int))])
      (fun g => g.J) (fun g => RTI B g.z) (fun g => L.length - g.i) ⟨0, RBk.z0 k0, J⟩ ⟨Nat.zero_le _, by show 0 ≤ 40; decide, LInv.zero hk0, fun _ h => h, fun x hx => (by cases hx), rfl, Nat.le_refl _⟩
      (.cons rfl (.cons rfl (.cons rfl (.cons rfl (.cons rfl .nil))))) (fun w h => h.rea (fun _ h => by simpa using h) (by repeat (first | exact Rea.nil | (apply Rea.cons; (solve | (repeat (first | exact Del.here | apply Del.there))))))) ?_
    rintro ⟨i, z, J1⟩ ⟨hi, hb, hv, hj, hbc, hkz, hm⟩
    dsimp only at hi hb hv hj hbc hkz hm ⊢
    refine CW.fact (p := p = none → L.length = 0) (fun w hC e => sls_nil (hC.s.i _ (hj _ (mJ _ m1))) e) (fun hpa => ?_)
    refine CW.seq (CW.seq (CW.region (ef := []) (bk := []) (RL.move rfl rfl rfl rfl (RL.move rfl rfl rfl rfl (RL.lenS Tryz.runUnderlying38 rfl rfl rfl rfl (RL.bin rfl rfl rfl rfl rfl rfl (RL.move rfl rfl rfl rfl ?_)))))))
    apply RL.andB (d := 39) (dp := 42) (l' := (Sq.of [])) rfl (.cons (k := 2) rfl (.cons (k := 7) rfl (.cons (k := 8) rfl (.cons (k := 10) rfl (.cons (k := 11) rfl .nil)))))
    ·
      intro hb5 K5
      refine RL.move rfl rfl rfl rfl (RL.bin rfl rfl rfl rfl rfl rfl (RL.pickT rfl rfl rfl rfl rfl ?_))
      exact K5 _ (.cons rfl (.cons (k := 2) rfl (.cons (k := 7) rfl (.cons (k := 8) rfl (.cons (k := 10) rfl (.cons (k := 11) rfl .nil))))))
    ·
      intro hb5 K5
      refine RL.skip rfl rfl rfl rfl (RL.skip rfl rfl rfl rfl (RL.pickF rfl rfl rfl rfl rfl ?_))
      exact K5 _ (.cons rfl (.cons (k := 2) rfl (.cons (k := 7) rfl (.cons (k := 8) rfl (.cons (k := 10) rfl (.cons (k := 11) rfl .nil))))))
    refine RL.nil (NQ.seq ?_)
    refine CW.cond rfl (fun hlt => ?_) (fun hlt => ?_)
    ·
      obtain ⟨hlt, hlt40⟩ : i < L.length ∧ i < 40 := by simp at hlt; omega
      cases p with
      | none => exact absurd (hpa rfl) (by omega)
      | some ad =>
      have hxa := List.getElem?_eq_getElem hlt
      generalize L[i] = x at hxa
      have hma := List.mem_of_getElem? hxa
      have hxo := hL x hma
      have hal := act21_len hxo
      have mF : sls x.x.p 1 x.x.f.b.length (bytes x.x.f.b) ∈ J1 := hj _ (mJ _ (its21 m3 hma))
      have mK1 := hj _ mK
      have w9 : RdsN J1 (ad.add (i * 61)) 61 x.cells := act21_rdsN hL (hj _ (mJ _ m1)) hxa
      have hzo := hv.ok (by omega)
      obtain ⟨n, hn⟩ : ∃ n : Nat, x.iv = (n : Int) := ⟨x.iv.toNat, by have := hxo.iv; omega⟩
      have hn32 : n < 4294967296 := by have := hxo.iv; omega
      refine CW.skip (NQ.seq (CW.seq (CW.block (CW.seq (CW.region (ef := [4, 5]) (bk := [5]) (RL.move rfl rfl rfl rfl (RL.move rfl rfl rfl rfl ?_)))))))
      first | refine RL.idxAt (j := i) Tryz.runUnderlying38 Tryz.sizeOf47 rfl rfl rfl rfl rfl rfl (hlt) ?_ | refine RL.idx (j := i) Tryz.runUnderlying38 Tryz.sizeOf47 rfl rfl rfl rfl rfl rfl (hlt) ?_
      first | refine RL.loadM Tryz.isAgg47 Tryz.sizeOf47 rfl rfl rfl rfl (by assumption) ?_ | refine RL.loadA Tryz.isAgg47 Tryz.sizeOf47 rfl rfl rfl rfl (by first | assumption | (apply RdsI.rds; assumption)) (by first | rfl | assumption | (simp only [List.length_map]; assumption) | (simp only [List.length_map, List.length_replicate, hal]; done) | (simp; done)) ?_ | refine RL.loadW Tryz.isAgg47 Tryz.sizeOf47 rfl rfl rfl rfl (by (solve | (repeat (first | exact List.Mem.head _ | apply List.Mem.tail)))) (by first | rfl | assumption | (simp only [List.length_map]; assumption) | (simp only [List.length_map, List.length_replicate, hal]; done) | (simp; done)) ?_
      refine RL.alloc Tryz.zeroValue47 rfl rfl rfl rfl rfl ?_
      intro b2
      refine RL.storeW Tryz.sizeOf47 rfl rfl rfl rfl rfl rfl rfl (ones_act21 x) (by repeat (first | exact Upd.here | apply Upd.there)) hal rfl ?_
      refine RL.nil (NQ.seq (CW.seq (CW.seq (CW.freezeP (A := [_]) (B := [_, _, _, _]) (.take (.leave (.leave (.leave (.leave .nil))))) rfl ?_))))
      refine CW.genI (fun J2 hJ2 => ?_)
      have hJJ : ∀ y ∈ J1, y ∈ J2 := fun y hy => hJ2 y (by simp [hy])
      have mA : cel b2 x.cells 47 ∈ J2 := hJ2 _ (by simp)
      clear hJ2 w9
      have rA : RdsN J2 ⟨b2, 0, none⟩ 61 x.cells := ⟨fun _ => Rds.allI mA, hal⟩
      have rD : RdI J2 ⟨b2, 0 + 0, none⟩ (.int .i64 x.d) := ⟨fun _ => Rd.celI mA rfl⟩
      have rT : RdI J2 ⟨b2, 0 + 1, none⟩ (.int .i64 x.t) := ⟨fun _ => Rd.celI mA rfl⟩
      have rI : RdI J2 ⟨b2, 0 + 2, none⟩ (.int .u32 (n : Int)) := ⟨fun _ => Rd.celI mA (by rw [← hn]; rfl)⟩
      have rK2 : RdsN J2 ⟨kb, 0 + 0 * 32, none⟩ 32 (bytes k0) := ⟨fun _ => own_rdsI (hJJ _ mK1) hx0 (flatK_len (key21_all sd 13)), hk032⟩
      have mK2 := hJJ _ mK1
      have hj2 : ∀ y ∈ J, y ∈ J2 := fun y hy => hJJ _ (hj y hy)
      have hbc2 : ∀ y ∈ z.c, bodyO y.2 ∈ J2 := fun y hy => hJJ _ (hbc y hy)
      have mF2 := hJJ _ mF
      refine CW.region (ef := []) (bk := []) ?_
      first | refine RL.fieldAddr fa_47_0 rfl rfl rfl rfl ?_ | refine RL.fieldAddrG fa_47_0 rfl rfl rfl rfl ?_
      refine RL.loadq Tryz.isAgg3 rfl rfl rfl rfl ?_
      refine RL.callvq (among_any x.d 9 (by decide) (by decide)) Tryz.call15 rfl rfl rfl rfl ?_
      refine RL.bin rfl rfl rfl rfl rfl rfl (RL.nil (NQ.seq (CW.only (.cons (k := 2) rfl (.cons (k := 7) rfl (.cons (k := 8) rfl (.cons (k := 10) rfl (.cons (k := 11) rfl (.cons (k := 12) rfl (.cons (k := 52) rfl .nil))))))) ?_)))
      refine CW.cond rfl (fun h5 => ?_) (fun h5 => ?_)
      ·
        refine CW.seq (CW.regionD (Sq.of [0, 1, 2, 3, 4, 5, 6]) [5, 6] [5, 6] [0, 1, 2, 3, 4] mixed (by kernel_rfl) ?_)
        refine RL.move rfl rfl rfl rfl ?_
        first | refine RL.fieldAddr fa_47_1 rfl rfl rfl rfl ?_ | refine RL.fieldAddrG fa_47_1 rfl rfl rfl rfl ?_
        refine RL.loadTq Tryz.isAgg3 rfl rfl rfl rfl ?_
        refine RL.move rfl rfl rfl rfl ?_
        first | refine RL.loadMT Tryz.isAgg47 Tryz.sizeOf47 rfl rfl rfl rfl (by assumption) ?_ | refine RL.loadAT Tryz.isAgg47 Tryz.sizeOf47 rfl rfl rfl rfl (by first | assumption | (apply RdsI.rds; assumption)) (by first | rfl | assumption | (simp only [List.length_map]; assumption) | (simp only [List.length_map, List.length_replicate, hal]; done) | (simp; done)) ?_
        refine RL.call (tshown_any sd x hxo kb kc J2 mK2 mF2) Tryz.call17 rfl rfl rfl rfl rfl (by repeat (first | exact Pick.nil | apply Pick.take | apply Pick.leave)) (Lend.many (fun _ h => h)) (.inr rfl) ?_
        rintro _ _ _ ⟨sb, sc, rfl, hcap, rfl, rfl⟩
        have hso : (shF sd x).Ok := shN_ok hxo.x
        have hsb : (shF sd x).b.length ≤ 100000 := shF_b hxo
        generalize shF sd x = F at *
        refine RL.call (tmess_any B z hzo x.t F (sb.map fun b => ⟨b, 0, none⟩) sc F.b.length hso rfl hcap hsb) Tryz.call16 rfl rfl rfl rfl rfl (by repeat (first | exact Pick.nil | apply Pick.take | apply Pick.leave)) (.inH (by repeat (first | exact List.Mem.head _ | apply List.Mem.tail)) (Lend.own (by repeat (first | exact List.Mem.head _ | apply List.Mem.tail)) .nil)) (.inr rfl) ?_
        rintro _ I3 _ ⟨e, c', rfl, hM, rfl⟩
        obtain ⟨hv2, hb2⟩ := hM.inv hv hso hsb
        refine RL.nil (NQ.seq (CW.only (.cons (k := 2) rfl (.cons (k := 7) rfl (.cons (k := 8) rfl (.cons (k := 10) rfl (.cons (k := 11) rfl (.cons (k := 12) rfl .nil)))))) (CW.exit (XQ.seq (XQ.hit (NQ.seq (CW.region (ef := []) (bk := []) ?_)))))))
        refine RL.move rfl rfl rfl rfl (RL.binX rfl rfl rfl rfl rfl rfl (wrapV_i64 (by omega) (by omega)) ?_)
        refine RL.assign rfl rfl rfl rfl (RL.nil ?_)
        refine NQ.round (g := (⟨i, z, J1⟩ : CG)) (⟨i + 1, { z with c := c', m := bump e z.m }, I3 ++ J2⟩ : CG) ⟨hlt, by show i + 1 ≤ 40; omega, hv2, fun y hy => by simp [hj2 y hy], fun y hy => ?_, hkz, by show z.iv ≤ 512 * (i + 1); omega⟩ (by show L.length - (i + 1) < L.length - i; omega) (.cons rfl (.cons rfl (.cons rfl (.cons rfl (.cons rfl .nil))))) (fun w h => h.rea (fun _ h => by simpa using h) (by repeat (first | exact Rea.nil | (apply Rea.cons; (solve | (repeat (first | exact Del.here | apply Del.there)))))))
        rcases hb2 y hy with h | h
        · exact List.mem_append_right _ (hbc2 y h)
        · exact List.mem_append_left _ h
      ·
        have hkA := keyA_len sd hxo
        refine CW.skip (NQ.seq (CW.seq (CW.regionD (Sq.of [0, 1, 2, 3, 4, 5, 6, 7, 8, 9, 10, 11]) [6] [6] [0, 1, 2, 3, 4, 5, 7, 8, 9, 10, 11] mixed (by kernel_rfl) ?_)))
        refine RL.move rfl rfl rfl rfl ?_
        first | refine RL.fieldAddr fa_47_2 rfl rfl rfl rfl ?_ | refine RL.fieldAddrG fa_47_2 rfl rfl rfl rfl ?_
        refine RL.loadTq Tryz.isAgg24 rfl rfl rfl rfl ?_
        refine RL.move rfl rfl rfl rfl ?_
        first | refine RL.loadMT Tryz.isAgg47 Tryz.sizeOf47 rfl rfl rfl rfl (by assumption) ?_ | refine RL.loadAT Tryz.isAgg47 Tryz.sizeOf47 rfl rfl rfl rfl (by first | assumption | (apply RdsI.rds; assumption)) (by first | rfl | assumption | (simp only [List.length_map]; assumption) | (simp only [List.length_map, List.length_replicate, hal]; done) | (simp; done)) ?_
        refine RL.callvT (tkey_any sd x hxo kb kc J2 mK2) Tryz.call19 rfl rfl rfl rfl (Lend.many (fun _ h => h)) ?_
        refine RL.call (tdis_any B z hzo n hn32 (keyA sd x) hkA hv.gt J2 hbc2) Tryz.call18 rfl rfl rfl rfl rfl (by repeat (first | exact Pick.nil | apply Pick.take | apply Pick.leave)) (Lend.many (fun _ h => h)) (.inr rfl) ?_
        rintro _ _ _ ⟨e, T, z', ob, cp, hD, rfl, rfl, rfl⟩
        obtain ⟨hv2, hc2, -⟩ := hD.inv hv hn32 hkA
        obtain ⟨hm2, hk2, hl2, he2⟩ := dis_chain hD hkz hm
        have hzk := hv2.k
        have hzk32 : (bytes z'.k).length = 32 := by rw [List.length_map, hzk]
        generalize (relL (keyA sd x) n T) = R at *
        refine RL.move rfl rfl rfl rfl (RL.extract rfl rfl rfl rfl rfl (RL.extract rfl rfl rfl rfl rfl (RL.assign rfl rfl rfl rfl (RL.assign rfl rfl rfl rfl (RL.nil (NQ.seq (CW.only (.cons (k := 2) rfl (.cons (k := 7) rfl (.cons (k := 8) rfl (.cons (k := 10) rfl (.cons (k := 11) rfl (.cons (k := 14) rfl .nil)))))) ?_)))))))
        refine CW.seq (CW.region (ef := [5, 7]) (bk := [7]) (RL.move rfl rfl rfl rfl (RL.callv (tknown_any B z' hzk) Tryz.call20 rfl rfl rfl rfl (.inH (by repeat (first | exact List.Mem.head _ | apply List.Mem.tail)) .nil) ?_)))
        refine RL.move rfl rfl rfl rfl (RL.extract rfl rfl rfl rfl rfl (RL.extract rfl rfl rfl rfl rfl (RL.alloc (cs := List.replicate 32 (U8 0#8)) Tryz.zeroValue23 rfl rfl rfl rfl rfl ?_)))
        intro b3
        refine RL.assign rfl rfl rfl rfl (RL.storeW Tryz.sizeOf23 rfl rfl rfl rfl rfl rfl rfl (ones_map one8 _) (by repeat (first | exact Upd.here | apply Upd.there)) hzk32 rfl ?_)
        refine RL.nil (NQ.seq (CW.seq (CW.seq (CW.region (ef := []) (bk := []) (RL.move rfl rfl rfl rfl (RL.move rfl rfl rfl rfl (RL.bin rfl rfl rfl rfl rfl rfl ?_)))))))
        refine RL.move rfl rfl rfl rfl ?_
        apply RL.orB (d := 78) (dp := 85) (l' := (Sq.of [11, 12, 13, 14])) rfl (.cons (k := 2) rfl (.cons (k := 7) rfl (.cons (k := 8) rfl (.cons (k := 10) rfl (.cons (k := 11) rfl (.cons (k := 15) rfl (.cons (k := 16) rfl .nil)))))))
        ·
          intro hb4 K4
          refine RL.move rfl rfl rfl rfl (RL.bin rfl rfl rfl rfl rfl rfl (RL.move rfl rfl rfl rfl (RL.move rfl rfl rfl rfl (RL.bin rfl rfl rfl rfl rfl rfl (RL.cmp rfl rfl rfl rfl rfl (neq_bool Tryz.runUnderlying4 _ _) (RL.pickF rfl rfl rfl rfl rfl ?_))))))
          exact K4 _ (.cons rfl (.cons (k := 2) rfl (.cons (k := 7) rfl (.cons (k := 8) rfl (.cons (k := 10) rfl (.cons (k := 11) rfl (.cons (k := 15) rfl (.cons (k := 16) rfl .nil))))))))
        ·
          intro hb4 K4
          refine RL.skip rfl rfl rfl rfl (RL.skip rfl rfl rfl rfl (RL.skip rfl rfl rfl rfl (RL.skip rfl rfl rfl rfl (RL.skip rfl rfl rfl rfl (RL.skip rfl rfl rfl rfl (RL.pickT rfl rfl rfl rfl rfl ?_))))))
          exact K4 _ (.cons rfl (.cons (k := 2) rfl (.cons (k := 7) rfl (.cons (k := 8) rfl (.cons (k := 10) rfl (.cons (k := 11) rfl (.cons (k := 15) rfl (.cons (k := 16) rfl .nil))))))))
        refine RL.move rfl rfl rfl rfl ?_
        apply RL.orB (d := 86) (dp := 89) (l' := (Sq.of [])) rfl (.cons (k := 2) rfl (.cons (k := 7) rfl (.cons (k := 8) rfl (.cons (k := 10) rfl (.cons (k := 11) rfl (.cons (k := 15) rfl (.cons (k := 16) rfl .nil)))))))
        ·
          intro hb12 K12
          refine RL.move rfl rfl rfl rfl (RL.bin rfl rfl rfl rfl rfl rfl (RL.pickF rfl rfl rfl rfl rfl ?_))
          exact K12 _ (.cons rfl (.cons (k := 2) rfl (.cons (k := 7) rfl (.cons (k := 8) rfl (.cons (k := 10) rfl (.cons (k := 11) rfl (.cons (k := 15) rfl (.cons (k := 16) rfl .nil))))))))
        ·
          intro hb12 K12
          refine RL.skip rfl rfl rfl rfl (RL.skip rfl rfl rfl rfl (RL.pickT rfl rfl rfl rfl rfl ?_))
          exact K12 _ (.cons rfl (.cons (k := 2) rfl (.cons (k := 7) rfl (.cons (k := 8) rfl (.cons (k := 10) rfl (.cons (k := 11) rfl (.cons (k := 15) rfl (.cons (k := 16) rfl .nil))))))))
        refine RL.nil (NQ.seq ?_)
        have hbb : (decide ((z'.iv : Int) < (z.iv : Int)) || ((e == 0) != decide ((z.iv : Int) < (z'.iv : Int))) || decide ((20480 : Int) < (z'.iv : Int))) = false := by
          have h1 : (e == 0) = decide ((z.iv : Int) < (z'.iv : Int)) := by
            by_cases h : e = 0
            · have := he2.1 h
              rw [h, decide_eq_true (by omega)]; rfl
            · have : ¬ z.iv < z'.iv := fun hlt => h (he2.2 hlt)
              rw [decide_eq_false (by omega)]; simpa using h
          rw [h1, decide_eq_false (show ¬ (z'.iv : Int) < z.iv by omega), decide_eq_false (show ¬ (20480 : Int) < z'.iv by omega)]; simp
        refine CW.condF rfl (hbb) (CW.skip (NQ.seq (CW.seq (CW.seq (CW.region (ef := []) (bk := []) (RL.move rfl rfl rfl rfl (RL.bin rfl rfl rfl rfl rfl rfl ?_)))))))
        refine RL.nil (NQ.seq ?_)
        refine CW.cond rfl (fun h100 => ?_) (fun h100 => ?_)
        ·
          refine CW.seq (CW.region (ef := []) (bk := []) (RL.assign rfl rfl rfl rfl (RL.nil (NQ.seq (CW.ret (RQ.seq (RQ.block ?_)))))))
          refine RQ.seq (RQ.seq (RQ.block (RQ.seq ?_)))
          exact RQ.post (res1 rfl rfl) (Split.none _) ⟨rfl, rfl, rfl⟩
        ·
          have h100' : z'.iv ≤ 100 := by simp at h100; omega
          have hcv : Value.int .i64 (IntKind.i64.wrap (z'.iv : Int)) = .int .i64 (z'.iv : Int) := wrapV_i64 (by omega) (by omega)
          refine CW.skip (NQ.seq (CW.seq (CW.seq (CW.region (ef := [7, 8]) (bk := [8]) (RL.loadW Tryz.isAgg23 Tryz.sizeOf23 rfl rfl rfl rfl (by repeat (first | exact List.Mem.head _ | apply List.Mem.tail)) hzk32 ?_)))))
          refine RL.move rfl rfl rfl rfl (RL.conv Tryz.runUnderlying24 Tryz.runUnderlying3 rfl rfl rfl rfl (RL.cast (d := 95) rfl hcv ?_))
          refine RL.callvq (rwalk_ok z'.k hzk z'.iv (by omega)) Tryz.call21 rfl rfl rfl rfl ?_
          refine RL.move rfl rfl rfl rfl (RL.extract rfl rfl rfl rfl rfl (RL.extract rfl rfl rfl rfl rfl (RL.alloc (cs := List.replicate 32 (U8 0#8)) Tryz.zeroValue23 rfl rfl rfl rfl rfl ?_)))
          intro b4
          rw [hk2]
          refine RL.storeW Tryz.sizeOf23 rfl rfl rfl rfl rfl rfl rfl (ones_map one8 _) (by repeat (first | exact Upd.here | apply Upd.there)) hk032 rfl ?_
          refine RL.assign rfl rfl rfl rfl (RL.nil (NQ.seq (CW.only (.cons (k := 2) rfl (.cons (k := 7) rfl (.cons (k := 8) rfl (.cons (k := 10) rfl (.cons (k := 11) rfl (.cons (k := 15) rfl (.cons (k := 17) rfl (.cons (k := 18) rfl .nil)))))))) (CW.seq (CW.regionD (Sq.of [0, 1, 2, 3, 4, 5, 6, 7, 8]) [] [] [0, 1, 2, 4, 5, 6, 7, 8] mixed (by kernel_rfl) ?_)))))
          refine RL.move rfl rfl rfl rfl (RL.bin rfl rfl rfl rfl rfl rfl (RL.move rfl rfl rfl rfl ?_))
          apply RL.orB (d := 101) (dp := 107) (l' := (Sq.of [])) rfl (.cons (k := 2) rfl (.cons (k := 7) rfl (.cons (k := 8) rfl (.cons (k := 10) rfl (.cons (k := 11) rfl (.cons (k := 15) rfl .nil))))))
          ·
            intro hb3 K3
            refine RL.loadW Tryz.isAgg23 Tryz.sizeOf23 rfl rfl rfl rfl (by repeat (first | exact List.Mem.head _ | apply List.Mem.tail)) hk032 ?_
            refine RL.move rfl rfl rfl rfl (RL.idxAt (j := 0) Tryz.runUnderlying39 Tryz.sizeOf23 rfl rfl rfl rfl rfl (by omega) (by omega) ?_)
            first | refine RL.loadMT Tryz.isAgg23 Tryz.sizeOf23 rfl rfl rfl rfl (by assumption) ?_ | refine RL.loadAT Tryz.isAgg23 Tryz.sizeOf23 rfl rfl rfl rfl (by first | assumption | (apply RdsI.rds; assumption)) (by first | rfl | assumption | (simp only [List.length_map]; assumption) | (simp only [List.length_map, List.length_replicate, hal]; done) | (simp; done)) ?_
            refine RL.cmp rfl rfl rfl rfl rfl (key_ne _ _ hk0 hk0 _ _) (RL.pickF rfl rfl rfl rfl rfl ?_)
            exact K3 _ (.cons rfl (.cons (k := 2) rfl (.cons (k := 7) rfl (.cons (k := 8) rfl (.cons (k := 10) rfl (.cons (k := 11) rfl (.cons (k := 15) rfl .nil)))))))
          ·
            intro hb3 K3
            refine RL.skip rfl rfl rfl rfl (RL.skip rfl rfl rfl rfl (RL.skip rfl rfl rfl rfl (RL.skip rfl rfl rfl rfl (RL.skip rfl rfl rfl rfl (RL.pickT rfl rfl rfl rfl rfl ?_)))))
            exact K3 _ (.cons rfl (.cons (k := 2) rfl (.cons (k := 7) rfl (.cons (k := 8) rfl (.cons (k := 10) rfl (.cons (k := 11) rfl (.cons (k := 15) rfl .nil)))))))
          refine RL.nil (NQ.seq (CW.condF rfl (by simp) ?_))
          refine CW.skip (NQ.seq (CW.region (ef := []) (bk := []) (RL.move rfl rfl rfl rfl (RL.assign rfl rfl rfl rfl (RL.nil (NQ.block (NQ.seq ?_)))))))
          refine CW.region (ef := []) (bk := []) (RL.move rfl rfl rfl rfl (RL.binX rfl rfl rfl rfl rfl rfl (wrapV_i64 (by omega) (by omega)) ?_))
          refine RL.assign rfl rfl rfl rfl (RL.nil ?_)
          refine NQ.round (g := (⟨i, z, J1⟩ : CG)) (⟨i + 1, z', J2⟩ : CG) ⟨hlt, by show i + 1 ≤ 40; omega, hv2, hj2, fun y hy => hbc2 y (hc2 y hy), hk2, hm2⟩ (by show L.length - (i + 1) < L.length - i; omega) (.cons rfl (.cons rfl (.cons rfl (.cons rfl (.cons rfl .nil))))) (fun w h => h.rea (fun _ h => by simpa using h) (by repeat (first | exact Rea.nil | (apply Rea.cons; (solve | (repeat (first | exact Del.here | apply Del.there)))))))
    ·
      refine CW.exit (XQ.seq (XQ.seq (XQ.hit (NQ.seq (CW.only .nil (CW.seq (CW.region (ef := []) (bk := []) ?_)))))))
      refine RL.assign rfl rfl rfl rfl (RL.nil (NQ.seq (CW.ret ?_)))
      exact RQ.post (res1 rfl rfl) (Split.none _) ⟨rfl, rfl, rfl⟩
  ·
    refine CW.regionD (Sq.of [0, 1, 2, 3, 4, 5, 6, 7, 8, 9]) [4] [4] [0, 1, 2, 3, 5, 6, 7, 8, 9] mixed (by kernel_rfl) ?_
    first | refine RL.loadMT Tryz.isAgg37 Tryz.sizeOf37 rfl rfl rfl rfl (by assumption) ?_ | refine RL.loadAT Tryz.isAgg37 Tryz.sizeOf37 rfl rfl rfl rfl (by first | assumption | (apply RdsI.rds; assumption)) (by first | rfl | assumption | (simp only [List.length_map]; assumption) | (simp only [List.length_map, List.length_replicate, hal]; done) | (simp; done)) ?_
    refine RL.move rfl rfl rfl rfl (RL.idxAt (j := 0) Tryz.runUnderlying39 Tryz.sizeOf23 rfl rfl rfl rfl rfl (by omega) (by omega) ?_)
    first | refine RL.loadMT Tryz.isAgg23 Tryz.sizeOf23 rfl rfl rfl rfl (by assumption) ?_ | refine RL.loadAT Tryz.isAgg23 Tryz.sizeOf23 rfl rfl rfl rfl (by first | assumption | (apply RdsI.rds; assumption)) (by first | rfl | assumption | (simp only [List.length_map]; assumption) | (simp only [List.length_map, List.length_replicate, hal]; done) | (simp; done)) ?_
    refine RL.call (tnew_no s hs k0 hk0) Tryz.call14 rfl rfl rfl rfl rfl (by repeat (first | exact Pick.nil | apply Pick.take | apply Pick.leave)) .nil (.inr rfl) ?_
    rintro _ _ _ ⟨rfl, rfl, rfl⟩
    refine RL.move rfl rfl rfl rfl (RL.extract rfl rfl rfl rfl rfl (RL.extract rfl rfl rfl rfl rfl (RL.assign rfl rfl rfl rfl (RL.assign rfl rfl rfl rfl (RL.nil (NQ.seq (CW.only (.cons (k := 2) rfl (.cons (k := 7) rfl (.cons (k := 8) rfl (.cons (k := 9) rfl .nil)))) ?_)))))))
    refine CW.seq (CW.seq (CW.region (ef := []) (bk := []) (RL.move rfl rfl rfl rfl (RL.bin rfl rfl rfl rfl rfl rfl (RL.nil (NQ.seq (CW.condT rfl (rfl) ?_)))))))
    refine CW.seq (CW.region (ef := []) (bk := []) (RL.move rfl rfl rfl rfl (RL.cmp rfl rfl rfl rfl rfl (eql_ptr Tryz.runUnderlying41 _) (RL.assign rfl rfl rfl rfl (RL.nil (NQ.seq (CW.ret ?_)))))))
    refine RQ.seq ?_
    exact RQ.post (res1 rfl rfl) (Split.none _) ⟨rfl, rfl, rfl⟩
theorem teslaChain_call (W : World) (s : Sch) (sd : B8) (x : Sl Act21) (_ : rSch.ok s) (_ : rU8.ok sd) (hx : rActs21.ok x) (_ : ∀ y ∈ rSch.its s, y.A W) (_ : ∀ y ∈ rU8.its sd, y.A W) (tx : ∀ y ∈ rActs21.its x, y.A W) :
    Calls Tryz.prog 4 #[rSch.val s, rU8.val sd, rActs21.val x] W (fun e w' => e = .returned (.bool true) ∧ RowKit.Below W.heap.size W w') := by
  have ht : ∀ y ∈ (sls x.p 61 x.l.length (x.l.flatMap Act21.cells) :: x.l.flatMap Act21.its), y.A W := tx
  exact (tchain s sd x.p x.c x.l hx.2.2.2 hx.1).lawI ht
end Go.Proofs.YtbdnebedmdoehaaGreat
