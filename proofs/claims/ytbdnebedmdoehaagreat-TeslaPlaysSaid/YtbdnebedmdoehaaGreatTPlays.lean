import Derived.Test.YtbdnebedmdoehaaGreatDA
namespace Go.Proofs.YtbdnebedmdoehaaGreat
open Go.PK
theorem rtnew_yes (s : Sch) (hs : s.Ok) (k : List B8) (hk : k.length = 32) : Spc Tryz.prog 25 #[.agg #[.int .i64 s.st, .int .i64 s.ln, .int .i64 s.lg, .int .i64 s.of], .agg (bytes k).toArray] [] []
    (fun v I' H' => ∃ B : RRk, B.s = s ∧ v = .tuple #[.pointer (some ⟨B.b, 0, none⟩), .int .i64 0] ∧ I' = [] ∧ H' = RTR B (RBk.z0 k) none 0 none 0) :=
  spc_mono (rtnew_any s k hk) fun v I' H' ⟨h1, h2⟩ => by
    rcases h2 with ⟨_, B, h3, h4, h5⟩ | ⟨h3, _⟩
    · exact ⟨B, h3, h4, h1, h5⟩
    · exact absurd hs h3
theorem rtnew_no (s : Sch) (hs : ¬ s.Ok) (k : List B8) (hk : k.length = 32) : Spc Tryz.prog 25 #[.agg #[.int .i64 s.st, .int .i64 s.ln, .int .i64 s.lg, .int .i64 s.of], .agg (bytes k).toArray] [] [] (Is (.tuple #[.pointer none, .int .i64 2])) :=
  spc_mono (rtnew_any s k hk) fun v I' H' ⟨h1, h2⟩ => by
    rcases h2 with ⟨h3, _⟩ | ⟨_, h4, h5⟩
    · exact absurd h3 hs
    · exact ⟨h4, h1, h5⟩
structure QG where
  i : Nat
  z : RSt
  R : Bq
  tb : Option Nat
  tc : Nat
  ob : Option Nat
  cp : Nat
  J : List It
structure QG.ok (n : Nat) (J0 : List It) (g : QG) : Prop where
  i : g.i ≤ n
  b : g.i ≤ 40
  v : LInv g.i g.z
  a : PAl g.z.c g.R
  j : ∀ y ∈ J0, y ∈ g.J
  c : ∀ x ∈ g.z.c, bodyO x.2 ∈ g.J
  r : ∀ x ∈ g.R, bodyO x.2 ∈ g.J
theorem tplays (s : Sch) (sd : B8) (p : Option Addr) (nn : Nat) (L : List Act21) (hL : ∀ x ∈ L, x.Ok) (hc : L.length ≤ nn) : Spc Tryz.prog 6 #[.agg s.cells.toArray, U8 sd, .slice p L.length nn] (sls p 61 L.length (L.flatMap Act21.cells) :: L.flatMap Act21.its) [] (Is (.bool true)) := by
  generalize hJ : (sls p 61 L.length (L.flatMap Act21.cells) :: L.flatMap Act21.its) = J0
  have m1 : sls p 61 L.length (L.flatMap Act21.cells) ∈ J0 := by rw [← hJ]; exact List.Mem.head _
  have m3 : ∀ y ∈ L.flatMap Act21.its, y ∈ J0 := fun y hy => by rw [← hJ]; exact List.Mem.tail _ hy
  clear hJ
  have hk0 := nextN_len (base21_len sd) (12 - 0)
  have hx0 := key21_get sd (show 0 < 13 by decide)
  generalize hke : nextN (base21 sd) (12 - 0) = k0 at *
  have hk032 : (bytes k0).length = 32 := by rw [List.length_map, hk0]
  refine Spc.enter Tryz.func6 rfl rfl rfl (fun w0 hw0 => ?_)
  refine CW.seq (CW.region (ef := [0]) (bk := []) (RL.box rfl rfl rfl rfl rfl rfl ?_))
  intro b1
  refine RL.p rfl (RL.nil (NQ.seq (CW.seq (CW.region (ef := [1]) (bk := [1]) (RL.p rfl (RL.call (tkeys_any sd) Tryz.call13 rfl rfl rfl rfl rfl (by repeat (first | exact Pick.nil | apply Pick.take | apply Pick.leave)) .nil (.inr rfl) ?_))))))
  rintro _ _ _ ⟨kb, kc, rfl, rfl, rfl⟩
  refine RL.p rfl (RL.nil (NQ.seq (CW.seq (CW.freezeAll rfl ?_))))
  refine CW.genI (fun J hJ => ?_)
  have mK : own (some kb) kc 23 32 13 ((key21 sd 13).flatMap bytes) ∈ J := hJ _ (by simp)
  have mS : cel b1 s.cells 37 ∈ J := hJ _ (by simp)
  have mJ : ∀ y ∈ J0, y ∈ J := fun y hy => hJ y (by simp [hy])
  clear hJ
  have rS : RdsN J ⟨b1, 0, none⟩ 4 [.int .i64 s.st, .int .i64 s.ln, .int .i64 s.lg, .int .i64 s.of] := ⟨fun _ => Rds.allI mS, rfl⟩
  have rS0 : RdI J ⟨b1, 0 + 0, none⟩ (.int .i64 s.st) := ⟨fun _ => Rd.celI mS rfl⟩
  have rS1 : RdI J ⟨b1, 0 + 1, none⟩ (.int .i64 s.ln) := ⟨fun _ => Rd.celI mS rfl⟩
  have rS2 : RdI J ⟨b1, 0 + 2, none⟩ (.int .i64 s.lg) := ⟨fun _ => Rd.celI mS rfl⟩
  have rS3 : RdI J ⟨b1, 0 + 3, none⟩ (.int .i64 s.of) := ⟨fun _ => Rd.celI mS rfl⟩
  have rK : RdsN J ⟨kb, 0 + 0 * 32, none⟩ 32 (bytes k0) := ⟨fun _ => own_rdsI mK hx0 (flatK_len (key21_all sd 13)), hk032⟩
  by_cases hs : s.Ok
  ·
    refine CW.regionD (Sq.of [0, 1, 2, 3, 4, 5, 6, 7, 8, 9]) [4] [4] [0, 1, 2, 3, 5, 6, 7, 8, 9] mixed (by kernel_rfl) ?_
    refine RL.loadSTq Tryz.isAgg37 Tryz.sizeOf37 rfl rfl rfl rfl ?_
    refine RL.p rfl (RL.idxAt (j := 0) Tryz.runUnderlying39 Tryz.sizeOf23 rfl rfl rfl rfl rfl (by omega) (by omega) ?_)
    refine RL.loadSTq Tryz.isAgg23 Tryz.sizeOf23 rfl rfl rfl rfl ?_
    refine RL.call (tnew_yes s hs k0 hk0) Tryz.call14 rfl rfl rfl rfl rfl (by repeat (first | exact Pick.nil | apply Pick.take | apply Pick.leave)) .nil (.inr rfl) ?_
    rintro _ _ _ ⟨B, hBs, rfl, rfl, rfl⟩
    refine RL.p rfl (RL.p rfl (RL.p rfl (RL.p rfl (RL.p rfl (RL.nil (NQ.seq (CW.ok [2, 3, 7, 8, 9] rfl (CW.seq (CW.regionD (Sq.of [0, 1, 2, 3, 4, 5, 6, 7, 8, 9, 10, 11, 12, 13, 14, 15, 16, 17]) [12] [12] [0, 1, 2, 3, 4, 5, 6, 7, 8, 9, 10, 11, 13, 14, 15, 16, 17] mixed (by kernel_rfl) ?_)))))))))
    refine RL.fieldAddr fa_37_0 rfl rfl rfl rfl (RL.loadTq Tryz.isAgg3 rfl rfl rfl rfl ?_)
    refine RL.fieldAddr fa_37_1 rfl rfl rfl rfl (RL.loadTq Tryz.isAgg3 rfl rfl rfl rfl ?_)
    refine RL.fieldAddr fa_37_2 rfl rfl rfl rfl (RL.loadTq Tryz.isAgg3 rfl rfl rfl rfl ?_)
    refine RL.fieldAddr fa_37_3 rfl rfl rfl rfl (RL.loadTq Tryz.isAgg3 rfl rfl rfl rfl ?_)
    refine RL.buildS s.cells Tryz.zeroValue60 pl_60 rfl rfl rfl rfl rfl (RL.p rfl (RL.idxAt (j := 0) Tryz.runUnderlying39 Tryz.sizeOf23 rfl rfl rfl rfl rfl (by omega) (by omega) ?_))
    refine RL.loadSTq Tryz.isAgg23 Tryz.sizeOf23 rfl rfl rfl rfl ?_
    refine RL.call (rtnew_yes s hs k0 hk0) Tryz.call25 rfl rfl rfl rfl rfl (by repeat (first | exact Pick.nil | apply Pick.take | apply Pick.leave)) .nil (.inr rfl) ?_
    rintro _ _ _ ⟨D, hDs, rfl, rfl, rfl⟩
    have hDB : D.s = B.s := hDs.trans hBs.symm
    refine RL.p rfl (RL.p rfl (RL.p rfl (RL.p rfl (RL.p rfl (RL.nil (NQ.seq (CW.ok [2, 7, 8, 9, 10, 11] rfl (CW.seq (CW.seq (CW.rg (RL.p rfl (RL.p rfl (RL.p rfl ?_)))))))))))))
    refine RL.p rfl ?_
    apply RL.orB (d := 42) (dp := 48) (l' := (Sq.of [])) rfl (sK [2, 7, 8, 10] rfl)
    ·
      intro hb4 K4
      refine RL.p rfl (RL.cmp rfl rfl rfl rfl rfl (eql_ptr Tryz.runUnderlying41 _) (RL.p rfl (RL.cmp rfl rfl rfl rfl rfl (eql_ptr Tryz.runUnderlying73 _) (RL.cmp rfl rfl rfl rfl rfl (neq_bool Tryz.runUnderlying4 _ _) (RL.p rfl ?_)))))
      exact K4 _ (.cons rfl (sK [2, 7, 8, 10] rfl))
    ·
      intro hb4 K4
      refine RL.p rfl (RL.p rfl (RL.p rfl (RL.p rfl (RL.p rfl (RL.p rfl ?_)))))
      exact K4 _ (.cons rfl (sK [2, 7, 8, 10] rfl))
    refine RL.nil (NQ.seq (CW.condF rfl (rfl) (CW.skip (NQ.seq (CW.seq (CW.seq (CW.rg (RL.p rfl (RL.nil (NQ.seq (CW.block ?_)))))))))))
    refine CW.loop (γ := QG) (QG.ok L.length J) (fun g => [(2, .slice p L.length nn), (7, slO (some kb) 13 kc), (8, .pointer (some ⟨B.b, 0, none⟩)), (10, .pointer (some ⟨D.b, 0, none⟩)), (12, .int .i64 (g.i : Int))])
      (fun g => g.J) (fun g => DH B D g.z g.R g.tb g.tc g.ob g.cp) (fun g => L.length - g.i) ⟨0, RBk.z0 k0, [], none, 0, none, 0, J⟩ ⟨Nat.zero_le _, by show 0 ≤ 40; decide, LInv.zero hk0, PAl.zero, fun _ h => h, fun x hx => (by cases hx), fun x hx => (by cases hx)⟩
      (.cons rfl (.cons rfl (.cons rfl (.cons rfl (.cons rfl .nil))))) (fun w h => h.rea (fun _ h => by simpa using h) (by repeat (first | exact Rea.nil | (apply Rea.cons; (solve | (repeat (first | exact Del.here | apply Del.there))))))) ?_
    rintro ⟨i, z, R, tb, tc, ob, cp, J1⟩ ⟨hi, hb, hv, hA, hj, hbc, hbr⟩
    dsimp only at hi hb hv hA hj hbc hbr ⊢
    refine CW.fact (p := p = none → L.length = 0) (fun w hC e => sls_nil (hC.s.i _ (hj _ (mJ _ m1))) e) (fun hpa => ?_)
    refine CW.seq (CW.seq (CW.rg (RL.p rfl (RL.p rfl (RL.lenS Tryz.runUnderlying38 rfl rfl rfl rfl (RL.p rfl (RL.p rfl ?_)))))))
    apply RL.andB (d := 53) (dp := 56) (l' := (Sq.of [8, 9, 10, 11])) rfl (sK [2, 7, 8, 10, 12] rfl)
    ·
      intro hb5 K5
      refine RL.p rfl (RL.p rfl (RL.p rfl ?_))
      exact K5 _ (.cons rfl (sK [2, 7, 8, 10, 12] rfl))
    ·
      intro hb5 K5
      refine RL.p rfl (RL.p rfl (RL.p rfl ?_))
      exact K5 _ (.cons rfl (sK [2, 7, 8, 10, 12] rfl))
    refine RL.p rfl ?_
    apply RL.andB (d := 57) (dp := 60) (l' := (Sq.of [])) rfl (sK [2, 7, 8, 10, 12] rfl)
    ·
      intro hb9 K9
      refine RL.p rfl (RL.cmp rfl rfl rfl rfl rfl (neq_ptr Tryz.runUnderlying73 _) (RL.p rfl ?_))
      exact K9 _ (.cons rfl (sK [2, 7, 8, 10, 12] rfl))
    ·
      intro hb9 K9
      refine RL.p rfl (RL.p rfl (RL.p rfl ?_))
      exact K9 _ (.cons rfl (sK [2, 7, 8, 10, 12] rfl))
    refine RL.nil (NQ.seq ?_)
    refine CW.cond rfl (fun hlt => ?_) (fun hlt => ?_)
    ·
      obtain ⟨hlt, hlt40⟩ : i < L.length ∧ i < 40 := by simp at hlt; omega
      cases p with
      | none => exact absurd (hpa rfl) (by omega)
      | some ad =>
      have hxa := List.getElem?_eq_getElem hlt
      generalize L[i] = x at hxa
      have hma := List.mem_of_getElem? hxa
      have hxo := hL x hma
      have hal := act21_len hxo
      have mF : sls x.x.p 1 x.x.f.b.length (bytes x.x.f.b) ∈ J1 := hj _ (mJ _ (its21 m3 hma))
      have mK1 := hj _ mK
      have w9 : RdsN J1 (ad.add (i * 61)) 61 x.cells := act21_rdsN hL (hj _ (mJ _ m1)) hxa
      refine CW.skip (NQ.seq (CW.seq (CW.block (CW.seq (CW.region (ef := [7, 12]) (bk := [7, 12]) (RL.p rfl (RL.p rfl (RL.p rfl (RL.p rfl (RL.p rfl ?_))))))))))
      first | refine RL.idxAt (j := i) Tryz.runUnderlying38 Tryz.sizeOf47 rfl rfl rfl rfl rfl rfl (hlt) ?_ | refine RL.idx (j := i) Tryz.runUnderlying38 Tryz.sizeOf47 rfl rfl rfl rfl rfl rfl (hlt) ?_
      refine RL.loadSq Tryz.isAgg47 Tryz.sizeOf47 rfl rfl rfl rfl ?_
      refine RL.call (do_ok B D hDB sd x hxo i hb z R tb tc ob cp hv hA kb kc J1 mK1 mF hbc hbr) Tryz.call26 rfl rfl rfl rfl rfl (by repeat (first | exact Pick.nil | apply Pick.take | apply Pick.leave)) (Lend.many (fun _ h => h)) (.inr rfl) ?_
      rintro _ I3 _ ⟨z2, R2, tb2, tc2, ob2, cp2, rfl, hv2, hA2, hbc2, hbr2, rfl⟩
      refine RL.p rfl (RL.p rfl (RL.cast (d := 72) (v' := .bool false) rfl (rfl) ?_))
      refine RL.p rfl (RL.p rfl (RL.call (alike_ok B D z2 R2 tb2 tc2 ob2 cp2 (hv2.ok (by omega)) hA2 hv2.nd (by have := hv2.ml; omega)) Tryz.call27 rfl rfl rfl rfl rfl (by repeat (first | exact Pick.nil | apply Pick.take | apply Pick.leave)) .nil (.inr rfl) ?_))
      rintro _ _ _ ⟨rfl, rfl, rfl⟩
      refine RL.p rfl (RL.p rfl (RL.nil (NQ.seq (CW.ok [2, 7, 8, 10, 12, 77] rfl (CW.condF rfl (rfl) (CW.skip (NQ.block (NQ.seq (CW.rg (RL.p rfl (RL.bx rfl (wrapV_i64 (by omega) (by omega)) ?_)))))))))))
      refine RL.p rfl (RL.nil ?_)
      refine NQ.round (g := (⟨i, z, R, tb, tc, ob, cp, J1⟩ : QG)) (⟨i + 1, z2, R2, tb2, tc2, ob2, cp2, I3 ++ J1⟩ : QG) ⟨hlt, by show i + 1 ≤ 40; omega, hv2, hA2, fun y hy => by simp [hj y hy], hbc2, hbr2⟩ (by show L.length - (i + 1) < L.length - i; omega) (.cons rfl (.cons rfl (.cons rfl (.cons rfl (.cons rfl .nil))))) (fun w h => h.rea (fun _ h => by simpa using h) (by repeat (first | exact Rea.nil | (apply Rea.cons; (solve | (repeat (first | exact Del.here | apply Del.there)))))))
    ·
      refine CW.exit (XQ.seq (XQ.seq (XQ.hit (NQ.seq (CW.ok [] rfl (CW.seq (CW.rg (RL.callvq (works21) Tryz.call12 rfl rfl rfl rfl ?_))))))))
      refine RL.p rfl (RL.nil (NQ.seq (CW.ret ?_)))
      exact RQ.post (res1 rfl rfl) (Split.none _) ⟨rfl, rfl, rfl⟩
  ·
    refine CW.regionD (Sq.of [0, 1, 2, 3, 4, 5, 6, 7, 8, 9]) [4] [4] [1, 2, 5, 6, 7, 8, 9] mixed (by kernel_rfl) ?_
    refine RL.loadSq Tryz.isAgg37 Tryz.sizeOf37 rfl rfl rfl rfl ?_
    refine RL.p rfl (RL.idxAt (j := 0) Tryz.runUnderlying39 Tryz.sizeOf23 rfl rfl rfl rfl rfl (by omega) (by omega) ?_)
    refine RL.loadSq Tryz.isAgg23 Tryz.sizeOf23 rfl rfl rfl rfl ?_
    refine RL.call (tnew_no s hs k0 hk0) Tryz.call14 rfl rfl rfl rfl rfl (by repeat (first | exact Pick.nil | apply Pick.take | apply Pick.leave)) .nil (.inr rfl) ?_
    rintro _ _ _ ⟨rfl, rfl, rfl⟩
    refine RL.p rfl (RL.p rfl (RL.p rfl (RL.p rfl (RL.p rfl (RL.nil (NQ.seq (CW.ok [2, 3, 7, 8, 9] rfl (CW.seq (CW.regionD (Sq.of [0, 1, 2, 3, 4, 5, 6, 7, 8, 9, 10, 11, 12, 13, 14, 15, 16, 17]) [12] [12] [0, 2, 4, 6, 8, 9, 10, 13, 14, 15, 16, 17] mixed (by kernel_rfl) ?_)))))))))
    first | refine RL.fieldAddr fa_37_0 rfl rfl rfl rfl ?_ | refine RL.fieldAddrG fa_37_0 rfl rfl rfl rfl ?_
    refine RL.loadq Tryz.isAgg3 rfl rfl rfl rfl ?_
    first | refine RL.fieldAddr fa_37_1 rfl rfl rfl rfl ?_ | refine RL.fieldAddrG fa_37_1 rfl rfl rfl rfl ?_
    refine RL.loadq Tryz.isAgg3 rfl rfl rfl rfl ?_
    first | refine RL.fieldAddr fa_37_2 rfl rfl rfl rfl ?_ | refine RL.fieldAddrG fa_37_2 rfl rfl rfl rfl ?_
    refine RL.loadq Tryz.isAgg3 rfl rfl rfl rfl ?_
    first | refine RL.fieldAddr fa_37_3 rfl rfl rfl rfl ?_ | refine RL.fieldAddrG fa_37_3 rfl rfl rfl rfl ?_
    refine RL.loadq Tryz.isAgg3 rfl rfl rfl rfl ?_
    refine RL.buildS s.cells Tryz.zeroValue60 pl_60 rfl rfl rfl rfl rfl (RL.p rfl (RL.idxAt (j := 0) Tryz.runUnderlying39 Tryz.sizeOf23 rfl rfl rfl rfl rfl (by omega) (by omega) ?_))
    refine RL.loadSq Tryz.isAgg23 Tryz.sizeOf23 rfl rfl rfl rfl ?_
    refine RL.call (rtnew_no s hs k0 hk0) Tryz.call25 rfl rfl rfl rfl rfl (by repeat (first | exact Pick.nil | apply Pick.take | apply Pick.leave)) .nil (.inr rfl) ?_
    rintro _ _ _ ⟨rfl, rfl, rfl⟩
    refine RL.p rfl (RL.p rfl (RL.p rfl (RL.p rfl (RL.p rfl (RL.nil (NQ.seq (CW.ok [2, 7, 8, 9, 10, 11] rfl (CW.seq (CW.seq (CW.rg (RL.p rfl (RL.p rfl (RL.p rfl ?_)))))))))))))
    refine RL.p rfl ?_
    apply RL.orB (d := 42) (dp := 48) (l' := (Sq.of [])) rfl (sK [2, 7, 8, 10] rfl)
    ·
      intro hb4 K4
      refine RL.p rfl (RL.cmp rfl rfl rfl rfl rfl (eql_ptr Tryz.runUnderlying41 _) (RL.p rfl (RL.cmp rfl rfl rfl rfl rfl (eql_ptr Tryz.runUnderlying73 _) (RL.cmp rfl rfl rfl rfl rfl (neq_bool Tryz.runUnderlying4 _ _) (RL.p rfl ?_)))))
      exact K4 _ (.cons rfl (sK [2, 7, 8, 10] rfl))
    ·
      intro hb4 K4
      refine RL.p rfl (RL.p rfl (RL.p rfl (RL.p rfl (RL.p rfl (RL.p rfl ?_)))))
      exact K4 _ (.cons rfl (sK [2, 7, 8, 10] rfl))
    refine RL.nil (NQ.seq (CW.condF rfl (rfl) (CW.skip (NQ.seq (CW.seq (CW.seq (CW.rg (RL.p rfl (RL.nil (NQ.seq (CW.block (CW.loop (γ := Unit) (fun _ => True) (fun _ => [(2, .slice p L.length nn), (10, .pointer none), (12, .int .i64 0)]) (fun _ => J) (fun _ => []) (fun _ => 0) () trivial (.cons rfl (.cons rfl (.cons rfl .nil))) (fun w h => h.rea (fun _ h => by simpa using h) (by repeat (first | exact Rea.nil | (apply Rea.cons; (solve | (repeat (first | exact Del.here | apply Del.there))))))) ?_))))))))))))
    rintro ⟨⟩ -
    refine CW.seq (CW.seq (CW.rg (RL.p rfl (RL.p rfl (RL.lenS Tryz.runUnderlying38 rfl rfl rfl rfl (RL.p rfl (RL.p rfl ?_)))))))
    apply RL.andB (d := 53) (dp := 56) (l' := (Sq.of [8, 9, 10, 11])) rfl (sK [2, 10, 12] rfl)
    ·
      intro hb5 K5
      refine RL.p rfl (RL.p rfl (RL.p rfl ?_))
      exact K5 _ (.cons rfl (sK [2, 10, 12] rfl))
    ·
      intro hb5 K5
      refine RL.p rfl (RL.p rfl (RL.p rfl ?_))
      exact K5 _ (.cons rfl (sK [2, 10, 12] rfl))
    refine RL.p rfl ?_
    apply RL.andB (d := 57) (dp := 60) (l' := (Sq.of [])) rfl (sK [2, 10, 12] rfl)
    ·
      intro hb9 K9
      refine RL.p rfl (RL.cmp rfl rfl rfl rfl rfl (neq_ptr Tryz.runUnderlying73 _) (RL.p rfl ?_))
      exact K9 _ (.cons rfl (sK [2, 10, 12] rfl))
    ·
      intro hb9 K9
      refine RL.p rfl (RL.p rfl (RL.p rfl ?_))
      exact K9 _ (.cons rfl (sK [2, 10, 12] rfl))
    refine RL.nil (NQ.seq (CW.condF rfl (by simp) ?_))
    refine CW.exit (XQ.seq (XQ.seq (XQ.hit (NQ.seq (CW.seq (CW.rg (RL.callvq (works21) Tryz.call12 rfl rfl rfl rfl ?_)))))))
    refine RL.p rfl (RL.nil (NQ.seq (CW.ret ?_)))
    exact RQ.post (res1 rfl rfl) (Split.none _) ⟨rfl, rfl, rfl⟩
theorem teslaPlays_call (W : World) (s : Sch) (sd : B8) (x : Sl Act21) (_ : rSch.ok s) (_ : rU8.ok sd) (hx : rActs21.ok x) (_ : ∀ y ∈ rSch.its s, y.A W) (_ : ∀ y ∈ rU8.its sd, y.A W) (tx : ∀ y ∈ rActs21.its x, y.A W) :
    Calls Tryz.prog 6 #[rSch.val s, rU8.val sd, rActs21.val x] W (fun e w' => e = .returned (.bool true) ∧ RowKit.Below W.heap.size W w') := by
  have ht : ∀ y ∈ (sls x.p 61 x.l.length (x.l.flatMap Act21.cells) :: x.l.flatMap Act21.its), y.A W := tx
  exact (tplays s sd x.p x.c x.l hx.2.2.2 hx.1).lawI ht
end Go.Proofs.YtbdnebedmdoehaaGreat
