import Derived.Test.YtbdnebedmdoehaaGreatSE
import Derived.Test.YtbdnebedmdoehaaGreatP9
import Derived.Test.YtbdnebedmdoehaaGreatLA
namespace Go.Proofs.YtbdnebedmdoehaaGreat
open Go.PK
/-! ### Both receivers alike -/
theorem cnt_mem {m : Tm} {i : Nat} {e n : Int} (hd : (m.map (·.1)).Nodup) (h : m[i]? = some (e, n)) : cnt e m = n := by
  refine (cnt_at h fun j hj x hx he => ?_).1
  have h1 : (m.map (·.1))[j]? = some e := by rw [List.getElem?_map, hx, ← he]; rfl
  have h2 : (m.map (·.1))[i]? = some e := by rw [List.getElem?_map, h]; rfl
  have hjl := (List.getElem?_eq_some_iff.1 h1).1
  have := (List.getElem?_inj hjl hd).1 (h1.trans h2.symm)
  omega
def okA (k : List B8) (iv : Nat) (x : Pq × Fr) : Bool := x.2.tag == macTag (tagK (nextN k (iv - x.1.1.toNat)) x.1.1.toNat) x.2.signed
theorem relL_ab (k : List B8) (iv : Nat) (T : Bq) : (relL k iv T).map (·.f) = ((T.map ab).filter (okA k iv)).map (·.2) := by
  rw [relL, List.filter_map, List.map_map, List.map_map]
  rfl
theorem relL_same {k : List B8} {iv : Nat} {T S : Bq} (h : T.map ab = S.map ab) : (relL k iv T).map (·.f) = (relL k iv S).map (·.f) := by
  rw [relL_ab, relL_ab, h]
theorem rok {z : RSt} (h : z.Ok) {R : Bq} (hA : PAl z.c R) : RSt.Ok { z with c := R } := ⟨h.iv, h.k, h.bad, h.rel, hA.ro, hA.l, h.m⟩
theorem mess_same {s : Sch} {iv : Nat} {t : Int} {c R : Bq} {f : Fr} {e e2 : Int} {c' R' : Bq} {I1 I2 : List It} (hA : PAl c R) (h1 : MessO s iv t c f e c' I1) (h2 : RMessO s iv t R f e2 R' I2) (hf : f.Ok) (hb : f.b.length ≤ 100000) : e = e2 ∧ PAl c' R' := by
  cases h1 with
  | no ht =>
    cases h2 with
    | tick => exact ⟨rfl, hA⟩
    | no ht' => rw [ht] at ht'; cases ht'
    | put ht' => rw [ht] at ht'; cases ht'
  | go ht hm =>
    cases h2 with
    | tick ht' => rw [ht] at ht'; cases ht'
    | no _ h h0 =>
      cases hm with
      | no h' => exact ⟨by rw [← h, ← h'], hA⟩
      | put h' => exact absurd (h.symm.trans h') h0
    | put _ h hp =>
      cases hm with
      | no h' h0 => exact absurd (h'.symm.trans h) h0
      | put h' hp' => exact hA.put hp' hp hf hb
theorem dis_same {z : RSt} {R : Bq} {iv : Nat} {key : List B8} {e e2 : Int} {T T2 : Bq} {z1 z2 : RSt} (hA : PAl z.c R) (h1 : DisO z iv key e T z1) (h2 : RDisO { z with c := R } iv key e2 T2 z2) : e = e2 ∧ (relL key iv T).map (·.f) = (relL key iv T2).map (·.f) ∧ z2 = { z1 with c := z2.c } ∧ PAl z1.c z2.c := by
  cases h1 with
  | no h h0 =>
    cases h2 with
    | no h' => exact ⟨(h.symm.trans h'), rfl, by rw [show e = e2 from h.symm.trans h'], hA⟩
    | yes h' => exact absurd (h.symm.trans h') h0
  | yes h hT =>
    rename_i c'
    cases h2 with
    | no h' h0 => exact absurd (h'.symm.trans h) h0
    | yes h' =>
      obtain ⟨hp, hab⟩ := hA.take hT
      have hr := relL_same (k := key) (iv := iv) hab
      have hl1 : T.length = (rOut iv R).length := by simpa using congrArg List.length hab
      have hl2 : (relL key iv T).length = (relL key iv (rOut iv R)).length := by simpa using congrArg List.length hr
      exact ⟨rfl, hr, by rw [afterD, afterD, hl1, hl2], hp⟩
theorem raise_same {z : RSt} {R : Bq} {iv : Nat} {key : List B8} {e e2 : Int} {z1 z2 : RSt} (hA : PAl z.c R) (h1 : RaiseO z iv key e z1) (h2 : RRaiseO { z with c := R } iv key e2 z2) : e = e2 ∧ z2 = { z1 with c := z2.c } ∧ PAl z1.c z2.c := by
  cases h1 with
  | no h =>
    cases h2 with
    | no => exact ⟨rfl, rfl, hA⟩
    | yes h' => exact absurd h h'
  | yes h hT =>
    cases h2 with
    | no h' => exact absurd h' h
    | yes h' =>
      obtain ⟨hp, hab⟩ := hA.take hT
      have hl1 := congrArg List.length hab
      rw [List.length_map, List.length_map] at hl1
      exact ⟨rfl, by rw [hl1], hp⟩
end Go.Proofs.YtbdnebedmdoehaaGreat

namespace Go.Proofs.YtbdnebedmdoehaaGreat
open Go.PK
theorem rdQ0 {I H : List It} {b o : Nat} {p : Pq} (h : Rds I H ⟨b, o, none⟩ (plcq p)) : Rd I H ⟨b, o + 0, none⟩ (.int .u32 p.1) := by
  have := h.rd (j := 0) (v := .int .u32 p.1) rfl
  rwa [add_none] at this
theorem rdQ1 {I H : List It} {b o : Nat} {p : Pq} (h : Rds I H ⟨b, o, none⟩ (plcq p)) : Rd I H ⟨b, o + 1, none⟩ (.int .u8 p.2) := by
  have := h.rd (j := 1) (v := .int .u8 p.2) rfl
  rwa [add_none] at this
theorem Rds.it1 {I H : List It} {b o : Nat} {x : Pq × FrO} (h : Rds I H ⟨b, o, none⟩ (itc x)) : Rd I H ⟨b, o + 0 + 1, none⟩ (.int .u8 x.1.2) := by
  have := h.rd (j := 1) (v := .int .u8 x.1.2) rfl
  rwa [add_none] at this
theorem fro_fm_len {X : List FrO} (h : ∀ x ∈ X, x.Ok) : ∀ x ∈ X, x.cells.length = 21 := fun x hx => fro_len (h x hx)
theorem list_ok (oa ob : Option Nat) (ca cb : Nat) (X Y : List FrO) (I : List It) (hXY : X.map (·.f) = Y.map (·.f)) (h1 : own oa ca 30 21 X.length (X.flatMap FrO.cells) ∈ I) (h2 : own ob cb 30 21 Y.length (Y.flatMap FrO.cells) ∈ I) (h3 : ∀ x ∈ X, bodyO x ∈ I) (h4 : ∀ x ∈ Y, bodyO x ∈ I) (hX : ∀ x ∈ X, x.Ok) (hY : ∀ x ∈ Y, x.Ok) (hl : Y.length ≤ 100000) :
    Spc Tryz.prog 56 #[slO oa X.length ca, slO ob Y.length cb] I [] (Is (.bool true)) := by
  have hlen : X.length = Y.length := by simpa using congrArg List.length hXY
  refine Spc.fact (p := (oa = none → X.length = 0) ∧ (ob = none → Y.length = 0)) (fun w hw => ⟨fun e => by subst e; exact own_none (hw.i _ h1), fun e => by subst e; exact own_none (hw.i _ h2)⟩) (fun hn => ?_)
  refine Spc.enter Tryz.func56 rfl rfl rfl (fun w0 hw0 => ?_)
  refine CW.seq (CW.rg (RL.p rfl (RL.nil (NQ.seq (CW.seq (CW.seq (CW.rg (RL.p rfl (RL.lenS Tryz.runUnderlying51 rfl rfl rfl rfl (RL.p rfl (RL.lenS Tryz.runUnderlying51 rfl rfl rfl rfl (RL.p rfl (RL.nil ?_)))))))))))))
  refine NQ.seq (CW.condF rfl (by simp [hlen]) ?_)
  refine CW.skip (NQ.seq (CW.ok [0, 1] rfl (CW.seq (CW.seq (CW.rg (RL.p rfl (RL.nil (NQ.seq (CW.block (CW.loop (γ := Nat) (fun k => k ≤ X.length) (fun k => [(0, slO oa X.length ca), (1, slO ob Y.length cb), (5, .int .i64 (k : Int))]) (fun _ => I) (fun _ => []) (fun k => X.length - k) 0 (by omega) (.cons rfl (.cons rfl (.cons rfl .nil))) (fun w h => h) ?_))))))))))
  intro k hk
  refine CW.seq (CW.seq (CW.rg (RL.p rfl (RL.p rfl (RL.lenS Tryz.runUnderlying51 rfl rfl rfl rfl (RL.p rfl (RL.nil (NQ.seq ?_))))))))
  refine CW.cond rfl (fun hlk => ?_) (fun hlk => ?_)
  ·
    have hlk : k < X.length := by simp at hlk; omega
    obtain ⟨qa, rfl⟩ : ∃ q, oa = some q := by
      cases oa with
      | none => exact absurd (hn.1 rfl) (by omega)
      | some q => exact ⟨q, rfl⟩
    obtain ⟨qb, rfl⟩ : ∃ q, ob = some q := by
      cases ob with
      | none => exact absurd (hn.2 rfl) (by omega)
      | some q => exact ⟨q, rfl⟩
    have hx := List.getElem?_eq_getElem hlk
    have hz := List.getElem?_eq_getElem (show k < Y.length by omega)
    generalize X[k] = x at hx
    generalize Y[k]'(show k < Y.length by omega) = z at hz
    have hf : x.f = z.f := by
      have e1 : (X.map (·.f))[k]? = some x.f := by rw [List.getElem?_map, hx]; rfl
      have e2 : (Y.map (·.f))[k]? = some z.f := by rw [List.getElem?_map, hz]; rfl
      rw [hXY] at e1; rw [e1] at e2; exact Option.some.inj e2
    have mx := List.mem_of_getElem? hx
    have mz := List.mem_of_getElem? hz
    have rx : RdsN I ⟨qa, 0 + k * 21, none⟩ 21 x.cells := ⟨fun H' => own_rdsI h1 hx (fro_fm_len hX), fro_len (hX x mx)⟩
    have rz : RdsN I ⟨qb, 0 + k * 21, none⟩ 21 z.cells := ⟨fun H' => own_rdsI h2 hz (fro_fm_len hY), fro_len (hY z mz)⟩
    refine CW.skip (NQ.seq (CW.seq (CW.block (CW.seq (CW.regionD (Sq.of [0, 1, 2, 3, 4, 5, 6, 7, 8, 9]) [] [] [0, 1, 2, 4, 5, 6, 9] mixed (by kernel_rfl) ?_)))))
    refine RL.p rfl (RL.p rfl (RL.idxAt (j := k) Tryz.runUnderlying51 Tryz.sizeOf30 rfl rfl rfl rfl rfl rfl ((by omega)) ?_))
    refine RL.loadSq Tryz.isAgg30 Tryz.sizeOf30 rfl rfl rfl rfl ?_
    refine RL.p rfl (RL.p rfl (RL.idxAt (j := k) Tryz.runUnderlying51 Tryz.sizeOf30 rfl rfl rfl rfl rfl rfl ((by omega)) ?_))
    refine RL.loadSq Tryz.isAgg30 Tryz.sizeOf30 rfl rfl rfl rfl ?_
    refine RL.callv (frsame_o hf (hY z mz).f) Tryz.call9 rfl rfl rfl rfl (Lend.ownI (h3 x mx) (Lend.ownI (h4 z mz) .nil)) (RL.p rfl (RL.nil (NQ.seq (CW.ok [0, 1, 5, 26] rfl (CW.condF rfl (rfl) (CW.skip (NQ.block (NQ.seq (CW.rg (RL.p rfl (RL.bx rfl (wrapV_i64 (by omega) (by omega)) ?_)))))))))))
    refine RL.p rfl (RL.nil ?_)
    refine NQ.round (g := k) (k + 1) hlk (by omega) (.cons rfl (.cons rfl (.cons rfl .nil))) (fun w h => h)
  ·
    refine CW.exit (XQ.seq (XQ.seq (XQ.hit (NQ.seq (CW.ok [] rfl (CW.seq (CW.rg (RL.p rfl (RL.nil (NQ.seq (CW.ret ?_)))))))))))
    exact RQ.post (res1 rfl rfl) (Split.none _) ⟨rfl, rfl, rfl⟩
abbrev DH (B : RBk) (D : RRk) (z : RSt) (R : Bq) (tb : Option Nat) (tc : Nat) (ob : Option Nat) (cp : Nat) : List It := [recI B z, tmI B z, bufI B.q B.r, mapQ B.r z.c, rrI D { z with c := R } tb tc, rtI tb tc z.m, rbufI D.y ob R.length cp, itmI ob cp R.length R]
theorem alike_ok (B : RBk) (D : RRk) (z : RSt) (R : Bq) (tb : Option Nat) (tc : Nat) (ob : Option Nat) (cp : Nat) (hz : z.Ok) (hA : PAl z.c R) (hnd : (z.m.map (·.1)).Nodup) (hml : z.m.length ≤ 1000000) :
    Spc Tryz.prog 27 #[.pointer (some ⟨B.b, 0, none⟩), .pointer (some ⟨D.b, 0, none⟩)] [] (DH B D z R tb tc ob cp) (fun v I' H' => v = .bool true ∧ I' = [] ∧ H' = DH B D z R tb tc ob cp) := by
  have hk := hz.k
  have hk32 : (bytes z.k).length = 32 := by rw [List.length_map, hk]
  have hcl := hA.len
  have hzl := hz.l
  refine Spc.enter Tryz.func27 rfl rfl rfl (fun w0 hw0 => ?_)
  refine CW.seq (CW.rg (RL.p rfl (RL.nil (NQ.seq (CW.seq (CW.region (ef := [5, 7]) (bk := [7]) (RL.p rfl (RL.callv (tknown_any B z hk) Tryz.call20 rfl rfl rfl rfl (.inH (by repeat (first | exact List.Mem.head _ | apply List.Mem.tail)) .nil) ?_))))))))
  refine RL.p rfl (RL.p rfl (RL.p rfl (RL.alloc (cs := List.replicate 32 (U8 0#8)) Tryz.zeroValue23 rfl rfl rfl rfl rfl ?_)))
  intro b1
  refine RL.p rfl (RL.storeW Tryz.sizeOf23 rfl rfl rfl rfl rfl rfl rfl (ones_map one8 _) (by repeat (first | exact Upd.here | apply Upd.there)) hk32 rfl ?_)
  refine RL.nil (NQ.seq (CW.ok [0, 1, 5, 6] rfl (CW.seq (CW.region (ef := [1]) (bk := [1]) (RL.p rfl (RL.call (twaits_any B z hz) Tryz.call28 rfl rfl rfl rfl rfl (by repeat (first | exact Pick.nil | apply Pick.take | apply Pick.leave)) (.inH (by repeat (first | exact List.Mem.head _ | apply List.Mem.tail)) .nil) (.inr rfl) ?_))))))
  rintro _ _ _ ⟨po, pc, rfl, rfl, rfl⟩
  refine RL.p rfl (RL.nil (NQ.seq (CW.seq (CW.seq ?_))))
  rw [hA.pls]
  refine CW.regionD (Sq.of [0, 1, 2, 3, 4, 5, 6, 7, 8, 9, 10, 11, 12, 13, 14, 15, 16, 17, 18, 19, 20, 21, 22, 23, 24, 25, 26, 27, 28, 29, 30, 31, 32, 33, 34, 35, 36, 37, 38, 39, 40, 41, 42, 43, 44]) [] [] [0, 1, 2, 3, 5, 6, 8, 9, 10, 12, 13, 14, 15, 17, 18, 19, 21, 22, 23, 24, 26, 27, 28, 30, 31, 32, 33, 34, 35, 36, 37, 39, 40, 42, 43, 44] mixed (by kernel_rfl) ?_
  refine RL.p rfl (RL.p rfl (RL.p rfl (RL.fieldAddr fa_114_1 rfl rfl rfl rfl (RL.load Tryz.isAgg24 rfl rfl rfl rfl (Rd.get (by repeat (first | exact List.Mem.head _ | apply List.Mem.tail)) (rr_iv D { z with c := R } tb tc)) ?_))))
  refine RL.p rfl (RL.p rfl ?_)
  apply RL.orB (d := 23) (dp := 30) (l' := (Sq.of [14, 15, 16, 17, 18, 19, 20, 21, 22, 23, 24, 25, 26, 27, 28, 29, 30, 31, 32, 33, 34, 35, 36, 37, 38, 39, 40, 41, 42, 43, 44])) rfl (sK [0, 1, 7] rfl)
  ·
    intro hb7 K7
    refine RL.loadW Tryz.isAgg23 Tryz.sizeOf23 rfl rfl rfl rfl (by repeat (first | exact List.Mem.head _ | apply List.Mem.tail)) hk32 ?_
    refine RL.p rfl (RL.p rfl (RL.fieldAddr fa_114_2 rfl rfl rfl rfl (RL.loadA Tryz.isAgg23 Tryz.sizeOf23 rfl rfl rfl rfl (vs := bytes z.k) (Rds.cel (by repeat (first | exact List.Mem.head _ | apply List.Mem.tail)) (rr_k D { z with c := R } tb tc)) hk32 ?_)))
    refine RL.cmp rfl rfl rfl rfl rfl (key_ne _ _ hk hk _ _) (RL.p rfl ?_)
    exact K7 _ (.cons rfl (sK [0, 1, 7] rfl))
  ·
    intro hb7 K7
    refine RL.p rfl (RL.p rfl (RL.p rfl (RL.p rfl (RL.p rfl (RL.p rfl (RL.p rfl ?_))))))
    exact K7 _ (.cons rfl (sK [0, 1, 7] rfl))
  refine RL.p rfl ?_
  apply RL.orB (d := 31) (dp := 39) (l' := (Sq.of [23, 24, 25, 26, 27, 28, 29, 30, 31, 32, 33, 34, 35, 36, 37, 38, 39, 40, 41, 42, 43, 44])) rfl (sK [0, 1, 7] rfl)
  ·
    intro hb15 K15
    refine RL.p rfl (RL.callv (tbad_any B z hk) Tryz.call29 rfl rfl rfl rfl (.inH (by repeat (first | exact List.Mem.head _ | apply List.Mem.tail)) .nil) ?_)
    refine RL.p rfl (RL.p rfl (RL.fieldAddr fa_114_4 rfl rfl rfl rfl (RL.load Tryz.isAgg3 rfl rfl rfl rfl (Rd.get (by repeat (first | exact List.Mem.head _ | apply List.Mem.tail)) (rr_bad D (z := { z with c := R }) tb tc hk)) ?_)))
    refine RL.p rfl (RL.p rfl ?_)
    exact K15 _ (.cons rfl (sK [0, 1, 7] rfl))
  ·
    intro hb15 K15
    refine RL.p rfl (RL.p rfl (RL.p rfl (RL.p rfl (RL.p rfl (RL.p rfl (RL.p rfl (RL.p rfl ?_)))))))
    exact K15 _ (.cons rfl (sK [0, 1, 7] rfl))
  refine RL.p rfl ?_
  apply RL.orB (d := 40) (dp := 48) (l' := (Sq.of [32, 33, 34, 35, 36, 37, 38, 39, 40, 41, 42, 43, 44])) rfl (sK [0, 1, 7] rfl)
  ·
    intro hb24 K24
    refine RL.p rfl (RL.callv (treleased_any B z hk) Tryz.call30 rfl rfl rfl rfl (.inH (by repeat (first | exact List.Mem.head _ | apply List.Mem.tail)) .nil) ?_)
    refine RL.p rfl (RL.p rfl (RL.fieldAddr fa_114_5 rfl rfl rfl rfl (RL.load Tryz.isAgg3 rfl rfl rfl rfl (Rd.get (by repeat (first | exact List.Mem.head _ | apply List.Mem.tail)) (rr_rel D (z := { z with c := R }) tb tc hk)) ?_)))
    refine RL.p rfl (RL.p rfl ?_)
    exact K24 _ (.cons rfl (sK [0, 1, 7] rfl))
  ·
    intro hb24 K24
    refine RL.p rfl (RL.p rfl (RL.p rfl (RL.p rfl (RL.p rfl (RL.p rfl (RL.p rfl (RL.p rfl ?_)))))))
    exact K24 _ (.cons rfl (sK [0, 1, 7] rfl))
  refine RL.p rfl ?_
  apply RL.orB (d := 49) (dp := 61) (l' := (Sq.of [])) rfl (sK [0, 1, 7] rfl)
  ·
    intro hb33 K33
    refine RL.p rfl (RL.lenS Tryz.runUnderlying82 rfl rfl rfl rfl (RL.p rfl (RL.p rfl (RL.fieldAddr fa_114_3 rfl rfl rfl rfl (RL.load Tryz.isAgg108 rfl rfl rfl rfl (Rd.get (by repeat (first | exact List.Mem.head _ | apply List.Mem.tail)) (rr_y D (z := { z with c := R }) tb tc hk)) ?_)))))
    refine RL.p rfl (RL.fieldAddr fa_111_0 rfl rfl rfl rfl (RL.loadq Tryz.isAgg109 rfl rfl rfl rfl ?_))
    refine RL.lenS Tryz.runUnderlying109 rfl rfl rfl rfl (RL.p rfl (RL.p rfl ?_))
    exact K33 _ (.cons rfl (sK [0, 1, 7] rfl))
  ·
    intro hb33 K33
    refine RL.p rfl (RL.p rfl (RL.p rfl (RL.p rfl (RL.p rfl (RL.p rfl (RL.p rfl (RL.p rfl (RL.p rfl (RL.p rfl (RL.p rfl (RL.p rfl ?_)))))))))))
    exact K33 _ (.cons rfl (sK [0, 1, 7] rfl))
  refine RL.nil (NQ.seq (CW.condF rfl (by simp [hcl]) ?_))
  refine CW.skip (NQ.seq (CW.seq (CW.seq (CW.rg (RL.p rfl (RL.nil (NQ.seq (CW.block ?_))))))))
  refine CW.fact (p := (po = none → z.c.length = 0) ∧ (ob = none → R.length = 0) ∧ (tb = none → z.m.length = 0)) (fun w hC => ⟨fun e => by subst e; exact own_none (hC.s.h (own none pc 117 2 z.c.length ((keysQ R).flatMap plcq)) (by repeat (first | exact List.Mem.head _ | apply List.Mem.tail))), fun e => by subst e; exact own_none (hC.s.h (itmI none cp R.length R) (by repeat (first | exact List.Mem.head _ | apply List.Mem.tail))), fun e => by subst e; exact own_none (hC.s.h (rtI none tc z.m) (by repeat (first | exact List.Mem.head _ | apply List.Mem.tail)))⟩) (fun hno => ?_)
  refine CW.loop (γ := Nat) (fun k => k ≤ z.c.length) (fun k => [(0, .pointer (some ⟨B.b, 0, none⟩)), (1, .pointer (some ⟨D.b, 0, none⟩)), (7, slO po z.c.length pc), (8, .int .i64 (k : Int))])
    (fun _ => []) (fun _ => own po pc 117 2 z.c.length ((keysQ R).flatMap plcq) :: DH B D z R tb tc ob cp) (fun k => z.c.length - k) 0 (by omega) (.cons rfl (.cons rfl (.cons rfl (.cons rfl .nil)))) (fun w h => h.rea (fun _ h => h) (by repeat (first | exact Rea.nil | (apply Rea.cons; (solve | (repeat (first | exact Del.here | apply Del.there))))))) ?_
  intro k hk1
  refine CW.seq (CW.seq (CW.rg (RL.p rfl (RL.p rfl (RL.lenS Tryz.runUnderlying82 rfl rfl rfl rfl (RL.p rfl (RL.nil (NQ.seq ?_))))))))
  refine CW.cond rfl (fun hlk => ?_) (fun hlk => ?_)
  ·
    have hlk : k < z.c.length := by simp at hlk; omega
    have hlk2 : k < R.length := by omega
    obtain ⟨qa, rfl⟩ : ∃ q, po = some q := by
      cases po with
      | none => exact absurd (hno.1 rfl) (by omega)
      | some q => exact ⟨q, rfl⟩
    obtain ⟨qb, rfl⟩ : ∃ q, ob = some q := by
      cases ob with
      | none => exact absurd (hno.2.1 rfl) (by omega)
      | some q => exact ⟨q, rfl⟩
    have hx := List.getElem?_eq_getElem hlk2
    generalize R[k]'hlk2 = x at hx
    have hkx : (keysQ R)[k]? = some x.1 := by rw [keysQ, List.getElem?_map, hx]; rfl
    refine CW.skip (NQ.seq (CW.seq (CW.block (CW.seq (CW.regionD (Sq.of [0, 1, 2, 3, 4, 5, 6, 7, 8, 9, 10, 11, 12, 13, 14, 15, 16, 17, 18, 19, 20, 21, 22, 23, 24, 25, 26, 27, 28, 29, 30, 31, 32, 33, 34, 35, 36, 37]) [] [] [0, 1, 2, 3, 5, 6, 7, 9, 10, 12, 13, 14, 15, 17, 18, 19, 20, 21, 22, 24, 25, 26, 28, 29, 31, 32, 33, 34, 36, 37] mixed (by kernel_rfl) ?_)))))
    refine RL.p rfl (RL.p rfl (RL.idxAt (j := k) Tryz.runUnderlying82 Tryz.sizeOf117 rfl rfl rfl rfl rfl rfl ((by first | exact hlk | exact hlk2)) ?_))
    refine RL.fieldAddr fa_117_0 rfl rfl rfl rfl (RL.load Tryz.isAgg24 rfl rfl rfl rfl (rdQ0 (own_rds (f := plcq) (List.Mem.head _) hkx (fun _ _ => rfl))) ?_)
    refine RL.p rfl (RL.p rfl (RL.fieldAddr fa_114_3 rfl rfl rfl rfl (RL.load Tryz.isAgg108 rfl rfl rfl rfl (Rd.get (by repeat (first | exact List.Mem.head _ | apply List.Mem.tail)) (rr_y D (z := { z with c := R }) tb tc hk)) ?_)))
    refine RL.p rfl (RL.fieldAddr fa_111_0 rfl rfl rfl rfl (RL.loadq Tryz.isAgg109 rfl rfl rfl rfl ?_))
    refine RL.p rfl (RL.idxAt (j := k) Tryz.runUnderlying109 Tryz.sizeOf120 rfl rfl rfl rfl rfl rfl ((by first | exact hlk | exact hlk2)) ?_)
    refine RL.fieldAddr fa_120_0 rfl rfl rfl rfl (RL.fieldAddr fa_118_0 rfl rfl rfl rfl (RL.load Tryz.isAgg24 rfl rfl rfl rfl (Rds.it0 (own_rds (by repeat (first | exact List.Mem.head _ | apply List.Mem.tail)) hx (itc_fm_len hA.ro))) ?_))
    refine RL.p rfl (RL.p rfl ?_)
    apply RL.orB (d := 86) (dp := 105) (l' := (Sq.of [])) rfl (sK [0, 1, 7, 8] rfl)
    ·
      intro hb19 K19
      refine RL.p rfl (RL.p rfl (RL.idxAt (j := k) Tryz.runUnderlying82 Tryz.sizeOf117 rfl rfl rfl rfl rfl rfl ((by first | exact hlk | exact hlk2)) ?_))
      refine RL.fieldAddr fa_117_1 rfl rfl rfl rfl (RL.load Tryz.isAgg5 rfl rfl rfl rfl (rdQ1 (own_rds (f := plcq) (List.Mem.head _) hkx (fun _ _ => rfl))) ?_)
      refine RL.p rfl (RL.p rfl (RL.fieldAddr fa_114_3 rfl rfl rfl rfl (RL.load Tryz.isAgg108 rfl rfl rfl rfl (Rd.get (by repeat (first | exact List.Mem.head _ | apply List.Mem.tail)) (rr_y D (z := { z with c := R }) tb tc hk)) ?_)))
      refine RL.p rfl (RL.fieldAddr fa_111_0 rfl rfl rfl rfl (RL.loadq Tryz.isAgg109 rfl rfl rfl rfl ?_))
      refine RL.p rfl (RL.idxAt (j := k) Tryz.runUnderlying109 Tryz.sizeOf120 rfl rfl rfl rfl rfl rfl ((by first | exact hlk | exact hlk2)) ?_)
      refine RL.fieldAddr fa_120_0 rfl rfl rfl rfl (RL.fieldAddr fa_118_1 rfl rfl rfl rfl (RL.load Tryz.isAgg5 rfl rfl rfl rfl (Rds.it1 (own_rds (by repeat (first | exact List.Mem.head _ | apply List.Mem.tail)) hx (itc_fm_len hA.ro))) ?_))
      refine RL.p rfl (RL.p rfl ?_)
      exact K19 _ (.cons rfl (sK [0, 1, 7, 8] rfl))
    ·
      intro hb19 K19
      refine RL.p rfl (RL.p rfl (RL.p rfl (RL.p rfl (RL.p rfl (RL.p rfl (RL.p rfl (RL.p rfl (RL.p rfl (RL.p rfl (RL.p rfl (RL.p rfl (RL.p rfl (RL.p rfl ?_)))))))))))))
      refine RL.p rfl (RL.p rfl (RL.p rfl (RL.p rfl (RL.p rfl ?_))))
      exact K19 _ (.cons rfl (sK [0, 1, 7, 8] rfl))
    refine RL.nil (NQ.seq (CW.condF rfl (by simp) ?_))
    refine CW.skip (NQ.block (NQ.seq (CW.rg (RL.p rfl (RL.bx rfl (wrapV_i64 (by omega) (by omega)) ?_)))))
    refine RL.p rfl (RL.nil ?_)
    refine NQ.round (g := k) (k + 1) hlk (by omega) (.cons rfl (.cons rfl (.cons rfl (.cons rfl .nil)))) (fun w h => h)
  ·
    refine CW.exit (XQ.seq (XQ.seq (XQ.hit (NQ.seq (CW.ok [0, 1] rfl (CW.seq (CW.seq (CW.rg (RL.p rfl (RL.nil (NQ.seq (CW.block ?_))))))))))))
    refine CW.loop (γ := Nat) (fun k => k ≤ z.m.length) (fun k => [(0, .pointer (some ⟨B.b, 0, none⟩)), (1, .pointer (some ⟨D.b, 0, none⟩)), (9, .int .i64 (k : Int))])
      (fun _ => []) (fun _ => DH B D z R tb tc ob cp) (fun k => z.m.length - k) 0 (by omega) (.cons rfl (.cons rfl (.cons rfl .nil))) (fun w h => h.rea (fun _ h => h) (by repeat (first | exact Rea.nil | (apply Rea.cons; (solve | (repeat (first | exact Del.here | apply Del.there))))))) ?_
    intro j hj1
    refine CW.seq (CW.seq (CW.rg (RL.p rfl (RL.p rfl (RL.p rfl (RL.fieldAddr fa_114_6 rfl rfl rfl rfl (RL.load Tryz.isAgg112 rfl rfl rfl rfl (Rd.get (by repeat (first | exact List.Mem.head _ | apply List.Mem.tail)) (rr_td D (z := { z with c := R }) tb tc hk)) ?_)))))))
    refine RL.lenS Tryz.runUnderlying112 rfl rfl rfl rfl (RL.p rfl (RL.nil (NQ.seq (CW.ok [0, 1, 9, 112] rfl ?_))))
    refine CW.cond rfl (fun hlj => ?_) (fun hlj => ?_)
    ·
      have hlj : j < z.m.length := by simp at hlj; omega
      obtain ⟨qt, rfl⟩ : ∃ q, tb = some q := by
        cases tb with
        | none => exact absurd (hno.2.2 rfl) (by omega)
        | some q => exact ⟨q, rfl⟩
      have hx := List.getElem?_eq_getElem hlj
      generalize z.m[j] = q at hx
      obtain ⟨e, n⟩ := q
      have hcm := cnt_mem hnd hx
      refine CW.skip (NQ.seq (CW.seq (CW.block (CW.seq (CW.regionD (Sq.of [0, 1, 2, 3, 4, 5, 6, 7, 8, 9, 10, 11, 12, 13, 14, 15, 16, 17, 18]) [] [] [0, 1, 2, 3, 5, 6, 7, 10, 11, 12, 14, 15, 16, 18] mixed (by kernel_rfl) ?_)))))
      refine RL.p rfl (RL.p rfl (RL.p rfl (RL.fieldAddr fa_114_6 rfl rfl rfl rfl (RL.load Tryz.isAgg112 rfl rfl rfl rfl (Rd.get (by repeat (first | exact List.Mem.head _ | apply List.Mem.tail)) (rr_td D (z := { z with c := R }) (some qt) tc hk)) ?_))))
      refine RL.p rfl (RL.idxAt (j := j) Tryz.runUnderlying112 Tryz.sizeOf122 rfl rfl rfl rfl rfl rfl (hlj) (RL.fieldAddr fa_122_0 rfl rfl rfl rfl (RL.load Tryz.isAgg42 rfl rfl rfl rfl (td_rd (j := 0) (by repeat (first | exact List.Mem.head _ | apply List.Mem.tail)) hx rfl) ?_)))
      refine RL.callv (tcount_any B z hk e) Tryz.call31 rfl rfl rfl rfl (.inH (by repeat (first | exact List.Mem.head _ | apply List.Mem.tail)) (.inH (by repeat (first | exact List.Mem.head _ | apply List.Mem.tail)) .nil)) ?_
      refine RL.p rfl (RL.p rfl (RL.fieldAddr fa_114_6 rfl rfl rfl rfl (RL.load Tryz.isAgg112 rfl rfl rfl rfl (Rd.get (by repeat (first | exact List.Mem.head _ | apply List.Mem.tail)) (rr_td D (z := { z with c := R }) (some qt) tc hk)) ?_)))
      refine RL.p rfl (RL.idxAt (j := j) Tryz.runUnderlying112 Tryz.sizeOf122 rfl rfl rfl rfl rfl rfl (hlj) (RL.fieldAddr fa_122_1 rfl rfl rfl rfl (RL.load Tryz.isAgg3 rfl rfl rfl rfl (td_rd (j := 1) (by repeat (first | exact List.Mem.head _ | apply List.Mem.tail)) hx rfl) ?_)))
      refine RL.p rfl (RL.nil (NQ.seq (CW.ok [0, 1, 9, 133] rfl (CW.condF rfl (by simp [hcm]) ?_))))
      refine CW.skip (NQ.block (NQ.seq (CW.rg (RL.p rfl (RL.bx rfl (wrapV_i64 (by omega) (by omega)) ?_)))))
      refine RL.p rfl (RL.nil ?_)
      refine NQ.round (g := j) (j + 1) hlj (by omega) (.cons rfl (.cons rfl (.cons rfl .nil))) (fun w h => h)
    ·
      refine CW.exit (XQ.seq (XQ.seq (XQ.hit (NQ.seq (CW.seq (CW.rg (RL.p rfl (RL.nil (NQ.seq (CW.ret ?_))))))))))
      exact RQ.post (res1 rfl rfl) (.keep (.keep (.keep (.keep (.keep (.keep (.keep (.keep .nil)))))))) ⟨rfl, rfl, rfl⟩
end Go.Proofs.YtbdnebedmdoehaaGreat

namespace Go.Proofs.YtbdnebedmdoehaaGreat
open Go.PK
theorem RMessO.bod {s : Sch} {iv : Nat} {t : Int} {R : Bq} {f : Fr} {e : Int} {R' : Bq} {I2 : List It} (h : RMessO s iv t R f e R' I2) : ∀ x ∈ R', x ∈ R ∨ bodyO x.2 ∈ I2 := by
  cases h with
  | tick => exact fun x hx => .inl hx
  | no => exact fun x hx => .inl hx
  | put _ _ hp =>
    cases hp with
    | no => exact fun x hx => .inl hx
    | yes y => intro x hx
               rcases List.mem_cons.1 ((insL_perm R _ y).mem_iff.1 hx) with hx | hx
               · subst hx; exact .inr List.mem_cons_self
               · exact .inl hx
theorem RDisO.mem {z : RSt} {iv : Nat} {key : List B8} {e : Int} {T : Bq} {z' : RSt} (h : RDisO z iv key e T z') : (∀ x ∈ z'.c, x ∈ z.c) ∧ ∀ x ∈ T, x ∈ z.c := by
  cases h with
  | no => exact ⟨fun x hx => hx, fun x hx => (by cases hx)⟩
  | yes => exact ⟨fun x hx => (List.mem_filter.1 hx).1, fun x hx => (List.mem_filter.1 hx).1⟩
theorem RRaiseO.mem {z : RSt} {iv : Nat} {key : List B8} {e : Int} {z' : RSt} (h : RRaiseO z iv key e z') : ∀ x ∈ z'.c, x ∈ z.c := by
  cases h with
  | no => exact fun x hx => hx
  | yes => exact fun x hx => (List.mem_filter.1 hx).1
theorem RaiseO.m {z : RSt} {iv : Nat} {key : List B8} {e : Int} {z' : RSt} (h : RaiseO z iv key e z') : z'.m = z.m := by cases h <;> rfl
theorem DisO.lenT {z : RSt} {iv : Nat} {key : List B8} {e : Int} {T : Bq} {z' : RSt} (h : DisO z iv key e T z') {n : Nat} (hn : z.c.length ≤ n) : T.length ≤ n := by
  cases h with
  | no => exact Nat.zero_le _
  | yes _ hT => have := hT.lenT; omega
theorem relL_mem {k : List B8} {iv : Nat} {T : Bq} : ∀ y ∈ relL k iv T, ∃ x ∈ T, x.2 = y := fun y hy => by
  obtain ⟨x, hx, rfl⟩ := List.mem_map.1 hy
  exact ⟨x, (List.mem_filter.1 hx).1, rfl⟩
theorem PAl.gt {c R : Bq} (h : PAl c R) {n : Int} (hg : ∀ x ∈ c, n < x.1.1) : ∀ x ∈ R, n < x.1.1 := fun x hx => by
  have h1 : ab x ∈ c.map ab := h.p.mem_iff.2 (List.mem_map.2 ⟨x, hx, rfl⟩)
  obtain ⟨y, hy, hyx⟩ := List.mem_map.1 h1
  have h2 : y.1 = x.1 := by have := congrArg Prod.fst hyx; exact this
  rw [← h2]; exact hg y hy
def DoR (B : RBk) (D : RRk) (n : Nat) (J : List It) : Value → List It → List It → Prop := fun v I' H' => ∃ z' R' tb' tc' ob' cp', v = .bool true ∧ LInv (n + 1) z' ∧ PAl z'.c R' ∧ (∀ x ∈ z'.c, bodyO x.2 ∈ I' ++ J) ∧ (∀ x ∈ R', bodyO x.2 ∈ I' ++ J) ∧ H' = DH B D z' R' tb' tc' ob' cp'
theorem do_ok (B : RBk) (D : RRk) (hDs : D.s = B.s) (sd : B8) (a : Act21) (ha : a.Ok) (n : Nat) (hn : n ≤ 40) (z : RSt) (R : Bq) (tb : Option Nat) (tc : Nat) (ob : Option Nat) (cp : Nat) (hv : LInv n z) (hA : PAl z.c R) (kb kc : Nat) (J : List It)
    (mK : own (some kb) kc 23 32 13 ((key21 sd 13).flatMap bytes) ∈ J) (mF : sls a.x.p 1 a.x.f.b.length (bytes a.x.f.b) ∈ J) (hbc : ∀ x ∈ z.c, bodyO x.2 ∈ J) (hbr : ∀ x ∈ R, bodyO x.2 ∈ J) :
    Spc Tryz.prog 26 #[.pointer (some ⟨B.b, 0, none⟩), .pointer (some ⟨D.b, 0, none⟩), slO (some kb) 13 kc, .agg a.cells.toArray] J (DH B D z R tb tc ob cp) (DoR B D n J) := by
  have hal := act21_len ha
  have hzo := hv.ok (by omega)
  have hro := rok hzo hA
  have hkA := keyA_len sd ha
  have hml : z.m.length ≤ 1000000 := by have := hv.ml; omega
  have hrg := hA.gt hv.gt
  obtain ⟨m, hm⟩ : ∃ m : Nat, a.iv = (m : Int) := ⟨a.iv.toNat, by have := ha.iv; omega⟩
  have hm32 : m < 4294967296 := by have := ha.iv; omega
  have hro2 : (rOut (m : Int) R).length ≤ 1000000 := by have := rOut_le (m : Int) R; have := hA.l; omega
  refine Spc.enter Tryz.func26 rfl rfl rfl (fun w0 hw0 => ?_)
  refine CW.seq (CW.region (ef := [0]) (bk := []) (RL.box rfl rfl rfl rfl rfl rfl ?_))
  intro b1
  refine RL.p rfl (RL.nil (NQ.seq (CW.seq (CW.seq (CW.freezeP (A := [_]) (B := [_, _, _, _, _, _, _, _]) (.take (.leave (.leave (.leave (.leave (.leave (.leave (.leave (.leave .nil))))))))) rfl ?_)))))
  refine CW.genI (fun J1 hJ1 => ?_)
  have mJ : ∀ y ∈ J, y ∈ J1 := fun y hy => hJ1 y (by simp [hy])
  have mA : cel b1 a.cells 47 ∈ J1 := hJ1 _ (by simp)
  clear hJ1
  have rA : RdsN J1 ⟨b1, 0, none⟩ 61 a.cells := ⟨fun _ => Rds.allI mA, hal⟩
  have rD : RdI J1 ⟨b1, 0 + 0, none⟩ (.int .i64 a.d) := ⟨fun _ => Rd.celI mA rfl⟩
  have rT : RdI J1 ⟨b1, 0 + 1, none⟩ (.int .i64 a.t) := ⟨fun _ => Rd.celI mA rfl⟩
  have rI : RdI J1 ⟨b1, 0 + 2, none⟩ (.int .u32 (m : Int)) := ⟨fun _ => Rd.celI mA (by rw [← hm]; rfl)⟩
  have mK1 := mJ _ mK
  have mF1 := mJ _ mF
  have hbc1 : ∀ x ∈ z.c, bodyO x.2 ∈ J1 := fun x hx => mJ _ (hbc x hx)
  have hbr1 : ∀ x ∈ R, bodyO x.2 ∈ J1 := fun x hx => mJ _ (hbr x hx)
  refine CW.rg (RL.fieldAddr fa_47_0 rfl rfl rfl rfl (RL.loadq Tryz.isAgg3 rfl rfl rfl rfl ?_))
  refine RL.callvq (among_any a.d 9 (by decide) (by decide)) Tryz.call15 rfl rfl rfl rfl ?_
  refine RL.p rfl (RL.nil (NQ.seq (CW.block (CW.seq (CW.rg (RL.p rfl (RL.p rfl (RL.p rfl (RL.nil (NQ.seq (CW.ok [0, 1, 2, 7, 8, 9, 17] rfl ?_)))))))))))
  refine CW.cond rfl (fun h8 => ?_) (fun h8 => ?_)
  ·
    refine CW.seq (CW.regionD (Sq.of [0, 1, 2, 3, 4, 5, 7, 8, 9, 10, 11, 6, 12, 13, 14, 15]) [6, 13] [6, 13] [0, 1, 2, 3, 4, 5, 7, 8, 9, 10, 11, 12, 14, 15] mixed (by kernel_rfl) ?_)
    refine RL.p rfl (RL.fieldAddr fa_47_2 rfl rfl rfl rfl (RL.loadTq Tryz.isAgg24 rfl rfl rfl rfl ?_))
    refine RL.p rfl (RL.loadSTq Tryz.isAgg47 Tryz.sizeOf47 rfl rfl rfl rfl ?_)
    refine RL.callvT (tkey_any sd a ha kb kc J1 mK1) Tryz.call19 rfl rfl rfl rfl (Lend.many (fun _ h => h)) ?_
    refine RL.p rfl (RL.fieldAddr fa_47_2 rfl rfl rfl rfl (RL.loadTq Tryz.isAgg24 rfl rfl rfl rfl ?_))
    refine RL.p rfl (RL.loadSTq Tryz.isAgg47 Tryz.sizeOf47 rfl rfl rfl rfl ?_)
    refine RL.call (traise_any B z hzo m hm32 (keyA sd a) hkA) Tryz.call22 rfl rfl rfl rfl rfl (by repeat (first | exact Pick.nil | apply Pick.take | apply Pick.leave)) .nil (.inr rfl) ?_
    rintro _ _ _ ⟨e1, z1, hO1, rfl, rfl, rfl⟩
    refine RL.callvT (tkey_any sd a ha kb kc J1 mK1) Tryz.call19 rfl rfl rfl rfl (Lend.many (fun _ h => h)) ?_
    refine RL.call (rtraise_any D { z with c := R } hro tb tc ob cp m hm32 (keyA sd a) hkA hro2) Tryz.call54 rfl rfl rfl rfl rfl (by repeat (first | exact Pick.nil | apply Pick.take | apply Pick.leave)) .nil (.inr rfl) ?_
    rintro _ _ _ ⟨e2, z2, ob2, cp2, hO2, rfl, rfl, rfl⟩
    obtain ⟨rfl, hz2, hp⟩ := raise_same hA hO1 hO2
    obtain ⟨R2, rfl⟩ : ∃ R2, z2 = { z1 with c := R2 } := ⟨_, hz2⟩
    obtain ⟨hv2, hc2⟩ := hO1.inv hv hm32 hkA
    have hr2 := hO2.mem
    have hmm := hO1.m
    refine RL.p rfl (RL.p rfl (RL.nil (NQ.seq (CW.ok [0, 1, 2, 7, 8] rfl (CW.ret (RQ.block (RQ.seq (RQ.rea (fun _ h => h) (H' := [recI B z1, tmI B z, bufI B.q B.r, mapQ B.r z1.c, rrI D { z1 with c := R2 } tb tc, rtI tb tc z.m, rbufI D.y ob2 R2.length cp2, itmI ob2 cp2 R2.length R2]) (by repeat (first | exact Rea.nil | (apply Rea.cons; (solve | (repeat (first | exact Del.here | apply Del.there)))))) ?_))))))))
    exact RQ.post (res1 rfl rfl) (.keep (.keep (.keep (.keep (.keep (.keep (.keep (.keep .nil)))))))) ⟨z1, R2, tb, tc, ob2, cp2, by simp, hv2, hp, fun x hx => hbc x (hc2 x hx), fun x hx => hbr x (hr2 x hx), by
      show _ = [recI B z1, mapI B.mt goodE (encT z1.m), bufI B.q B.r, mapQ B.r z1.c, rrI D { z1 with c := R2 } tb tc, rtI tb tc z1.m, rbufI D.y ob2 R2.length cp2, itmI ob2 cp2 R2.length R2]
      rw [hmm]⟩
  ·
    refine CW.seq (CW.rg (RL.p rfl (RL.p rfl (RL.p rfl (RL.nil (NQ.seq ?_))))))
    refine CW.cond rfl (fun h4 => ?_) (fun h4 => ?_)
    ·
      refine CW.seq (CW.regionD (Sq.of [0, 1, 2, 3, 4, 5, 6, 7, 8, 9, 10, 11]) [6] [6] [0, 1, 2, 3, 4, 5, 7, 8, 9, 10, 11] mixed (by kernel_rfl) ?_)
      refine RL.p rfl (RL.fieldAddr fa_47_2 rfl rfl rfl rfl (RL.loadTq Tryz.isAgg24 rfl rfl rfl rfl ?_))
      refine RL.p rfl (RL.loadSTq Tryz.isAgg47 Tryz.sizeOf47 rfl rfl rfl rfl ?_)
      refine RL.callvT (tkey_any sd a ha kb kc J1 mK1) Tryz.call19 rfl rfl rfl rfl (Lend.many (fun _ h => h)) ?_
      refine RL.call (tdis_any B z hzo m hm32 (keyA sd a) hkA hv.gt J1 hbc1) Tryz.call18 rfl rfl rfl rfl rfl (by repeat (first | exact Pick.nil | apply Pick.take | apply Pick.leave)) (Lend.many (fun _ h => h)) (.inr rfl) ?_
      rintro _ _ _ ⟨e1, T1, z1, o1, c1, hD1, rfl, rfl, rfl⟩
      refine RL.p rfl (RL.p rfl (RL.p rfl (RL.p rfl (RL.p rfl (RL.nil (NQ.seq (CW.ok [0, 1, 2, 7, 10, 11] rfl (CW.seq (CW.regionD (Sq.of [0, 1, 2, 3, 4, 5, 6, 7, 8, 9, 10, 11]) [6] [6] [0, 1, 2, 3, 4, 5, 7, 8, 9, 10, 11] mixed (by kernel_rfl) ?_)))))))))
      refine RL.p rfl (RL.fieldAddr fa_47_2 rfl rfl rfl rfl (RL.loadTq Tryz.isAgg24 rfl rfl rfl rfl ?_))
      refine RL.p rfl (RL.loadSTq Tryz.isAgg47 Tryz.sizeOf47 rfl rfl rfl rfl ?_)
      refine RL.callvT (tkey_any sd a ha kb kc J1 mK1) Tryz.call19 rfl rfl rfl rfl (Lend.many (fun _ h => h)) ?_
      refine RL.call (rtdis_any D { z with c := R } hro hml tb tc ob cp m hm32 (keyA sd a) hkA hrg J1 hbr1) Tryz.call55 rfl rfl rfl rfl rfl (by repeat (first | exact Pick.nil | apply Pick.take | apply Pick.leave)) (Lend.many (fun _ h => h)) (.inr rfl) ?_
      rintro _ _ _ ⟨e2, T2, z2, o2, c2, tb2, tc2, ob2, cp2, hD2, rfl, rfl, rfl⟩
      have hr2 := hD2.mem
      obtain ⟨rfl, hXY, hz2, hp⟩ := dis_same hA hD1 hD2
      obtain ⟨R2, rfl⟩ : ∃ R2, z2 = { z1 with c := R2 } := ⟨_, hz2⟩
      obtain ⟨hv2, hc2, hT1⟩ := hD1.inv hv hm32 hkA
      have hX1 : ∀ y ∈ relL (keyA sd a) m T1, y.Ok ∧ bodyO y ∈ J1 := fun y hy => by
        obtain ⟨x, hx, rfl⟩ := relL_mem y hy
        exact ⟨hv.c x (hT1 x hx), hbc1 x (hT1 x hx)⟩
      have hY1 : ∀ y ∈ relL (keyA sd a) m T2, y.Ok ∧ bodyO y ∈ J1 := fun y hy => by
        obtain ⟨x, hx, rfl⟩ := relL_mem y hy
        exact ⟨hA.ro x (hr2.2 x hx), hbr1 x (hr2.2 x hx)⟩
      have hYl : (relL (keyA sd a) m T2).length ≤ 100000 := by
        have h1 : (relL (keyA sd a) m T1).length = (relL (keyA sd a) m T2).length := by simpa using congrArg List.length hXY
        have h2 := relL_le (keyA sd a) m T1
        have h3 := hD1.lenT hv.l
        omega
      generalize relL (keyA sd a) m T1 = X at *
      generalize relL (keyA sd a) m T2 = Y at *
      refine RL.p rfl (RL.p rfl (RL.p rfl (RL.p rfl (RL.p rfl (RL.nil (NQ.seq (CW.ok [0, 1, 2, 7, 10, 11, 12, 13] rfl (CW.seq (CW.freezeP (A := [_, _]) (B := [_, _, _, _, _, _, _, _]) (.take (.leave (.leave (.leave (.leave (.take (.leave (.leave (.leave (.leave .nil)))))))))) rfl ?_)))))))))
      refine CW.genI (fun J3 hJ3 => ?_)
      have mJ3 : ∀ y ∈ J1, y ∈ J3 := fun y hy => hJ3 y (by simp [hy])
      have mX : own o1 c1 30 21 X.length (X.flatMap FrO.cells) ∈ J3 := hJ3 _ (by simp)
      have mY : own o2 c2 30 21 Y.length (Y.flatMap FrO.cells) ∈ J3 := hJ3 _ (by simp)
      clear hJ3
      refine CW.rg (RL.p rfl (RL.p rfl (RL.callv (list_ok o1 o2 c1 c2 X Y J3 hXY mX mY (fun y hy => mJ3 _ (hX1 y hy).2) (fun y hy => mJ3 _ (hY1 y hy).2) (fun y hy => (hX1 y hy).1) (fun y hy => (hY1 y hy).1) hYl) Tryz.call56 rfl rfl rfl rfl (Lend.many (fun _ h => h)) ?_)))
      refine RL.p rfl ?_
      apply RL.andB (d := 61) (dp := 65) (l' := (Sq.of [8])) rfl (sK [0, 1, 2, 7] rfl)
      ·
        intro hb4 K4
        refine RL.p rfl (RL.p rfl (RL.p rfl (RL.p rfl ?_)))
        exact K4 _ (.cons rfl (sK [0, 1, 2, 7] rfl))
      ·
        intro hb4 K4
        refine RL.p rfl (RL.p rfl (RL.p rfl (RL.p rfl ?_)))
        exact K4 _ (.cons rfl (sK [0, 1, 2, 7] rfl))
      refine RL.p rfl (RL.nil (NQ.seq (CW.ret (RQ.block (RQ.seq (RQ.rea (fun _ h => h) (H' := DH B D z1 R2 tb2 tc2 ob2 cp2) (by repeat (first | exact Rea.nil | (apply Rea.cons; (solve | (repeat (first | exact Del.here | apply Del.there)))))) ?_))))))
      exact RQ.post (res1 rfl rfl) (.keep (.keep (.keep (.keep (.keep (.keep (.keep (.keep .nil)))))))) ⟨z1, R2, tb2, tc2, ob2, cp2, by simp, hv2, hp, fun x hx => hbc x (hc2 x hx), fun x hx => hbr x (hr2.1 x hx), rfl⟩
    ·
      have hso : (shF sd a).Ok := shN_ok ha.x
      have hsb : (shF sd a).b.length ≤ 100000 := shF_b ha
      refine CW.skip (NQ.block (NQ.seq (CW.ok [0, 1, 2, 7] rfl (CW.seq (CW.regionD (Sq.of [0, 1, 2, 3, 4, 7, 8, 9, 10, 11, 5, 6, 12, 13, 14, 15]) [5, 6, 12, 13] [5, 6, 12, 13] [0, 1, 2, 3, 4, 7, 8, 9, 10, 11, 14, 15] mixed (by kernel_rfl) ?_)))))
      refine RL.p rfl (RL.fieldAddr fa_47_1 rfl rfl rfl rfl (RL.loadTq Tryz.isAgg3 rfl rfl rfl rfl ?_))
      refine RL.p rfl (RL.loadSTq Tryz.isAgg47 Tryz.sizeOf47 rfl rfl rfl rfl ?_)
      refine RL.p rfl (RL.fieldAddr fa_47_1 rfl rfl rfl rfl (RL.loadTq Tryz.isAgg3 rfl rfl rfl rfl ?_))
      refine RL.p rfl (RL.loadSTq Tryz.isAgg47 Tryz.sizeOf47 rfl rfl rfl rfl ?_)
      refine RL.call (tshown_any sd a ha kb kc J1 mK1 mF1) Tryz.call17 rfl rfl rfl rfl rfl (by repeat (first | exact Pick.nil | apply Pick.take | apply Pick.leave)) (Lend.many (fun _ h => h)) (.inr rfl) ?_
      rintro _ _ _ ⟨sb, sc, rfl, hcap, rfl, rfl⟩
      refine RL.callf (tmess_any B z hzo a.t (shF sd a) (sb.map fun b => ⟨b, 0, none⟩) sc (shF sd a).b.length hso rfl hcap hsb) Tryz.call16 rfl rfl rfl rfl rfl (by repeat (first | exact Pick.nil | apply Pick.take | apply Pick.leave)) (.inH (by repeat (first | exact List.Mem.head _ | apply List.Mem.tail)) (Lend.own (by repeat (first | exact List.Mem.head _ | apply List.Mem.tail)) .nil)) (.inr rfl) ?_
      rintro _ I1 _ ⟨e1, c1, rfl, hM1, rfl⟩ hf1
      refine RL.call (tshown_any sd a ha kb kc J1 mK1 mF1) Tryz.call17 rfl rfl rfl rfl rfl (by repeat (first | exact Pick.nil | apply Pick.take | apply Pick.leave)) (Lend.many (fun _ h => by simp [h])) (.inr rfl) ?_
      rintro _ _ _ ⟨sb2, sc2, rfl, hcap2, rfl, rfl⟩
      refine RL.callf (rtmess_any D { z with c := R } hro hml tb tc ob cp a.t (shF sd a) (sb2.map fun b => ⟨b, 0, none⟩) sc2 (shF sd a).b.length hso rfl hsb) Tryz.call57 rfl rfl rfl rfl rfl (by repeat (first | exact Pick.nil | apply Pick.take | apply Pick.leave)) (Lend.own (by repeat (first | exact List.Mem.head _ | apply List.Mem.tail)) .nil) (.inr rfl) ?_
      rintro _ I2 _ ⟨e2, R2, tb2, tc2, ob2, cp2, rfl, hM2, rfl⟩ hf2
      rw [hDs] at hM2
      obtain ⟨rfl, hp⟩ := mess_same hA hM1 hM2 hso hsb
      obtain ⟨hv2, hb2⟩ := hM1.inv hv hso hsb
      have hbr2 := hM2.bod
      refine RL.p rfl (RL.p rfl (RL.nil (NQ.seq (CW.ok [8] rfl (CW.ret (RQ.rea (fun _ h => h) (H' := DH B D { z with c := c1, m := bump e1 z.m } R2 tb2 tc2 ob2 cp2) (by repeat (first | exact Rea.nil | (apply Rea.cons; (solve | (repeat (first | exact Del.here | apply Del.there)))))) ?_))))))
      refine RQ.postF (I' := I2 ++ I1) (res1 rfl rfl) (.keep (.keep (.keep (.keep (.keep (.keep (.keep (.keep .nil)))))))) (fun x hx => ?_) (fun b hb => ?_) ⟨_, R2, tb2, tc2, ob2, cp2, by simp, hv2, hp, fun x hx => ?_, fun x hx => ?_, rfl⟩
      · rcases List.mem_append.1 hx with h | h <;> simp [h]
      · obtain ⟨x, hx, hbx⟩ := mem_bss.1 hb
        rcases List.mem_append.1 hx with h | h
        · exact hf2 b (mem_bss.2 ⟨x, h, hbx⟩)
        · exact hf1 b (mem_bss.2 ⟨x, h, hbx⟩)
      · rcases hb2 x hx with h | h
        · exact List.mem_append_right _ (hbc x h)
        · exact List.mem_append_left _ (List.mem_append_right _ h)
      · rcases hbr2 x hx with h | h
        · exact List.mem_append_right _ (hbr x h)
        · exact List.mem_append_left _ (List.mem_append_left _ h)
end Go.Proofs.YtbdnebedmdoehaaGreat
