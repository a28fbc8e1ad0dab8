import Derived.Test.YtbdnebedmdoehaaGreatSC
namespace Go.Proofs.YtbdnebedmdoehaaGreat
open Go.PK
inductive RaiseO (z : RSt) (iv : Nat) (key : List B8) : Int → RSt → Prop
  | no (h : iv ≤ z.iv) : RaiseO z iv key 6 z
  | yes {T c' : Bq} (h : ¬ iv ≤ z.iv) (hT : TakeO z.c iv T c') : RaiseO z iv key 0 ⟨iv, key, z.bad + T.length, z.rel, c', z.m⟩
def RaiseR (B : RBk) (z : RSt) (iv : Nat) (key : List B8) : Value → List It → List It → Prop := fun v I' H' => ∃ e z', RaiseO z iv key e z' ∧ v = .int .i64 e ∧ I' = [] ∧ H' = [recI B z', bufI B.q B.r, mapQ B.r z'.c]
theorem tcount_any (B : RBk) (z : RSt) (hk : z.k.length = 32) (e : Int) : Spc Tryz.prog 31 #[.pointer (some ⟨B.b, 0, none⟩), .int .i64 e] [recI B z, tmI B z] [] (Is (.int .i64 (cnt e z.m))) := by
  refine Spc.enter Tryz.func31 rfl rfl rfl (fun w0 hw0 => ?_)
  refine CW.seq (CW.rg (RL.p rfl (RL.nil (NQ.seq (CW.seq (CW.seq (CW.rg (RL.p rfl (RL.callv (tis_yes B z hk) Tryz.call42 rfl rfl rfl rfl (Lend.inI (by repeat (first | exact List.Mem.head _ | apply List.Mem.tail)) .nil) ?_)))))))))
  refine RL.p rfl (RL.nil (NQ.seq (CW.condF rfl (rfl) (CW.skip (NQ.seq (CW.seq (CW.rg (RL.p rfl (RL.p rfl (RL.fieldAddr fa_81_6 rfl rfl rfl rfl (RL.load Tryz.isAgg79 rfl rfl rfl rfl (Rd.getI (by repeat (first | exact List.Mem.head _ | apply List.Mem.tail)) (rc_mt B hk)) ?_)))))))))))
  refine RL.p rfl (RL.lookup keyEr Tryz.runUnderlying79 Tryz.zeroValue3 rfl rfl rfl rfl rfl ⟨e, rfl⟩ (MapAt.told (by repeat (first | exact List.Mem.head _ | apply List.Mem.tail))) ?_)
  refine RL.cast (d := 13) rfl (cnt_enc e z.m) ?_
  refine RL.p rfl (RL.nil (NQ.seq (CW.ok [4] rfl (CW.ret ?_))))
  exact RQ.post (res1 rfl rfl) (Split.none _) ⟨rfl, rfl, rfl⟩
theorem traise_any (B : RBk) (z : RSt) (hz : z.Ok) (iv : Nat) (hiv : iv < 4294967296) (key : List B8) (hkey : key.length = 32) :
    Spc Tryz.prog 22 #[.pointer (some ⟨B.b, 0, none⟩), .int .u32 (iv : Int), .agg (bytes key).toArray] [] [recI B z, bufI B.q B.r, mapQ B.r z.c] (RaiseR B z iv key) := by
  have hk := hz.k
  have hcl := hz.l
  have hbd := hz.bad
  have hk32 : (bytes key).length = 32 := by rw [List.length_map, hkey]
  refine Spc.enter Tryz.func22 rfl rfl rfl (fun w0 hw0 => ?_)
  refine CW.seq (CW.region (ef := [0]) (bk := []) (RL.box rfl rfl rfl rfl rfl rfl ?_))
  intro b1
  refine RL.p rfl (RL.nil (NQ.seq (CW.seq (CW.block (CW.seq (CW.rg (RL.p rfl (RL.callv (tis_yes B z hk) Tryz.call42 rfl rfl rfl rfl (Lend.inH (by repeat (first | exact List.Mem.head _ | apply List.Mem.tail)) .nil) ?_))))))))
  refine RL.p rfl (RL.p rfl (RL.nil (NQ.seq (CW.condF rfl (rfl) (CW.seq (CW.rg (RL.p rfl (RL.p rfl (RL.p rfl (RL.fieldAddr fa_81_1 rfl rfl rfl rfl (RL.load Tryz.isAgg24 rfl rfl rfl rfl (Rd.get (by repeat (first | exact List.Mem.head _ | apply List.Mem.tail)) (rc_iv B z)) ?_)))))))))))
  refine RL.p rfl (RL.p rfl (RL.nil (NQ.seq (CW.ok [0, 1, 5, 6, 11] rfl ?_))))
  refine CW.cond rfl (fun h1 => ?_) (fun h1 => ?_)
  ·
    refine CW.seq (CW.rg (RL.p rfl (RL.nil (NQ.seq (CW.ret (RQ.block (RQ.seq ?_)))))))
    have h1' : iv ≤ z.iv := by simp at h1; omega
    exact RQ.post (res1 rfl rfl) (.drop (.keep (.keep (.keep .nil)))) ⟨6, z, .no h1', rfl, rfl, rfl⟩
  ·
    have h1' : ¬ iv ≤ z.iv := by simp at h1; omega
    refine CW.skip (NQ.block (NQ.seq (CW.seq ?_)))
    refine CW.cutG (γ := Bq × Bq) (fun g => TakeO z.c iv g.1 g.2) (fun _ => [(0, .pointer (some ⟨B.b, 0, none⟩)), (1, .int .u32 (iv : Int)), (5, .pointer (some ⟨b1, 0, none⟩))]) (fun _ => []) (fun g => [cel b1 (bytes key) 23, recI B { z with bad := z.bad + g.1.length }, bufI B.q B.r, mapQ B.r g.2]) ?_ ?_
    ·
      refine CW.regionD (.cons 0 (.cons 1 (.cons 2 (.cons 4 (.cons 5 (.cons 6 (.cons 7 (.cons 8 (.fork [3, 9] (fun k => (bif Nat.beq k 3 then (Sq.of [9, 10, 11, 12, 13, 14]) else (Sq.of [3, 10, 11, 12, 13, 14])))))))))))) [9, 14] [9, 14] [0, 1, 2, 4, 5, 6, 8, 10, 11, 12, 13] mixed (by kernel_rfl) ?_
      refine RL.p rfl (RL.p rfl (RL.fieldAddr fa_81_4 rfl rfl rfl rfl (RL.p rfl (RL.p rfl (RL.fieldAddr fa_81_3 rfl rfl rfl rfl (RL.load Tryz.isAgg78 rfl rfl rfl rfl (Rd.get (by repeat (first | exact List.Mem.head _ | apply List.Mem.tail)) (rc_q B hk)) ?_))))))
      refine RL.p rfl ?_
      refine RL.fork ⟨?_, ?_, trivial⟩
      ·
        refine RL.load Tryz.isAgg3 rfl rfl rfl rfl (Rd.get (by repeat (first | exact List.Mem.head _ | apply List.Mem.tail)) (rc_bad B hk)) ?_
        refine RL.callq (qtake_any B.q B.r z.c (iv : Int) (fun x hx => hz.c x hx) (by omega)) Tryz.call48 rfl rfl rfl rfl rfl (.inr rfl) ?_
        rintro _ _ _ ⟨ob, cp, T, c', hT, rfl, rfl, rfl⟩
        have hTl := hT.lenT
        refine RL.lenS Tryz.runUnderlying100 rfl rfl rfl rfl (RL.bx rfl (wrapV_i64 (by omega) (by omega)) ?_)
        refine RL.p rfl (RL.fieldAddr fa_81_4 rfl rfl rfl rfl (RL.storeX (vs := [_]) (set_bad' B hk (n := z.bad + T.length) (by omega)) Tryz.sizeOf3 rfl rfl rfl rfl rfl rfl rfl rfl (by repeat (first | exact Upd.here | apply Upd.there)) (by rw [rc_len B hk]; show 0 + 38 + 1 ≤ 41; decide) ?_))
        refine RL.nil ?_
        exact NQ.midG (T, c') hT (.cons rfl (.cons rfl (.cons rfl .nil))) (fun w h => h.rea (fun _ h => h) (by repeat (first | exact Rea.nil | (apply Rea.cons; (solve | (repeat (first | exact Del.here | apply Del.there)))))))
      ·
        refine RL.callq (qtake_any B.q B.r z.c (iv : Int) (fun x hx => hz.c x hx) (by omega)) Tryz.call48 rfl rfl rfl rfl rfl (.inr rfl) ?_
        rintro _ _ _ ⟨ob, cp, T, c', hT, rfl, rfl, rfl⟩
        have hTl := hT.lenT
        refine RL.load Tryz.isAgg3 rfl rfl rfl rfl (Rd.get (by repeat (first | exact List.Mem.head _ | apply List.Mem.tail)) (rc_bad B hk)) ?_
        refine RL.lenS Tryz.runUnderlying100 rfl rfl rfl rfl (RL.bx rfl (wrapV_i64 (by omega) (by omega)) ?_)
        refine RL.p rfl (RL.fieldAddr fa_81_4 rfl rfl rfl rfl (RL.storeX (vs := [_]) (set_bad' B hk (n := z.bad + T.length) (by omega)) Tryz.sizeOf3 rfl rfl rfl rfl rfl rfl rfl rfl (by repeat (first | exact Upd.here | apply Upd.there)) (by rw [rc_len B hk]; show 0 + 38 + 1 ≤ 41; decide) ?_))
        refine RL.nil ?_
        exact NQ.midG (T, c') hT (.cons rfl (.cons rfl (.cons rfl .nil))) (fun w h => h.rea (fun _ h => h) (by repeat (first | exact Rea.nil | (apply Rea.cons; (solve | (repeat (first | exact Del.here | apply Del.there)))))))
    rintro ⟨T, c'⟩ hT
    dsimp only at hT ⊢
    refine CW.freezeP (A := [_]) (B := [_, _, _]) (.take (.leave (.leave (.leave .nil)))) rfl ?_
    refine CW.genI (fun J hJ => ?_)
    have rC : RdsN J ⟨b1, 0, none⟩ 32 (bytes key) := ⟨fun _ => Rds.allI (hJ (cel b1 (bytes key) 23) (by simp)), hk32⟩
    clear hJ
    have hb1 : (bytes z.k).length = 32 := by rw [List.length_map, hk]
    refine CW.seq (CW.regionD (Sq.of [0, 1, 2, 3, 4, 5, 6, 7, 8, 9]) [6, 9] [6, 9] [0, 1, 2, 3, 4, 5, 7, 8] mixed (by kernel_rfl) ?_)
    refine RL.p rfl (RL.p rfl (RL.p rfl (RL.loadSTq Tryz.isAgg23 Tryz.sizeOf23 rfl rfl rfl rfl ?_)))
    refine RL.p rfl (RL.fieldAddr fa_81_1 rfl rfl rfl rfl (RL.storeX (vs := [_]) (set_iv B { z with bad := z.bad + T.length } iv) Tryz.sizeOf24 rfl rfl rfl rfl rfl rfl rfl rfl (by repeat (first | exact Upd.here | apply Upd.there)) (by rw [rc_len B (z := { z with bad := z.bad + T.length }) hk]; show 0 + 4 + 1 ≤ 41; decide) ?_))
    refine RL.p rfl (RL.fieldAddr fa_81_2 rfl rfl rfl rfl (RL.storeSeg (vs := bytes key) [.int .i64 B.s.st, .int .i64 B.s.ln, .int .i64 B.s.lg, .int .i64 B.s.of, .int .u32 (iv : Int)] (bytes z.k) [.pointer (some ⟨B.q, 0, none⟩), .int .i64 ((z.bad + T.length : Nat) : Int), .int .i64 (z.rel : Int), .map (some B.mt)] Tryz.sizeOf23 rfl rfl rfl rfl rfl rfl rfl (ones_map one8 _) rfl rfl rfl hb1 hk32 (by repeat (first | exact Upd.here | apply Upd.there)) ?_))
    refine RL.nil (NQ.seq (CW.ok [] rfl (CW.seq (CW.rg (RL.p rfl (RL.nil (NQ.seq (CW.ret ?_))))))))
    exact RQ.post (res1 rfl rfl) (.keep (.keep (.keep .nil))) ⟨0, _, .yes h1' hT, rfl, rfl, rfl⟩
theorem twaits_any (B : RBk) (z : RSt) (hz : z.Ok) : Spc Tryz.prog 28 #[.pointer (some ⟨B.b, 0, none⟩)] [recI B z] [bufI B.q B.r, mapQ B.r z.c]
    (fun v I' H' => ∃ ob cap, v = slO ob z.c.length cap ∧ I' = [] ∧ H' = [own ob cap 117 2 z.c.length ((plsQ z.c).flatMap plcq), mapQ B.r z.c, bufI B.q B.r]) := by
  have hk := hz.k
  have hcl := hz.l
  refine Spc.enter Tryz.func28 rfl rfl rfl (fun w0 hw0 => ?_)
  refine CW.seq (CW.rg (RL.p rfl (RL.nil (NQ.seq (CW.seq (CW.seq (CW.rg (RL.p rfl (RL.callv (tis_yes B z hk) Tryz.call42 rfl rfl rfl rfl (Lend.inI (by repeat (first | exact List.Mem.head _ | apply List.Mem.tail)) .nil) ?_)))))))))
  refine RL.p rfl (RL.nil (NQ.seq (CW.condF rfl (rfl) (CW.skip (NQ.seq (CW.seq (CW.region (ef := [4]) (bk := [4]) (RL.p rfl (RL.p rfl (RL.fieldAddr fa_81_3 rfl rfl rfl rfl (RL.load Tryz.isAgg78 rfl rfl rfl rfl (Rd.getI (by repeat (first | exact List.Mem.head _ | apply List.Mem.tail)) (rc_q B hk)) ?_)))))))))))
  refine RL.call (places_any B.q B.r z.c (by omega)) Tryz.call58 rfl rfl rfl rfl rfl (by repeat (first | exact Pick.nil | apply Pick.take | apply Pick.leave)) .nil (.inr rfl) ?_
  rintro _ _ _ ⟨ob, cap, rfl, rfl, rfl⟩
  refine RL.p rfl (RL.nil (NQ.seq (CW.ok [2] rfl (CW.ret ?_))))
  exact RQ.post (res1 rfl rfl) (.keep (.keep (.keep .nil))) ⟨ob, cap, rfl, rfl, rfl⟩
end Go.Proofs.YtbdnebedmdoehaaGreat
