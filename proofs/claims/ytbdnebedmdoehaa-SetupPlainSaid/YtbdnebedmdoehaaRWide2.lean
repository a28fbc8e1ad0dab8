import Derived.Test.YtbdnebedmdoehaaRWide
import Derived.Test.YtbdnebedmdoehaaPE
namespace Go.Proofs.Ytbdnebedmdoehaa
open Go.PK
def sw (z : Int) : Int := (z + 170141183460469231731687303715884105728) % 340282366920938463463374607431768211456 - 170141183460469231731687303715884105728
theorem sw_bd (z : Int) : -170141183460469231731687303715884105728 ≤ sw z ∧ sw z < 170141183460469231731687303715884105728 := by unfold sw; omega
theorem sw_id {z : Int} (h : -170141183460469231731687303715884105728 ≤ z ∧ z < 170141183460469231731687303715884105728) : sw z = z := by unfold sw; omega
theorem zbits_add : ∀ (n : Nat) (z q : Int), zbits n (z + 2 ^ n * q) = zbits n z
  | 0, _, _ => rfl
  | n + 1, z, q => by
    have h : (2 : Int) ^ (n + 1) * q = 2 * (2 ^ n * q) := by rw [Int.pow_succ, Int.mul_comm (2 ^ n) 2, Int.mul_assoc]
    rw [zbits, zbits, h]
    have ih := zbits_add n (z / 2) q
    generalize (2 : Int) ^ n * q = t at *
    rw [show (z + 2 * t) % 2 = z % 2 by omega, show (z + 2 * t) / 2 = z / 2 + t by omega, ih]
theorem zbits_sw (z : Int) : zbits 128 (sw z) = zbits 128 z := by
  have h : sw z = z + 2 ^ 128 * (-((z + 170141183460469231731687303715884105728) / 340282366920938463463374607431768211456)) := by
    rw [show (2 : Int) ^ 128 = 340282366920938463463374607431768211456 by decide]
    unfold sw; omega
  rw [h, zbits_add]
theorem radd_w (a b : Int) (ha : -170141183460469231731687303715884105728 ≤ a ∧ a < 170141183460469231731687303715884105728) (hb : -170141183460469231731687303715884105728 ≤ b ∧ b < 170141183460469231731687303715884105728) :
    Spc Try.prog 112 #[W a, W b] [] [] (Is (W (sw (a + b)))) := by
  have hsw := sw_bd (a + b)
  refine Spc.enter Try.func112 rfl rfl rfl (fun w0 hw0 => ?_)
  refine CW.seq (CW.region (ef := [0, 1, 2]) (bk := []) (RL.box rfl rfl rfl rfl rfl rfl ?_))
  intro b1
  refine RL.box rfl rfl rfl rfl rfl rfl ?_
  intro b2
  refine RL.alloc Try.zeroValue202 rfl rfl rfl rfl rfl ?_
  intro b3
  refine RL.nil (NQ.seq (CW.seq (CW.freezeP (A := [_, _]) (B := [_]) (.leave (.take (.take .nil))) rfl ?_)))
  refine CW.cutG (γ := Option Nat × Nat × Option Nat × Nat) (fun g => g.1.isSome = true ∧ g.2.2.1.isSome = true) (fun g => [(4, .pointer (some ⟨b3, 0, none⟩)), (5, slO g.1 128 g.2.1), (6, slO g.2.2.1 128 g.2.2.2)]) (fun _ => [])
    (fun g => [own g.1 g.2.1 3 1 128 (ints (zbits 128 a)), own g.2.2.1 g.2.2.2 3 1 128 (ints (zbits 128 b)), cel b3 [.int .i64 0, .int .u64 0] 202]) ?_ ?_
  ·
    refine CW.regionD (Sq.of [0, 2, 1, 3, 4, 5]) [1, 3] [] [0, 2, 4, 5] mixed (by kernel_rfl) ?_
    refine RL.loadNT (vs := [_, _]) Try.isAgg202 Try.sizeOf202 rfl rfl rfl rfl (by first | (apply Rds.cel; (solve | (repeat (first | exact List.Mem.head _ | apply List.Mem.tail))); exact at_spec ⟨rfl, rfl, trivial⟩) | (apply Rds.celI; (solve | (repeat (first | exact List.Mem.head _ | apply List.Mem.tail))); exact at_spec ⟨rfl, rfl, trivial⟩) | assumption | (apply RdsI.rds; assumption)) ?_
    refine RL.loadNT (vs := [_, _]) Try.isAgg202 Try.sizeOf202 rfl rfl rfl rfl (by first | (apply Rds.cel; (solve | (repeat (first | exact List.Mem.head _ | apply List.Mem.tail))); exact at_spec ⟨rfl, rfl, trivial⟩) | (apply Rds.celI; (solve | (repeat (first | exact List.Mem.head _ | apply List.Mem.tail))); exact at_spec ⟨rfl, rfl, trivial⟩) | assumption | (apply RdsI.rds; assumption)) ?_
    refine RL.callq (digits_any a ha) Try.call111 rfl rfl rfl rfl rfl (.inl rfl) ?_
    rintro _ _ _ ⟨ob1, cap1, rfl, rfl, rfl, ho1⟩
    refine RL.callq (digits_any b hb) Try.call111 rfl rfl rfl rfl rfl (.inl rfl) ?_
    rintro _ _ _ ⟨ob2, cap2, rfl, rfl, rfl, ho2⟩
    refine RL.p rfl (RL.p rfl (RL.nil ?_))
    exact NQ.midG (ob1, cap1, ob2, cap2) ⟨by simpa using ho1, by simpa using ho2⟩ (.cons rfl (.cons rfl (.cons rfl .nil))) (fun w h => h.rea (fun _ h => by simp at h) (by repeat (first | exact Rea.nil | (apply Rea.cons; (solve | (repeat (first | exact Del.here | apply Del.there)))))))
  rintro ⟨x, cx, y, cz⟩ ⟨hx, hy⟩
  dsimp only at hx hy ⊢
  obtain ⟨bx, rfl⟩ := Option.isSome_iff_exists.1 hx
  obtain ⟨bY, rfl⟩ := Option.isSome_iff_exists.1 hy
  have hga0 : ∀ i, i < 128 → (zbits 128 a)[i]? = some (a / 2 ^ i % 2) := fun i h => zbits_get h
  have hgb0 : ∀ i, i < 128 → (zbits 128 b)[i]? = some (b / 2 ^ i % 2) := fun i h => zbits_get h
  generalize zbits 128 a = xa at hga0 ⊢
  generalize zbits 128 b = xb at hgb0 ⊢
  refine CW.seq (CW.region (ef := [0]) (bk := []) (RL.buildOwn [] Try.runUnderlying22 Try.sizeOf3 Try.zeroValue3 rfl rfl (by decide) (by decide) rfl (by decide) rfl rfl rfl rfl rfl rfl ?_))
  intro b4
  refine RL.p rfl (RL.nil (NQ.seq (CW.seq (CW.rg (RL.p rfl (RL.nil (NQ.seq (CW.seq (CW.seq (CW.rg (RL.p rfl (RL.nil (NQ.seq ?_)))))))))))))
  refine CW.block ?_
  refine CW.loop (γ := Nat × Option Nat × Nat) (fun g => g.1 ≤ 128 ∧ (g.1 = 0 ∨ g.2.1.isSome = true)) (fun g => [(4, .pointer (some ⟨b3, 0, none⟩)), (5, slO (some bx) 128 cx), (6, slO (some bY) 128 cz), (7, slO g.2.1 g.1 g.2.2), (8, .int .i64 (cy a b g.1)), (9, .int .i64 (g.1 : Int))]) (fun _ => [])
    (fun g => [own g.2.1 g.2.2 3 1 g.1 (ints (zbits g.1 (a + b))), own (some bx) cx 3 1 128 (ints xa), own (some bY) cz 3 1 128 (ints xb), cel b3 [.int .i64 0, .int .u64 0] 202]) (fun g => 128 - g.1) (0, some b4, 0) ⟨by simp, .inl rfl⟩
    (.cons rfl (.cons rfl (.cons rfl (.cons rfl (.cons (by rw [show cy a b 0 = 0 by simp [cy]; omega]; rfl) (.cons rfl .nil)))))) (fun w h => h.rea (fun _ h => h) (by repeat (first | exact Rea.nil | (apply Rea.cons; (solve | (repeat (first | exact Del.here | apply Del.there))))))) ?_
  rintro ⟨i, ob, cp⟩ ⟨hi, hs⟩
  dsimp only at hi hs ⊢
  refine CW.seq (CW.seq (CW.rg (RL.p rfl (RL.p rfl (RL.nil (NQ.seq ?_))))))
  refine CW.cond rfl (fun hlt => ?_) (fun hlt => ?_)
  ·
    have hlt : i < 128 := by simp at hlt; omega
    have hga := hga0 i hlt
    have hgb := hgb0 i hlt
    have hc := cy_bd a b i
    have h1 := bit_bd a i
    have h2 := bit_bd b i
    have h3 := bit_bd (a + b) i
    have hst := cy_step a b i
    have hr : Value.int .i64 ((a / 2 ^ i % 2 + b / 2 ^ i % 2 + cy a b i).tmod 2) = .int .i64 ((a + b) / 2 ^ i % 2) := by rw [tmod2 (by omega), hst.1]
    have hq : Value.int .i64 (IntKind.i64.wrap ((a / 2 ^ i % 2 + b / 2 ^ i % 2 + cy a b i).tdiv 2)) = .int .i64 (cy a b (i + 1)) := by
      have := cy_bd a b (i + 1)
      rw [tdiv2 (by omega), hst.2, i64_in' (by omega)]
    refine CW.skip (NQ.seq (CW.seq (CW.block (CW.seq (CW.regionD (Sq.of [0, 1, 2, 3, 4, 5, 6, 7, 8, 9, 10, 11]) [] [] [0, 1, 2, 4, 5, 6, 8, 9, 10, 11] mixed (by kernel_rfl) ?_)))))
    refine RL.p rfl (RL.p rfl (RL.idx (j := i) Try.runUnderlying22 Try.sizeOf3 rfl rfl rfl rfl rfl rfl hlt (RL.load Try.isAgg3 rfl rfl rfl rfl (Rd.getO (List.Mem.tail _ (List.Mem.head _)) (ints_get hga)) (RL.p rfl (RL.p rfl (RL.idx (j := i) Try.runUnderlying22 Try.sizeOf3 rfl rfl rfl rfl rfl rfl hlt (RL.load Try.isAgg3 rfl rfl rfl rfl (Rd.getO (List.Mem.tail _ (List.Mem.tail _ (List.Mem.head _))) (ints_get hgb)) (RL.bx rfl (wrapV_i64 (by omega) (by omega)) ?_))))))))
    refine RL.p rfl (RL.bx rfl (wrapV_i64 (by omega) (by omega)) ?_)
    refine RL.p rfl (RL.nil (NQ.seq (CW.ok [4, 5, 6, 7, 9, 10] rfl (CW.seq (CW.region (ef := [3, 4]) (bk := [4]) (RL.p rfl (RL.p rfl (RL.remX rfl rfl rfl rfl rfl (by decide) hr ?_))))))))
    refine RL.buildOwn [_] Try.runUnderlying22 Try.sizeOf3 Try.zeroValue3 rfl rfl (by decide) (by decide) rfl (by decide) rfl rfl rfl rfl rfl rfl ?_
    intro b5
    refine RL.appendq el_22 rfl rfl rfl rfl rfl rfl rfl ?_ (hs := by first | exact Src.ownS (List.Mem.head _) | exact Src.own (List.Mem.head _))
    intro ob1 cap1 ho1
    refine RL.p rfl (RL.nil (NQ.seq (CW.rg (RL.p rfl (RL.quoX rfl rfl rfl rfl rfl (by decide) hq ?_)))))
    refine RL.p rfl (RL.nil (NQ.block (NQ.seq (CW.ok [4, 5, 6, 7, 8, 9] rfl (CW.rg (RL.p rfl (RL.bx rfl (wrapV_i64 (by omega) (by omega)) ?_)))))))
    refine RL.p rfl (RL.nil ?_)
    refine NQ.round (g := (i, ob, cp)) (i + 1, ob1, cap1) ⟨hlt, by simpa using ho1⟩ (by show 128 - (i + 1) < 128 - i; omega) (.cons rfl (.cons rfl (.cons rfl (.cons rfl (.cons rfl (.cons rfl .nil)))))) (fun w h => ?_)
    dsimp only
    rw [zbits_snoc, ints_snoc]
    exact h.rea (fun _ h => h) (by repeat (first | exact Rea.nil | (apply Rea.cons; (solve | (repeat (first | exact Del.here | apply Del.there))))))
  ·
    have hin : i = 128 := by simp at hlt; omega
    subst hin
    rw [← zbits_sw (a + b)]
    refine CW.exit (XQ.seq (XQ.seq (XQ.hit (NQ.seq (CW.ok [4, 7] rfl (CW.seq (CW.region (ef := [2]) (bk := [2]) (RL.p rfl (RL.callv (number_any (ob.map fun b => ⟨b, 0, none⟩) cp (sw (a + b)) hsw) Try.call138 rfl rfl rfl rfl (Lend.own (by repeat (first | exact List.Mem.head _ | apply List.Mem.tail)) .nil) ?_)))))))))
    refine RL.store (vs := [_, _]) Try.sizeOf202 rfl rfl rfl rfl rfl rfl rfl rfl rfl (by repeat (first | exact Upd.here | apply Upd.there)) ?_
    refine RL.nil (NQ.seq (CW.ret ?_))
    exact RQ.post (resW (vs := [.int .i64 (sw (a + b) / 18446744073709551616), .int .u64 (sw (a + b) % 18446744073709551616)]) rfl rfl Try.isAgg202 Try.sizeOf202 (List.Mem.tail _ (List.Mem.tail _ (List.Mem.tail _ (List.Mem.head _)))) rfl) (Split.none _) ⟨rfl, rfl, rfl⟩
theorem radd_any (a b : Int) (ha : -170141183460469231731687303715884105728 ≤ a ∧ a < 170141183460469231731687303715884105728) (hb : -170141183460469231731687303715884105728 ≤ b ∧ b < 170141183460469231731687303715884105728) (hab : -170141183460469231731687303715884105728 ≤ a + b ∧ a + b < 170141183460469231731687303715884105728) :
    Spc Try.prog 112 #[W a, W b] [] [] (Is (W (a + b))) := by
  have := radd_w a b ha hb
  rwa [sw_id hab] at this
theorem rof_any (n : Int) (h : -9223372036854775808 ≤ n ∧ n ≤ 9223372036854775807) : Spc Try.prog 110 #[.int .i64 n] [] [] (Is (W n)) := by
  refine Spc.enter Try.func110 rfl rfl rfl (fun w0 hw0 => ?_)
  refine CW.seq (CW.region (ef := [0]) (bk := []) (RL.alloc Try.zeroValue202 rfl rfl rfl rfl rfl ?_))
  intro b1
  refine RL.nil (NQ.seq (CW.seq (CW.seq (CW.rg (RL.p rfl (RL.p rfl (RL.nil (NQ.seq ?_))))))))
  refine CW.cond rfl (fun hn => ?_) (fun hn => ?_)
  ·
    refine CW.seq (CW.region (ef := [3]) (bk := [3]) (RL.p rfl (RL.conv Try.runUnderlying2 Try.runUnderlying31 rfl rfl rfl rfl (RL.buildS [_, _] Try.zeroValue202 pl_202 rfl rfl rfl rfl rfl (RL.store (vs := [_, _]) Try.sizeOf202 rfl rfl rfl rfl rfl rfl rfl rfl rfl (by repeat (first | exact Upd.here | apply Upd.there)) ?_)))))
    refine RL.nil (NQ.seq (CW.ret (RQ.seq ?_)))
    refine RQ.post (resC rfl rfl Try.isAgg202 (vs := [_, _]) Try.sizeOf202 (Rds.cel (List.Mem.head _) (at_spec ⟨rfl, rfl, trivial⟩))) (Split.none _) ⟨?_, rfl, rfl⟩
    simp only [decide_eq_true_eq] at hn
    rw [W, IntKind.wrap_u64, show n / 18446744073709551616 = -1 by omega]
  ·
    refine CW.skip (NQ.seq (CW.seq (CW.region (ef := [3]) (bk := [3]) (RL.p rfl (RL.conv Try.runUnderlying2 Try.runUnderlying31 rfl rfl rfl rfl (RL.buildS [_, _] Try.zeroValue202 pl_202 rfl rfl rfl rfl rfl (RL.store (vs := [_, _]) Try.sizeOf202 rfl rfl rfl rfl rfl rfl rfl rfl rfl (by repeat (first | exact Upd.here | apply Upd.there)) ?_)))))))
    refine RL.nil (NQ.seq (CW.ok [2] rfl (CW.ret ?_)))
    refine RQ.post (resC rfl rfl Try.isAgg202 (vs := [_, _]) Try.sizeOf202 (Rds.cel (List.Mem.head _) (at_spec ⟨rfl, rfl, trivial⟩))) (Split.none _) ⟨?_, rfl, rfl⟩
    simp only [decide_eq_false_iff_not] at hn
    rw [W, IntKind.wrap_u64, show n / 18446744073709551616 = 0 by omega]
theorem rless_any (a b : Int) : Spc Try.prog 109 #[W a, W b] [] [] (Is (.bool (decide (a < b)))) := by
  unfold W
  refine Spc.enter Try.func109 rfl rfl rfl (fun w0 hw0 => ?_)
  refine CW.seq (CW.region (ef := [0, 1]) (bk := []) (RL.box rfl rfl rfl rfl rfl rfl ?_))
  intro b1
  refine RL.box rfl rfl rfl rfl rfl rfl ?_
  intro b2
  refine RL.p rfl (RL.nil (NQ.seq (CW.seq (CW.rg (RL.fieldAddr fa_202_0 rfl rfl rfl rfl (RL.loadq Try.isAgg2 rfl rfl rfl rfl ?_))))))
  refine RL.fieldAddr fa_202_0 rfl rfl rfl rfl (RL.loadq Try.isAgg2 rfl rfl rfl rfl ?_)
  refine RL.p rfl (RL.p rfl ?_)
  apply RL.orB (d := 10) (dp := 23) (l' := (Sq.of [19])) rfl (sK [4] rfl)
  ·
    intro hb6 K6
    refine RL.fieldAddr fa_202_0 rfl rfl rfl rfl (RL.loadq Try.isAgg2 rfl rfl rfl rfl ?_)
    refine RL.fieldAddr fa_202_0 rfl rfl rfl rfl (RL.loadq Try.isAgg2 rfl rfl rfl rfl ?_)
    refine RL.p rfl (RL.p rfl ?_)
    apply RL.andB (d := 16) (dp := 22) (l' := (Sq.of [18, 19])) rfl (sK [4, 10] rfl)
    ·
      intro hb12 K12
      refine RL.fieldAddr fa_202_1 rfl rfl rfl rfl (RL.loadq Try.isAgg31 rfl rfl rfl rfl ?_)
      refine RL.fieldAddr fa_202_1 rfl rfl rfl rfl (RL.loadq Try.isAgg31 rfl rfl rfl rfl ?_)
      refine RL.p rfl (RL.p rfl ?_)
      exact K12 _ (.cons rfl (sK [4, 10] rfl))
    ·
      intro hb12 K12
      refine RL.p rfl (RL.p rfl (RL.p rfl (RL.p rfl (RL.p rfl (RL.p rfl ?_)))))
      exact K12 _ (.cons rfl (sK [4, 10] rfl))
    refine RL.p rfl ?_
    exact K6 _ (.cons rfl (sK [4] rfl))
  ·
    intro hb6 K6
    refine RL.p rfl (RL.p rfl (RL.p rfl (RL.p rfl (RL.p rfl (RL.p rfl (RL.p rfl (RL.p rfl (RL.p rfl (RL.p rfl (RL.p rfl (RL.p rfl (RL.p rfl ?_))))))))))))
    exact K6 _ (.cons rfl (sK [4] rfl))
  refine RL.p rfl (RL.nil (NQ.seq (CW.ret ?_)))
  refine RQ.post (res1 rfl rfl) (Split.none _) ⟨?_, rfl, rfl⟩
  congr 1
  rw [Bool.eq_iff_iff]
  simp
  omega
theorem rwclip_any (z : Int) (h : -170141183460469231731687303715884105728 ≤ z ∧ z < 170141183460469231731687303715884105728) : Spc Try.prog 84 #[W z] [] [] (Is (.tuple #[.int .i64 (clip z), .bool (cut z)])) := by
  refine Spc.enter Try.func84 rfl rfl rfl (fun w0 hw0 => ?_)
  refine CW.seq (CW.region (ef := [0]) (bk := []) (RL.box rfl rfl rfl rfl rfl rfl ?_))
  intro b1
  refine RL.p rfl (RL.p rfl (RL.nil (NQ.seq (CW.seq (CW.seq (CW.freezeP (A := [_]) (B := []) (.take .nil) rfl (CW.regionD (Sq.of [0, 1, 2]) [] [] [0, 1, 2] mixed (by kernel_rfl) ?_)))))))
  refine RL.loadNT (vs := [_, _]) Try.isAgg202 Try.sizeOf202 rfl rfl rfl rfl (by first | (apply Rds.cel; (solve | (repeat (first | exact List.Mem.head _ | apply List.Mem.tail))); exact at_spec ⟨rfl, rfl, trivial⟩) | (apply Rds.celI; (solve | (repeat (first | exact List.Mem.head _ | apply List.Mem.tail))); exact at_spec ⟨rfl, rfl, trivial⟩) | assumption | (apply RdsI.rds; assumption)) ?_
  refine RL.callTq (rof_any _ (by decide)) Try.call110 rfl rfl rfl rfl ?_
  refine RL.callTq (rless_any _ _) Try.call109 rfl rfl rfl rfl ?_
  refine RL.nil (NQ.seq ?_)
  refine CW.cond rfl (fun h1 => ?_) (fun h1 => ?_)
  ·
    refine CW.seq (CW.rg (RL.p rfl (RL.p rfl (RL.nil (NQ.seq (CW.ret (RQ.seq ?_)))))))
    refine RQ.post (res2 rfl rfl rfl) (Split.none _) ⟨?_, rfl, rfl⟩
    simp only [decide_eq_true_eq] at h1
    rw [clip, if_pos h1, cut]; simp [h1]
  ·
    refine CW.skip (NQ.seq (CW.ok [1] rfl (CW.seq (CW.seq (CW.regionD (Sq.of [0, 1, 2]) [] [] [0, 1, 2] mixed (by kernel_rfl) ?_)))))
    refine RL.callTq (rof_any _ (by decide)) Try.call110 rfl rfl rfl rfl ?_
    refine RL.loadNT (vs := [_, _]) Try.isAgg202 Try.sizeOf202 rfl rfl rfl rfl (by first | (apply Rds.cel; (solve | (repeat (first | exact List.Mem.head _ | apply List.Mem.tail))); exact at_spec ⟨rfl, rfl, trivial⟩) | (apply Rds.celI; (solve | (repeat (first | exact List.Mem.head _ | apply List.Mem.tail))); exact at_spec ⟨rfl, rfl, trivial⟩) | assumption | (apply RdsI.rds; assumption)) ?_
    refine RL.callTq (rless_any _ _) Try.call109 rfl rfl rfl rfl ?_
    refine RL.nil (NQ.seq ?_)
    simp only [decide_eq_false_iff_not] at h1
    refine CW.cond rfl (fun h2 => ?_) (fun h2 => ?_)
    ·
      refine CW.seq (CW.rg (RL.p rfl (RL.p rfl (RL.nil (NQ.seq (CW.ret (RQ.seq ?_)))))))
      refine RQ.post (res2 rfl rfl rfl) (Split.none _) ⟨?_, rfl, rfl⟩
      simp only [decide_eq_true_eq] at h2
      rw [clip, if_neg h1, if_pos h2, cut]; simp [h2]
    ·
      refine CW.skip (NQ.seq (CW.seq (CW.rg (RL.fieldAddr fa_202_1 rfl rfl rfl rfl (RL.loadq Try.isAgg31 rfl rfl rfl rfl ?_)))))
      refine RL.conv Try.runUnderlying31 Try.runUnderlying2 rfl rfl rfl rfl (RL.p rfl (RL.p rfl (RL.nil (NQ.seq (CW.ok [2, 3] rfl (CW.ret ?_))))))
      simp only [decide_eq_false_iff_not] at h2
      refine RQ.post (res2 rfl rfl rfl) (Split.none _) ⟨?_, rfl, rfl⟩
      have : IntKind.i64.wrap (z % 18446744073709551616) = z := by rw [IntKind.wrap_i64]; omega
      rw [clip, if_neg h1, if_neg h2, cut, this]; simp; omega
theorem rclip_any (z : Int) (h : -170141183460469231731687303715884105728 ≤ z ∧ z < 170141183460469231731687303715884105728) : Spc Try.prog 114 #[W z] [] [] (Is (.tuple #[.int .i64 (clip z), .bool (cut z)])) := by
  refine Spc.enter Try.func114 rfl rfl rfl (fun w0 hw0 => ?_)
  refine CW.seq (CW.region (ef := [0]) (bk := []) (RL.box rfl rfl rfl rfl rfl rfl ?_))
  intro b1
  refine RL.p rfl (RL.p rfl (RL.nil (NQ.seq (CW.seq (CW.rg (RL.loadN (vs := [_, _]) Try.isAgg202 Try.sizeOf202 rfl rfl rfl rfl (by first | (apply Rds.cel; (solve | (repeat (first | exact List.Mem.head _ | apply List.Mem.tail))); exact at_spec ⟨rfl, rfl, trivial⟩) | (apply Rds.celI; (solve | (repeat (first | exact List.Mem.head _ | apply List.Mem.tail))); exact at_spec ⟨rfl, rfl, trivial⟩) | assumption | (apply RdsI.rds; assumption)) ?_))))))
  refine RL.callvq (rwclip_any z h) Try.call84 rfl rfl rfl rfl ?_
  refine RL.p rfl (RL.p rfl (RL.p rfl (RL.p rfl (RL.p rfl (RL.nil (NQ.seq (CW.ok [4, 5] rfl (CW.seq (CW.rg (RL.p rfl (RL.p rfl (RL.p rfl (RL.p rfl ?_)))))))))))))
  refine RL.nil (NQ.seq (CW.ret ?_))
  exact RQ.post (res2 rfl rfl rfl) (Split.none _) ⟨rfl, rfl, rfl⟩
theorem rsum_any (p : Option Addr) (l : List Int) (cap : Nat) (hl : l.length ≤ 9223372036854775807) (hb : ∀ a ∈ l, -9223372036854775808 ≤ a ∧ a ≤ 9223372036854775807) :
    Spc Try.prog 86 #[.slice p l.length cap] [sls p 1 l.length (ints l)] [] (Is (.tuple #[.int .i64 (clip (isum l)), .bool (cut (isum l))])) := by
  refine Spc.enter Try.func86 rfl rfl rfl (fun w0 hw0 => ?_)
  refine CW.seq (CW.rg (RL.p rfl (RL.p rfl (RL.nil (NQ.seq (CW.seq (CW.region (ef := [1, 2]) (bk := [2]) (RL.buildS _ Try.zeroValue202 pl_202 rfl rfl rfl rfl rfl (RL.alloc Try.zeroValue202 rfl rfl rfl rfl rfl ?_)))))))))
  intro b1
  refine RL.store (vs := [_, _]) Try.sizeOf202 rfl rfl rfl rfl rfl rfl rfl rfl rfl (by repeat (first | exact Upd.here | apply Upd.there)) ?_
  refine RL.nil (NQ.seq (CW.seq (CW.seq (CW.rg (RL.p rfl (RL.nil (NQ.seq (CW.block ?_))))))))
  refine CW.fact (p := p = none → l.length = 0) (fun w hw hp => sls_nil (hw.s.i _ (List.Mem.head _)) hp) (fun hp => ?_)
  refine CW.loop (γ := Nat) (fun k => k ≤ l.length) (fun k => [(0, .slice p l.length cap), (4, .pointer (some ⟨b1, 0, none⟩)), (5, .int .i64 k)]) (fun _ => [sls p 1 l.length (ints l)])
    (fun k => [cel b1 [.int .i64 (isum (l.take k) / 18446744073709551616), .int .u64 (isum (l.take k) % 18446744073709551616)] 202]) (fun k => l.length - k) 0 (by omega) (.cons rfl (.cons rfl (.cons rfl .nil))) (fun _ h => h) (fun k hk => ?_)
  refine CW.seq (CW.seq (CW.rg (RL.p rfl (RL.p rfl (RL.lenS Try.runUnderlying205 rfl rfl rfl rfl (RL.p rfl (RL.nil (NQ.seq ?_))))))))
  refine CW.cond rfl (fun hc => ?_) (fun hc => ?_)
  ·
    have hlt : k < l.length := by simpa using hc
    obtain ⟨a, rfl⟩ : ∃ a, p = some a := by
      cases p with
      | none => have := hp rfl; omega
      | some a => exact ⟨a, rfl⟩
    have hb1 := isum_bd (l.take k) (fun a ha => hb a (List.mem_of_mem_take ha))
    have hb2 := hb l[k] (List.getElem_mem _)
    rw [List.length_take, Nat.min_eq_left hk] at hb1
    have hs : isum (l.take (k + 1)) = isum (l.take k) + l[k] := by rw [List.take_succ_eq_append_getElem hlt, isum_snoc]
    have hg : l[k]? = some l[k] := List.getElem?_eq_getElem hlt
    refine CW.skip (NQ.seq (CW.seq (CW.block (CW.regionD (Sq.of [0, 1, 2, 3, 4, 5, 6, 7]) [7] [7] [1, 2, 3] mixed (by kernel_rfl) ?_))))
    refine RL.loadN (vs := [_, _]) Try.isAgg202 Try.sizeOf202 rfl rfl rfl rfl (by first | (apply Rds.cel; (solve | (repeat (first | exact List.Mem.head _ | apply List.Mem.tail))); exact at_spec ⟨rfl, rfl, trivial⟩) | (apply Rds.celI; (solve | (repeat (first | exact List.Mem.head _ | apply List.Mem.tail))); exact at_spec ⟨rfl, rfl, trivial⟩) | assumption | (apply RdsI.rds; assumption)) ?_
    refine RL.p rfl (RL.p rfl (RL.idx (j := k) Try.runUnderlying205 Try.sizeOf24 rfl rfl rfl rfl rfl rfl hlt (RL.load Try.isAgg24 rfl rfl rfl rfl (Rd.getS (List.Mem.head _) (ints_get hg)) (RL.callvq (rof_any l[k] hb2) Try.call110 rfl rfl rfl rfl ?_))))
    refine RL.callvq (radd_any (isum (l.take k)) l[k] (by omega) (by omega) (by omega)) Try.call112 rfl rfl rfl rfl ?_
    refine RL.store (vs := [_, _]) Try.sizeOf202 rfl rfl rfl rfl rfl rfl rfl rfl rfl (by repeat (first | exact Upd.here | apply Upd.there)) ?_
    refine RL.nil (NQ.block (NQ.seq (CW.ok [0, 4, 5] rfl (CW.rg (RL.p rfl (RL.bx rfl (wrapV_i64 (by omega) (by omega)) ?_))))))
    refine RL.p rfl (RL.nil ?_)
    refine NQ.round (k + 1) hlt (by omega) (.cons rfl (.cons rfl (.cons rfl .nil))) (fun w hw => by simp only [hs]; exact hw)
  ·
    have hge : k = l.length := by simp at hc; omega
    subst hge
    have hb1 := isum_bd l hb
    have hb2 : isum (l.take l.length) = isum l := by rw [List.take_length]
    rw [hb2]
    refine CW.exit (XQ.seq (XQ.seq (XQ.hit (NQ.seq (CW.ok [4] rfl (CW.seq (CW.rg (RL.loadN (vs := [_, _]) Try.isAgg202 Try.sizeOf202 rfl rfl rfl rfl (by first | (apply Rds.cel; (solve | (repeat (first | exact List.Mem.head _ | apply List.Mem.tail))); exact at_spec ⟨rfl, rfl, trivial⟩) | (apply Rds.celI; (solve | (repeat (first | exact List.Mem.head _ | apply List.Mem.tail))); exact at_spec ⟨rfl, rfl, trivial⟩) | assumption | (apply RdsI.rds; assumption)) ?_))))))))
    refine RL.callvq (rclip_any (isum l) (by omega)) Try.call114 rfl rfl rfl rfl ?_
    refine RL.p rfl (RL.p rfl (RL.p rfl (RL.p rfl (RL.nil (NQ.seq (CW.ret ?_))))))
    exact RQ.post (res2 rfl rfl rfl) (Split.none _) ⟨rfl, rfl, rfl⟩
end Go.Proofs.Ytbdnebedmdoehaa
