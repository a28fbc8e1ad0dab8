import Derived.Test.YtggmnhogmjglmaaRWide
import Derived.Test.YtggmnhogmjglmaaPkV
namespace Go.Proofs.Ytggmnhogmjglmaa
open Go.PK
theorem radd_any (a b : Int) (ha : -170141183460469231731687303715884105728 ≤ a ∧ a < 170141183460469231731687303715884105728) (hb : -170141183460469231731687303715884105728 ≤ b ∧ b < 170141183460469231731687303715884105728) (hab : -170141183460469231731687303715884105728 ≤ a + b ∧ a + b < 170141183460469231731687303715884105728) :
    Spc Try.prog 59 #[W a, W b] [] [] (Is (W (a + b))) := by
  refine Spc.enter Try.func59 rfl rfl rfl (fun w0 hw0 => ?_)
  refine CW.seq ?_
  refine CW.region (ef := [0, 1, 2]) (bk := []) ?_
  refine RL.box rfl rfl rfl rfl rfl rfl ?_
  intro b1
  refine RL.box rfl rfl rfl rfl rfl rfl ?_
  intro b2
  refine RL.alloc Try.zeroValue123 rfl rfl rfl rfl rfl ?_
  intro b3
  refine RL.nil ?_
  refine NQ.seq ?_
  refine CW.seq ?_
  refine CW.freezeP (A := [_, _]) (B := [_]) (.leave (.take (.take .nil))) rfl ?_
  refine CW.cutG (γ := Option Nat × Nat × Option Nat × Nat) (fun g => g.1.isSome = true ∧ g.2.2.1.isSome = true) (fun g => [(4, .pointer (some ⟨b3, 0, none⟩)), (5, slO g.1 128 g.2.1), (6, slO g.2.2.1 128 g.2.2.2)]) (fun _ => [])
    (fun g => [own g.1 g.2.1 3 1 128 (ints (zbits 128 a)), own g.2.2.1 g.2.2.2 3 1 128 (ints (zbits 128 b)), cel b3 [.int .i64 0, .int .u64 0] 123]) ?_ ?_
  ·
    refine CW.regionD (Sq.of [0, 2, 1, 3, 4, 5]) [1, 3] [] [0, 2, 4, 5] mixed (by kernel_rfl) ?_
    refine RL.loadNT (vs := [_, _]) Try.isAgg123 Try.sizeOf123 rfl rfl rfl rfl (by first | (apply Rds.cel; (solve | (repeat (first | exact List.Mem.head _ | apply List.Mem.tail))); exact at_spec ⟨rfl, rfl, trivial⟩) | (apply Rds.celI; (solve | (repeat (first | exact List.Mem.head _ | apply List.Mem.tail))); exact at_spec ⟨rfl, rfl, trivial⟩) | assumption | (apply RdsI.rds; assumption)) ?_
    refine RL.loadNT (vs := [_, _]) Try.isAgg123 Try.sizeOf123 rfl rfl rfl rfl (by first | (apply Rds.cel; (solve | (repeat (first | exact List.Mem.head _ | apply List.Mem.tail))); exact at_spec ⟨rfl, rfl, trivial⟩) | (apply Rds.celI; (solve | (repeat (first | exact List.Mem.head _ | apply List.Mem.tail))); exact at_spec ⟨rfl, rfl, trivial⟩) | assumption | (apply RdsI.rds; assumption)) ?_
    refine RL.callq (digits_any a ha) Try.call78 rfl rfl rfl rfl rfl (.inl rfl) ?_
    rintro _ _ _ ⟨ob1, cap1, rfl, rfl, rfl, ho1⟩
    refine RL.callq (digits_any b hb) Try.call78 rfl rfl rfl rfl rfl (.inl rfl) ?_
    rintro _ _ _ ⟨ob2, cap2, rfl, rfl, rfl, ho2⟩
    refine RL.assign rfl rfl rfl rfl ?_
    refine RL.assign rfl rfl rfl rfl ?_
    refine RL.nil ?_
    exact NQ.midG (ob1, cap1, ob2, cap2) ⟨by simpa using ho1, by simpa using ho2⟩ (.cons rfl (.cons rfl (.cons rfl .nil))) (fun w h => h.rea (fun _ h => by simp at h) (by repeat (first | exact Rea.nil | (apply Rea.cons; (solve | (repeat (first | exact Del.here | apply Del.there)))))))
  rintro ⟨x, cx, y, cz⟩ ⟨hx, hy⟩
  dsimp only at hx hy ⊢
  obtain ⟨bx, rfl⟩ := Option.isSome_iff_exists.1 hx
  obtain ⟨bY, rfl⟩ := Option.isSome_iff_exists.1 hy
  have hga0 : ∀ i, i < 128 → (zbits 128 a)[i]? = some (a / 2 ^ i % 2) := fun i h => zbits_get h
  have hgb0 : ∀ i, i < 128 → (zbits 128 b)[i]? = some (b / 2 ^ i % 2) := fun i h => zbits_get h
  generalize zbits 128 a = xa at hga0 ⊢
  generalize zbits 128 b = xb at hgb0 ⊢
  refine CW.seq ?_
  refine CW.region (ef := [0]) (bk := []) ?_
  refine RL.buildOwn [] Try.runUnderlying129 Try.sizeOf3 Try.zeroValue3 rfl rfl (by decide) (by decide) rfl (by decide) rfl rfl rfl rfl rfl rfl ?_
  intro b4
  refine RL.assign rfl rfl rfl rfl ?_
  refine RL.nil ?_
  refine NQ.seq ?_
  refine CW.seq ?_
  refine CW.region (ef := []) (bk := []) ?_
  refine RL.assign rfl rfl rfl rfl ?_
  refine RL.nil ?_
  refine NQ.seq ?_
  refine CW.seq ?_
  refine CW.seq ?_
  refine CW.region (ef := []) (bk := []) ?_
  refine RL.assign rfl rfl rfl rfl ?_
  refine RL.nil ?_
  refine NQ.seq ?_
  refine CW.block ?_
  refine CW.loop (γ := Nat × Option Nat × Nat) (fun g => g.1 ≤ 128 ∧ (g.1 = 0 ∨ g.2.1.isSome = true)) (fun g => [(4, .pointer (some ⟨b3, 0, none⟩)), (5, slO (some bx) 128 cx), (6, slO (some bY) 128 cz), (7, slO g.2.1 g.1 g.2.2), (8, .int .i64 (cy a b g.1)), (9, .int .i64 (g.1 : Int))]) (fun _ => [])
    (fun g => [own g.2.1 g.2.2 3 1 g.1 (ints (zbits g.1 (a + b))), own (some bx) cx 3 1 128 (ints xa), own (some bY) cz 3 1 128 (ints xb), cel b3 [.int .i64 0, .int .u64 0] 123]) (fun g => 128 - g.1) (0, some b4, 0) ⟨by simp, .inl rfl⟩
    (.cons rfl (.cons rfl (.cons rfl (.cons rfl (.cons (by rw [show cy a b 0 = 0 by simp [cy]; omega]; rfl) (.cons rfl .nil)))))) (fun w h => h.rea (fun _ h => h) (by repeat (first | exact Rea.nil | (apply Rea.cons; (solve | (repeat (first | exact Del.here | apply Del.there))))))) ?_
  rintro ⟨i, ob, cp⟩ ⟨hi, hs⟩
  dsimp only at hi hs ⊢
  refine CW.seq ?_
  refine CW.seq ?_
  refine CW.region (ef := []) (bk := []) ?_
  refine RL.move rfl rfl rfl rfl ?_
  refine RL.bin rfl rfl rfl rfl rfl rfl ?_
  refine RL.nil ?_
  refine NQ.seq ?_
  refine CW.cond rfl (fun hlt => ?_) (fun hlt => ?_)
  ·
    have hlt : i < 128 := by simp at hlt; omega
    have hga := hga0 i hlt
    have hgb := hgb0 i hlt
    have hc := cy_bd a b i
    have h1 := bit_bd a i
    have h2 := bit_bd b i
    have h3 := bit_bd (a + b) i
    have hst := cy_step a b i
    have hr : Value.int .i64 ((a / 2 ^ i % 2 + b / 2 ^ i % 2 + cy a b i).tmod 2) = .int .i64 ((a + b) / 2 ^ i % 2) := by rw [tmod2 (by omega), hst.1]
    have hq : Value.int .i64 (IntKind.i64.wrap ((a / 2 ^ i % 2 + b / 2 ^ i % 2 + cy a b i).tdiv 2)) = .int .i64 (cy a b (i + 1)) := by
      have := cy_bd a b (i + 1)
      rw [tdiv2 (by omega), hst.2, i64_in' (by omega)]
    refine CW.skip ?_
    refine NQ.seq ?_
    refine CW.seq ?_
    refine CW.block ?_
    refine CW.seq ?_
    refine CW.regionD (Sq.of [0, 1, 2, 3, 4, 5, 6, 7, 8, 9, 10, 11]) [] [] [0, 1, 2, 4, 5, 6, 8, 9, 10, 11] mixed (by kernel_rfl) ?_
    refine RL.move rfl rfl rfl rfl ?_
    refine RL.move rfl rfl rfl rfl ?_
    refine RL.idx (j := i) Try.runUnderlying129 Try.sizeOf3 rfl rfl rfl rfl rfl rfl hlt ?_
    refine RL.load Try.isAgg3 rfl rfl rfl rfl (Rd.getO (List.Mem.tail _ (List.Mem.head _)) (ints_get hga)) ?_
    refine RL.move rfl rfl rfl rfl ?_
    refine RL.move rfl rfl rfl rfl ?_
    refine RL.idx (j := i) Try.runUnderlying129 Try.sizeOf3 rfl rfl rfl rfl rfl rfl hlt ?_
    refine RL.load Try.isAgg3 rfl rfl rfl rfl (Rd.getO (List.Mem.tail _ (List.Mem.tail _ (List.Mem.head _))) (ints_get hgb)) ?_
    refine RL.binX rfl rfl rfl rfl rfl rfl (wrapV_i64 (by omega) (by omega)) ?_
    refine RL.move rfl rfl rfl rfl ?_
    refine RL.binX rfl rfl rfl rfl rfl rfl (wrapV_i64 (by omega) (by omega)) ?_
    refine RL.assign rfl rfl rfl rfl ?_
    refine RL.nil ?_
    refine NQ.seq ?_
    refine CW.only (.cons (k := 4) rfl (.cons (k := 5) rfl (.cons (k := 6) rfl (.cons (k := 7) rfl (.cons (k := 9) rfl (.cons (k := 10) rfl .nil)))))) ?_
    refine CW.seq ?_
    refine CW.region (ef := [3, 4]) (bk := [4]) ?_
    refine RL.move rfl rfl rfl rfl ?_
    refine RL.move rfl rfl rfl rfl ?_
    refine RL.remX rfl rfl rfl rfl rfl (by decide) hr ?_
    refine RL.buildOwn [_] Try.runUnderlying129 Try.sizeOf3 Try.zeroValue3 rfl rfl (by decide) (by decide) rfl (by decide) rfl rfl rfl rfl rfl rfl ?_
    intro b5
    refine RL.appendq el_129 rfl rfl rfl rfl rfl rfl rfl ?_ (hs := by first | exact Src.ownS (List.Mem.head _) | exact Src.own (List.Mem.head _))
    intro ob1 cap1 ho1
    refine RL.assign rfl rfl rfl rfl ?_
    refine RL.nil ?_
    refine NQ.seq ?_
    refine CW.region (ef := []) (bk := []) ?_
    refine RL.move rfl rfl rfl rfl ?_
    refine RL.quoX rfl rfl rfl rfl rfl (by decide) hq ?_
    refine RL.assign rfl rfl rfl rfl ?_
    refine RL.nil ?_
    refine NQ.block ?_
    refine NQ.seq ?_
    refine CW.only (.cons (k := 4) rfl (.cons (k := 5) rfl (.cons (k := 6) rfl (.cons (k := 7) rfl (.cons (k := 8) rfl (.cons (k := 9) rfl .nil)))))) ?_
    refine CW.region (ef := []) (bk := []) ?_
    refine RL.move rfl rfl rfl rfl ?_
    refine RL.binX rfl rfl rfl rfl rfl rfl (wrapV_i64 (by omega) (by omega)) ?_
    refine RL.assign rfl rfl rfl rfl ?_
    refine RL.nil ?_
    refine NQ.round (g := (i, ob, cp)) (i + 1, ob1, cap1) ⟨hlt, by simpa using ho1⟩ (by show 128 - (i + 1) < 128 - i; omega) (.cons rfl (.cons rfl (.cons rfl (.cons rfl (.cons rfl (.cons rfl .nil)))))) (fun w h => ?_)
    dsimp only
    rw [zbits_snoc, ints_snoc]
    exact h.rea (fun _ h => h) (by repeat (first | exact Rea.nil | (apply Rea.cons; (solve | (repeat (first | exact Del.here | apply Del.there))))))
  ·
    have hin : i = 128 := by simp at hlt; omega
    subst hin
    refine CW.exit ?_
    refine XQ.seq ?_
    refine XQ.seq ?_
    refine XQ.hit ?_
    refine NQ.seq ?_
    refine CW.only (.cons (k := 4) rfl (.cons (k := 7) rfl .nil)) ?_
    refine CW.seq ?_
    refine CW.region (ef := [2]) (bk := [2]) ?_
    refine RL.move rfl rfl rfl rfl ?_
    refine RL.callv (number_any (ob.map fun b => ⟨b, 0, none⟩) cp (a + b) hab) Try.call79 rfl rfl rfl rfl (Lend.own (by repeat (first | exact List.Mem.head _ | apply List.Mem.tail)) .nil) ?_
    refine RL.store (vs := [_, _]) Try.sizeOf123 rfl rfl rfl rfl rfl rfl rfl rfl rfl (by repeat (first | exact Upd.here | apply Upd.there)) ?_
    refine RL.nil ?_
    refine NQ.seq ?_
    refine CW.ret ?_
    exact RQ.post (resW (vs := [.int .i64 ((a + b) / 18446744073709551616), .int .u64 ((a + b) % 18446744073709551616)]) rfl rfl Try.isAgg123 Try.sizeOf123 (List.Mem.tail _ (List.Mem.tail _ (List.Mem.tail _ (List.Mem.head _)))) rfl) (Split.none _) ⟨rfl, rfl, rfl⟩
theorem rof_any (n : Int) (h : -9223372036854775808 ≤ n ∧ n ≤ 9223372036854775807) : Spc Try.prog 60 #[.int .i64 n] [] [] (Is (W n)) := by
  refine Spc.enter Try.func60 rfl rfl rfl (fun w0 hw0 => ?_)
  refine CW.seq ?_
  refine CW.region (ef := [0]) (bk := []) ?_
  refine RL.alloc Try.zeroValue123 rfl rfl rfl rfl rfl ?_
  intro b1
  refine RL.nil ?_
  refine NQ.seq ?_
  refine CW.seq ?_
  refine CW.seq ?_
  refine CW.region (ef := []) (bk := []) ?_
  refine RL.move rfl rfl rfl rfl ?_
  refine RL.bin rfl rfl rfl rfl rfl rfl ?_
  refine RL.nil ?_
  refine NQ.seq ?_
  refine CW.cond rfl (fun hn => ?_) (fun hn => ?_)
  ·
    refine CW.seq ?_
    refine CW.region (ef := [3]) (bk := [3]) ?_
    refine RL.move rfl rfl rfl rfl ?_
    refine RL.conv Try.runUnderlying2 Try.runUnderlying29 rfl rfl rfl rfl ?_
    refine RL.buildS [_, _] Try.zeroValue123 pl_123 rfl rfl rfl rfl rfl ?_
    refine RL.store (vs := [_, _]) Try.sizeOf123 rfl rfl rfl rfl rfl rfl rfl rfl rfl (by repeat (first | exact Upd.here | apply Upd.there)) ?_
    refine RL.nil ?_
    refine NQ.seq ?_
    refine CW.ret ?_
    refine RQ.seq ?_
    refine RQ.post (resC rfl rfl Try.isAgg123 (vs := [_, _]) Try.sizeOf123 (Rds.cel (List.Mem.head _) (at_spec ⟨rfl, rfl, trivial⟩))) (Split.none _) ⟨?_, rfl, rfl⟩
    simp only [decide_eq_true_eq] at hn
    rw [W, IntKind.wrap_u64, show n / 18446744073709551616 = -1 by omega]
  ·
    refine CW.skip ?_
    refine NQ.seq ?_
    refine CW.seq ?_
    refine CW.region (ef := [3]) (bk := [3]) ?_
    refine RL.move rfl rfl rfl rfl ?_
    refine RL.conv Try.runUnderlying2 Try.runUnderlying29 rfl rfl rfl rfl ?_
    refine RL.buildS [_, _] Try.zeroValue123 pl_123 rfl rfl rfl rfl rfl ?_
    refine RL.store (vs := [_, _]) Try.sizeOf123 rfl rfl rfl rfl rfl rfl rfl rfl rfl (by repeat (first | exact Upd.here | apply Upd.there)) ?_
    refine RL.nil ?_
    refine NQ.seq ?_
    refine CW.only (.cons (k := 2) rfl .nil) ?_
    refine CW.ret ?_
    refine RQ.post (resC rfl rfl Try.isAgg123 (vs := [_, _]) Try.sizeOf123 (Rds.cel (List.Mem.head _) (at_spec ⟨rfl, rfl, trivial⟩))) (Split.none _) ⟨?_, rfl, rfl⟩
    simp only [decide_eq_false_iff_not] at hn
    rw [W, IntKind.wrap_u64, show n / 18446744073709551616 = 0 by omega]
theorem rless_any (a b : Int) : Spc Try.prog 94 #[W a, W b] [] [] (Is (.bool (decide (a < b)))) := by
  unfold W
  refine Spc.enter Try.func94 rfl rfl rfl (fun w0 hw0 => ?_)
  refine CW.seq ?_
  refine CW.region (ef := [0, 1]) (bk := []) ?_
  refine RL.box rfl rfl rfl rfl rfl rfl ?_
  intro b1
  refine RL.box rfl rfl rfl rfl rfl rfl ?_
  intro b2
  refine RL.assign rfl rfl rfl rfl ?_
  refine RL.nil ?_
  refine NQ.seq ?_
  refine CW.seq ?_
  refine CW.region (ef := []) (bk := []) ?_
  refine RL.fieldAddr fa_123_0 rfl rfl rfl rfl ?_
  refine RL.loadq Try.isAgg2 rfl rfl rfl rfl ?_
  refine RL.fieldAddr fa_123_0 rfl rfl rfl rfl ?_
  refine RL.loadq Try.isAgg2 rfl rfl rfl rfl ?_
  refine RL.bin rfl rfl rfl rfl rfl rfl ?_
  refine RL.move rfl rfl rfl rfl ?_
  apply RL.orB (d := 10) (dp := 23) (l' := (Sq.of [19])) rfl (.cons (k := 4) rfl .nil)
  ·
    intro hb6 K6
    refine RL.fieldAddr fa_123_0 rfl rfl rfl rfl ?_
    refine RL.loadq Try.isAgg2 rfl rfl rfl rfl ?_
    refine RL.fieldAddr fa_123_0 rfl rfl rfl rfl ?_
    refine RL.loadq Try.isAgg2 rfl rfl rfl rfl ?_
    refine RL.bin rfl rfl rfl rfl rfl rfl ?_
    refine RL.move rfl rfl rfl rfl ?_
    apply RL.andB (d := 16) (dp := 22) (l' := (Sq.of [18, 19])) rfl (.cons (k := 4) rfl (.cons (k := 10) rfl .nil))
    ·
      intro hb12 K12
      refine RL.fieldAddr fa_123_1 rfl rfl rfl rfl ?_
      refine RL.loadq Try.isAgg29 rfl rfl rfl rfl ?_
      refine RL.fieldAddr fa_123_1 rfl rfl rfl rfl ?_
      refine RL.loadq Try.isAgg29 rfl rfl rfl rfl ?_
      refine RL.bin rfl rfl rfl rfl rfl rfl ?_
      refine RL.pickT rfl rfl rfl rfl rfl ?_
      exact K12 _ (.cons rfl (.cons (k := 4) rfl (.cons (k := 10) rfl .nil)))
    ·
      intro hb12 K12
      refine RL.skip rfl rfl rfl rfl ?_
      refine RL.skip rfl rfl rfl rfl ?_
      refine RL.skip rfl rfl rfl rfl ?_
      refine RL.skip rfl rfl rfl rfl ?_
      refine RL.skip rfl rfl rfl rfl ?_
      refine RL.pickF rfl rfl rfl rfl rfl ?_
      exact K12 _ (.cons rfl (.cons (k := 4) rfl (.cons (k := 10) rfl .nil)))
    refine RL.pickF rfl rfl rfl rfl rfl ?_
    exact K6 _ (.cons rfl (.cons (k := 4) rfl .nil))
  ·
    intro hb6 K6
    refine RL.skip rfl rfl rfl rfl ?_
    refine RL.skip rfl rfl rfl rfl ?_
    refine RL.skip rfl rfl rfl rfl ?_
    refine RL.skip rfl rfl rfl rfl ?_
    refine RL.skip rfl rfl rfl rfl ?_
    refine RL.skip rfl rfl rfl rfl ?_
    refine RL.skip rfl rfl rfl rfl ?_
    refine RL.skip rfl rfl rfl rfl ?_
    refine RL.skip rfl rfl rfl rfl ?_
    refine RL.skip rfl rfl rfl rfl ?_
    refine RL.skip rfl rfl rfl rfl ?_
    refine RL.skip rfl rfl rfl rfl ?_
    refine RL.pickT rfl rfl rfl rfl rfl ?_
    exact K6 _ (.cons rfl (.cons (k := 4) rfl .nil))
  refine RL.assign rfl rfl rfl rfl ?_
  refine RL.nil ?_
  refine NQ.seq ?_
  refine CW.ret ?_
  refine RQ.post (res1 rfl rfl) (Split.none _) ⟨?_, rfl, rfl⟩
  congr 1
  rw [Bool.eq_iff_iff]
  simp
  omega
theorem rwclip_any (z : Int) (h : -170141183460469231731687303715884105728 ≤ z ∧ z < 170141183460469231731687303715884105728) : Spc Try.prog 80 #[W z] [] [] (Is (.tuple #[.int .i64 (clip z), .bool (cut z)])) := by
  refine Spc.enter Try.func80 rfl rfl rfl (fun w0 hw0 => ?_)
  refine CW.seq ?_
  refine CW.region (ef := [0]) (bk := []) ?_
  refine RL.box rfl rfl rfl rfl rfl rfl ?_
  intro b1
  refine RL.assign rfl rfl rfl rfl ?_
  refine RL.assign rfl rfl rfl rfl ?_
  refine RL.nil ?_
  refine NQ.seq ?_
  refine CW.seq ?_
  refine CW.seq ?_
  refine CW.freezeP (A := [_]) (B := []) (.take .nil) rfl ?_
  refine CW.regionD (Sq.of [0, 1, 2]) [] [] [0, 1, 2] mixed (by kernel_rfl) ?_
  refine RL.loadNT (vs := [_, _]) Try.isAgg123 Try.sizeOf123 rfl rfl rfl rfl (by first | (apply Rds.cel; (solve | (repeat (first | exact List.Mem.head _ | apply List.Mem.tail))); exact at_spec ⟨rfl, rfl, trivial⟩) | (apply Rds.celI; (solve | (repeat (first | exact List.Mem.head _ | apply List.Mem.tail))); exact at_spec ⟨rfl, rfl, trivial⟩) | assumption | (apply RdsI.rds; assumption)) ?_
  refine RL.callTq (rof_any _ (by decide)) Try.call60 rfl rfl rfl rfl ?_
  refine RL.callTq (rless_any _ _) Try.call94 rfl rfl rfl rfl ?_
  refine RL.nil ?_
  refine NQ.seq ?_
  refine CW.cond rfl (fun h1 => ?_) (fun h1 => ?_)
  ·
    refine CW.seq ?_
    refine CW.region (ef := []) (bk := []) ?_
    refine RL.assign rfl rfl rfl rfl ?_
    refine RL.assign rfl rfl rfl rfl ?_
    refine RL.nil ?_
    refine NQ.seq ?_
    refine CW.ret ?_
    refine RQ.seq ?_
    refine RQ.post (res2 rfl rfl rfl) (Split.none _) ⟨?_, rfl, rfl⟩
    simp only [decide_eq_true_eq] at h1
    rw [clip, if_pos h1, cut]; simp [h1]
  ·
    refine CW.skip ?_
    refine NQ.seq ?_
    refine CW.only (.cons (k := 1) rfl .nil) ?_
    refine CW.seq ?_
    refine CW.seq ?_
    refine CW.regionD (Sq.of [0, 1, 2]) [] [] [0, 1, 2] mixed (by kernel_rfl) ?_
    refine RL.callTq (rof_any _ (by decide)) Try.call60 rfl rfl rfl rfl ?_
    refine RL.loadNT (vs := [_, _]) Try.isAgg123 Try.sizeOf123 rfl rfl rfl rfl (by first | (apply Rds.cel; (solve | (repeat (first | exact List.Mem.head _ | apply List.Mem.tail))); exact at_spec ⟨rfl, rfl, trivial⟩) | (apply Rds.celI; (solve | (repeat (first | exact List.Mem.head _ | apply List.Mem.tail))); exact at_spec ⟨rfl, rfl, trivial⟩) | assumption | (apply RdsI.rds; assumption)) ?_
    refine RL.callTq (rless_any _ _) Try.call94 rfl rfl rfl rfl ?_
    refine RL.nil ?_
    refine NQ.seq ?_
    simp only [decide_eq_false_iff_not] at h1
    refine CW.cond rfl (fun h2 => ?_) (fun h2 => ?_)
    ·
      refine CW.seq ?_
      refine CW.region (ef := []) (bk := []) ?_
      refine RL.assign rfl rfl rfl rfl ?_
      refine RL.assign rfl rfl rfl rfl ?_
      refine RL.nil ?_
      refine NQ.seq ?_
      refine CW.ret ?_
      refine RQ.seq ?_
      refine RQ.post (res2 rfl rfl rfl) (Split.none _) ⟨?_, rfl, rfl⟩
      simp only [decide_eq_true_eq] at h2
      rw [clip, if_neg h1, if_pos h2, cut]; simp [h2]
    ·
      refine CW.skip ?_
      refine NQ.seq ?_
      refine CW.seq ?_
      refine CW.region (ef := []) (bk := []) ?_
      refine RL.fieldAddr fa_123_1 rfl rfl rfl rfl ?_
      refine RL.loadq Try.isAgg29 rfl rfl rfl rfl ?_
      refine RL.conv Try.runUnderlying29 Try.runUnderlying2 rfl rfl rfl rfl ?_
      refine RL.assign rfl rfl rfl rfl ?_
      refine RL.assign rfl rfl rfl rfl ?_
      refine RL.nil ?_
      refine NQ.seq ?_
      refine CW.only (.cons (k := 2) rfl (.cons (k := 3) rfl .nil)) ?_
      refine CW.ret ?_
      simp only [decide_eq_false_iff_not] at h2
      refine RQ.post (res2 rfl rfl rfl) (Split.none _) ⟨?_, rfl, rfl⟩
      have : IntKind.i64.wrap (z % 18446744073709551616) = z := by rw [IntKind.wrap_i64]; omega
      rw [clip, if_neg h1, if_neg h2, cut, this]; simp; omega
theorem rclip_any (z : Int) (h : -170141183460469231731687303715884105728 ≤ z ∧ z < 170141183460469231731687303715884105728) : Spc Try.prog 61 #[W z] [] [] (Is (.tuple #[.int .i64 (clip z), .bool (cut z)])) := by
  refine Spc.enter Try.func61 rfl rfl rfl (fun w0 hw0 => ?_)
  refine CW.seq ?_
  refine CW.region (ef := [0]) (bk := []) ?_
  refine RL.box rfl rfl rfl rfl rfl rfl ?_
  intro b1
  refine RL.assign rfl rfl rfl rfl ?_
  refine RL.assign rfl rfl rfl rfl ?_
  refine RL.nil ?_
  refine NQ.seq ?_
  refine CW.seq ?_
  refine CW.region (ef := []) (bk := []) ?_
  refine RL.loadN (vs := [_, _]) Try.isAgg123 Try.sizeOf123 rfl rfl rfl rfl (by first | (apply Rds.cel; (solve | (repeat (first | exact List.Mem.head _ | apply List.Mem.tail))); exact at_spec ⟨rfl, rfl, trivial⟩) | (apply Rds.celI; (solve | (repeat (first | exact List.Mem.head _ | apply List.Mem.tail))); exact at_spec ⟨rfl, rfl, trivial⟩) | assumption | (apply RdsI.rds; assumption)) ?_
  refine RL.callvq (rwclip_any z h) Try.call80 rfl rfl rfl rfl ?_
  refine RL.move rfl rfl rfl rfl ?_
  refine RL.extract rfl rfl rfl rfl rfl ?_
  refine RL.extract rfl rfl rfl rfl rfl ?_
  refine RL.assign rfl rfl rfl rfl ?_
  refine RL.assign rfl rfl rfl rfl ?_
  refine RL.nil ?_
  refine NQ.seq ?_
  refine CW.only (.cons (k := 4) rfl (.cons (k := 5) rfl .nil)) ?_
  refine CW.seq ?_
  refine CW.region (ef := []) (bk := []) ?_
  refine RL.move rfl rfl rfl rfl ?_
  refine RL.move rfl rfl rfl rfl ?_
  refine RL.assign rfl rfl rfl rfl ?_
  refine RL.assign rfl rfl rfl rfl ?_
  refine RL.nil ?_
  refine NQ.seq ?_
  refine CW.ret ?_
  exact RQ.post (res2 rfl rfl rfl) (Split.none _) ⟨rfl, rfl, rfl⟩
theorem rsum_any (p : Option Addr) (l : List Int) (cap : Nat) (hl : l.length ≤ 9223372036854775807) (hb : ∀ a ∈ l, -9223372036854775808 ≤ a ∧ a ≤ 9223372036854775807) :
    Spc Try.prog 46 #[.slice p l.length cap] [sls p 1 l.length (ints l)] [] (Is (.tuple #[.int .i64 (clip (isum l)), .bool (cut (isum l))])) := by
  refine Spc.enter Try.func46 rfl rfl rfl (fun w0 hw0 => ?_)
  refine CW.seq ?_
  refine CW.region (ef := []) (bk := []) ?_
  refine RL.assign rfl rfl rfl rfl ?_
  refine RL.assign rfl rfl rfl rfl ?_
  refine RL.nil ?_
  refine NQ.seq ?_
  refine CW.seq ?_
  refine CW.region (ef := [1, 2]) (bk := [2]) ?_
  refine RL.buildS _ Try.zeroValue123 pl_123 rfl rfl rfl rfl rfl ?_
  refine RL.alloc Try.zeroValue123 rfl rfl rfl rfl rfl ?_
  intro b1
  refine RL.store (vs := [_, _]) Try.sizeOf123 rfl rfl rfl rfl rfl rfl rfl rfl rfl (by repeat (first | exact Upd.here | apply Upd.there)) ?_
  refine RL.nil ?_
  refine NQ.seq ?_
  refine CW.seq ?_
  refine CW.seq ?_
  refine CW.region (ef := []) (bk := []) ?_
  refine RL.assign rfl rfl rfl rfl ?_
  refine RL.nil ?_
  refine NQ.seq ?_
  refine CW.block ?_
  refine CW.fact (p := p = none → l.length = 0) (fun w hw hp => sls_nil (hw.s.i _ (List.Mem.head _)) hp) (fun hp => ?_)
  refine CW.loop (γ := Nat) (fun k => k ≤ l.length) (fun k => [(0, .slice p l.length cap), (4, .pointer (some ⟨b1, 0, none⟩)), (5, .int .i64 k)]) (fun _ => [sls p 1 l.length (ints l)])
    (fun k => [cel b1 [.int .i64 (isum (l.take k) / 18446744073709551616), .int .u64 (isum (l.take k) % 18446744073709551616)] 123]) (fun k => l.length - k) 0 (by omega) (.cons rfl (.cons rfl (.cons rfl .nil))) (fun _ h => h) (fun k hk => ?_)
  refine CW.seq ?_
  refine CW.seq ?_
  refine CW.region (ef := []) (bk := []) ?_
  refine RL.move rfl rfl rfl rfl ?_
  refine RL.move rfl rfl rfl rfl ?_
  refine RL.lenS Try.runUnderlying112 rfl rfl rfl rfl ?_
  refine RL.bin rfl rfl rfl rfl rfl rfl ?_
  refine RL.nil ?_
  refine NQ.seq ?_
  refine CW.cond rfl (fun hc => ?_) (fun hc => ?_)
  ·
    have hlt : k < l.length := by simpa using hc
    obtain ⟨a, rfl⟩ : ∃ a, p = some a := by
      cases p with
      | none => have := hp rfl; omega
      | some a => exact ⟨a, rfl⟩
    have hb1 := isum_bd (l.take k) (fun a ha => hb a (List.mem_of_mem_take ha))
    have hb2 := hb l[k] (List.getElem_mem _)
    rw [List.length_take, Nat.min_eq_left hk] at hb1
    have hs : isum (l.take (k + 1)) = isum (l.take k) + l[k] := by rw [List.take_succ_eq_append_getElem hlt, isum_snoc]
    have hg : l[k]? = some l[k] := List.getElem?_eq_getElem hlt
    refine CW.skip ?_
    refine NQ.seq ?_
    refine CW.seq ?_
    refine CW.block ?_
    refine CW.regionD (Sq.of [0, 1, 2, 3, 4, 5, 6, 7]) [7] [7] [1, 2, 3] mixed (by kernel_rfl) ?_
    refine RL.loadN (vs := [_, _]) Try.isAgg123 Try.sizeOf123 rfl rfl rfl rfl (by first | (apply Rds.cel; (solve | (repeat (first | exact List.Mem.head _ | apply List.Mem.tail))); exact at_spec ⟨rfl, rfl, trivial⟩) | (apply Rds.celI; (solve | (repeat (first | exact List.Mem.head _ | apply List.Mem.tail))); exact at_spec ⟨rfl, rfl, trivial⟩) | assumption | (apply RdsI.rds; assumption)) ?_
    refine RL.move rfl rfl rfl rfl ?_
    refine RL.move rfl rfl rfl rfl ?_
    refine RL.idx (j := k) Try.runUnderlying112 Try.sizeOf70 rfl rfl rfl rfl rfl rfl hlt ?_
    refine RL.load Try.isAgg70 rfl rfl rfl rfl (Rd.getS (List.Mem.head _) (ints_get hg)) ?_
    refine RL.callvq (rof_any l[k] hb2) Try.call60 rfl rfl rfl rfl ?_
    refine RL.callvq (radd_any (isum (l.take k)) l[k] (by omega) (by omega) (by omega)) Try.call59 rfl rfl rfl rfl ?_
    refine RL.store (vs := [_, _]) Try.sizeOf123 rfl rfl rfl rfl rfl rfl rfl rfl rfl (by repeat (first | exact Upd.here | apply Upd.there)) ?_
    refine RL.nil ?_
    refine NQ.block ?_
    refine NQ.seq ?_
    refine CW.only (.cons (k := 0) rfl (.cons (k := 4) rfl (.cons (k := 5) rfl .nil))) ?_
    refine CW.region (ef := []) (bk := []) ?_
    refine RL.move rfl rfl rfl rfl ?_
    refine RL.binX rfl rfl rfl rfl rfl rfl (wrapV_i64 (by omega) (by omega)) ?_
    refine RL.assign rfl rfl rfl rfl ?_
    refine RL.nil ?_
    refine NQ.round (k + 1) hlt (by omega) (.cons rfl (.cons rfl (.cons rfl .nil))) (fun w hw => by simp only [hs]; exact hw)
  ·
    have hge : k = l.length := by simp at hc; omega
    subst hge
    have hb1 := isum_bd l hb
    have hb2 : isum (l.take l.length) = isum l := by rw [List.take_length]
    rw [hb2]
    refine CW.exit ?_
    refine XQ.seq ?_
    refine XQ.seq ?_
    refine XQ.hit ?_
    refine NQ.seq ?_
    refine CW.only (.cons (k := 4) rfl .nil) ?_
    refine CW.seq ?_
    refine CW.region (ef := []) (bk := []) ?_
    refine RL.loadN (vs := [_, _]) Try.isAgg123 Try.sizeOf123 rfl rfl rfl rfl (by first | (apply Rds.cel; (solve | (repeat (first | exact List.Mem.head _ | apply List.Mem.tail))); exact at_spec ⟨rfl, rfl, trivial⟩) | (apply Rds.celI; (solve | (repeat (first | exact List.Mem.head _ | apply List.Mem.tail))); exact at_spec ⟨rfl, rfl, trivial⟩) | assumption | (apply RdsI.rds; assumption)) ?_
    refine RL.callvq (rclip_any (isum l) (by omega)) Try.call61 rfl rfl rfl rfl ?_
    refine RL.extract rfl rfl rfl rfl rfl ?_
    refine RL.extract rfl rfl rfl rfl rfl ?_
    refine RL.assign rfl rfl rfl rfl ?_
    refine RL.assign rfl rfl rfl rfl ?_
    refine RL.nil ?_
    refine NQ.seq ?_
    refine CW.ret ?_
    exact RQ.post (res2 rfl rfl rfl) (Split.none _) ⟨rfl, rfl, rfl⟩
end Go.Proofs.Ytggmnhogmjglmaa
