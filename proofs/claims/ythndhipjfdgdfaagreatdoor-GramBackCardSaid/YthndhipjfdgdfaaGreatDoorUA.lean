import Derived.Test.YthndhipjfdgdfaaGreatDoorMB
import Derived.Test.YthndhipjfdgdfaaGreatDoorMA
import Derived.Test.YthndhipjfdgdfaaGreatDoorPkEn
import Derived.Test.YthndhipjfdgdfaaGreatDoorPE
set_option linter.unusedVariables false
set_option linter.unusedSimpArgs false
namespace Go.Proofs.YthndhipjfdgdfaaGreatDoor
open Go.PK
/-! ### How far a source may lead astray -/
abbrev Wc (z : Int) : List Value := [.int .i64 (z / 18446744073709551616), .int .u64 (z % 18446744073709551616)]
theorem bit_cast (t i : Nat) : (t : Int) / 2 ^ i % 2 = ((t / 2 ^ i % 2 : Nat) : Int) := by simp
theorem mod_step (t i : Nat) : t % 2 ^ (i + 1) = t % 2 ^ i + 2 ^ i * (t / 2 ^ i % 2) := by
  rw [Nat.pow_succ, Nat.mod_mul]
theorem bit_small {t i : Nat} (ht : t ≤ 65535) (h : t / 2 ^ i % 2 = 1) : i < 16 := by
  rcases Nat.lt_or_ge i 16 with h1 | h1
  · exact h1
  · have h2 : (2 : Nat) ^ 16 ≤ 2 ^ i := Nat.pow_le_pow_right (by decide) h1
    have h3 : t / 2 ^ i = 0 := Nat.div_eq_of_lt (by omega)
    rw [h3] at h; cases h
theorem dbl_bd {a : Int} (ha : 0 ≤ a ∧ a ≤ 9223372036854775807) {i : Nat} (hi : i ≤ 16) : 0 ≤ a * 2 ^ i ∧ a * 2 ^ i ≤ 9223372036854775807 * 65536 := by
  have h1 : (2 : Int) ^ i ≤ 65536 := by
    have : (2 : Nat) ^ i ≤ 2 ^ 16 := Nat.pow_le_pow_right (by decide) hi
    have h2 : (((2 : Nat) ^ i : Nat) : Int) ≤ ((2 ^ 16 : Nat) : Int) := Int.ofNat_le.2 this
    simpa using h2
  have h0 : (0 : Int) ≤ 2 ^ i := Int.le_of_lt (Int.pow_pos (by decide))
  exact ⟨Int.mul_nonneg ha.1 h0, Int.mul_le_mul ha.2 h1 h0 (by decide)⟩
theorem prd_bd {a : Int} (ha : 0 ≤ a ∧ a ≤ 9223372036854775807) {n : Nat} (hn : n ≤ 65535) : 0 ≤ a * (n : Int) ∧ a * (n : Int) ≤ 9223372036854775807 * 65535 :=
  ⟨Int.mul_nonneg ha.1 (by omega), Int.mul_le_mul ha.2 (by omega) (by omega) (by decide)⟩
theorem rmul_any (a : Int) (t : Nat) (ha : 0 ≤ a ∧ a ≤ 9223372036854775807) (ht : t ≤ 65535) : Spc Tryz.prog 145 #[.int .i64 a, .int .i64 (t : Int)] [] [] (Is (W (a * t))) := by
  refine Spc.enter Tryz.func145 rfl rfl rfl (fun w0 hw0 => ?_)
  refine CW.seq (CW.region (ef := [0]) (bk := []) (RL.alloc Tryz.zeroValue319 rfl rfl rfl rfl rfl ?_))
  intro b1
  refine RL.nil (NQ.seq (CW.seq (CW.region (ef := [1, 2]) (bk := [2]) (RL.buildS _ Tryz.zeroValue319 pl_319 rfl rfl rfl rfl rfl (RL.alloc Tryz.zeroValue319 rfl rfl rfl rfl rfl ?_)))))
  intro b2
  refine RL.store (vs := [_, _]) Tryz.sizeOf319 rfl rfl rfl rfl rfl rfl rfl rfl rfl (by repeat (first | exact Upd.here | apply Upd.there)) ?_
  refine RL.nil (NQ.seq (CW.seq (CW.region (ef := [4, 5, 6]) (bk := [6]) (RL.p rfl (RL.callvq (rwof_any a (by omega)) Tryz.call159 rfl rfl rfl rfl ?_)))))
  refine RL.p rfl (RL.callvq (rwof_any t (by omega)) Tryz.call159 rfl rfl rfl rfl ?_)
  refine RL.callq (digits_any (t : Int) (by omega)) Tryz.call160 rfl rfl rfl rfl rfl (.inl rfl) ?_
  rintro _ _ _ ⟨ob1, cap1, rfl, rfl, rfl, ho1⟩
  refine RL.alloc Tryz.zeroValue319 rfl rfl rfl rfl rfl ?_
  intro b3
  refine RL.storeW (vs := Wc a) Tryz.sizeOf319 rfl rfl rfl rfl rfl rfl rfl rfl (by repeat (first | exact Upd.here | apply Upd.there)) rfl rfl ?_
  refine RL.p rfl (RL.nil (NQ.seq (CW.ok [4, 5, 6, 7] rfl (CW.seq (CW.seq (CW.rg (RL.p rfl (RL.nil (NQ.seq (CW.block ?_))))))))))
  obtain ⟨bd, rfl⟩ : ∃ q, ob1 = some q := Option.isSome_iff_exists.1 (by simpa using ho1)
  have hgd : ∀ i, i < 128 → (zbits 128 (t : Int))[i]? = some ((t : Int) / 2 ^ i % 2) := fun i h => zbits_get h
  generalize zbits 128 (t : Int) = ds at hgd ⊢
  refine CW.loop (γ := Nat × Int) (fun g => g.1 ≤ 127 ∧ (-170141183460469231731687303715884105728 ≤ g.2 ∧ g.2 < 170141183460469231731687303715884105728) ∧ (g.1 ≤ 16 → g.2 = a * 2 ^ g.1)) (fun g => [(4, .pointer (some ⟨b1, 0, none⟩)), (5, .pointer (some ⟨b2, 0, none⟩)), (6, .pointer (some ⟨b3, 0, none⟩)), (7, slO (some bd) 128 cap1), (8, .int .i64 (g.1 : Int))]) (fun _ => [])
    (fun g => [cel b3 (Wc g.2) 319, cel b2 (Wc (a * ((t % 2 ^ g.1 : Nat) : Int))) 319, own (some bd) cap1 3 1 128 (ints ds), cel b1 [.int .i64 0, .int .u64 0] 319]) (fun g => 127 - g.1) (0, a) ⟨by show 0 ≤ 127; decide, by omega, fun _ => by simp⟩
    (.cons rfl (.cons rfl (.cons rfl (.cons rfl (.cons rfl .nil))))) (fun w h => h.rea (fun _ h => h) (by
      rw [show Wc (a * ((t % 2 ^ 0 : Nat) : Int)) = [.int .i64 0, .int .u64 0] by simp [Wc, Nat.mod_one]]
      exact (by repeat (first | exact Rea.nil | (apply Rea.cons; (solve | (repeat (first | exact Del.here | apply Del.there)))))))) ?_
  rintro ⟨i, x⟩ ⟨hi, hx1, hx⟩
  dsimp only at hi hx1 hx ⊢
  refine CW.seq (CW.seq (CW.rg (RL.p rfl (RL.p rfl (RL.nil (NQ.seq ?_))))))
  refine CW.cond rfl (fun hlt => ?_) (fun hlt => ?_)
  ·
    have hlt : i < 127 := by simp at hlt; omega
    have hgi := hgd i (by omega)
    rw [bit_cast] at hgi
    have hms := mod_step t i
    have hlt2 : t / 2 ^ i % 2 < 2 := Nat.mod_lt _ (by decide)
    obtain ⟨bt, hbt⟩ : ∃ b, t / 2 ^ i % 2 = b := ⟨_, rfl⟩
    rw [hbt] at hgi hms hlt2
    have hsm := Nat.le_trans (Nat.mod_le t (2 ^ i)) ht
    have hsb := prd_bd ha hsm
    have hxx : i + 1 ≤ 16 → sw (x + x) = a * 2 ^ (i + 1) := fun h => by
      have h1 := dbl_bd ha (show i ≤ 16 by omega)
      rw [← hx (by omega)] at h1
      rw [sw_id (by omega), hx (by omega), Int.pow_succ, ← Int.mul_assoc]; omega
    refine CW.skip (NQ.seq (CW.seq (CW.block (CW.seq (CW.seq (CW.rg (RL.p rfl (RL.p rfl (RL.idx (j := i) Tryz.runUnderlying61 Tryz.sizeOf3 rfl rfl rfl rfl rfl rfl (by omega) ?_)))))))))
    refine RL.load Tryz.isAgg3 rfl rfl rfl rfl (Rd.getO (by repeat (first | exact List.Mem.head _ | apply List.Mem.tail)) (ints_get hgi)) ?_
    refine RL.p rfl (RL.nil (NQ.seq (CW.ok [4, 5, 6, 7, 8, 23] rfl ?_)))
    refine CW.cond rfl (fun hb => ?_) (fun hb => ?_)
    ·
      have hb1 : bt = 1 := by simp at hb; omega
      subst hb1
      have hi16 := bit_small ht hbt
      have hsum : sw (a * ((t % 2 ^ i : Nat) : Int) + x) = a * ((t % 2 ^ (i + 1) : Nat) : Int) := by
        have h1 := dbl_bd ha (show i ≤ 16 by omega)
        rw [← hx (by omega)] at h1
        rw [sw_id (by omega), hms, hx (by omega), Nat.mul_one, Int.natCast_add, Int.mul_add]; simp
      refine CW.region (ef := [3]) (bk := [3]) (RL.loadN (vs := Wc (a * ((t % 2 ^ i : Nat) : Int))) Tryz.isAgg319 Tryz.sizeOf319 rfl rfl rfl rfl (Rds.cel (by repeat (first | exact List.Mem.head _ | apply List.Mem.tail)) (at_spec ⟨rfl, rfl, trivial⟩)) ?_)
      refine RL.loadN (vs := Wc x) Tryz.isAgg319 Tryz.sizeOf319 rfl rfl rfl rfl (Rds.cel (by repeat (first | exact List.Mem.head _ | apply List.Mem.tail)) (at_spec ⟨rfl, rfl, trivial⟩)) ?_
      refine RL.callvq (radd_w (a * ((t % 2 ^ i : Nat) : Int)) x (by omega) hx1) Tryz.call161 rfl rfl rfl rfl ?_
      rw [hsum]
      refine RL.storeW (vs := Wc (a * ((t % 2 ^ (i + 1) : Nat) : Int))) Tryz.sizeOf319 rfl rfl rfl rfl rfl rfl rfl rfl (by repeat (first | exact Upd.here | apply Upd.there)) rfl rfl ?_
      refine RL.nil (NQ.seq (CW.region (ef := [3]) (bk := [3]) (RL.loadN (vs := Wc x) Tryz.isAgg319 Tryz.sizeOf319 rfl rfl rfl rfl (Rds.cel (by repeat (first | exact List.Mem.head _ | apply List.Mem.tail)) (at_spec ⟨rfl, rfl, trivial⟩)) ?_)))
      refine RL.loadN (vs := Wc x) Tryz.isAgg319 Tryz.sizeOf319 rfl rfl rfl rfl (Rds.cel (by repeat (first | exact List.Mem.head _ | apply List.Mem.tail)) (at_spec ⟨rfl, rfl, trivial⟩)) ?_
      refine RL.callvq (radd_w x x hx1 hx1) Tryz.call161 rfl rfl rfl rfl ?_
      refine RL.storeW (vs := Wc (sw (x + x))) Tryz.sizeOf319 rfl rfl rfl rfl rfl rfl rfl rfl (by repeat (first | exact Upd.here | apply Upd.there)) rfl rfl ?_
      refine RL.nil (NQ.block (NQ.seq (CW.ok [4, 5, 6, 7, 8] rfl (CW.rg (RL.p rfl (RL.bx rfl (wrapV_i64 (by omega) (by omega)) ?_))))))
      refine RL.p rfl (RL.nil ?_)
      refine NQ.round (g := (i, x)) (i + 1, sw (x + x)) ⟨hlt, sw_bd _, hxx⟩ (by show 127 - (i + 1) < 127 - i; omega) (.cons rfl (.cons rfl (.cons rfl (.cons rfl (.cons rfl .nil))))) (fun w h => h.rea (fun _ h => h) (by repeat (first | exact Rea.nil | (apply Rea.cons; (solve | (repeat (first | exact Del.here | apply Del.there)))))))
    ·
      have hb1 : bt = 0 := by simp at hb; omega
      subst hb1
      have hsum : t % 2 ^ i = t % 2 ^ (i + 1) := by rw [hms, Nat.mul_zero, Nat.add_zero]
      rw [hsum]
      refine CW.skip (NQ.seq (CW.region (ef := [3]) (bk := [3]) (RL.loadN (vs := Wc x) Tryz.isAgg319 Tryz.sizeOf319 rfl rfl rfl rfl (Rds.cel (by repeat (first | exact List.Mem.head _ | apply List.Mem.tail)) (at_spec ⟨rfl, rfl, trivial⟩)) ?_)))
      refine RL.loadN (vs := Wc x) Tryz.isAgg319 Tryz.sizeOf319 rfl rfl rfl rfl (Rds.cel (by repeat (first | exact List.Mem.head _ | apply List.Mem.tail)) (at_spec ⟨rfl, rfl, trivial⟩)) ?_
      refine RL.callvq (radd_w x x hx1 hx1) Tryz.call161 rfl rfl rfl rfl ?_
      refine RL.storeW (vs := Wc (sw (x + x))) Tryz.sizeOf319 rfl rfl rfl rfl rfl rfl rfl rfl (by repeat (first | exact Upd.here | apply Upd.there)) rfl rfl ?_
      refine RL.nil (NQ.block (NQ.seq (CW.rg (RL.p rfl (RL.bx rfl (wrapV_i64 (by omega) (by omega)) ?_)))))
      refine RL.p rfl (RL.nil ?_)
      refine NQ.round (g := (i, x)) (i + 1, sw (x + x)) ⟨hlt, sw_bd _, hxx⟩ (by show 127 - (i + 1) < 127 - i; omega) (.cons rfl (.cons rfl (.cons rfl (.cons rfl (.cons rfl .nil))))) (fun w h => h.rea (fun _ h => h) (by repeat (first | exact Rea.nil | (apply Rea.cons; (solve | (repeat (first | exact Del.here | apply Del.there)))))))
  ·
    have hin : i = 127 := by simp at hlt; omega
    subst hin
    have hgi := hgd 127 (by omega)
    have h127 : (2 : Nat) ^ 127 > 65535 := by decide
    rw [bit_cast, Nat.div_eq_of_lt (show t < 2 ^ 127 by omega)] at hgi
    rw [Nat.mod_eq_of_lt (show t < 2 ^ 127 by omega)]
    refine CW.exit (XQ.seq (XQ.seq (XQ.hit (NQ.seq (CW.seq (CW.seq (CW.rg (RL.p rfl (RL.idx (j := 127) Tryz.runUnderlying61 Tryz.sizeOf3 rfl rfl rfl rfl rfl rfl (by omega) ?_)))))))))
    refine RL.load Tryz.isAgg3 rfl rfl rfl rfl (Rd.getO (by repeat (first | exact List.Mem.head _ | apply List.Mem.tail)) (ints_get hgi)) ?_
    refine RL.p rfl (RL.nil (NQ.seq (CW.ok [4, 5, 6, 33] rfl (CW.condF rfl (rfl) (CW.skip (NQ.seq (CW.seq (CW.region (ef := [1]) (bk := [1]) (RL.loadN (vs := Wc (a * (t : Int))) Tryz.isAgg319 Tryz.sizeOf319 rfl rfl rfl rfl (Rds.cel (by repeat (first | exact List.Mem.head _ | apply List.Mem.tail)) (at_spec ⟨rfl, rfl, trivial⟩)) ?_)))))))))
    refine RL.storeW (vs := Wc (a * (t : Int))) Tryz.sizeOf319 rfl rfl rfl rfl rfl rfl rfl rfl (by repeat (first | exact Upd.here | apply Upd.there)) rfl rfl ?_
    refine RL.nil (NQ.seq (CW.ret ?_))
    exact RQ.post (resW (vs := Wc (a * (t : Int))) rfl rfl Tryz.isAgg319 Tryz.sizeOf319 (by repeat (first | exact List.Mem.head _ | apply List.Mem.tail)) rfl) (Split.none _) ⟨rfl, rfl, rfl⟩
def i64 (n : Int) : Prop := -9223372036854775808 ≤ n ∧ n ≤ 9223372036854775807
def drf (k t : Int) : Int := min (max k 0 * min (max t 0) 65535) 9223372036854775807
def limB (h k g t : Int) : Int := clip (isum [max h 0, max g 0, drf k t])
theorem drf_bd (k t : Int) : 0 ≤ drf k t ∧ drf k t ≤ 9223372036854775807 := by
  have : 0 ≤ max k 0 * min (max t 0) 65535 := Int.mul_nonneg (by omega) (by omega)
  unfold drf; omega
theorem rbound_any (h k g t : Int) (hh : i64 h) (hk : i64 k) (hg : i64 g) : Spc Tryz.prog 126 #[.int .i64 h, .int .i64 k, .int .i64 g, .int .i64 t] [] [] (Is (.int .i64 (limB h k g t))) := by
  unfold i64 at hh hk hg
  obtain ⟨n, hn, hnb⟩ : ∃ n : Nat, min (max t 0) 65535 = (n : Int) ∧ n ≤ 65535 := ⟨(min (max t 0) 65535).toNat, by omega, by omega⟩
  have hp := prd_bd (a := max k 0) (by omega) hnb
  have hd : clip (max k 0 * (n : Int)) = drf k t := by
    unfold drf clip
    rw [hn]
    split
    · omega
    · split <;> omega
  have hdb := drf_bd k t
  have hm : Spc Tryz.prog 145 #[.int .i64 (max k 0), .int .i64 (min (max t 0) 65535)] [] [] (Is (W (max k 0 * n))) := by
    rw [hn]; exact rmul_any _ n (by omega) hnb
  have hcl := rwclip_any (max k 0 * (n : Int)) (by omega)
  rw [hd] at hcl
  refine Spc.enter Tryz.func126 rfl rfl rfl (fun w0 hw0 => ?_)
  refine CW.seq (CW.rg (RL.p rfl (RL.nil (NQ.seq (CW.seq (CW.rg (RL.p rfl (RL.max rfl rfl rfl rfl rfl (RL.p rfl (RL.max rfl rfl rfl rfl rfl (RL.min rfl rfl rfl rfl rfl (RL.callvq (hm) Tryz.call145 rfl rfl rfl rfl ?_))))))))))))
  refine RL.callvq (hcl) Tryz.call144 rfl rfl rfl rfl ?_
  refine RL.p rfl (RL.p rfl (RL.p rfl (RL.p rfl (RL.p rfl (RL.nil (NQ.seq (CW.ok [0, 2, 9] rfl (CW.seq (CW.region (ef := [5]) (bk := []) (RL.p rfl (RL.max rfl rfl rfl rfl rfl (RL.p rfl (RL.max rfl rfl rfl rfl rfl ?_)))))))))))))
  refine RL.p rfl (RL.buildSlice [_, _, _] Tryz.runUnderlying323 Tryz.sizeOf23 Tryz.zeroValue23 rfl rfl (by decide) (by decide) rfl rfl rfl rfl rfl rfl ?_)
  intro b1
  refine RL.callv (rsum_any _ [max h 0, max g 0, drf k t] _ (by simp) (by intro z hz; simp only [List.mem_cons, List.not_mem_nil, or_false] at hz; rcases hz with rfl | rfl | rfl <;> omega)) Tryz.call146 rfl rfl rfl rfl (.all (List.Mem.head _) rfl .nil) ?_
  refine RL.p rfl (RL.p rfl (RL.p rfl (RL.p rfl (RL.p rfl (RL.nil (NQ.seq (CW.ok [11] rfl (CW.seq (CW.rg (RL.p rfl (RL.p rfl (RL.nil (NQ.seq ?_)))))))))))))
  refine CW.ret ?_
  exact RQ.post (res1 rfl rfl) (Split.none _) ⟨rfl, rfl, rfl⟩
theorem bound_any (h k g t : Int) (hh : i64 h) (hk : i64 k) (hg : i64 g) : Spc Tryz.prog 152 #[.int .i64 h, .int .i64 k, .int .i64 g, .int .i64 t] [] [] (Is (.int .i64 (limB h k g t))) := by
  unfold i64 at hh hk hg
  have hdb := drf_bd k t
  obtain ⟨n, hn, hnb⟩ : ∃ n : Nat, min (max t 0) 65535 = (n : Int) ∧ n ≤ 65535 := ⟨(min (max t 0) 65535).toNat, by omega, by omega⟩
  have hp := prd_bd (a := max k 0) (by omega) hnb
  have hDd : drf k t = min (max k 0 * (n : Int)) 9223372036854775807 := by rw [drf, hn]
  generalize hdf : drf k t = D at *
  refine Spc.enter Tryz.func152 rfl rfl rfl (fun w0 hw0 => ?_)
  refine CW.seq (CW.rg (RL.p rfl (RL.nil (NQ.seq (CW.seq (CW.rg (RL.p rfl (RL.max rfl rfl rfl rfl rfl (RL.min rfl rfl rfl rfl rfl (RL.p rfl (RL.nil (NQ.seq (CW.seq ?_)))))))))))))
  rw [hn]
  refine CW.rg (RL.p rfl (RL.max rfl rfl rfl rfl rfl (RL.p rfl (RL.nil (NQ.seq (CW.ok [0, 2, 9, 10] rfl (CW.seq (CW.seq (CW.rg (RL.p rfl (RL.p rfl (RL.p rfl ?_))))))))))))
  refine RL.part (d := 20) rfl (fun h1 => ?_) (fun h1 => ?_)
  ·
    have h1' : 0 < n := by simp at h1; omega
    have hq : IntKind.i64.wrap ((9223372036854775807 : Int).tdiv n) = (9223372036854775807 : Int) / n := by
      rw [Int.tdiv_eq_ediv_of_nonneg (by decide)]
      have h2 : 0 ≤ (9223372036854775807 : Int) / n := Int.ediv_nonneg (by decide) (by omega)
      have h3 : (9223372036854775807 : Int) / n ≤ 9223372036854775807 := Int.ediv_le_self _ (by decide)
      exact IntWalk.i64_in _ (by omega)
    have hiff : max k 0 > (9223372036854775807 : Int) / n ↔ max k 0 * (n : Int) > 9223372036854775807 := by
      rw [gt_iff_lt, Int.ediv_lt_iff_lt_mul (by omega)]
    refine RL.p rfl (RL.p rfl (RL.quoX rfl rfl rfl rfl rfl (by omega) (congrArg (Value.int .i64) hq) ?_))
    refine RL.p rfl (RL.p rfl (RL.nil (NQ.seq (CW.ok [0, 2, 9, 10, 25] rfl ?_))))
    refine CW.cond rfl (fun h2 => ?_) (fun h2 => ?_)
    ·
      have h2' : max k 0 * (n : Int) > 9223372036854775807 := hiff.1 (by simpa using h2)
      have hD : D = 9223372036854775807 := by omega
      refine CW.rg (RL.p rfl (RL.nil (NQ.seq (CW.seq (CW.region (ef := [5]) (bk := []) (RL.p rfl (RL.max rfl rfl rfl rfl rfl (RL.p rfl (RL.max rfl rfl rfl rfl rfl (RL.p rfl (RL.buildSlice [_, _, _] Tryz.runUnderlying323 Tryz.sizeOf23 Tryz.zeroValue23 rfl rfl (by decide) (by decide) rfl rfl rfl rfl rfl rfl ?_)))))))))))
      intro b1
      refine RL.callv (fixSum _ [max h 0, max g 0, 9223372036854775807] _ (by simp) (by intro z hz; simp only [List.mem_cons, List.not_mem_nil, or_false] at hz; rcases hz with rfl | rfl | rfl <;> omega)) Tryz.call168 rfl rfl rfl rfl (.all (List.Mem.head _) rfl .nil) ?_
      refine RL.p rfl (RL.p rfl (RL.p rfl (RL.p rfl (RL.p rfl (RL.nil (NQ.seq (CW.ok [11] rfl (CW.seq (CW.rg (RL.p rfl (RL.p rfl (RL.nil (NQ.seq ?_)))))))))))))
      refine CW.ret ?_
      exact RQ.post (res1 rfl rfl) (Split.none _) ⟨by rw [limB, hdf, hD]; rfl, rfl, rfl⟩
    ·
      have h2' : ¬ max k 0 * (n : Int) > 9223372036854775807 := fun h => by
        have := hiff.2 h
        simp at h2
        omega
      have hD : max k 0 * (n : Int) = D := by omega
      have hmw : Value.int .i64 (IntKind.i64.wrap (max k 0 * (n : Int))) = .int .i64 D := by rw [hD, IntWalk.i64_in _ (by omega)]
      refine CW.rg (RL.p rfl (RL.p rfl (RL.bx rfl hmw (RL.p rfl (RL.nil (NQ.seq (CW.seq (CW.region (ef := [5]) (bk := []) (RL.p rfl (RL.max rfl rfl rfl rfl rfl (RL.p rfl (RL.max rfl rfl rfl rfl rfl (RL.p rfl ?_)))))))))))))
      refine RL.buildSlice [_, _, _] Tryz.runUnderlying323 Tryz.sizeOf23 Tryz.zeroValue23 rfl rfl (by decide) (by decide) rfl rfl rfl rfl rfl rfl ?_
      intro b1
      refine RL.callv (fixSum _ [max h 0, max g 0, D] _ (by simp) (by intro z hz; simp only [List.mem_cons, List.not_mem_nil, or_false] at hz; rcases hz with rfl | rfl | rfl <;> omega)) Tryz.call168 rfl rfl rfl rfl (.all (List.Mem.head _) rfl .nil) ?_
      refine RL.p rfl (RL.p rfl (RL.p rfl (RL.p rfl (RL.p rfl (RL.nil (NQ.seq (CW.ok [11] rfl (CW.seq (CW.rg (RL.p rfl (RL.p rfl (RL.nil (NQ.seq ?_)))))))))))))
      refine CW.ret ?_
      exact RQ.post (res1 rfl rfl) (Split.none _) ⟨by rw [limB, hdf]; rfl, rfl, rfl⟩
  ·
    have h1' : n = 0 := by simp at h1; omega
    subst h1'
    have hD : (0 : Int) = D := by rw [hDd]; simp; omega
    have hmw : Value.int .i64 (IntKind.i64.wrap (max k 0 * ((0 : Nat) : Int))) = .int .i64 D := by rw [← hD]; simp; rfl
    refine RL.p rfl (RL.p rfl (RL.p rfl (RL.p rfl (RL.p rfl (RL.nil (NQ.seq (CW.ok [0, 2, 9, 10, 25] rfl (CW.condF rfl rfl (CW.rg (RL.p rfl (RL.p rfl (RL.bx rfl hmw (RL.p rfl ?_)))))))))))))
    refine RL.nil (NQ.seq (CW.seq (CW.region (ef := [5]) (bk := []) (RL.p rfl (RL.max rfl rfl rfl rfl rfl (RL.p rfl (RL.max rfl rfl rfl rfl rfl (RL.p rfl (RL.buildSlice [_, _, _] Tryz.runUnderlying323 Tryz.sizeOf23 Tryz.zeroValue23 rfl rfl (by decide) (by decide) rfl rfl rfl rfl rfl rfl ?_)))))))))
    intro b1
    refine RL.callv (fixSum _ [max h 0, max g 0, D] _ (by simp) (by intro z hz; simp only [List.mem_cons, List.not_mem_nil, or_false] at hz; rcases hz with rfl | rfl | rfl <;> omega)) Tryz.call168 rfl rfl rfl rfl (.all (List.Mem.head _) rfl .nil) ?_
    refine RL.p rfl (RL.p rfl (RL.p rfl (RL.p rfl (RL.p rfl (RL.nil (NQ.seq (CW.ok [11] rfl (CW.seq (CW.rg (RL.p rfl (RL.p rfl (RL.nil (NQ.seq ?_)))))))))))))
    refine CW.ret ?_
    exact RQ.post (res1 rfl rfl) (Split.none _) ⟨by rw [limB, hdf]; rfl, rfl, rfl⟩
end Go.Proofs.YthndhipjfdgdfaaGreatDoor

namespace Go.Proofs.YthndhipjfdgdfaaGreatDoor
open Go.PK
/-! ### Checks of parts -/
def errI (p : Prop) [Decidable p] : Int := if p then 0 else 2
theorem errI_yes {p : Prop} [Decidable p] (h : p) : errI p = 0 := if_pos h
theorem errI_no {p : Prop} [Decidable p] (h : ¬ p) : errI p = 2 := if_neg h
theorem errI_0 {p : Prop} [Decidable p] : errI p = 0 ↔ p := by unfold errI; split <;> simp_all
/-- Something is made, or not; and an error. -/
def ErP (e : Int) : Value → List It → List It → Prop := fun v I' H' => ∃ p, v = .tuple #[.pointer p, .int .i64 e] ∧ I' = [] ∧ H' = []
theorem gate_any (a b c : Int) : Spc Tryz.prog 164 #[.agg #[.int .i64 a, .int .i64 b, .int .i64 c]] [] [] (Is (.int .i64 (errI (0 ≤ a ∧ 0 ≤ b ∧ a ≤ c)))) := by
  refine Spc.enter Tryz.func164 rfl rfl rfl (fun w0 hw0 => ?_)
  refine CW.seq (CW.region (ef := [0]) (bk := []) (RL.box rfl rfl rfl rfl rfl rfl ?_))
  intro b1
  refine RL.p rfl (RL.nil (NQ.seq (CW.seq (CW.seq (CW.rg (RL.fieldAddr fa_94_0 rfl rfl rfl rfl (RL.loadq Tryz.isAgg23 rfl rfl rfl rfl ?_)))))))
  refine RL.p rfl (RL.p rfl ?_)
  apply RL.orB (d := 6) (dp := 10) (l' := (Sq.of [8, 9, 10, 11, 12, 13, 14])) rfl (sK [1, 2] rfl)
  ·
    intro hb4 K4
    refine RL.fieldAddr fa_94_1 rfl rfl rfl rfl (RL.loadq Tryz.isAgg23 rfl rfl rfl rfl ?_)
    refine RL.p rfl (RL.p rfl ?_)
    exact K4 _ (.cons rfl (sK [1, 2] rfl))
  ·
    intro hb4 K4
    refine RL.p rfl (RL.p rfl (RL.p rfl (RL.p rfl ?_)))
    exact K4 _ (.cons rfl (sK [1, 2] rfl))
  refine RL.p rfl ?_
  apply RL.orB (d := 11) (dp := 17) (l' := (Sq.of [])) rfl (sK [2] rfl)
  ·
    intro hb9 K9
    refine RL.fieldAddr fa_94_2 rfl rfl rfl rfl (RL.loadq Tryz.isAgg23 rfl rfl rfl rfl ?_)
    refine RL.fieldAddr fa_94_0 rfl rfl rfl rfl (RL.loadq Tryz.isAgg23 rfl rfl rfl rfl ?_)
    refine RL.p rfl (RL.p rfl ?_)
    exact K9 _ (.cons rfl (sK [2] rfl))
  ·
    intro hb9 K9
    refine RL.p rfl (RL.p rfl (RL.p rfl (RL.p rfl (RL.p rfl (RL.p rfl ?_)))))
    exact K9 _ (.cons rfl (sK [2] rfl))
  refine RL.nil (NQ.seq ?_)
  refine CW.cond rfl (fun h => ?_) (fun h => ?_)
  ·
    refine CW.seq (CW.rg (RL.p rfl (RL.nil (NQ.seq (CW.ret (RQ.seq ?_))))))
    exact RQ.post (res1 rfl rfl) (Split.none _) ⟨by rw [errI_no (by simp at h; omega)], rfl, rfl⟩
  ·
    refine CW.skip (NQ.seq (CW.seq (CW.rg (RL.p rfl (RL.nil (NQ.seq (CW.ret ?_)))))))
    exact RQ.post (res1 rfl rfl) (Split.none _) ⟨by rw [errI_yes (by simp at h; omega)], rfl, rfl⟩
theorem rgate_any (a b c : Int) : Spc Tryz.prog 97 #[.agg #[.int .i64 a, .int .i64 b, .int .i64 c]] [] [] (Is (.int .i64 (errI (0 ≤ a ∧ 0 ≤ b ∧ a ≤ c)))) := by
  refine Spc.enter Tryz.func97 rfl rfl rfl (fun w0 hw0 => ?_)
  refine CW.seq (CW.region (ef := [0]) (bk := []) (RL.box rfl rfl rfl rfl rfl rfl ?_))
  intro b1
  refine RL.p rfl (RL.nil (NQ.seq (CW.seq (CW.seq (CW.rg (RL.fieldAddr fa_104_0 rfl rfl rfl rfl (RL.loadq Tryz.isAgg23 rfl rfl rfl rfl ?_)))))))
  refine RL.p rfl (RL.p rfl ?_)
  apply RL.orB (d := 6) (dp := 10) (l' := (Sq.of [8, 9, 10, 11, 12, 13, 14])) rfl (sK [1, 2] rfl)
  ·
    intro hb4 K4
    refine RL.fieldAddr fa_104_1 rfl rfl rfl rfl (RL.loadq Tryz.isAgg23 rfl rfl rfl rfl ?_)
    refine RL.p rfl (RL.p rfl ?_)
    exact K4 _ (.cons rfl (sK [1, 2] rfl))
  ·
    intro hb4 K4
    refine RL.p rfl (RL.p rfl (RL.p rfl (RL.p rfl ?_)))
    exact K4 _ (.cons rfl (sK [1, 2] rfl))
  refine RL.p rfl ?_
  apply RL.orB (d := 11) (dp := 17) (l' := (Sq.of [])) rfl (sK [2] rfl)
  ·
    intro hb9 K9
    refine RL.fieldAddr fa_104_2 rfl rfl rfl rfl (RL.loadq Tryz.isAgg23 rfl rfl rfl rfl ?_)
    refine RL.fieldAddr fa_104_0 rfl rfl rfl rfl (RL.loadq Tryz.isAgg23 rfl rfl rfl rfl ?_)
    refine RL.p rfl (RL.p rfl ?_)
    exact K9 _ (.cons rfl (sK [2] rfl))
  ·
    intro hb9 K9
    refine RL.p rfl (RL.p rfl (RL.p rfl (RL.p rfl (RL.p rfl (RL.p rfl ?_)))))
    exact K9 _ (.cons rfl (sK [2] rfl))
  refine RL.nil (NQ.seq ?_)
  refine CW.cond rfl (fun h => ?_) (fun h => ?_)
  ·
    refine CW.seq (CW.rg (RL.p rfl (RL.nil (NQ.seq (CW.ret (RQ.seq ?_))))))
    exact RQ.post (res1 rfl rfl) (Split.none _) ⟨by rw [errI_no (by simp at h; omega)], rfl, rfl⟩
  ·
    refine CW.skip (NQ.seq (CW.seq (CW.rg (RL.p rfl (RL.nil (NQ.seq (CW.ret ?_)))))))
    exact RQ.post (res1 rfl rfl) (Split.none _) ⟨by rw [errI_yes (by simp at h; omega)], rfl, rfl⟩
theorem rule_any (a b c d : Int) : Spc Tryz.prog 151 #[.agg #[.int .i64 a, .int .i64 b, .int .i64 c, .int .i64 d]] [] [] (Is (.int .i64 (errI (0 ≤ a ∧ a ≤ 16 ∧ 0 ≤ b ∧ 0 ≤ c ∧ 1 ≤ d ∧ d ≤ 65535)))) := by
  refine Spc.enter Tryz.func151 rfl rfl rfl (fun w0 hw0 => ?_)
  refine CW.seq (CW.region (ef := [0]) (bk := []) (RL.box rfl rfl rfl rfl rfl rfl ?_))
  intro b1
  refine RL.p rfl (RL.nil (NQ.seq (CW.seq (CW.seq (CW.rg (RL.fieldAddr fa_295_0 rfl rfl rfl rfl (RL.loadq Tryz.isAgg3 rfl rfl rfl rfl ?_)))))))
  refine RL.p rfl (RL.p rfl ?_)
  apply RL.orB (d := 6) (dp := 10) (l' := (Sq.of [8, 9, 10, 11, 12, 13, 14, 15, 16, 17, 18, 19, 20, 21, 22, 23, 24, 25, 26, 27])) rfl (sK [1, 2] rfl)
  ·
    intro hb4 K4
    refine RL.fieldAddr fa_295_0 rfl rfl rfl rfl (RL.loadq Tryz.isAgg3 rfl rfl rfl rfl ?_)
    refine RL.p rfl (RL.p rfl ?_)
    exact K4 _ (.cons rfl (sK [1, 2] rfl))
  ·
    intro hb4 K4
    refine RL.p rfl (RL.p rfl (RL.p rfl (RL.p rfl ?_)))
    exact K4 _ (.cons rfl (sK [1, 2] rfl))
  refine RL.p rfl ?_
  apply RL.orB (d := 11) (dp := 15) (l' := (Sq.of [13, 14, 15, 16, 17, 18, 19, 20, 21, 22, 23, 24, 25, 26, 27])) rfl (sK [1, 2] rfl)
  ·
    intro hb9 K9
    refine RL.fieldAddr fa_295_1 rfl rfl rfl rfl (RL.loadq Tryz.isAgg23 rfl rfl rfl rfl ?_)
    refine RL.p rfl (RL.p rfl ?_)
    exact K9 _ (.cons rfl (sK [1, 2] rfl))
  ·
    intro hb9 K9
    refine RL.p rfl (RL.p rfl (RL.p rfl (RL.p rfl ?_)))
    exact K9 _ (.cons rfl (sK [1, 2] rfl))
  refine RL.p rfl ?_
  apply RL.orB (d := 16) (dp := 20) (l' := (Sq.of [18, 19, 20, 21, 22, 23, 24, 25, 26, 27])) rfl (sK [1, 2] rfl)
  ·
    intro hb14 K14
    refine RL.fieldAddr fa_295_2 rfl rfl rfl rfl (RL.loadq Tryz.isAgg23 rfl rfl rfl rfl ?_)
    refine RL.p rfl (RL.p rfl ?_)
    exact K14 _ (.cons rfl (sK [1, 2] rfl))
  ·
    intro hb14 K14
    refine RL.p rfl (RL.p rfl (RL.p rfl (RL.p rfl ?_)))
    exact K14 _ (.cons rfl (sK [1, 2] rfl))
  refine RL.p rfl ?_
  apply RL.orB (d := 21) (dp := 25) (l' := (Sq.of [23, 24, 25, 26, 27])) rfl (sK [1, 2] rfl)
  ·
    intro hb19 K19
    refine RL.fieldAddr fa_295_3 rfl rfl rfl rfl (RL.loadq Tryz.isAgg3 rfl rfl rfl rfl ?_)
    refine RL.p rfl (RL.p rfl ?_)
    exact K19 _ (.cons rfl (sK [1, 2] rfl))
  ·
    intro hb19 K19
    refine RL.p rfl (RL.p rfl (RL.p rfl (RL.p rfl ?_)))
    exact K19 _ (.cons rfl (sK [1, 2] rfl))
  refine RL.p rfl ?_
  apply RL.orB (d := 26) (dp := 30) (l' := (Sq.of [])) rfl (sK [2] rfl)
  ·
    intro hb24 K24
    refine RL.fieldAddr fa_295_3 rfl rfl rfl rfl (RL.loadq Tryz.isAgg3 rfl rfl rfl rfl ?_)
    refine RL.p rfl (RL.p rfl ?_)
    exact K24 _ (.cons rfl (sK [2] rfl))
  ·
    intro hb24 K24
    refine RL.p rfl (RL.p rfl (RL.p rfl (RL.p rfl ?_)))
    exact K24 _ (.cons rfl (sK [2] rfl))
  refine RL.nil (NQ.seq ?_)
  refine CW.cond rfl (fun h => ?_) (fun h => ?_)
  ·
    refine CW.seq (CW.rg (RL.p rfl (RL.nil (NQ.seq (CW.ret (RQ.seq ?_))))))
    exact RQ.post (res1 rfl rfl) (Split.none _) ⟨by rw [errI_no (by simp at h; omega)], rfl, rfl⟩
  ·
    refine CW.skip (NQ.seq (CW.seq (CW.rg (RL.p rfl (RL.nil (NQ.seq (CW.ret ?_)))))))
    exact RQ.post (res1 rfl rfl) (Split.none _) ⟨by rw [errI_yes (by simp at h; omega)], rfl, rfl⟩
theorem rrule_any (a b c d : Int) : Spc Tryz.prog 98 #[.agg #[.int .i64 a, .int .i64 b, .int .i64 c, .int .i64 d]] [] [] (Is (.int .i64 (errI (0 ≤ a ∧ a ≤ 16 ∧ 0 ≤ b ∧ 0 ≤ c ∧ 1 ≤ d ∧ d ≤ 65535)))) := by
  refine Spc.enter Tryz.func98 rfl rfl rfl (fun w0 hw0 => ?_)
  refine CW.seq (CW.region (ef := [0]) (bk := []) (RL.box rfl rfl rfl rfl rfl rfl ?_))
  intro b1
  refine RL.p rfl (RL.nil (NQ.seq (CW.seq (CW.seq (CW.rg (RL.fieldAddr fa_215_0 rfl rfl rfl rfl (RL.loadq Tryz.isAgg3 rfl rfl rfl rfl ?_)))))))
  refine RL.p rfl (RL.p rfl ?_)
  apply RL.orB (d := 6) (dp := 10) (l' := (Sq.of [8, 9, 10, 11, 12, 13, 14, 15, 16, 17, 18, 19, 20, 21, 22, 23, 24, 25, 26, 27])) rfl (sK [1, 2] rfl)
  ·
    intro hb4 K4
    refine RL.fieldAddr fa_215_0 rfl rfl rfl rfl (RL.loadq Tryz.isAgg3 rfl rfl rfl rfl ?_)
    refine RL.p rfl (RL.p rfl ?_)
    exact K4 _ (.cons rfl (sK [1, 2] rfl))
  ·
    intro hb4 K4
    refine RL.p rfl (RL.p rfl (RL.p rfl (RL.p rfl ?_)))
    exact K4 _ (.cons rfl (sK [1, 2] rfl))
  refine RL.p rfl ?_
  apply RL.orB (d := 11) (dp := 15) (l' := (Sq.of [13, 14, 15, 16, 17, 18, 19, 20, 21, 22, 23, 24, 25, 26, 27])) rfl (sK [1, 2] rfl)
  ·
    intro hb9 K9
    refine RL.fieldAddr fa_215_1 rfl rfl rfl rfl (RL.loadq Tryz.isAgg23 rfl rfl rfl rfl ?_)
    refine RL.p rfl (RL.p rfl ?_)
    exact K9 _ (.cons rfl (sK [1, 2] rfl))
  ·
    intro hb9 K9
    refine RL.p rfl (RL.p rfl (RL.p rfl (RL.p rfl ?_)))
    exact K9 _ (.cons rfl (sK [1, 2] rfl))
  refine RL.p rfl ?_
  apply RL.orB (d := 16) (dp := 20) (l' := (Sq.of [18, 19, 20, 21, 22, 23, 24, 25, 26, 27])) rfl (sK [1, 2] rfl)
  ·
    intro hb14 K14
    refine RL.fieldAddr fa_215_2 rfl rfl rfl rfl (RL.loadq Tryz.isAgg23 rfl rfl rfl rfl ?_)
    refine RL.p rfl (RL.p rfl ?_)
    exact K14 _ (.cons rfl (sK [1, 2] rfl))
  ·
    intro hb14 K14
    refine RL.p rfl (RL.p rfl (RL.p rfl (RL.p rfl ?_)))
    exact K14 _ (.cons rfl (sK [1, 2] rfl))
  refine RL.p rfl ?_
  apply RL.orB (d := 21) (dp := 25) (l' := (Sq.of [23, 24, 25, 26, 27])) rfl (sK [1, 2] rfl)
  ·
    intro hb19 K19
    refine RL.fieldAddr fa_215_3 rfl rfl rfl rfl (RL.loadq Tryz.isAgg3 rfl rfl rfl rfl ?_)
    refine RL.p rfl (RL.p rfl ?_)
    exact K19 _ (.cons rfl (sK [1, 2] rfl))
  ·
    intro hb19 K19
    refine RL.p rfl (RL.p rfl (RL.p rfl (RL.p rfl ?_)))
    exact K19 _ (.cons rfl (sK [1, 2] rfl))
  refine RL.p rfl ?_
  apply RL.orB (d := 26) (dp := 30) (l' := (Sq.of [])) rfl (sK [2] rfl)
  ·
    intro hb24 K24
    refine RL.fieldAddr fa_215_3 rfl rfl rfl rfl (RL.loadq Tryz.isAgg3 rfl rfl rfl rfl ?_)
    refine RL.p rfl (RL.p rfl ?_)
    exact K24 _ (.cons rfl (sK [2] rfl))
  ·
    intro hb24 K24
    refine RL.p rfl (RL.p rfl (RL.p rfl (RL.p rfl ?_)))
    exact K24 _ (.cons rfl (sK [2] rfl))
  refine RL.nil (NQ.seq ?_)
  refine CW.cond rfl (fun h => ?_) (fun h => ?_)
  ·
    refine CW.seq (CW.rg (RL.p rfl (RL.nil (NQ.seq (CW.ret (RQ.seq ?_))))))
    exact RQ.post (res1 rfl rfl) (Split.none _) ⟨by rw [errI_no (by simp at h; omega)], rfl, rfl⟩
  ·
    refine CW.skip (NQ.seq (CW.seq (CW.rg (RL.p rfl (RL.nil (NQ.seq (CW.ret ?_)))))))
    exact RQ.post (res1 rfl rfl) (Split.none _) ⟨by rw [errI_yes (by simp at h; omega)], rfl, rfl⟩
theorem rcus_any (a b : Int) : Spc Tryz.prog 94 #[.int .i64 a, .int .i64 b] [] [] (ErP (errI (0 ≤ a ∧ 1 ≤ b))) := by
  refine Spc.enter Tryz.func94 rfl rfl rfl (fun w0 hw0 => ?_)
  refine CW.seq (CW.rg (RL.p rfl (RL.p rfl (RL.nil (NQ.seq (CW.seq (CW.seq (CW.rg (RL.p rfl (RL.p rfl (RL.p rfl ?_)))))))))))
  apply RL.orB (d := 8) (dp := 11) (l' := (Sq.of [])) rfl (sK [0, 1, 4, 5] rfl)
  ·
    intro hb3 K3
    refine RL.p rfl (RL.p rfl (RL.p rfl ?_))
    exact K3 _ (.cons rfl (sK [0, 1, 4, 5] rfl))
  ·
    intro hb3 K3
    refine RL.p rfl (RL.p rfl (RL.p rfl ?_))
    exact K3 _ (.cons rfl (sK [0, 1, 4, 5] rfl))
  refine RL.nil (NQ.seq ?_)
  refine CW.cond rfl (fun h => ?_) (fun h => ?_)
  ·
    refine CW.seq (CW.rg (RL.p rfl (RL.p rfl (RL.nil (NQ.seq (CW.ret (RQ.seq ?_)))))))
    exact RQ.post (res2 rfl rfl rfl) (Split.none _) ⟨_, by rw [errI_no (by simp at h; omega)], rfl, rfl⟩
  ·
    refine CW.skip (NQ.seq (CW.seq (CW.region (ef := [3]) (bk := []) (RL.p rfl (RL.p rfl (RL.buildS _ Tryz.zeroValue263 pl_263 rfl rfl rfl rfl rfl (RL.box rfl rfl rfl rfl rfl rfl ?_)))))))
    intro b1
    refine RL.p rfl (RL.p rfl (RL.nil (NQ.seq (CW.ok [4, 5] rfl (CW.ret ?_)))))
    exact RQ.post (res2 rfl rfl rfl) (Split.none _) ⟨_, by rw [errI_yes (by simp at h; omega)], rfl, rfl⟩
theorem rstk_any (a b : Int) : Spc Tryz.prog 95 #[.int .i64 a, .int .i64 b] [] [] (ErP (errI (1 ≤ a ∧ a ≤ 1000 ∧ 0 ≤ b))) := by
  refine Spc.enter Tryz.func95 rfl rfl rfl (fun w0 hw0 => ?_)
  refine CW.seq (CW.rg (RL.p rfl (RL.p rfl (RL.nil (NQ.seq (CW.seq (CW.seq (CW.rg (RL.p rfl (RL.p rfl (RL.p rfl ?_)))))))))))
  apply RL.orB (d := 8) (dp := 11) (l' := (Sq.of [6, 7, 8, 9])) rfl (sK [0, 1, 4, 5] rfl)
  ·
    intro hb3 K3
    refine RL.p rfl (RL.p rfl (RL.p rfl ?_))
    exact K3 _ (.cons rfl (sK [0, 1, 4, 5] rfl))
  ·
    intro hb3 K3
    refine RL.p rfl (RL.p rfl (RL.p rfl ?_))
    exact K3 _ (.cons rfl (sK [0, 1, 4, 5] rfl))
  refine RL.p rfl ?_
  apply RL.orB (d := 12) (dp := 15) (l' := (Sq.of [])) rfl (sK [0, 1, 4, 5] rfl)
  ·
    intro hb7 K7
    refine RL.p rfl (RL.p rfl (RL.p rfl ?_))
    exact K7 _ (.cons rfl (sK [0, 1, 4, 5] rfl))
  ·
    intro hb7 K7
    refine RL.p rfl (RL.p rfl (RL.p rfl ?_))
    exact K7 _ (.cons rfl (sK [0, 1, 4, 5] rfl))
  refine RL.nil (NQ.seq ?_)
  refine CW.cond rfl (fun h => ?_) (fun h => ?_)
  ·
    refine CW.seq (CW.rg (RL.p rfl (RL.p rfl (RL.nil (NQ.seq (CW.ret (RQ.seq ?_)))))))
    exact RQ.post (res2 rfl rfl rfl) (Split.none _) ⟨_, by rw [errI_no (by simp at h; omega)], rfl, rfl⟩
  ·
    refine CW.skip (NQ.seq (CW.seq (CW.region (ef := [3]) (bk := []) (RL.p rfl (RL.p rfl (RL.buildS _ Tryz.zeroValue268 pl_268 rfl rfl rfl rfl rfl (RL.box rfl rfl rfl rfl rfl rfl ?_)))))))
    intro b1
    refine RL.p rfl (RL.p rfl (RL.nil (NQ.seq (CW.ok [4, 5] rfl (CW.ret ?_)))))
    exact RQ.post (res2 rfl rfl rfl) (Split.none _) ⟨_, by rw [errI_yes (by simp at h; omega)], rfl, rfl⟩
theorem rqua_any (a b c : Int) : Spc Tryz.prog 96 #[.int .i64 a, .int .i64 b, .int .i64 c] [] [] (ErP (errI (1 ≤ a ∧ a ≤ 100 ∧ 1 ≤ b ∧ b ≤ 65535 ∧ 1 ≤ c ∧ c ≤ 100))) := by
  refine Spc.enter Tryz.func96 rfl rfl rfl (fun w0 hw0 => ?_)
  refine CW.seq (CW.rg (RL.p rfl (RL.p rfl (RL.nil (NQ.seq (CW.seq (CW.seq (CW.rg (RL.p rfl (RL.p rfl (RL.p rfl ?_)))))))))))
  apply RL.orB (d := 10) (dp := 13) (l' := (Sq.of [6, 7, 8, 9, 10, 11, 12, 13, 14, 15, 16, 17, 18, 19, 20, 21])) rfl (sK [0, 1, 2, 6, 7] rfl)
  ·
    intro hb3 K3
    refine RL.p rfl (RL.p rfl (RL.p rfl ?_))
    exact K3 _ (.cons rfl (sK [0, 1, 2, 6, 7] rfl))
  ·
    intro hb3 K3
    refine RL.p rfl (RL.p rfl (RL.p rfl ?_))
    exact K3 _ (.cons rfl (sK [0, 1, 2, 6, 7] rfl))
  refine RL.p rfl ?_
  apply RL.orB (d := 14) (dp := 17) (l' := (Sq.of [10, 11, 12, 13, 14, 15, 16, 17, 18, 19, 20, 21])) rfl (sK [0, 1, 2, 6, 7] rfl)
  ·
    intro hb7 K7
    refine RL.p rfl (RL.p rfl (RL.p rfl ?_))
    exact K7 _ (.cons rfl (sK [0, 1, 2, 6, 7] rfl))
  ·
    intro hb7 K7
    refine RL.p rfl (RL.p rfl (RL.p rfl ?_))
    exact K7 _ (.cons rfl (sK [0, 1, 2, 6, 7] rfl))
  refine RL.p rfl ?_
  apply RL.orB (d := 18) (dp := 21) (l' := (Sq.of [14, 15, 16, 17, 18, 19, 20, 21])) rfl (sK [0, 1, 2, 6, 7] rfl)
  ·
    intro hb11 K11
    refine RL.p rfl (RL.p rfl (RL.p rfl ?_))
    exact K11 _ (.cons rfl (sK [0, 1, 2, 6, 7] rfl))
  ·
    intro hb11 K11
    refine RL.p rfl (RL.p rfl (RL.p rfl ?_))
    exact K11 _ (.cons rfl (sK [0, 1, 2, 6, 7] rfl))
  refine RL.p rfl ?_
  apply RL.orB (d := 22) (dp := 25) (l' := (Sq.of [18, 19, 20, 21])) rfl (sK [0, 1, 2, 6, 7] rfl)
  ·
    intro hb15 K15
    refine RL.p rfl (RL.p rfl (RL.p rfl ?_))
    exact K15 _ (.cons rfl (sK [0, 1, 2, 6, 7] rfl))
  ·
    intro hb15 K15
    refine RL.p rfl (RL.p rfl (RL.p rfl ?_))
    exact K15 _ (.cons rfl (sK [0, 1, 2, 6, 7] rfl))
  refine RL.p rfl ?_
  apply RL.orB (d := 26) (dp := 29) (l' := (Sq.of [])) rfl (sK [0, 1, 2, 6, 7] rfl)
  ·
    intro hb19 K19
    refine RL.p rfl (RL.p rfl (RL.p rfl ?_))
    exact K19 _ (.cons rfl (sK [0, 1, 2, 6, 7] rfl))
  ·
    intro hb19 K19
    refine RL.p rfl (RL.p rfl (RL.p rfl ?_))
    exact K19 _ (.cons rfl (sK [0, 1, 2, 6, 7] rfl))
  refine RL.nil (NQ.seq ?_)
  refine CW.cond rfl (fun h => ?_) (fun h => ?_)
  ·
    refine CW.seq (CW.rg (RL.p rfl (RL.p rfl (RL.nil (NQ.seq (CW.ret (RQ.seq ?_)))))))
    exact RQ.post (res2 rfl rfl rfl) (Split.none _) ⟨_, by rw [errI_no (by simp at h; omega)], rfl, rfl⟩
  ·
    refine CW.skip (NQ.seq (CW.seq (CW.region (ef := [4]) (bk := []) (RL.p rfl (RL.p rfl (RL.p rfl (RL.buildS _ Tryz.zeroValue273 pl_273 rfl rfl rfl rfl rfl (RL.box rfl rfl rfl rfl rfl rfl ?_))))))))
    intro b1
    refine RL.p rfl (RL.p rfl (RL.nil (NQ.seq (CW.ok [6, 7] rfl (CW.ret ?_)))))
    exact RQ.post (res2 rfl rfl rfl) (Split.none _) ⟨_, by rw [errI_yes (by simp at h; omega)], rfl, rfl⟩
theorem lock_any (a b : Int) : Spc Tryz.prog 105 #[.int .i64 a, .int .i64 b] [] [] (ErP (errI (1 ≤ a ∧ a ≤ 1000 ∧ 1 ≤ b ∧ b ≤ 65535))) := by
  refine Spc.enter Tryz.func105 rfl rfl rfl (fun w0 hw0 => ?_)
  refine CW.seq (CW.rg (RL.p rfl (RL.p rfl (RL.nil (NQ.seq (CW.seq (CW.seq (CW.rg (RL.p rfl (RL.p rfl (RL.p rfl ?_)))))))))))
  apply RL.orB (d := 8) (dp := 11) (l' := (Sq.of [6, 7, 8, 9, 10, 11, 12, 13])) rfl (sK [0, 1, 4, 5] rfl)
  ·
    intro hb3 K3
    refine RL.p rfl (RL.p rfl (RL.p rfl ?_))
    exact K3 _ (.cons rfl (sK [0, 1, 4, 5] rfl))
  ·
    intro hb3 K3
    refine RL.p rfl (RL.p rfl (RL.p rfl ?_))
    exact K3 _ (.cons rfl (sK [0, 1, 4, 5] rfl))
  refine RL.p rfl ?_
  apply RL.orB (d := 12) (dp := 15) (l' := (Sq.of [10, 11, 12, 13])) rfl (sK [0, 1, 4, 5] rfl)
  ·
    intro hb7 K7
    refine RL.p rfl (RL.p rfl (RL.p rfl ?_))
    exact K7 _ (.cons rfl (sK [0, 1, 4, 5] rfl))
  ·
    intro hb7 K7
    refine RL.p rfl (RL.p rfl (RL.p rfl ?_))
    exact K7 _ (.cons rfl (sK [0, 1, 4, 5] rfl))
  refine RL.p rfl ?_
  apply RL.orB (d := 16) (dp := 19) (l' := (Sq.of [])) rfl (sK [0, 1, 4, 5] rfl)
  ·
    intro hb11 K11
    refine RL.p rfl (RL.p rfl (RL.p rfl ?_))
    exact K11 _ (.cons rfl (sK [0, 1, 4, 5] rfl))
  ·
    intro hb11 K11
    refine RL.p rfl (RL.p rfl (RL.p rfl ?_))
    exact K11 _ (.cons rfl (sK [0, 1, 4, 5] rfl))
  refine RL.nil (NQ.seq ?_)
  refine CW.cond rfl (fun h => ?_) (fun h => ?_)
  ·
    refine CW.seq (CW.rg (RL.p rfl (RL.p rfl (RL.nil (NQ.seq (CW.ret (RQ.seq ?_)))))))
    exact RQ.post (res2 rfl rfl rfl) (Split.none _) ⟨_, by rw [errI_no (by simp at h; omega)], rfl, rfl⟩
  ·
    refine CW.skip (NQ.seq (CW.seq (CW.region (ef := [3]) (bk := []) (RL.p rfl (RL.p rfl (RL.buildS _ Tryz.zeroValue285 pl_285 rfl rfl rfl rfl rfl (RL.box rfl rfl rfl rfl rfl rfl ?_)))))))
    intro b1
    refine RL.p rfl (RL.p rfl (RL.nil (NQ.seq (CW.ok [4, 5] rfl (CW.ret ?_)))))
    exact RQ.post (res2 rfl rfl rfl) (Split.none _) ⟨_, by rw [errI_yes (by simp at h; omega)], rfl, rfl⟩
theorem rlock_any (a b : Int) : Spc Tryz.prog 58 #[.int .i64 a, .int .i64 b] [] [] (ErP (errI (1 ≤ a ∧ a ≤ 1000 ∧ 1 ≤ b ∧ b ≤ 65535))) := by
  refine Spc.enter Tryz.func58 rfl rfl rfl (fun w0 hw0 => ?_)
  refine CW.seq (CW.rg (RL.p rfl (RL.p rfl (RL.nil (NQ.seq (CW.seq (CW.seq (CW.rg (RL.p rfl (RL.p rfl (RL.p rfl ?_)))))))))))
  apply RL.orB (d := 8) (dp := 11) (l' := (Sq.of [6, 7, 8, 9, 10, 11, 12, 13])) rfl (sK [0, 1, 4, 5] rfl)
  ·
    intro hb3 K3
    refine RL.p rfl (RL.p rfl (RL.p rfl ?_))
    exact K3 _ (.cons rfl (sK [0, 1, 4, 5] rfl))
  ·
    intro hb3 K3
    refine RL.p rfl (RL.p rfl (RL.p rfl ?_))
    exact K3 _ (.cons rfl (sK [0, 1, 4, 5] rfl))
  refine RL.p rfl ?_
  apply RL.orB (d := 12) (dp := 15) (l' := (Sq.of [10, 11, 12, 13])) rfl (sK [0, 1, 4, 5] rfl)
  ·
    intro hb7 K7
    refine RL.p rfl (RL.p rfl (RL.p rfl ?_))
    exact K7 _ (.cons rfl (sK [0, 1, 4, 5] rfl))
  ·
    intro hb7 K7
    refine RL.p rfl (RL.p rfl (RL.p rfl ?_))
    exact K7 _ (.cons rfl (sK [0, 1, 4, 5] rfl))
  refine RL.p rfl ?_
  apply RL.orB (d := 16) (dp := 19) (l' := (Sq.of [])) rfl (sK [0, 1, 4, 5] rfl)
  ·
    intro hb11 K11
    refine RL.p rfl (RL.p rfl (RL.p rfl ?_))
    exact K11 _ (.cons rfl (sK [0, 1, 4, 5] rfl))
  ·
    intro hb11 K11
    refine RL.p rfl (RL.p rfl (RL.p rfl ?_))
    exact K11 _ (.cons rfl (sK [0, 1, 4, 5] rfl))
  refine RL.nil (NQ.seq ?_)
  refine CW.cond rfl (fun h => ?_) (fun h => ?_)
  ·
    refine CW.seq (CW.rg (RL.p rfl (RL.p rfl (RL.nil (NQ.seq (CW.ret (RQ.seq ?_)))))))
    exact RQ.post (res2 rfl rfl rfl) (Split.none _) ⟨_, by rw [errI_no (by simp at h; omega)], rfl, rfl⟩
  ·
    refine CW.skip (NQ.seq (CW.seq (CW.region (ef := [3]) (bk := []) (RL.p rfl (RL.p rfl (RL.buildS _ Tryz.zeroValue200 pl_200 rfl rfl rfl rfl rfl (RL.box rfl rfl rfl rfl rfl rfl ?_)))))))
    intro b1
    refine RL.p rfl (RL.p rfl (RL.nil (NQ.seq (CW.ok [4, 5] rfl (CW.ret ?_)))))
    exact RQ.post (res2 rfl rfl rfl) (Split.none _) ⟨_, by rw [errI_yes (by simp at h; omega)], rfl, rfl⟩
theorem cus_any (a b : Int) : Spc Tryz.prog 165 #[.int .i64 a, .int .i64 b] [] [] (ErP (errI (0 ≤ a ∧ 1 ≤ b))) := by
  refine Spc.enter Tryz.func165 rfl rfl rfl (fun w0 hw0 => ?_)
  refine CW.seq (CW.rg (RL.p rfl (RL.p rfl (RL.nil (NQ.seq (CW.seq (CW.seq (CW.rg (RL.p rfl (RL.p rfl (RL.p rfl ?_)))))))))))
  apply RL.orB (d := 8) (dp := 11) (l' := (Sq.of [])) rfl (sK [0, 1, 4, 5] rfl)
  ·
    intro hb3 K3
    refine RL.p rfl (RL.p rfl (RL.p rfl ?_))
    exact K3 _ (.cons rfl (sK [0, 1, 4, 5] rfl))
  ·
    intro hb3 K3
    refine RL.p rfl (RL.p rfl (RL.p rfl ?_))
    exact K3 _ (.cons rfl (sK [0, 1, 4, 5] rfl))
  refine RL.nil (NQ.seq ?_)
  refine CW.cond rfl (fun h => ?_) (fun h => ?_)
  ·
    refine CW.seq (CW.rg (RL.p rfl (RL.p rfl (RL.nil (NQ.seq (CW.ret (RQ.seq ?_)))))))
    exact RQ.post (res2 rfl rfl rfl) (Split.none _) ⟨_, by rw [errI_no (by simp at h; omega)], rfl, rfl⟩
  ·
    refine CW.skip (NQ.seq (CW.seq (CW.region (ef := [2, 4]) (bk := []) (RL.p rfl (RL.p rfl ?_)))))
    refine RL.makeMap (good := fun _ => True) rfl rfl rfl rfl (fun mp => ?_)
    refine RL.buildS [_, _, _] Tryz.zeroValue362 pl_362 rfl rfl rfl rfl rfl (RL.box rfl rfl rfl rfl rfl rfl ?_)
    intro b1
    refine RL.p rfl (RL.p rfl (RL.nil (NQ.seq (CW.ok [4, 5] rfl (CW.ret ?_)))))
    exact RQ.post (res2 rfl rfl rfl) (Split.none _) ⟨_, by rw [errI_yes (by simp at h; omega)], rfl, rfl⟩
theorem stk_any (a b : Int) : Spc Tryz.prog 166 #[.int .i64 a, .int .i64 b] [] [] (ErP (errI (1 ≤ a ∧ a ≤ 1000 ∧ 0 ≤ b))) := by
  refine Spc.enter Tryz.func166 rfl rfl rfl (fun w0 hw0 => ?_)
  refine CW.seq (CW.rg (RL.p rfl (RL.p rfl (RL.nil (NQ.seq (CW.seq (CW.seq (CW.rg (RL.p rfl (RL.p rfl (RL.p rfl ?_)))))))))))
  apply RL.orB (d := 8) (dp := 11) (l' := (Sq.of [6, 7, 8, 9])) rfl (sK [0, 1, 4, 5] rfl)
  ·
    intro hb3 K3
    refine RL.p rfl (RL.p rfl (RL.p rfl ?_))
    exact K3 _ (.cons rfl (sK [0, 1, 4, 5] rfl))
  ·
    intro hb3 K3
    refine RL.p rfl (RL.p rfl (RL.p rfl ?_))
    exact K3 _ (.cons rfl (sK [0, 1, 4, 5] rfl))
  refine RL.p rfl ?_
  apply RL.orB (d := 12) (dp := 15) (l' := (Sq.of [])) rfl (sK [0, 1, 4, 5] rfl)
  ·
    intro hb7 K7
    refine RL.p rfl (RL.p rfl (RL.p rfl ?_))
    exact K7 _ (.cons rfl (sK [0, 1, 4, 5] rfl))
  ·
    intro hb7 K7
    refine RL.p rfl (RL.p rfl (RL.p rfl ?_))
    exact K7 _ (.cons rfl (sK [0, 1, 4, 5] rfl))
  refine RL.nil (NQ.seq ?_)
  refine CW.cond rfl (fun h => ?_) (fun h => ?_)
  ·
    refine CW.seq (CW.rg (RL.p rfl (RL.p rfl (RL.nil (NQ.seq (CW.ret (RQ.seq ?_)))))))
    exact RQ.post (res2 rfl rfl rfl) (Split.none _) ⟨_, by rw [errI_no (by simp at h; omega)], rfl, rfl⟩
  ·
    refine CW.skip (NQ.seq (CW.seq (CW.region (ef := [2, 4]) (bk := []) (RL.p rfl (RL.p rfl ?_)))))
    refine RL.makeMap (good := fun _ => True) rfl rfl rfl rfl (fun mp => ?_)
    refine RL.buildS [_, _, _] Tryz.zeroValue365 pl_365 rfl rfl rfl rfl rfl (RL.box rfl rfl rfl rfl rfl rfl ?_)
    intro b1
    refine RL.p rfl (RL.p rfl (RL.nil (NQ.seq (CW.ok [4, 5] rfl (CW.ret ?_)))))
    exact RQ.post (res2 rfl rfl rfl) (Split.none _) ⟨_, by rw [errI_yes (by simp at h; omega)], rfl, rfl⟩
theorem row_any (n : Int) : Spc Tryz.prog 176 #[.int .i64 n] [] [] (Is (.bool (decide (1 ≤ n ∧ n ≤ 100)))) := by
  refine Spc.enter Tryz.func176 rfl rfl rfl (fun w0 hw0 => ?_)
  refine CW.seq (CW.rg (RL.p rfl (RL.nil (NQ.seq (CW.seq (CW.rg (RL.p rfl (RL.p rfl (RL.p rfl ?_)))))))))
  apply RL.andB (d := 5) (dp := 8) (l' := (Sq.of [6])) rfl (sK [2] rfl)
  ·
    intro hb3 K3
    refine RL.p rfl (RL.p rfl (RL.p rfl ?_))
    exact K3 _ (.cons rfl (sK [2] rfl))
  ·
    intro hb3 K3
    refine RL.p rfl (RL.p rfl (RL.p rfl ?_))
    exact K3 _ (.cons rfl (sK [2] rfl))
  refine RL.p rfl (RL.nil (NQ.seq (CW.ret ?_)))
  exact RQ.post (res1 rfl rfl) (Split.none _) ⟨by congr 1; rw [Bool.eq_iff_iff]; simp, rfl, rfl⟩
theorem qua_any (a b c : Int) : Spc Tryz.prog 167 #[.int .i64 a, .int .i64 b, .int .i64 c] [] [] (ErP (errI (1 ≤ a ∧ a ≤ 100 ∧ 1 ≤ b ∧ b ≤ 65535 ∧ 1 ≤ c ∧ c ≤ 100))) := by
  refine Spc.enter Tryz.func167 rfl rfl rfl (fun w0 hw0 => ?_)
  refine CW.seq (CW.rg (RL.p rfl (RL.p rfl (RL.nil (NQ.seq (CW.seq (CW.seq (CW.rg (RL.p rfl (RL.callvq (row_any a) Tryz.call176 rfl rfl rfl rfl ?_))))))))))
  refine RL.p rfl (RL.p rfl ?_)
  apply RL.orB (d := 11) (dp := 15) (l' := (Sq.of [8, 9, 10, 11, 12, 13, 14, 15])) rfl (sK [0, 1, 2, 6, 7] rfl)
  ·
    intro hb4 K4
    refine RL.p rfl (RL.callvq (row_any c) Tryz.call176 rfl rfl rfl rfl ?_)
    refine RL.p rfl (RL.p rfl ?_)
    exact K4 _ (.cons rfl (sK [0, 1, 2, 6, 7] rfl))
  ·
    intro hb4 K4
    refine RL.p rfl (RL.p rfl (RL.p rfl (RL.p rfl ?_)))
    exact K4 _ (.cons rfl (sK [0, 1, 2, 6, 7] rfl))
  refine RL.p rfl ?_
  apply RL.orB (d := 16) (dp := 19) (l' := (Sq.of [12, 13, 14, 15])) rfl (sK [0, 1, 2, 6, 7] rfl)
  ·
    intro hb9 K9
    refine RL.p rfl (RL.p rfl (RL.p rfl ?_))
    exact K9 _ (.cons rfl (sK [0, 1, 2, 6, 7] rfl))
  ·
    intro hb9 K9
    refine RL.p rfl (RL.p rfl (RL.p rfl ?_))
    exact K9 _ (.cons rfl (sK [0, 1, 2, 6, 7] rfl))
  refine RL.p rfl ?_
  apply RL.orB (d := 20) (dp := 23) (l' := (Sq.of [])) rfl (sK [0, 1, 2, 6, 7] rfl)
  ·
    intro hb13 K13
    refine RL.p rfl (RL.p rfl (RL.p rfl ?_))
    exact K13 _ (.cons rfl (sK [0, 1, 2, 6, 7] rfl))
  ·
    intro hb13 K13
    refine RL.p rfl (RL.p rfl (RL.p rfl ?_))
    exact K13 _ (.cons rfl (sK [0, 1, 2, 6, 7] rfl))
  refine RL.nil (NQ.seq ?_)
  refine CW.cond rfl (fun h => ?_) (fun h => ?_)
  ·
    refine CW.seq (CW.rg (RL.p rfl (RL.p rfl (RL.nil (NQ.seq (CW.ret (RQ.seq ?_)))))))
    exact RQ.post (res2 rfl rfl rfl) (Split.none _) ⟨_, by rw [errI_no (by simp at h; omega)], rfl, rfl⟩
  ·
    refine CW.skip (NQ.seq (CW.seq (CW.region (ef := [4]) (bk := []) (RL.p rfl (RL.p rfl (RL.p rfl (RL.buildS _ Tryz.zeroValue370 pl_370 rfl rfl rfl rfl rfl (RL.box rfl rfl rfl rfl rfl rfl ?_))))))))
    intro b1
    refine RL.p rfl (RL.p rfl (RL.nil (NQ.seq (CW.ok [6, 7] rfl (CW.ret ?_)))))
    exact RQ.post (res2 rfl rfl rfl) (Split.none _) ⟨_, by rw [errI_yes (by simp at h; omega)], rfl, rfl⟩
end Go.Proofs.YthndhipjfdgdfaaGreatDoor

namespace Go.Proofs.YthndhipjfdgdfaaGreatDoor
open Go.PK
/-! ### Schedules -/
structure Sch where
  st : Int
  ln : Int
  lg : Int
  of : Int
def Sch.cells (s : Sch) : List Value := [.int .i64 s.st, .int .i64 s.ln, .int .i64 s.lg, .int .i64 s.of]
def Sch.Ok (s : Sch) : Prop := 0 ≤ s.st ∧ s.st ≤ 1099511627776 ∧ 1 ≤ s.ln ∧ s.ln ≤ 65535 ∧ 1 ≤ s.lg ∧ s.lg ≤ 16 ∧ 0 ≤ s.of ∧ s.of ≤ 65535
instance (s : Sch) : Decidable s.Ok := inferInstanceAs (Decidable (_ ∧ _))
def Sch.e (s : Sch) : Int := if s.Ok then 0 else 2
def tickB (t : Int) : Bool := decide (0 ≤ t ∧ t ≤ 1099511627776)
theorem eqs_sch (a b c d e f g h : Int) (x y : Operand) (w : World) : (do eqGuard .eql 27 x y (.agg #[.int .i64 a, .int .i64 b, .int .i64 c, .int .i64 d]) (.agg #[.int .i64 e, .int .i64 f, .int .i64 g, .int .i64 h]); binOp .eql 27 (.agg #[.int .i64 a, .int .i64 b, .int .i64 c, .int .i64 d]) (.agg #[.int .i64 e, .int .i64 f, .int .i64 g, .int .i64 h]) : Sem Value).run Tryz.prog w = .ok (.bool (a == e && b == f && c == g && d == h)) w := by
  simp [run_eqGuard_agg, run_eql_struct, run_equalIn_struct, Program.fieldsOf, Op.eqFields, Go.part, go_sem]
  by_cases h1 : a = e <;> by_cases h2 : b = f <;> by_cases h3 : c = g <;> by_cases h4 : d = h <;> simp [h1, h2, h3, h4]
theorem stick (t : Int) : Spc Tryz.prog 132 #[.int .i64 t] [] [] (Is (.bool (tickB t))) := by
  refine Spc.enter Tryz.func132 rfl rfl rfl (fun w0 hw0 => ?_)
  refine CW.seq (CW.rg (RL.p rfl (RL.nil (NQ.seq (CW.seq (CW.rg (RL.p rfl (RL.p rfl (RL.p rfl ?_)))))))))
  apply RL.andB (d := 5) (dp := 8) (l' := (Sq.of [6])) rfl (sK [2] rfl)
  ·
    intro hb3 K3
    refine RL.p rfl (RL.p rfl (RL.p rfl ?_))
    exact K3 _ (.cons rfl (sK [2] rfl))
  ·
    intro hb3 K3
    refine RL.p rfl (RL.p rfl (RL.p rfl ?_))
    exact K3 _ (.cons rfl (sK [2] rfl))
  refine RL.p rfl (RL.nil (NQ.seq (CW.ret ?_)))
  refine RQ.post (res1 rfl rfl) (Split.none _) ⟨?_, rfl, rfl⟩
  congr 1
  rw [Bool.eq_iff_iff]; simp [tickB]
theorem scheck (s : Sch) : Spc Tryz.prog 106 #[.agg #[.int .i64 s.st, .int .i64 s.ln, .int .i64 s.lg, .int .i64 s.of]] [] [] (Is (.int .i64 s.e)) := by
  refine Spc.enter Tryz.func106 rfl rfl rfl (fun w0 hw0 => ?_)
  refine CW.seq (CW.region (ef := [0]) (bk := []) (RL.box rfl rfl rfl rfl rfl rfl ?_))
  intro b1
  refine RL.p rfl (RL.nil (NQ.seq (CW.seq (CW.block (CW.seq (CW.rg (RL.loadN (vs := [_, _, _, _]) Tryz.isAgg27 Tryz.sizeOf27 rfl rfl rfl rfl (by first | (apply Rds.cel; (solve | (repeat (first | exact List.Mem.head _ | apply List.Mem.tail))); exact at_spec ⟨rfl, rfl, rfl, rfl, trivial⟩) | (apply Rds.celI; (solve | (repeat (first | exact List.Mem.head _ | apply List.Mem.tail))); exact at_spec ⟨rfl, rfl, rfl, rfl, trivial⟩) | assumption | (apply RdsI.rds; assumption)) ?_)))))))
  refine RL.buildS _ Tryz.zeroValue27 pl_27 rfl rfl rfl rfl rfl (RL.cmp rfl rfl rfl rfl rfl (eqs_sch _ _ _ _ _ _ _ _ _ _) (RL.p rfl (RL.nil (NQ.seq ?_))))
  refine CW.cond rfl (fun h1 => ?_) (fun h1 => ?_)
  ·
    refine CW.seq (CW.rg (RL.p rfl (RL.nil (NQ.seq (CW.ok [2] rfl (CW.ret (RQ.block (RQ.seq ?_))))))))
    refine RQ.post (res1 rfl rfl) (Split.none _) ⟨?_, rfl, rfl⟩
    have : ¬ s.Ok := by simp at h1; unfold Sch.Ok; omega
    rw [Sch.e, if_neg this]
  ·
    refine CW.seq (CW.rg (RL.fieldAddr fa_27_0 rfl rfl rfl rfl (RL.loadq Tryz.isAgg3 rfl rfl rfl rfl ?_)))
    refine RL.callvq (stick s.st) Tryz.call132 rfl rfl rfl rfl ?_
    refine RL.p rfl (RL.p rfl ?_)
    apply RL.orB (d := 12) (dp := 16) (l' := (Sq.of [9, 10, 11, 12, 13, 14])) rfl (sK [1, 2] rfl)
    ·
      intro hb5 K5
      refine RL.fieldAddr fa_27_1 rfl rfl rfl rfl (RL.loadq Tryz.isAgg3 rfl rfl rfl rfl ?_)
      refine RL.p rfl (RL.p rfl ?_)
      exact K5 _ (.cons rfl (sK [1, 2] rfl))
    ·
      intro hb5 K5
      refine RL.p rfl (RL.p rfl (RL.p rfl (RL.p rfl ?_)))
      exact K5 _ (.cons rfl (sK [1, 2] rfl))
    refine RL.p rfl ?_
    apply RL.orB (d := 17) (dp := 21) (l' := (Sq.of [14])) rfl (sK [1, 2] rfl)
    ·
      intro hb10 K10
      refine RL.fieldAddr fa_27_1 rfl rfl rfl rfl (RL.loadq Tryz.isAgg3 rfl rfl rfl rfl ?_)
      refine RL.p rfl (RL.p rfl ?_)
      exact K10 _ (.cons rfl (sK [1, 2] rfl))
    ·
      intro hb10 K10
      refine RL.p rfl (RL.p rfl (RL.p rfl (RL.p rfl ?_)))
      exact K10 _ (.cons rfl (sK [1, 2] rfl))
    refine RL.p rfl (RL.nil (NQ.seq ?_))
    refine CW.cond rfl (fun h2 => ?_) (fun h2 => ?_)
    ·
      refine CW.seq (CW.rg (RL.p rfl (RL.nil (NQ.seq (CW.ret (RQ.block (RQ.seq ?_)))))))
      refine RQ.post (res1 rfl rfl) (Split.none _) ⟨?_, rfl, rfl⟩
      have : ¬ s.Ok := by simp [tickB] at h2; unfold Sch.Ok; omega
      rw [Sch.e, if_neg this]
    ·
      refine CW.seq (CW.rg (RL.fieldAddr fa_27_2 rfl rfl rfl rfl (RL.loadq Tryz.isAgg3 rfl rfl rfl rfl ?_)))
      refine RL.p rfl (RL.p rfl ?_)
      apply RL.orB (d := 26) (dp := 30) (l' := (Sq.of [8, 9, 10, 11, 12, 13, 14, 15, 16, 17, 18])) rfl (sK [1, 2] rfl)
      ·
        intro hb4 K4
        refine RL.fieldAddr fa_27_2 rfl rfl rfl rfl (RL.loadq Tryz.isAgg3 rfl rfl rfl rfl ?_)
        refine RL.p rfl (RL.p rfl ?_)
        exact K4 _ (.cons rfl (sK [1, 2] rfl))
      ·
        intro hb4 K4
        refine RL.p rfl (RL.p rfl (RL.p rfl (RL.p rfl ?_)))
        exact K4 _ (.cons rfl (sK [1, 2] rfl))
      refine RL.p rfl ?_
      apply RL.orB (d := 31) (dp := 35) (l' := (Sq.of [13, 14, 15, 16, 17, 18])) rfl (sK [1, 2] rfl)
      ·
        intro hb9 K9
        refine RL.fieldAddr fa_27_3 rfl rfl rfl rfl (RL.loadq Tryz.isAgg3 rfl rfl rfl rfl ?_)
        refine RL.p rfl (RL.p rfl ?_)
        exact K9 _ (.cons rfl (sK [1, 2] rfl))
      ·
        intro hb9 K9
        refine RL.p rfl (RL.p rfl (RL.p rfl (RL.p rfl ?_)))
        exact K9 _ (.cons rfl (sK [1, 2] rfl))
      refine RL.p rfl ?_
      apply RL.orB (d := 36) (dp := 40) (l' := (Sq.of [18])) rfl (sK [2] rfl)
      ·
        intro hb14 K14
        refine RL.fieldAddr fa_27_3 rfl rfl rfl rfl (RL.loadq Tryz.isAgg3 rfl rfl rfl rfl ?_)
        refine RL.p rfl (RL.p rfl ?_)
        exact K14 _ (.cons rfl (sK [2] rfl))
      ·
        intro hb14 K14
        refine RL.p rfl (RL.p rfl (RL.p rfl (RL.p rfl ?_)))
        exact K14 _ (.cons rfl (sK [2] rfl))
      refine RL.p rfl (RL.nil (NQ.seq ?_))
      refine CW.cond rfl (fun h3 => ?_) (fun h3 => ?_)
      ·
        refine CW.seq (CW.rg (RL.p rfl (RL.nil (NQ.seq (CW.ret (RQ.block (RQ.seq ?_)))))))
        refine RQ.post (res1 rfl rfl) (Split.none _) ⟨?_, rfl, rfl⟩
        have : ¬ s.Ok := by simp at h3; unfold Sch.Ok; omega
        rw [Sch.e, if_neg this]
      ·
        refine CW.skip (NQ.block (NQ.seq (CW.seq (CW.rg (RL.p rfl (RL.nil (NQ.seq (CW.ret ?_))))))))
        refine RQ.post (res1 rfl rfl) (Split.none _) ⟨?_, rfl, rfl⟩
        have : s.Ok := by simp [tickB] at h2 h3; unfold Sch.Ok; omega
        rw [Sch.e, if_pos this]
theorem rscheck (s : Sch) : Spc Tryz.prog 57 #[.agg #[.int .i64 s.st, .int .i64 s.ln, .int .i64 s.lg, .int .i64 s.of]] [] [] (Is (.int .i64 s.e)) := by
  refine Spc.enter Tryz.func57 rfl rfl rfl (fun w0 hw0 => ?_)
  refine CW.seq (CW.region (ef := [0]) (bk := []) (RL.box rfl rfl rfl rfl rfl rfl ?_))
  intro b1
  refine RL.p rfl (RL.nil (NQ.seq (CW.seq (CW.seq (CW.rg (RL.fieldAddr fa_38_0 rfl rfl rfl rfl (RL.loadq Tryz.isAgg3 rfl rfl rfl rfl ?_)))))))
  refine RL.p rfl (RL.p rfl ?_)
  apply RL.orB (d := 6) (dp := 10) (l' := (Sq.of [8, 9, 10, 11, 12, 13, 14, 15, 16, 17, 18, 19, 20, 21, 22, 23, 24, 25, 26, 27, 28, 29, 30, 31, 32, 33, 34, 35, 36, 37])) rfl (sK [1, 2] rfl)
  ·
    intro hb4 K4
    refine RL.fieldAddr fa_38_0 rfl rfl rfl rfl (RL.loadq Tryz.isAgg3 rfl rfl rfl rfl ?_)
    refine RL.p rfl (RL.p rfl ?_)
    exact K4 _ (.cons rfl (sK [1, 2] rfl))
  ·
    intro hb4 K4
    refine RL.p rfl (RL.p rfl (RL.p rfl (RL.p rfl ?_)))
    exact K4 _ (.cons rfl (sK [1, 2] rfl))
  refine RL.p rfl ?_
  apply RL.orB (d := 11) (dp := 15) (l' := (Sq.of [13, 14, 15, 16, 17, 18, 19, 20, 21, 22, 23, 24, 25, 26, 27, 28, 29, 30, 31, 32, 33, 34, 35, 36, 37])) rfl (sK [1, 2] rfl)
  ·
    intro hb9 K9
    refine RL.fieldAddr fa_38_1 rfl rfl rfl rfl (RL.loadq Tryz.isAgg3 rfl rfl rfl rfl ?_)
    refine RL.p rfl (RL.p rfl ?_)
    exact K9 _ (.cons rfl (sK [1, 2] rfl))
  ·
    intro hb9 K9
    refine RL.p rfl (RL.p rfl (RL.p rfl (RL.p rfl ?_)))
    exact K9 _ (.cons rfl (sK [1, 2] rfl))
  refine RL.p rfl ?_
  apply RL.orB (d := 16) (dp := 20) (l' := (Sq.of [18, 19, 20, 21, 22, 23, 24, 25, 26, 27, 28, 29, 30, 31, 32, 33, 34, 35, 36, 37])) rfl (sK [1, 2] rfl)
  ·
    intro hb14 K14
    refine RL.fieldAddr fa_38_1 rfl rfl rfl rfl (RL.loadq Tryz.isAgg3 rfl rfl rfl rfl ?_)
    refine RL.p rfl (RL.p rfl ?_)
    exact K14 _ (.cons rfl (sK [1, 2] rfl))
  ·
    intro hb14 K14
    refine RL.p rfl (RL.p rfl (RL.p rfl (RL.p rfl ?_)))
    exact K14 _ (.cons rfl (sK [1, 2] rfl))
  refine RL.p rfl ?_
  apply RL.orB (d := 21) (dp := 25) (l' := (Sq.of [23, 24, 25, 26, 27, 28, 29, 30, 31, 32, 33, 34, 35, 36, 37])) rfl (sK [1, 2] rfl)
  ·
    intro hb19 K19
    refine RL.fieldAddr fa_38_2 rfl rfl rfl rfl (RL.loadq Tryz.isAgg3 rfl rfl rfl rfl ?_)
    refine RL.p rfl (RL.p rfl ?_)
    exact K19 _ (.cons rfl (sK [1, 2] rfl))
  ·
    intro hb19 K19
    refine RL.p rfl (RL.p rfl (RL.p rfl (RL.p rfl ?_)))
    exact K19 _ (.cons rfl (sK [1, 2] rfl))
  refine RL.p rfl ?_
  apply RL.orB (d := 26) (dp := 30) (l' := (Sq.of [28, 29, 30, 31, 32, 33, 34, 35, 36, 37])) rfl (sK [1, 2] rfl)
  ·
    intro hb24 K24
    refine RL.fieldAddr fa_38_2 rfl rfl rfl rfl (RL.loadq Tryz.isAgg3 rfl rfl rfl rfl ?_)
    refine RL.p rfl (RL.p rfl ?_)
    exact K24 _ (.cons rfl (sK [1, 2] rfl))
  ·
    intro hb24 K24
    refine RL.p rfl (RL.p rfl (RL.p rfl (RL.p rfl ?_)))
    exact K24 _ (.cons rfl (sK [1, 2] rfl))
  refine RL.p rfl ?_
  apply RL.orB (d := 31) (dp := 35) (l' := (Sq.of [33, 34, 35, 36, 37])) rfl (sK [1, 2] rfl)
  ·
    intro hb29 K29
    refine RL.fieldAddr fa_38_3 rfl rfl rfl rfl (RL.loadq Tryz.isAgg3 rfl rfl rfl rfl ?_)
    refine RL.p rfl (RL.p rfl ?_)
    exact K29 _ (.cons rfl (sK [1, 2] rfl))
  ·
    intro hb29 K29
    refine RL.p rfl (RL.p rfl (RL.p rfl (RL.p rfl ?_)))
    exact K29 _ (.cons rfl (sK [1, 2] rfl))
  refine RL.p rfl ?_
  apply RL.orB (d := 36) (dp := 40) (l' := (Sq.of [])) rfl (sK [2] rfl)
  ·
    intro hb34 K34
    refine RL.fieldAddr fa_38_3 rfl rfl rfl rfl (RL.loadq Tryz.isAgg3 rfl rfl rfl rfl ?_)
    refine RL.p rfl (RL.p rfl ?_)
    exact K34 _ (.cons rfl (sK [2] rfl))
  ·
    intro hb34 K34
    refine RL.p rfl (RL.p rfl (RL.p rfl (RL.p rfl ?_)))
    exact K34 _ (.cons rfl (sK [2] rfl))
  refine RL.nil (NQ.seq ?_)
  refine CW.cond rfl (fun h1 => ?_) (fun h1 => ?_)
  ·
    refine CW.seq (CW.rg (RL.p rfl (RL.nil (NQ.seq (CW.ret (RQ.seq ?_))))))
    refine RQ.post (res1 rfl rfl) (Split.none _) ⟨?_, rfl, rfl⟩
    have : ¬ s.Ok := by simp at h1; unfold Sch.Ok; omega
    rw [Sch.e, if_neg this]
  ·
    refine CW.skip (NQ.seq (CW.seq (CW.rg (RL.p rfl (RL.nil (NQ.seq (CW.ret ?_)))))))
    refine RQ.post (res1 rfl rfl) (Split.none _) ⟨?_, rfl, rfl⟩
    have : s.Ok := by simp at h1; unfold Sch.Ok; omega
    rw [Sch.e, if_pos this]
end Go.Proofs.YthndhipjfdgdfaaGreatDoor

namespace Go.Proofs.YthndhipjfdgdfaaGreatDoor
open Go.PK
/-! ### Sources -/
structure Wt where
  go : Int
  gg : Int
  gm : Int
  sl : Int
  mo : Int
  sa : Int
  ra : Int
  ba : Int
  ho : Int
  pr : Int
def Wt.cells (w : Wt) : List Value := [.int .i64 w.go, .int .i64 w.gg, .int .i64 w.gm, .int .i64 w.sl, .int .i64 w.mo, .int .i64 w.sa, .int .i64 w.ra, .int .i64 w.ba, .int .i64 w.ho, .int .i64 w.pr]
def Wt.Ok (w : Wt) : Prop := (0 ≤ w.go ∧ 0 ≤ w.gg ∧ w.go ≤ w.gm) ∧ (0 ≤ w.sl ∧ 1 ≤ w.mo) ∧ (1 ≤ w.sa ∧ w.sa ≤ 1000 ∧ 0 ≤ w.ra) ∧ (1 ≤ w.ba ∧ w.ba ≤ 100 ∧ 1 ≤ w.ho ∧ w.ho ≤ 65535 ∧ 1 ≤ w.pr ∧ w.pr ≤ 100)
instance (w : Wt) : Decidable w.Ok := inferInstanceAs (Decidable (_ ∧ _))
structure Sr where
  id : Int
  kd : Int
  rt : List B8
  w : Int
  g : Int
  st : Int
  hz : Int
  wt : Wt
def Sr.tl (s : Sr) : List Value := .int .i64 s.w :: .int .i64 s.g :: .int .i64 s.st :: .int .i64 s.hz :: s.wt.cells
def Sr.cells (s : Sr) : List Value := .int .i64 s.id :: .int .i64 s.kd :: (bytes s.rt ++ s.tl)
structure Sr.Fit (s : Sr) : Prop where
  rt : s.rt.length = 32
  mo : i64 s.wt.mo
  sl : i64 s.wt.sl
  gm : i64 s.wt.gm
theorem sr_len {s : Sr} (h : s.rt.length = 32) : s.cells.length = 48 := by simp [Sr.cells, Sr.tl, Wt.cells, h]
theorem sr_t {s : Sr} (h : s.rt.length = 32) (j : Nat) : s.cells[0 + 34 + j]? = s.tl[j]? := by
  rw [Sr.cells, show 0 + 34 + j = (32 + j) + 1 + 1 by omega]
  simp only [List.getElem?_cons_succ]
  rw [List.getElem?_append_right (by simp [h]), List.length_map, h, Nat.add_sub_cancel_left]
theorem sr_w {s : Sr} (h : s.rt.length = 32) (j : Nat) : s.cells[0 + 38 + j]? = s.wt.cells[j]? := by
  have := sr_t h (4 + j)
  rw [show 0 + 34 + (4 + j) = 0 + 38 + j by omega] at this
  rw [this, Sr.tl, show 4 + j = j + 1 + 1 + 1 + 1 by omega]
  simp only [List.getElem?_cons_succ]
def aidB (k : Int) : Bool := decide (2 ≤ k ∧ k ≤ 5)
def limS (s : Sr) : Int := limB s.wt.mo s.wt.sl s.wt.gm s.hz
def Sr.ok (s : Sr) : Bool := decide ((0 ≤ s.id ∧ s.id ≤ 7) ∧ (if 2 ≤ s.kd ∧ s.kd ≤ 5 then s.wt.Ok else s.kd = 1 ∨ s.kd = 8))
theorem aid_any (s : Sr) : Spc Tryz.prog 113 #[.agg s.cells.toArray] [] [] (Is (.bool (aidB s.kd))) := by
  refine Spc.enter Tryz.func113 rfl rfl rfl (fun w0 hw0 => ?_)
  refine CW.seq (CW.region (ef := [0]) (bk := []) (RL.box rfl rfl rfl rfl rfl rfl ?_))
  intro b1
  refine RL.p rfl (RL.nil (NQ.seq (CW.seq (CW.rg (RL.fieldAddr fa_98_1 rfl rfl rfl rfl (RL.loadq Tryz.isAgg3 rfl rfl rfl rfl ?_))))))
  refine RL.p rfl (RL.p rfl ?_)
  apply RL.andB (d := 6) (dp := 10) (l' := (Sq.of [8])) rfl (sK [2] rfl)
  ·
    intro hb4 K4
    refine RL.fieldAddr fa_98_1 rfl rfl rfl rfl (RL.loadq Tryz.isAgg3 rfl rfl rfl rfl ?_)
    refine RL.p rfl (RL.p rfl ?_)
    exact K4 _ (.cons rfl (sK [2] rfl))
  ·
    intro hb4 K4
    refine RL.p rfl (RL.p rfl (RL.p rfl (RL.p rfl ?_)))
    exact K4 _ (.cons rfl (sK [2] rfl))
  refine RL.p rfl (RL.nil (NQ.seq (CW.ret ?_)))
  exact RQ.post (res1 rfl rfl) (Split.none _) ⟨by congr 1; rw [Bool.eq_iff_iff]; simp [aidB], rfl, rfl⟩
theorem raid_any (k : Int) : Spc Tryz.prog 60 #[.int .i64 k] [] [] (Is (.bool (aidB k))) := by
  refine Spc.enter Tryz.func60 rfl rfl rfl (fun w0 hw0 => ?_)
  refine CW.seq (CW.rg (RL.p rfl (RL.nil (NQ.seq (CW.seq (CW.rg (RL.p rfl (RL.p rfl (RL.p rfl ?_)))))))))
  apply RL.andB (d := 5) (dp := 8) (l' := (Sq.of [6])) rfl (sK [2] rfl)
  ·
    intro hb3 K3
    refine RL.p rfl (RL.p rfl (RL.p rfl ?_))
    exact K3 _ (.cons rfl (sK [2] rfl))
  ·
    intro hb3 K3
    refine RL.p rfl (RL.p rfl (RL.p rfl ?_))
    exact K3 _ (.cons rfl (sK [2] rfl))
  refine RL.p rfl (RL.nil (NQ.seq (CW.ret ?_)))
  exact RQ.post (res1 rfl rfl) (Split.none _) ⟨by congr 1; rw [Bool.eq_iff_iff]; simp [aidB], rfl, rfl⟩
theorem limit_any (s : Sr) (h : s.Fit) : Spc Tryz.prog 136 #[.agg s.cells.toArray] [] [] (Is (.int .i64 (limS s))) := by
  refine Spc.enter Tryz.func136 rfl rfl rfl (fun w0 hw0 => ?_)
  refine CW.seq (CW.region (ef := [0]) (bk := []) (RL.box rfl rfl rfl rfl rfl rfl ?_))
  intro b1
  refine RL.p rfl (RL.nil (NQ.seq (CW.seq (CW.freezeP (A := [_]) (B := []) (.take .nil) rfl ?_))))
  refine CW.genI (fun J hJ => ?_)
  have m : cel b1 s.cells 98 ∈ J := hJ _ (by simp)
  clear hJ
  have f1 : RdI J ⟨b1, 0 + 38 + 4, none⟩ (.int .i64 s.wt.mo) := ⟨fun _ => Rd.getI m (sr_w h.rt 4)⟩
  have f2 : RdI J ⟨b1, 0 + 38 + 3, none⟩ (.int .i64 s.wt.sl) := ⟨fun _ => Rd.getI m (sr_w h.rt 3)⟩
  have f3 : RdI J ⟨b1, 0 + 38 + 0 + 2, none⟩ (.int .i64 s.wt.gm) := ⟨fun _ => Rd.getI m (sr_w h.rt 2)⟩
  have f4 : RdI J ⟨b1, 0 + 37, none⟩ (.int .i64 s.hz) := ⟨fun _ => Rd.getI m (sr_t h.rt 3)⟩
  refine CW.rg (RL.fieldAddr fa_98_7 rfl rfl rfl rfl (RL.fieldAddr fa_96_2 rfl rfl rfl rfl (RL.loadq Tryz.isAgg23 rfl rfl rfl rfl ?_)))
  refine RL.fieldAddr fa_98_7 rfl rfl rfl rfl (RL.fieldAddr fa_96_1 rfl rfl rfl rfl (RL.loadq Tryz.isAgg23 rfl rfl rfl rfl ?_))
  refine RL.fieldAddr fa_98_7 rfl rfl rfl rfl (RL.fieldAddr fa_96_0 rfl rfl rfl rfl (RL.fieldAddr fa_94_2 rfl rfl rfl rfl (RL.loadq Tryz.isAgg23 rfl rfl rfl rfl ?_)))
  refine RL.fieldAddr fa_98_6 rfl rfl rfl rfl (RL.loadq Tryz.isAgg3 rfl rfl rfl rfl ?_)
  refine RL.callvq (bound_any s.wt.mo s.wt.sl s.wt.gm s.hz h.mo h.sl h.gm) Tryz.call152 rfl rfl rfl rfl ?_
  refine RL.p rfl (RL.nil (NQ.seq (CW.ok [2] rfl (CW.ret ?_))))
  exact RQ.post (res1 rfl rfl) (Split.none _) ⟨rfl, rfl, rfl⟩
theorem rlimit_any (s : Sr) (h : s.Fit) : Spc Tryz.prog 99 #[.agg s.cells.toArray] [] [] (Is (.int .i64 (limS s))) := by
  refine Spc.enter Tryz.func99 rfl rfl rfl (fun w0 hw0 => ?_)
  refine CW.seq (CW.region (ef := [0]) (bk := []) (RL.box rfl rfl rfl rfl rfl rfl ?_))
  intro b1
  refine RL.p rfl (RL.nil (NQ.seq (CW.seq (CW.freezeP (A := [_]) (B := []) (.take .nil) rfl ?_))))
  refine CW.genI (fun J hJ => ?_)
  have m : cel b1 s.cells 108 ∈ J := hJ _ (by simp)
  clear hJ
  have f1 : RdI J ⟨b1, 0 + 38 + 4, none⟩ (.int .i64 s.wt.mo) := ⟨fun _ => Rd.getI m (sr_w h.rt 4)⟩
  have f2 : RdI J ⟨b1, 0 + 38 + 3, none⟩ (.int .i64 s.wt.sl) := ⟨fun _ => Rd.getI m (sr_w h.rt 3)⟩
  have f3 : RdI J ⟨b1, 0 + 38 + 0 + 2, none⟩ (.int .i64 s.wt.gm) := ⟨fun _ => Rd.getI m (sr_w h.rt 2)⟩
  have f4 : RdI J ⟨b1, 0 + 37, none⟩ (.int .i64 s.hz) := ⟨fun _ => Rd.getI m (sr_t h.rt 3)⟩
  refine CW.rg (RL.fieldAddr fa_108_7 rfl rfl rfl rfl (RL.fieldAddr fa_106_2 rfl rfl rfl rfl (RL.loadq Tryz.isAgg23 rfl rfl rfl rfl ?_)))
  refine RL.fieldAddr fa_108_7 rfl rfl rfl rfl (RL.fieldAddr fa_106_1 rfl rfl rfl rfl (RL.loadq Tryz.isAgg23 rfl rfl rfl rfl ?_))
  refine RL.fieldAddr fa_108_7 rfl rfl rfl rfl (RL.fieldAddr fa_106_0 rfl rfl rfl rfl (RL.fieldAddr fa_104_2 rfl rfl rfl rfl (RL.loadq Tryz.isAgg23 rfl rfl rfl rfl ?_)))
  refine RL.fieldAddr fa_108_6 rfl rfl rfl rfl (RL.loadq Tryz.isAgg3 rfl rfl rfl rfl ?_)
  refine RL.callvq (rbound_any s.wt.mo s.wt.sl s.wt.gm s.hz h.mo h.sl h.gm) Tryz.call126 rfl rfl rfl rfl ?_
  refine RL.p rfl (RL.nil (NQ.seq (CW.ok [2] rfl (CW.ret ?_))))
  exact RQ.post (res1 rfl rfl) (Split.none _) ⟨rfl, rfl, rfl⟩
theorem watch_any (w : Wt) : Spc Tryz.prog 149 #[.agg #[.int .i64 w.go, .int .i64 w.gg, .int .i64 w.gm, .int .i64 w.sl, .int .i64 w.mo, .int .i64 w.sa, .int .i64 w.ra, .int .i64 w.ba, .int .i64 w.ho, .int .i64 w.pr]] [] [] (ErP (errI w.Ok)) := by
  refine Spc.enter Tryz.func149 rfl rfl rfl (fun w0 hw0 => ?_)
  refine CW.seq (CW.region (ef := [0]) (bk := []) (RL.box rfl rfl rfl rfl rfl rfl ?_))
  intro b1
  refine RL.p rfl (RL.p rfl (RL.nil (NQ.seq (CW.seq (CW.seq (CW.freezeP (A := [_]) (B := []) (.take .nil) rfl ?_))))))
  refine CW.genI (fun J hJ => ?_)
  have m : cel b1 w.cells 96 ∈ J := hJ _ (by simp [Wt.cells])
  clear hJ
  have fG : RdsN J ⟨b1, 0 + 0, none⟩ 3 [.int .i64 w.go, .int .i64 w.gg, .int .i64 w.gm] := RdsN.told m (fun j u hj => by
    match j, hj with
    | 0, hj => exact hj
    | 1, hj => exact hj
    | 2, hj => exact hj
    | j + 3, hj => simp at hj) rfl
  have f3 : RdI J ⟨b1, 0 + 3, none⟩ (.int .i64 w.sl) := ⟨fun _ => Rd.celI m rfl⟩
  have f4 : RdI J ⟨b1, 0 + 4, none⟩ (.int .i64 w.mo) := ⟨fun _ => Rd.celI m rfl⟩
  have f5 : RdI J ⟨b1, 0 + 5, none⟩ (.int .i64 w.sa) := ⟨fun _ => Rd.celI m rfl⟩
  have f6 : RdI J ⟨b1, 0 + 6, none⟩ (.int .i64 w.ra) := ⟨fun _ => Rd.celI m rfl⟩
  have f7 : RdI J ⟨b1, 0 + 7, none⟩ (.int .i64 w.ba) := ⟨fun _ => Rd.celI m rfl⟩
  have f8 : RdI J ⟨b1, 0 + 8, none⟩ (.int .i64 w.ho) := ⟨fun _ => Rd.celI m rfl⟩
  have f9 : RdI J ⟨b1, 0 + 9, none⟩ (.int .i64 w.pr) := ⟨fun _ => Rd.celI m rfl⟩
  have fA : RdsN J ⟨b1, 0, none⟩ 10 [.int .i64 w.go, .int .i64 w.gg, .int .i64 w.gm, .int .i64 w.sl, .int .i64 w.mo, .int .i64 w.sa, .int .i64 w.ra, .int .i64 w.ba, .int .i64 w.ho, .int .i64 w.pr] := ⟨fun _ => Rds.allI m, rfl⟩
  refine CW.rg (RL.fieldAddr fa_96_0 rfl rfl rfl rfl (RL.loadSq Tryz.isAgg94 Tryz.sizeOf94 rfl rfl rfl rfl ?_))
  refine RL.callvq (gate_any w.go w.gg w.gm) Tryz.call164 rfl rfl rfl rfl ?_
  refine RL.p rfl (RL.nil (NQ.seq (CW.seq (CW.rg (RL.p rfl (RL.p rfl (RL.nil (NQ.seq ?_))))))))
  refine CW.cond rfl (fun h1 => ?_) (fun h1 => ?_)
  ·
    refine CW.seq (CW.rg (RL.p rfl (RL.p rfl (RL.p rfl (RL.nil (NQ.seq (CW.ok [1, 2, 3] rfl (CW.ret (RQ.seq ?_)))))))))
    have h1' : ¬ (0 ≤ w.go ∧ 0 ≤ w.gg ∧ w.go ≤ w.gm) := fun e => by rw [errI_yes e] at h1; cases h1
    exact RQ.post (res2 rfl rfl rfl) (Split.none _) ⟨_, by rw [errI_no h1', errI_no (fun e => h1' e.1)] <;> rfl, rfl, rfl⟩
  ·
    refine CW.skip (NQ.seq (CW.ok [1] rfl (CW.seq (CW.region (ef := [4]) (bk := []) (RL.fieldAddr fa_96_1 rfl rfl rfl rfl (RL.loadq Tryz.isAgg23 rfl rfl rfl rfl ?_))))))
    refine RL.fieldAddr fa_96_2 rfl rfl rfl rfl (RL.loadq Tryz.isAgg23 rfl rfl rfl rfl ?_)
    refine RL.call (cus_any w.sl w.mo) Tryz.call165 rfl rfl rfl rfl rfl (by repeat (first | exact Pick.nil | apply Pick.take | apply Pick.leave)) .nil (.inl rfl) ?_
    have h1' : 0 ≤ w.go ∧ 0 ≤ w.gg ∧ w.go ≤ w.gm := errI_0.1 (by simpa using h1)
    rintro _ _ _ ⟨u1, rfl, rfl, rfl⟩
    refine RL.p rfl (RL.p rfl (RL.p rfl (RL.p rfl (RL.p rfl (RL.nil (NQ.seq (CW.ok [1, 5, 6] rfl (CW.seq (CW.seq (CW.rg (RL.p rfl (RL.p rfl (RL.nil ?_)))))))))))))
    refine NQ.seq ?_
    refine CW.cond rfl (fun h2 => ?_) (fun h2 => ?_)
    ·
      refine CW.seq (CW.rg (RL.p rfl (RL.p rfl (RL.p rfl (RL.nil (NQ.seq (CW.ret (RQ.seq ?_))))))))
      have h2' : ¬ (0 ≤ w.sl ∧ 1 ≤ w.mo) := fun e => by rw [errI_yes e] at h2; cases h2
      exact RQ.post (res2 rfl rfl rfl) (Split.none _) ⟨_, by rw [errI_no h2', errI_no (fun e => h2' e.2.1)] <;> rfl, rfl, rfl⟩
    ·
      refine CW.skip (NQ.seq (CW.seq (CW.region (ef := [4]) (bk := []) (RL.fieldAddr fa_96_3 rfl rfl rfl rfl (RL.loadq Tryz.isAgg3 rfl rfl rfl rfl ?_)))))
      refine RL.fieldAddr fa_96_4 rfl rfl rfl rfl (RL.loadq Tryz.isAgg23 rfl rfl rfl rfl ?_)
      refine RL.call (stk_any w.sa w.ra) Tryz.call166 rfl rfl rfl rfl rfl (by repeat (first | exact Pick.nil | apply Pick.take | apply Pick.leave)) .nil (.inl rfl) ?_
      have h2' : 0 ≤ w.sl ∧ 1 ≤ w.mo := errI_0.1 (by simpa using h2)
      rintro _ _ _ ⟨u2, rfl, rfl, rfl⟩
      refine RL.p rfl (RL.p rfl (RL.p rfl (RL.p rfl (RL.p rfl (RL.nil (NQ.seq (CW.ok [1, 5, 6, 7] rfl (CW.seq (CW.seq (CW.rg (RL.p rfl (RL.p rfl (RL.nil ?_)))))))))))))
      refine NQ.seq ?_
      refine CW.cond rfl (fun h3 => ?_) (fun h3 => ?_)
      ·
        refine CW.seq (CW.rg (RL.p rfl (RL.p rfl (RL.p rfl (RL.nil (NQ.seq (CW.ret (RQ.seq ?_))))))))
        have h3' : ¬ (1 ≤ w.sa ∧ w.sa ≤ 1000 ∧ 0 ≤ w.ra) := fun e => by rw [errI_yes e] at h3; cases h3
        exact RQ.post (res2 rfl rfl rfl) (Split.none _) ⟨_, by rw [errI_no h3', errI_no (fun e => h3' e.2.2.1)] <;> rfl, rfl, rfl⟩
      ·
        refine CW.skip (NQ.seq (CW.seq (CW.region (ef := [6]) (bk := []) (RL.fieldAddr fa_96_5 rfl rfl rfl rfl (RL.loadq Tryz.isAgg3 rfl rfl rfl rfl ?_)))))
        refine RL.fieldAddr fa_96_6 rfl rfl rfl rfl (RL.loadq Tryz.isAgg3 rfl rfl rfl rfl ?_)
        refine RL.fieldAddr fa_96_7 rfl rfl rfl rfl (RL.loadq Tryz.isAgg3 rfl rfl rfl rfl ?_)
        refine RL.call (qua_any w.ba w.ho w.pr) Tryz.call167 rfl rfl rfl rfl rfl (by repeat (first | exact Pick.nil | apply Pick.take | apply Pick.leave)) .nil (.inl rfl) ?_
        have h3' : 1 ≤ w.sa ∧ w.sa ≤ 1000 ∧ 0 ≤ w.ra := errI_0.1 (by simpa using h3)
        rintro _ _ _ ⟨u3, rfl, rfl, rfl⟩
        refine RL.p rfl (RL.p rfl (RL.p rfl (RL.p rfl (RL.p rfl (RL.nil (NQ.seq (CW.ok [1, 5, 6, 7, 8] rfl (CW.seq (CW.seq (CW.rg (RL.p rfl (RL.p rfl (RL.nil ?_)))))))))))))
        refine NQ.seq ?_
        refine CW.cond rfl (fun h4 => ?_) (fun h4 => ?_)
        ·
          refine CW.seq (CW.rg (RL.p rfl (RL.p rfl (RL.p rfl (RL.nil (NQ.seq (CW.ret (RQ.seq ?_))))))))
          have h4' : ¬ (1 ≤ w.ba ∧ w.ba ≤ 100 ∧ 1 ≤ w.ho ∧ w.ho ≤ 65535 ∧ 1 ≤ w.pr ∧ w.pr ≤ 100) := fun e => by rw [errI_yes e] at h4; cases h4
          exact RQ.post (res2 rfl rfl rfl) (Split.none _) ⟨_, by rw [errI_no h4', errI_no (fun e => h4' e.2.2.2)] <;> rfl, rfl, rfl⟩
        ·
          refine CW.skip (NQ.seq (CW.seq (CW.region (ef := [5, 7]) (bk := []) (RL.p rfl (RL.fieldAddr fa_96_0 rfl rfl rfl rfl (RL.loadSq Tryz.isAgg94 Tryz.sizeOf94 rfl rfl rfl rfl ?_))))))
          refine RL.p rfl (RL.p rfl ?_)
          refine RL.makeMap (good := fun _ => True) rfl rfl rfl rfl (fun mp => ?_)
          refine RL.buildS [_, _, _, _, _, _, _] Tryz.zeroValue352 pl_352 rfl rfl rfl rfl rfl (RL.box rfl rfl rfl rfl rfl rfl ?_)
          intro b2
          refine RL.p rfl (RL.p rfl (RL.p rfl (RL.nil (NQ.seq (CW.ok [2, 3] rfl (CW.ret ?_))))))
          have h4' : 1 ≤ w.ba ∧ w.ba ≤ 100 ∧ 1 ≤ w.ho ∧ w.ho ≤ 65535 ∧ 1 ≤ w.pr ∧ w.pr ≤ 100 := errI_0.1 (by simpa using h4)
          exact RQ.post (res2 rfl rfl rfl) (Split.none _) ⟨_, by rw [errI_yes h4', errI_yes (p := w.Ok) ⟨h1', h2', h3', h4'⟩] <;> rfl, rfl, rfl⟩
theorem rwatch_any (w : Wt) : Spc Tryz.prog 59 #[.agg #[.int .i64 w.go, .int .i64 w.gg, .int .i64 w.gm, .int .i64 w.sl, .int .i64 w.mo, .int .i64 w.sa, .int .i64 w.ra, .int .i64 w.ba, .int .i64 w.ho, .int .i64 w.pr]] [] [] (ErP (errI w.Ok)) := by
  refine Spc.enter Tryz.func59 rfl rfl rfl (fun w0 hw0 => ?_)
  refine CW.seq (CW.region (ef := [0]) (bk := []) (RL.box rfl rfl rfl rfl rfl rfl ?_))
  intro b1
  refine RL.p rfl (RL.p rfl (RL.nil (NQ.seq (CW.seq (CW.freezeP (A := [_]) (B := []) (.take .nil) rfl ?_)))))
  refine CW.genI (fun J hJ => ?_)
  have m : cel b1 w.cells 106 ∈ J := hJ _ (by simp [Wt.cells])
  clear hJ
  have fG : RdsN J ⟨b1, 0 + 0, none⟩ 3 [.int .i64 w.go, .int .i64 w.gg, .int .i64 w.gm] := RdsN.told m (fun j u hj => by
    match j, hj with
    | 0, hj => exact hj
    | 1, hj => exact hj
    | 2, hj => exact hj
    | j + 3, hj => simp at hj) rfl
  have f3 : RdI J ⟨b1, 0 + 3, none⟩ (.int .i64 w.sl) := ⟨fun _ => Rd.celI m rfl⟩
  have f4 : RdI J ⟨b1, 0 + 4, none⟩ (.int .i64 w.mo) := ⟨fun _ => Rd.celI m rfl⟩
  have f5 : RdI J ⟨b1, 0 + 5, none⟩ (.int .i64 w.sa) := ⟨fun _ => Rd.celI m rfl⟩
  have f6 : RdI J ⟨b1, 0 + 6, none⟩ (.int .i64 w.ra) := ⟨fun _ => Rd.celI m rfl⟩
  have f7 : RdI J ⟨b1, 0 + 7, none⟩ (.int .i64 w.ba) := ⟨fun _ => Rd.celI m rfl⟩
  have f8 : RdI J ⟨b1, 0 + 8, none⟩ (.int .i64 w.ho) := ⟨fun _ => Rd.celI m rfl⟩
  have f9 : RdI J ⟨b1, 0 + 9, none⟩ (.int .i64 w.pr) := ⟨fun _ => Rd.celI m rfl⟩
  have fA : RdsN J ⟨b1, 0, none⟩ 10 [.int .i64 w.go, .int .i64 w.gg, .int .i64 w.gm, .int .i64 w.sl, .int .i64 w.mo, .int .i64 w.sa, .int .i64 w.ra, .int .i64 w.ba, .int .i64 w.ho, .int .i64 w.pr] := ⟨fun _ => Rds.allI m, rfl⟩
  refine CW.region (ef := [4]) (bk := []) (RL.fieldAddr fa_106_1 rfl rfl rfl rfl (RL.loadq Tryz.isAgg23 rfl rfl rfl rfl ?_))
  refine RL.fieldAddr fa_106_2 rfl rfl rfl rfl (RL.loadq Tryz.isAgg23 rfl rfl rfl rfl ?_)
  refine RL.call (rcus_any w.sl w.mo) Tryz.call94 rfl rfl rfl rfl rfl (by repeat (first | exact Pick.nil | apply Pick.take | apply Pick.leave)) .nil (.inl rfl) ?_
  rintro _ _ _ ⟨u1, rfl, rfl, rfl⟩
  refine RL.p rfl (RL.p rfl (RL.p rfl (RL.p rfl (RL.p rfl (RL.nil (NQ.seq (CW.ok [1, 4, 5] rfl (CW.seq (CW.region (ef := [4]) (bk := []) (RL.fieldAddr fa_106_3 rfl rfl rfl rfl (RL.loadq Tryz.isAgg3 rfl rfl rfl rfl ?_)))))))))))
  refine RL.fieldAddr fa_106_4 rfl rfl rfl rfl (RL.loadq Tryz.isAgg23 rfl rfl rfl rfl ?_)
  refine RL.call (rstk_any w.sa w.ra) Tryz.call95 rfl rfl rfl rfl rfl (by repeat (first | exact Pick.nil | apply Pick.take | apply Pick.leave)) .nil (.inl rfl) ?_
  rintro _ _ _ ⟨u2, rfl, rfl, rfl⟩
  refine RL.p rfl (RL.p rfl (RL.p rfl (RL.p rfl (RL.p rfl (RL.nil (NQ.seq (CW.ok [1, 4, 5, 6, 7] rfl (CW.seq (CW.region (ef := [6]) (bk := []) (RL.fieldAddr fa_106_5 rfl rfl rfl rfl (RL.loadq Tryz.isAgg3 rfl rfl rfl rfl ?_)))))))))))
  refine RL.fieldAddr fa_106_6 rfl rfl rfl rfl (RL.loadq Tryz.isAgg3 rfl rfl rfl rfl ?_)
  refine RL.fieldAddr fa_106_7 rfl rfl rfl rfl (RL.loadq Tryz.isAgg3 rfl rfl rfl rfl ?_)
  refine RL.call (rqua_any w.ba w.ho w.pr) Tryz.call96 rfl rfl rfl rfl rfl (by repeat (first | exact Pick.nil | apply Pick.take | apply Pick.leave)) .nil (.inl rfl) ?_
  rintro _ _ _ ⟨u3, rfl, rfl, rfl⟩
  refine RL.p rfl (RL.p rfl (RL.p rfl (RL.p rfl (RL.p rfl (RL.nil (NQ.seq (CW.ok [1, 4, 5, 6, 7, 8, 9] rfl (CW.seq (CW.seq (CW.rg (RL.fieldAddr fa_106_0 rfl rfl rfl rfl (RL.loadSq Tryz.isAgg104 Tryz.sizeOf104 rfl rfl rfl rfl ?_))))))))))))
  refine RL.callvq (rgate_any w.go w.gg w.gm) Tryz.call97 rfl rfl rfl rfl ?_
  refine RL.p rfl (RL.p rfl ?_)
  apply RL.orB (d := 40) (dp := 43) (l' := (Sq.of [8, 9, 10, 11, 12, 13, 14, 15])) rfl (sK [1, 4, 6, 7, 8, 9] rfl)
  ·
    intro hb5 K5
    refine RL.p rfl (RL.p rfl (RL.p rfl ?_))
    exact K5 _ (.cons rfl (sK [1, 4, 6, 7, 8, 9] rfl))
  ·
    intro hb5 K5
    refine RL.p rfl (RL.p rfl (RL.p rfl ?_))
    exact K5 _ (.cons rfl (sK [1, 4, 6, 7, 8, 9] rfl))
  refine RL.p rfl ?_
  apply RL.orB (d := 44) (dp := 47) (l' := (Sq.of [12, 13, 14, 15])) rfl (sK [1, 4, 6, 8, 9] rfl)
  ·
    intro hb9 K9
    refine RL.p rfl (RL.p rfl (RL.p rfl ?_))
    exact K9 _ (.cons rfl (sK [1, 4, 6, 8, 9] rfl))
  ·
    intro hb9 K9
    refine RL.p rfl (RL.p rfl (RL.p rfl ?_))
    exact K9 _ (.cons rfl (sK [1, 4, 6, 8, 9] rfl))
  refine RL.p rfl ?_
  apply RL.orB (d := 48) (dp := 51) (l' := (Sq.of [])) rfl (sK [1, 4, 6, 8] rfl)
  ·
    intro hb13 K13
    refine RL.p rfl (RL.p rfl (RL.p rfl ?_))
    exact K13 _ (.cons rfl (sK [1, 4, 6, 8] rfl))
  ·
    intro hb13 K13
    refine RL.p rfl (RL.p rfl (RL.p rfl ?_))
    exact K13 _ (.cons rfl (sK [1, 4, 6, 8] rfl))
  refine RL.nil (NQ.seq ?_)
  refine CW.cond rfl (fun h => ?_) (fun h => ?_)
  ·
    refine CW.seq (CW.rg (RL.p rfl (RL.p rfl (RL.nil (NQ.seq (CW.ret (RQ.seq ?_)))))))
    have h' : ¬ w.Ok := fun e => by
      rw [errI_yes e.1, errI_yes e.2.1, errI_yes e.2.2.1, errI_yes e.2.2.2] at h; cases h
    exact RQ.post (res2 rfl rfl rfl) (Split.none _) ⟨_, by rw [errI_no h'] <;> rfl, rfl, rfl⟩
  ·
    refine CW.skip (NQ.seq (CW.seq (CW.region (ef := [5]) (bk := []) (RL.loadSq Tryz.isAgg106 Tryz.sizeOf106 rfl rfl rfl rfl ?_))))
    refine RL.p rfl (RL.p rfl (RL.p rfl (RL.buildS [_, _, _, _, _, _, _, _, _, _, _, _, _, _] Tryz.zeroValue213 pl_213 rfl rfl rfl rfl rfl (RL.box rfl rfl rfl rfl rfl rfl ?_))))
    intro b2
    refine RL.p rfl (RL.p rfl (RL.nil (NQ.seq (CW.ok [2, 3] rfl (CW.ret ?_)))))
    have h' : w.Ok := by
      simp [errI_0] at h
      exact ⟨h.1.1.1, h.1.1.2, h.1.2, h.2⟩
    exact RQ.post (res2 rfl rfl rfl) (Split.none _) ⟨_, by rw [errI_yes h'] <;> rfl, rfl, rfl⟩
theorem right_any (s : Sr) (h : s.Fit) : Spc Tryz.prog 133 #[.agg s.cells.toArray] [] [] (Is (.bool s.ok)) := by
  have hl := sr_len h.rt
  refine Spc.enter Tryz.func133 rfl rfl rfl (fun w0 hw0 => ?_)
  refine CW.seq (CW.region (ef := [0]) (bk := []) (RL.box rfl rfl rfl rfl rfl rfl ?_))
  intro b1
  refine RL.p rfl (RL.nil (NQ.seq (CW.seq (CW.seq (CW.freezeP (A := [_]) (B := []) (.take .nil) rfl ?_)))))
  refine CW.genI (fun J hJ => ?_)
  have m : cel b1 s.cells 98 ∈ J := hJ _ (by simp)
  clear hJ
  have f0 : RdI J ⟨b1, 0 + 0, none⟩ (.int .i64 s.id) := ⟨fun _ => Rd.celI m rfl⟩
  have f1 : RdI J ⟨b1, 0 + 1, none⟩ (.int .i64 s.kd) := ⟨fun _ => Rd.celI m rfl⟩
  have fA : RdsN J ⟨b1, 0, none⟩ 48 s.cells := ⟨fun _ => Rds.allI m, hl⟩
  have fW : RdsN J ⟨b1, 0 + 38, none⟩ 10 s.wt.cells := RdsN.told m (fun j u hj => by rw [sr_w h.rt]; exact hj) rfl
  refine CW.rg (RL.fieldAddr fa_98_0 rfl rfl rfl rfl (RL.loadq Tryz.isAgg3 rfl rfl rfl rfl ?_))
  refine RL.p rfl (RL.p rfl ?_)
  apply RL.orB (d := 8) (dp := 12) (l' := (Sq.of [])) rfl (sK [1, 2] rfl)
  ·
    intro hb4 K4
    refine RL.fieldAddr fa_98_0 rfl rfl rfl rfl (RL.loadq Tryz.isAgg3 rfl rfl rfl rfl ?_)
    refine RL.p rfl (RL.p rfl ?_)
    exact K4 _ (.cons rfl (sK [1, 2] rfl))
  ·
    intro hb4 K4
    refine RL.p rfl (RL.p rfl (RL.p rfl (RL.p rfl ?_)))
    exact K4 _ (.cons rfl (sK [1, 2] rfl))
  refine RL.nil (NQ.seq ?_)
  refine CW.cond rfl (fun h1 => ?_) (fun h1 => ?_)
  ·
    refine CW.seq (CW.rg (RL.p rfl (RL.nil (NQ.seq (CW.ret (RQ.seq ?_))))))
    exact RQ.post (res1 rfl rfl) (Split.none _) ⟨by rw [Sr.ok, decide_eq_false (fun e => by simp at h1; omega)], rfl, rfl⟩
  ·
    refine CW.skip (NQ.seq (CW.seq (CW.seq (CW.rg (RL.loadSq Tryz.isAgg98 Tryz.sizeOf98 rfl rfl rfl rfl ?_)))))
    refine RL.callvq (aid_any s) Tryz.call113 rfl rfl rfl rfl ?_
    refine RL.nil (NQ.seq ?_)
    have h1' : 0 ≤ s.id ∧ s.id ≤ 7 := by simp at h1; omega
    refine CW.cond rfl (fun h2 => ?_) (fun h2 => ?_)
    ·
      refine CW.seq (CW.region (ef := [2]) (bk := []) (RL.fieldAddr fa_98_7 rfl rfl rfl rfl (RL.loadSq Tryz.isAgg96 Tryz.sizeOf96 rfl rfl rfl rfl ?_)))
      refine RL.call (watch_any s.wt) Tryz.call149 rfl rfl rfl rfl rfl (by repeat (first | exact Pick.nil | apply Pick.take | apply Pick.leave)) .nil (.inl rfl) ?_
      have h2' : 2 ≤ s.kd ∧ s.kd ≤ 5 := by simpa [aidB] using h2
      rintro _ _ _ ⟨u, rfl, rfl, rfl⟩
      refine RL.p rfl (RL.p rfl (RL.p rfl (RL.p rfl (RL.p rfl (RL.nil (NQ.seq (CW.ok [1, 4] rfl (CW.seq (CW.rg (RL.p rfl (RL.p rfl (RL.p rfl (RL.nil ?_)))))))))))))
      refine NQ.seq (CW.ret (RQ.seq ?_))
      refine RQ.post (res1 rfl rfl) (Split.none _) ⟨?_, rfl, rfl⟩
      show Value.bool (errI s.wt.Ok == 0) = _
      congr 1
      rw [Bool.eq_iff_iff]
      simp [Sr.ok, h1', h2', errI_0]
    ·
      refine CW.skip (NQ.seq (CW.seq (CW.rg (RL.fieldAddr fa_98_1 rfl rfl rfl rfl (RL.loadq Tryz.isAgg3 rfl rfl rfl rfl ?_)))))
      refine RL.p rfl (RL.p rfl ?_)
      apply RL.orB (d := 26) (dp := 30) (l' := (Sq.of [8])) rfl (sK [2] rfl)
      ·
        intro hb4 K4
        refine RL.fieldAddr fa_98_1 rfl rfl rfl rfl (RL.loadq Tryz.isAgg3 rfl rfl rfl rfl ?_)
        refine RL.p rfl (RL.p rfl ?_)
        exact K4 _ (.cons rfl (sK [2] rfl))
      ·
        intro hb4 K4
        refine RL.p rfl (RL.p rfl (RL.p rfl (RL.p rfl ?_)))
        exact K4 _ (.cons rfl (sK [2] rfl))
      refine RL.p rfl (RL.nil (NQ.seq (CW.ret ?_)))
      have h2' : ¬ (2 ≤ s.kd ∧ s.kd ≤ 5) := by simpa [aidB] using h2
      refine RQ.post (res1 rfl rfl) (Split.none _) ⟨?_, rfl, rfl⟩
      congr 1
      rw [Bool.eq_iff_iff]
      simp [Sr.ok, h1', h2']
end Go.Proofs.YthndhipjfdgdfaaGreatDoor

namespace Go.Proofs.YthndhipjfdgdfaaGreatDoor
open Go.PK
/-! ### Aids -/
theorem flat_rdsN {I : List It} {b n sz i : Nat} {α : Type} {f : α → List Value} {R : List α} {x : α} (hm : sls (some ⟨b, 0, none⟩) sz n (R.flatMap f) ∈ I) (hx : R[i]? = some x) (hf : ∀ y ∈ R, (f y).length = sz) : RdsN I ⟨b, 0 + i * sz, none⟩ sz (f x) :=
  ⟨fun H => by
    have h := Rds.part (H := H) (j := i * sz) (vs := f x) (Rds.sls hm) (fun q u hu => by
      have hlt : q < sz := by have := (List.getElem?_eq_some_iff.1 hu).1; rwa [hf x (List.mem_of_getElem? hx)] at this
      rw [get_flat (f := f) (n := sz) hf hx hlt]; exact hu)
    rwa [add_none] at h, hf x (List.mem_of_getElem? hx)⟩
theorem flat_rdI {I : List It} {b n sz i j : Nat} {α : Type} {f : α → List Value} {R : List α} {x : α} {v : Value} (hm : sls (some ⟨b, 0, none⟩) sz n (R.flatMap f) ∈ I) (hx : R[i]? = some x) (hf : ∀ y ∈ R, (f y).length = sz) (hv : (f x)[j]? = some v) : RdI I ⟨b, 0 + i * sz + j, none⟩ v :=
  ⟨fun H => by
    have h := ((flat_rdsN hm hx hf).h H).rd hv
    rwa [add_none] at h⟩
structure Ad where
  src : Int
  kd : Int
  w : Int
  g : Int
  st : Int
  lm : Int
  hz : Int
def Ad.cells (a : Ad) : List Value := [.int .i64 a.src, .int .i64 a.kd, .int .i64 a.w, .int .i64 a.g, .int .i64 a.st, .int .i64 a.lm, .int .i64 a.hz]
def Ad.ok (a : Ad) : Bool := decide ((0 ≤ a.src ∧ a.src ≤ 7) ∧ (2 ≤ a.kd ∧ a.kd ≤ 5) ∧ (0 ≤ a.w ∧ a.w ≤ 16) ∧ (0 ≤ a.g ∧ a.g ≤ 16 ∧ 0 ≤ a.st ∧ 0 ≤ a.lm ∧ 1 ≤ a.hz ∧ a.hz ≤ 65535))
def wasA (L : List Ad) : Nat → Int
  | 0 => -1
  | i + 1 => match L[i]? with
    | some a => a.src
    | none => 0
def stepA (L : List Ad) (j : Nat) : Bool := match L[j]? with
  | some a => a.ok && decide (wasA L j < a.src)
  | none => true
def adsB (L : List Ad) : Bool := (List.range L.length).all (stepA L)
theorem adsB_iff {L : List Ad} : adsB L = true ↔ ∀ j, stepA L j = true := by
  rw [adsB, List.all_eq_true]
  constructor
  · intro h j
    by_cases hj : j < L.length
    · exact h j (List.mem_range.2 hj)
    · rw [stepA, List.getElem?_eq_none (by omega)]
  · exact fun h j _ => h j
theorem stepA_at {L : List Ad} {j : Nat} {a : Ad} (h : L[j]? = some a) : stepA L j = (a.ok && decide (wasA L j < a.src)) := by rw [stepA, h]
theorem wasA_at {L : List Ad} {j : Nat} {a : Ad} (h : L[j]? = some a) : wasA L (j + 1) = a.src := by rw [wasA, h]
theorem aright_any (a : Ad) : Spc Tryz.prog 135 #[.agg #[.int .i64 a.src, .int .i64 a.kd, .int .i64 a.w, .int .i64 a.g, .int .i64 a.st, .int .i64 a.lm, .int .i64 a.hz]] [] [] (Is (.bool a.ok)) := by
  refine Spc.enter Tryz.func135 rfl rfl rfl (fun w0 hw0 => ?_)
  refine CW.seq (CW.region (ef := [0]) (bk := []) (RL.box rfl rfl rfl rfl rfl rfl ?_))
  intro b1
  refine RL.p rfl (RL.nil (NQ.seq (CW.seq (CW.freezeP (A := [_]) (B := []) (.take .nil) rfl ?_))))
  refine CW.genI (fun J hJ => ?_)
  have m : cel b1 a.cells 297 ∈ J := hJ _ (by simp [Ad.cells])
  clear hJ
  have f0 : RdI J ⟨b1, 0 + 0, none⟩ (.int .i64 a.src) := ⟨fun _ => Rd.celI m rfl⟩
  have f1 : RdI J ⟨b1, 0 + 1, none⟩ (.int .i64 a.kd) := ⟨fun _ => Rd.celI m rfl⟩
  have f2 : RdI J ⟨b1, 0 + 2, none⟩ (.int .i64 a.w) := ⟨fun _ => Rd.celI m rfl⟩
  have f3 : RdsN J ⟨b1, 0 + 3, none⟩ 4 [.int .i64 a.g, .int .i64 a.st, .int .i64 a.lm, .int .i64 a.hz] := RdsN.told m (fun j u hj => by
    match j, hj with
    | 0, hj => exact hj
    | 1, hj => exact hj
    | 2, hj => exact hj
    | 3, hj => exact hj
    | j + 4, hj => simp at hj) rfl
  refine CW.rg (RL.fieldAddr fa_297_0 rfl rfl rfl rfl (RL.loadq Tryz.isAgg3 rfl rfl rfl rfl ?_))
  refine RL.p rfl (RL.p rfl ?_)
  apply RL.andB (d := 6) (dp := 10) (l' := (Sq.of [8, 9, 10, 11, 12, 13, 14, 15, 16, 17, 18, 19, 20, 21, 22, 23, 24, 25, 26, 27, 28, 29, 30, 31, 32, 33, 34])) rfl (sK [1, 2] rfl)
  ·
    intro hb4 K4
    refine RL.fieldAddr fa_297_0 rfl rfl rfl rfl (RL.loadq Tryz.isAgg3 rfl rfl rfl rfl ?_)
    refine RL.p rfl (RL.p rfl ?_)
    exact K4 _ (.cons rfl (sK [1, 2] rfl))
  ·
    intro hb4 K4
    refine RL.p rfl (RL.p rfl (RL.p rfl (RL.p rfl ?_)))
    exact K4 _ (.cons rfl (sK [1, 2] rfl))
  refine RL.p rfl ?_
  apply RL.andB (d := 11) (dp := 15) (l' := (Sq.of [13, 14, 15, 16, 17, 18, 19, 20, 21, 22, 23, 24, 25, 26, 27, 28, 29, 30, 31, 32, 33, 34])) rfl (sK [1, 2] rfl)
  ·
    intro hb9 K9
    refine RL.fieldAddr fa_297_1 rfl rfl rfl rfl (RL.loadq Tryz.isAgg3 rfl rfl rfl rfl ?_)
    refine RL.p rfl (RL.p rfl ?_)
    exact K9 _ (.cons rfl (sK [1, 2] rfl))
  ·
    intro hb9 K9
    refine RL.p rfl (RL.p rfl (RL.p rfl (RL.p rfl ?_)))
    exact K9 _ (.cons rfl (sK [1, 2] rfl))
  refine RL.p rfl ?_
  apply RL.andB (d := 16) (dp := 20) (l' := (Sq.of [18, 19, 20, 21, 22, 23, 24, 25, 26, 27, 28, 29, 30, 31, 32, 33, 34])) rfl (sK [1, 2] rfl)
  ·
    intro hb14 K14
    refine RL.fieldAddr fa_297_1 rfl rfl rfl rfl (RL.loadq Tryz.isAgg3 rfl rfl rfl rfl ?_)
    refine RL.p rfl (RL.p rfl ?_)
    exact K14 _ (.cons rfl (sK [1, 2] rfl))
  ·
    intro hb14 K14
    refine RL.p rfl (RL.p rfl (RL.p rfl (RL.p rfl ?_)))
    exact K14 _ (.cons rfl (sK [1, 2] rfl))
  refine RL.p rfl ?_
  apply RL.andB (d := 21) (dp := 25) (l' := (Sq.of [23, 24, 25, 26, 27, 28, 29, 30, 31, 32, 33, 34])) rfl (sK [1, 2] rfl)
  ·
    intro hb19 K19
    refine RL.fieldAddr fa_297_2 rfl rfl rfl rfl (RL.loadq Tryz.isAgg3 rfl rfl rfl rfl ?_)
    refine RL.p rfl (RL.p rfl ?_)
    exact K19 _ (.cons rfl (sK [1, 2] rfl))
  ·
    intro hb19 K19
    refine RL.p rfl (RL.p rfl (RL.p rfl (RL.p rfl ?_)))
    exact K19 _ (.cons rfl (sK [1, 2] rfl))
  refine RL.p rfl ?_
  apply RL.andB (d := 26) (dp := 30) (l' := (Sq.of [28, 29, 30, 31, 32, 33, 34])) rfl (sK [1, 2] rfl)
  ·
    intro hb24 K24
    refine RL.fieldAddr fa_297_2 rfl rfl rfl rfl (RL.loadq Tryz.isAgg3 rfl rfl rfl rfl ?_)
    refine RL.p rfl (RL.p rfl ?_)
    exact K24 _ (.cons rfl (sK [1, 2] rfl))
  ·
    intro hb24 K24
    refine RL.p rfl (RL.p rfl (RL.p rfl (RL.p rfl ?_)))
    exact K24 _ (.cons rfl (sK [1, 2] rfl))
  refine RL.p rfl ?_
  apply RL.andB (d := 31) (dp := 36) (l' := (Sq.of [34])) rfl (sK [2] rfl)
  ·
    intro hb29 K29
    refine RL.fieldAddr fa_297_3 rfl rfl rfl rfl (RL.loadSq Tryz.isAgg295 Tryz.sizeOf295 rfl rfl rfl rfl ?_)
    refine RL.callvq (rule_any a.g a.st a.lm a.hz) Tryz.call151 rfl rfl rfl rfl ?_
    refine RL.p rfl (RL.p rfl ?_)
    exact K29 _ (.cons rfl (sK [2] rfl))
  ·
    intro hb29 K29
    refine RL.p rfl (RL.p rfl (RL.p rfl (RL.p rfl (RL.p rfl ?_))))
    exact K29 _ (.cons rfl (sK [2] rfl))
  refine RL.p rfl (RL.nil (NQ.seq (CW.ret ?_)))
  refine RQ.post (res1 rfl rfl) (Split.none _) ⟨?_, rfl, rfl⟩
  congr 1
  rw [Bool.eq_iff_iff]
  simp [Ad.ok, errI_0]
  omega
def sameM (i : Nat) : List Value := (List.range 9).map fun j => .int .i64 (if j % 4 = 0 ∧ j < 4 * i then 4294967296 else 0)
theorem same_any' : Spc Tryz.prog 150 #[] [] [] (Is (.agg (sameM 3).toArray)) := by
  refine Spc.enter Tryz.func150 rfl rfl rfl (fun w0 hw0 => ?_)
  refine CW.seq (CW.region (ef := [0]) (bk := []) (RL.alloc Tryz.zeroValue288 rfl rfl rfl rfl rfl ?_))
  intro b1
  refine RL.nil (NQ.seq (CW.seq (CW.region (ef := [0]) (bk := []) (RL.alloc Tryz.zeroValue288 rfl rfl rfl rfl rfl ?_))))
  intro b2
  refine RL.nil (NQ.seq (CW.seq (CW.seq (CW.rg (RL.p rfl (RL.nil (NQ.seq (CW.block (CW.loop (γ := Nat) (fun i => i ≤ 3) (fun i => [(0, .pointer (some ⟨b1, 0, none⟩)), (1, .pointer (some ⟨b2, 0, none⟩)), (3, .int .i64 (i : Int))]) (fun _ => []) (fun i => [cel b1 (sameM 0) 288, cel b2 (sameM i) 288]) (fun i => 3 - i) 0 (by omega) (.cons rfl (.cons rfl (.cons rfl .nil))) (fun w h => h.rea (fun _ h => h) (by repeat (first | exact Rea.nil | (apply Rea.cons; (solve | (repeat (first | exact Del.here | apply Del.there))))))) ?_)))))))))
  intro i hi
  refine CW.seq (CW.rg (RL.p rfl (RL.nil (NQ.seq (CW.seq ?_)))))
  refine CW.cond rfl (fun hlt => ?_) (fun hlt => ?_)
  ·
    have hlt : i < 3 := by simp at hlt; omega
    have hfit : (0 + i * 3 + i * 1 + [Value.int .i64 4294967296].length).ble (sameM i).length = true := by
      rw [Nat.ble_eq]; show 0 + i * 3 + i * 1 + 1 ≤ 9; omega
    have hsm : spl (sameM i) (0 + i * 3 + i * 1) [.int .i64 4294967296] = sameM (i + 1) := by
      rcases i with _ | _ | _ | i
      · rfl
      · rfl
      · rfl
      · omega
    refine CW.skip (NQ.seq (CW.seq (CW.block (CW.seq (CW.rg (RL.p rfl (RL.p rfl (RL.nil (NQ.seq (CW.region (ef := [4]) (bk := [4]) (RL.p rfl (RL.p rfl (RL.idxAAt (j := i) Tryz.runUnderlying288 Tryz.sizeOf25 rfl rfl rfl rfl rfl rfl hlt ?_)))))))))))))
    refine RL.idxAAt (j := i) Tryz.runUnderlying25 Tryz.sizeOf23 rfl rfl rfl rfl rfl rfl hlt (RL.store Tryz.sizeOf23 rfl rfl rfl rfl rfl rfl rfl rfl hfit (by repeat (first | exact Upd.here | apply Upd.there)) ?_)
    refine RL.nil (NQ.block (NQ.seq (CW.ok [0, 1, 3] rfl (CW.rg (RL.bx rfl (wrapV_i64 (by omega) (by omega)) ?_)))))
    refine RL.p rfl (RL.nil ?_)
    refine NQ.round (g := i) (i + 1) hlt (by show 3 - (i + 1) < 3 - i; omega) (.cons rfl (.cons rfl (.cons rfl .nil))) (fun w h => ?_)
    rw [← hsm]
    exact h.rea (fun _ h => h) (by repeat (first | exact Rea.nil | (apply Rea.cons; (solve | (repeat (first | exact Del.here | apply Del.there))))))
  ·
    have hin : i = 3 := by simp at hlt; omega
    subst hin
    refine CW.exit (XQ.seq (XQ.seq (XQ.hit (NQ.seq (CW.seq (CW.region (ef := [1]) (bk := [1]) (RL.loadSq Tryz.isAgg288 Tryz.sizeOf288 rfl rfl rfl rfl ?_)))))))
    refine RL.store (vs := [_, _, _, _, _, _, _, _, _]) Tryz.sizeOf288 rfl rfl rfl rfl rfl rfl rfl rfl rfl (by repeat (first | exact Upd.here | apply Upd.there)) ?_
    refine RL.nil (NQ.seq (CW.ret ?_))
    exact RQ.post (resW rfl rfl Tryz.isAgg288 Tryz.sizeOf288 (by repeat (first | exact List.Mem.head _ | apply List.Mem.tail)) rfl) (Split.none _) ⟨rfl, rfl, rfl⟩
theorem att_any : Spc Tryz.prog 134 #[] [] [] (Is (.agg #[.int .i64 4294967296, .int .i64 0, .int .i64 0, .int .i64 0, .int .i64 4294967296, .int .i64 0, .int .i64 0, .int .i64 0, .int .i64 4294967296, .int .i64 0])) := by
  refine Spc.enter Tryz.func134 rfl rfl rfl (fun w0 hw0 => ?_)
  refine CW.seq (CW.region (ef := [0]) (bk := []) (RL.alloc Tryz.zeroValue290 rfl rfl rfl rfl rfl ?_))
  intro b1
  refine RL.nil (NQ.seq (CW.seq (CW.region (ef := [2]) (bk := [2]) (RL.callvq (same_any') Tryz.call150 rfl rfl rfl rfl ?_))))
  refine RL.buildS [_, _, _, _, _, _, _, _, _, _] Tryz.zeroValue290 pl_290 rfl rfl rfl rfl rfl (RL.store (vs := [_, _, _, _, _, _, _, _, _, _]) Tryz.sizeOf290 rfl rfl rfl rfl rfl rfl rfl rfl rfl (by repeat (first | exact Upd.here | apply Upd.there)) ?_)
  refine RL.nil (NQ.seq (CW.ret ?_))
  exact RQ.post (resW rfl rfl Tryz.isAgg290 Tryz.sizeOf290 (by repeat (first | exact List.Mem.head _ | apply List.Mem.tail)) rfl) (Split.none _) ⟨rfl, rfl, rfl⟩
theorem nav_any (g0 g1 g2 dr : Int) (oa : Option Nat) (ca n : Nat) (L : List Ad) (hn : L.length = n) (hl : n ≤ 1000000) :
    Spc Tryz.prog 108 #[.agg #[.int .i64 g0, .int .i64 g1, .int .i64 g2, .int .i64 dr, slO oa n ca]] [sls (oa.map fun b => ⟨b, 0, none⟩) 7 n (L.flatMap Ad.cells)] [] (ErP (errI (0 ≤ dr ∧ L.length ≤ 8 ∧ adsB L = true))) := by
  subst hn
  refine Spc.enter Tryz.func108 rfl rfl rfl (fun w0 hw0 => ?_)
  refine CW.seq (CW.region (ef := [0]) (bk := []) (RL.box rfl rfl rfl rfl rfl rfl ?_))
  intro b1
  refine RL.p rfl (RL.p rfl (RL.nil (NQ.seq (CW.seq (CW.seq (CW.freezeAll rfl ?_))))))
  simp only [List.cons_append, List.nil_append]
  generalize hJ : ([cel b1 [.int .i64 g0, .int .i64 g1, .int .i64 g2, .int .i64 dr, slO oa L.length ca] 235, sls (oa.map fun b => ⟨b, 0, none⟩) 7 L.length (L.flatMap Ad.cells)] : List It) = J
  have m1 : cel b1 [.int .i64 g0, .int .i64 g1, .int .i64 g2, .int .i64 dr, slO oa L.length ca] 235 ∈ J := by rw [← hJ]; exact (by repeat (first | exact List.Mem.head _ | apply List.Mem.tail))
  have m2 : sls (oa.map fun b => ⟨b, 0, none⟩) 7 L.length (L.flatMap Ad.cells) ∈ J := by rw [← hJ]; exact (by repeat (first | exact List.Mem.head _ | apply List.Mem.tail))
  clear hJ
  have fG : RdsN J ⟨b1, 0 + 0, none⟩ 3 [.int .i64 g0, .int .i64 g1, .int .i64 g2] := RdsN.told m1 (fun j u hj => by
    match j, hj with
    | 0, hj => exact hj
    | 1, hj => exact hj
    | 2, hj => exact hj
    | j + 3, hj => simp at hj) rfl
  have fD : RdI J ⟨b1, 0 + 3, none⟩ (.int .i64 dr) := ⟨fun _ => Rd.celI m1 rfl⟩
  have fS : RdI J ⟨b1, 0 + 4, none⟩ (slO oa L.length ca) := ⟨fun _ => Rd.celI m1 rfl⟩
  refine CW.rg (RL.fieldAddr fa_235_1 rfl rfl rfl rfl (RL.loadq Tryz.isAgg23 rfl rfl rfl rfl ?_))
  refine RL.p rfl (RL.p rfl ?_)
  apply RL.orB (d := 11) (dp := 16) (l' := (Sq.of [])) rfl (sK [1, 2, 3] rfl)
  ·
    intro hb4 K4
    refine RL.fieldAddr fa_235_2 rfl rfl rfl rfl (RL.loadq Tryz.isAgg233 rfl rfl rfl rfl ?_)
    refine RL.lenS Tryz.runUnderlying233 rfl rfl rfl rfl (RL.p rfl (RL.p rfl ?_))
    exact K4 _ (.cons rfl (sK [1, 2, 3] rfl))
  ·
    intro hb4 K4
    refine RL.p rfl (RL.p rfl (RL.p rfl (RL.p rfl (RL.p rfl ?_))))
    exact K4 _ (.cons rfl (sK [1, 2, 3] rfl))
  refine RL.nil (NQ.seq ?_)
  refine CW.cond rfl (fun h1 => ?_) (fun h1 => ?_)
  ·
    refine CW.seq (CW.rg (RL.p rfl (RL.p rfl (RL.nil (NQ.seq (CW.ret (RQ.seq ?_)))))))
    exact RQ.post (res2 rfl rfl rfl) (Split.none _) ⟨_, by rw [errI_no (by simp at h1; omega)], rfl, rfl⟩
  ·
    refine CW.skip (NQ.seq (CW.seq (CW.regionD (Sq.of [0, 1, 2, 3, 4, 5, 6, 7, 8]) [5, 7] [] [0, 1, 2, 3, 4, 6, 8] mixed (by kernel_rfl) ?_)))
    refine RL.fieldAddr fa_235_0 rfl rfl rfl rfl (RL.loadSTq Tryz.isAgg25 Tryz.sizeOf25 rfl rfl rfl rfl ?_)
    refine RL.fieldAddr fa_235_1 rfl rfl rfl rfl (RL.loadTq Tryz.isAgg23 rfl rfl rfl rfl ?_)
    refine RL.callTq (att_any) Tryz.call134 rfl rfl rfl rfl ?_
    refine RL.makeMap (good := goodI) rfl rfl rfl rfl (fun mp => ?_)
    refine RL.buildS [_, _, _, _, _, _, _, _, _, _, _, _, _, _, _, _, _, _, _, _, _, _, _, _, _] Tryz.zeroValue294 pl_294 rfl rfl rfl rfl rfl (RL.box rfl rfl rfl rfl rfl rfl ?_)
    intro b2
    refine RL.p rfl (RL.nil (NQ.seq (CW.ok [1, 4] rfl (CW.seq (CW.rg (RL.p rfl (RL.nil (NQ.seq (CW.seq (CW.seq (CW.rg (RL.fieldAddr fa_235_2 rfl rfl rfl rfl (RL.loadq Tryz.isAgg233 rfl rfl rfl rfl ?_)))))))))))))
    refine RL.lenS Tryz.runUnderlying233 rfl rfl rfl rfl (RL.p rfl (RL.nil (NQ.seq (CW.block ?_))))
    have h1 : 0 ≤ dr ∧ L.length ≤ 8 := by simp at h1; omega
    refine CW.freezeP (A := [_]) (B := [mapI mp goodI []]) (by repeat (first | exact Pick.nil | apply Pick.take | apply Pick.leave)) rfl ?_
    refine CW.genI (fun J2 hJ2 => ?_)
    have hJ12 : ∀ x ∈ J, x ∈ J2 := fun x hx => hJ2 x (by simp [hx])
    have mN := hJ2 _ (List.Mem.head _)
    have m3 := hJ12 _ m2
    clear hJ2
    have fM : RdI J2 ⟨b2, 0 + 20, none⟩ (.map (some mp)) := ⟨fun _ => Rd.celI mN rfl⟩
    clear fG fD fS m1 m2
    refine CW.loop (γ := Nat × List (Value × Value)) (fun g => g.1 ≤ L.length ∧ (∀ j < g.1, stepA L j = true)) (fun g => [(4, .pointer (some ⟨b2, 0, none⟩)), (5, .int .i64 (wasA L g.1)), (26, slO oa L.length ca), (27, .int .i64 (L.length : Int)), (28, .int .i64 (g.1 : Int))]) (fun _ => J2) (fun g => [mapI mp goodI g.2]) (fun g => L.length - g.1) (0, []) ⟨Nat.zero_le _, fun j h => by omega⟩ (.cons rfl (.cons rfl (.cons rfl (.cons rfl (.cons rfl .nil))))) (fun w h => h.rea (fun _ h => h) (by repeat (first | exact Rea.nil | (apply Rea.cons; (solve | (repeat (first | exact Del.here | apply Del.there))))))) ?_
    rintro ⟨i, c⟩ ⟨hi, hok⟩
    dsimp only at hi hok ⊢
    refine CW.fact (p := oa = none → L.length = 0) (fun w hC e => sls_nil (hC.s.i _ m3) (by rw [e]; rfl)) (fun hpa => ?_)
    refine CW.seq (CW.rg (RL.p rfl (RL.nil (NQ.seq (CW.seq ?_)))))
    refine CW.cond rfl (fun hlt => ?_) (fun hlt => ?_)
    ·
      have hlt : i < L.length := by simp at hlt; omega
      cases oa with
      | none => exact absurd (hpa rfl) (by omega)
      | some ba =>
      have hx := List.getElem?_eq_getElem hlt
      generalize L[i] = a at hx
      have fA : RdsN J2 ⟨ba, 0 + i * 7, none⟩ 7 [.int .i64 a.src, .int .i64 a.kd, .int .i64 a.w, .int .i64 a.g, .int .i64 a.st, .int .i64 a.lm, .int .i64 a.hz] := flat_rdsN (f := Ad.cells) m3 hx (fun _ _ => rfl)
      refine CW.skip (NQ.seq (CW.seq (CW.block (CW.seq (CW.region (ef := [2, 3]) (bk := [3]) (RL.idxAt (j := i) Tryz.runUnderlying233 Tryz.sizeOf297 rfl rfl rfl rfl rfl rfl (hlt) (RL.loadSq Tryz.isAgg297 Tryz.sizeOf297 rfl rfl rfl rfl ?_)))))))
      refine RL.alloc Tryz.zeroValue297 rfl rfl rfl rfl rfl ?_
      intro b3
      refine RL.store (vs := [_, _, _, _, _, _, _]) Tryz.sizeOf297 rfl rfl rfl rfl rfl rfl rfl rfl rfl (by repeat (first | exact Upd.here | apply Upd.there)) ?_
      refine RL.nil (NQ.seq (CW.seq (CW.seq (CW.rg (RL.loadSq Tryz.isAgg297 Tryz.sizeOf297 rfl rfl rfl rfl ?_)))))
      refine RL.callvq (aright_any a) Tryz.call135 rfl rfl rfl rfl ?_
      refine RL.p rfl (RL.p rfl ?_)
      apply RL.orB (d := 35) (dp := 40) (l' := (Sq.of [])) rfl (sK [4, 5, 7, 26, 27, 28] rfl)
      ·
        intro hb4 K4
        refine RL.fieldAddr fa_297_0 rfl rfl rfl rfl (RL.loadq Tryz.isAgg3 rfl rfl rfl rfl ?_)
        refine RL.p rfl (RL.p rfl (RL.p rfl ?_))
        exact K4 _ (.cons rfl (sK [4, 5, 7, 26, 27, 28] rfl))
      ·
        intro hb4 K4
        refine RL.p rfl (RL.p rfl (RL.p rfl (RL.p rfl (RL.p rfl ?_))))
        exact K4 _ (.cons rfl (sK [4, 5, 7, 26, 27, 28] rfl))
      refine RL.nil (NQ.seq ?_)
      refine CW.cond rfl (fun h2 => ?_) (fun h2 => ?_)
      ·
        refine CW.seq (CW.rg (RL.p rfl (RL.p rfl (RL.nil (NQ.seq (CW.ret (RQ.seq (RQ.block (RQ.seq (RQ.seq (RQ.block (RQ.seq ?_))))))))))))
        have hno : ¬ (0 ≤ dr ∧ L.length ≤ 8 ∧ adsB L = true) := by
          rintro ⟨-, -, h3⟩
          have h4 := adsB_iff.1 h3 i
          rw [stepA_at hx] at h4
          simp at h2 h4
          rcases h2 with h2 | h2
          · rw [h4.1] at h2; cases h2
          · omega
        exact RQ.post (res2 rfl rfl rfl) (Split.none _) ⟨_, by rw [errI_no hno], rfl, rfl⟩
      ·
        have h2 : a.ok = true ∧ wasA L i < a.src := by simpa using h2
        have hs : stepA L i = true := by rw [stepA_at hx]; simp [h2]
        have hw := wasA_at hx
        refine CW.skip (NQ.seq ?_)
        refine CW.cutN (γ := Unit × List (Value × Value)) (fun _ => True) (fun g => [(4, .pointer (some ⟨b2, 0, none⟩)), (5, .int .i64 a.src), (26, slO (some ba) L.length ca), (27, .int .i64 (L.length : Int)), (28, .int .i64 (i : Int))]) (fun _ => J2) (fun g => [mapI mp goodI g.2]) ?_ ?_
        ·
          refine CW.regionD (.cons 0 (.cons 1 (.cons 2 (.cons 3 (.cons 4 (.cons 5 (.cons 9 (.fork [6, 10, 11] (fun k => (bif Nat.beq k 6 then (.cons 7 (.fork [8, 10, 11] (fun k => (bif Nat.beq k 8 then (.fork [10, 11] (fun k => (bif Nat.beq k 10 then (Sq.of [11, 12, 13, 14]) else (.cons 12 (.fork [10, 13] (fun k => (bif Nat.beq k 10 then (Sq.of [13, 14]) else (Sq.of [10, 14])))))))) else (bif Nat.beq k 10 then (.fork [8, 11] (fun k => (bif Nat.beq k 8 then (Sq.of [11, 12, 13, 14]) else (Sq.of [12, 8, 13, 14])))) else (.cons 12 (.fork [8, 10] (fun k => (bif Nat.beq k 8 then (.fork [10, 13] (fun k => (bif Nat.beq k 10 then (Sq.of [13, 14]) else (Sq.of [10, 14])))) else (Sq.of [8, 13, 14])))))))))) else (bif Nat.beq k 10 then (.fork [6, 11] (fun k => (bif Nat.beq k 6 then (.cons 7 (.fork [8, 11] (fun k => (bif Nat.beq k 8 then (Sq.of [11, 12, 13, 14]) else (Sq.of [12, 8, 13, 14]))))) else (Sq.of [6, 7, 12, 8, 13, 14])))) else (.cons 6 (.cons 7 (.cons 12 (.fork [8, 10] (fun k => (bif Nat.beq k 8 then (.fork [10, 13] (fun k => (bif Nat.beq k 10 then (Sq.of [13, 14]) else (Sq.of [10, 14])))) else (Sq.of [8, 13, 14])))))))))))))))))) [8, 11, 13] [11, 13] [0, 1, 2, 3, 4, 7, 9, 12, 14] mixed (by kernel_rfl) ?_
          refine RL.p rfl (RL.p rfl (RL.fieldAddr fa_294_5 rfl rfl rfl rfl (RL.loadTq Tryz.isAgg292 rfl rfl rfl rfl ?_)))
          refine RL.fieldAddr fa_297_0 rfl rfl rfl rfl (RL.loadq Tryz.isAgg3 rfl rfl rfl rfl ?_)
          refine RL.fieldAddr fa_297_0 rfl rfl rfl rfl ?_
          refine RL.fork ⟨?_, ?_, ?_, trivial⟩
          ·
            refine RL.loadSq Tryz.isAgg297 Tryz.sizeOf297 rfl rfl rfl rfl ?_
            refine RL.buildS [_, _, _, _, _, _, _, _, _, _, _, _] Tryz.zeroValue302 pl_302 rfl rfl rfl rfl rfl ?_
            refine RL.fork ⟨?_, ?_, ?_, trivial⟩
            ·
              refine RL.box rfl rfl rfl rfl rfl rfl ?_
              intro b4
              refine RL.fork ⟨?_, ?_, trivial⟩
              ·
                refine RL.loadq Tryz.isAgg3 rfl rfl rfl rfl ?_
                refine RL.mapEntry (key := .int .i64 a.src) keyI Tryz.runUnderlying292 Tryz.zeroValue298 rfl rfl rfl rfl rfl rfl rfl ⟨a.src, rfl⟩ (by repeat (first | exact List.Mem.head _ | apply List.Mem.tail)) (fun st => ⟨_, (by repeat (first | exact Upd.here | apply Upd.there)), ?_⟩)
                refine RL.p rfl (RL.entryStore rfl rfl rfl rfl rfl rfl rfl (by repeat (first | exact Upd.here | apply Upd.there)) ?_)
                refine RL.p rfl (RL.nil ?_)
                exact NQ.midG ((), _) trivial (.cons rfl (.cons rfl (.cons rfl (.cons rfl (.cons rfl .nil))))) (fun w h => h.rea (fun _ h => h) (by repeat (first | exact Rea.nil | (apply Rea.cons; (solve | (repeat (first | exact Del.here | apply Del.there)))))))
              ·
                refine RL.mapEntry (key := .int .i64 a.src) keyI Tryz.runUnderlying292 Tryz.zeroValue298 rfl rfl rfl rfl rfl rfl rfl ⟨a.src, rfl⟩ (by repeat (first | exact List.Mem.head _ | apply List.Mem.tail)) (fun st => ⟨_, (by repeat (first | exact Upd.here | apply Upd.there)), ?_⟩)
                refine RL.p rfl ?_
                refine RL.fork ⟨?_, ?_, trivial⟩
                ·
                  refine RL.loadq Tryz.isAgg3 rfl rfl rfl rfl ?_
                  refine RL.entryStore rfl rfl rfl rfl rfl rfl rfl (by repeat (first | exact Upd.here | apply Upd.there)) ?_
                  refine RL.p rfl (RL.nil ?_)
                  exact NQ.midG ((), _) trivial (.cons rfl (.cons rfl (.cons rfl (.cons rfl (.cons rfl .nil))))) (fun w h => h.rea (fun _ h => h) (by repeat (first | exact Rea.nil | (apply Rea.cons; (solve | (repeat (first | exact Del.here | apply Del.there)))))))
                ·
                  refine RL.entryStore rfl rfl rfl rfl rfl rfl rfl (by repeat (first | exact Upd.here | apply Upd.there)) ?_
                  refine RL.loadq Tryz.isAgg3 rfl rfl rfl rfl ?_
                  refine RL.p rfl (RL.nil ?_)
                  exact NQ.midG ((), _) trivial (.cons rfl (.cons rfl (.cons rfl (.cons rfl (.cons rfl .nil))))) (fun w h => h.rea (fun _ h => h) (by repeat (first | exact Rea.nil | (apply Rea.cons; (solve | (repeat (first | exact Del.here | apply Del.there)))))))
            ·
              refine RL.loadq Tryz.isAgg3 rfl rfl rfl rfl ?_
              refine RL.fork ⟨?_, ?_, trivial⟩
              ·
                refine RL.box rfl rfl rfl rfl rfl rfl ?_
                intro b4
                refine RL.mapEntry (key := .int .i64 a.src) keyI Tryz.runUnderlying292 Tryz.zeroValue298 rfl rfl rfl rfl rfl rfl rfl ⟨a.src, rfl⟩ (by repeat (first | exact List.Mem.head _ | apply List.Mem.tail)) (fun st => ⟨_, (by repeat (first | exact Upd.here | apply Upd.there)), ?_⟩)
                refine RL.p rfl (RL.entryStore rfl rfl rfl rfl rfl rfl rfl (by repeat (first | exact Upd.here | apply Upd.there)) ?_)
                refine RL.p rfl (RL.nil ?_)
                exact NQ.midG ((), _) trivial (.cons rfl (.cons rfl (.cons rfl (.cons rfl (.cons rfl .nil))))) (fun w h => h.rea (fun _ h => h) (by repeat (first | exact Rea.nil | (apply Rea.cons; (solve | (repeat (first | exact Del.here | apply Del.there)))))))
              ·
                refine RL.mapEntry (key := .int .i64 a.src) keyI Tryz.runUnderlying292 Tryz.zeroValue298 rfl rfl rfl rfl rfl rfl rfl ⟨a.src, rfl⟩ (by repeat (first | exact List.Mem.head _ | apply List.Mem.tail)) (fun st => ⟨_, (by repeat (first | exact Upd.here | apply Upd.there)), ?_⟩)
                refine RL.p rfl (RL.box rfl rfl rfl rfl rfl rfl ?_)
                intro b4
                refine RL.entryStore rfl rfl rfl rfl rfl rfl rfl (by repeat (first | exact Upd.here | apply Upd.there)) ?_
                refine RL.p rfl (RL.nil ?_)
                exact NQ.midG ((), _) trivial (.cons rfl (.cons rfl (.cons rfl (.cons rfl (.cons rfl .nil))))) (fun w h => h.rea (fun _ h => h) (by repeat (first | exact Rea.nil | (apply Rea.cons; (solve | (repeat (first | exact Del.here | apply Del.there)))))))
            ·
              refine RL.mapEntry (key := .int .i64 a.src) keyI Tryz.runUnderlying292 Tryz.zeroValue298 rfl rfl rfl rfl rfl rfl rfl ⟨a.src, rfl⟩ (by repeat (first | exact List.Mem.head _ | apply List.Mem.tail)) (fun st => ⟨_, (by repeat (first | exact Upd.here | apply Upd.there)), ?_⟩)
              refine RL.p rfl ?_
              refine RL.fork ⟨?_, ?_, trivial⟩
              ·
                refine RL.box rfl rfl rfl rfl rfl rfl ?_
                intro b4
                refine RL.fork ⟨?_, ?_, trivial⟩
                ·
                  refine RL.loadq Tryz.isAgg3 rfl rfl rfl rfl ?_
                  refine RL.entryStore rfl rfl rfl rfl rfl rfl rfl (by repeat (first | exact Upd.here | apply Upd.there)) ?_
                  refine RL.p rfl (RL.nil ?_)
                  exact NQ.midG ((), _) trivial (.cons rfl (.cons rfl (.cons rfl (.cons rfl (.cons rfl .nil))))) (fun w h => h.rea (fun _ h => h) (by repeat (first | exact Rea.nil | (apply Rea.cons; (solve | (repeat (first | exact Del.here | apply Del.there)))))))
                ·
                  refine RL.entryStore rfl rfl rfl rfl rfl rfl rfl (by repeat (first | exact Upd.here | apply Upd.there)) ?_
                  refine RL.loadq Tryz.isAgg3 rfl rfl rfl rfl ?_
                  refine RL.p rfl (RL.nil ?_)
                  exact NQ.midG ((), _) trivial (.cons rfl (.cons rfl (.cons rfl (.cons rfl (.cons rfl .nil))))) (fun w h => h.rea (fun _ h => h) (by repeat (first | exact Rea.nil | (apply Rea.cons; (solve | (repeat (first | exact Del.here | apply Del.there)))))))
              ·
                refine RL.loadq Tryz.isAgg3 rfl rfl rfl rfl ?_
                refine RL.box rfl rfl rfl rfl rfl rfl ?_
                intro b4
                refine RL.entryStore rfl rfl rfl rfl rfl rfl rfl (by repeat (first | exact Upd.here | apply Upd.there)) ?_
                refine RL.p rfl (RL.nil ?_)
                exact NQ.midG ((), _) trivial (.cons rfl (.cons rfl (.cons rfl (.cons rfl (.cons rfl .nil))))) (fun w h => h.rea (fun _ h => h) (by repeat (first | exact Rea.nil | (apply Rea.cons; (solve | (repeat (first | exact Del.here | apply Del.there)))))))
          ·
            refine RL.loadq Tryz.isAgg3 rfl rfl rfl rfl ?_
            refine RL.fork ⟨?_, ?_, trivial⟩
            ·
              refine RL.loadSq Tryz.isAgg297 Tryz.sizeOf297 rfl rfl rfl rfl ?_
              refine RL.buildS [_, _, _, _, _, _, _, _, _, _, _, _] Tryz.zeroValue302 pl_302 rfl rfl rfl rfl rfl ?_
              refine RL.fork ⟨?_, ?_, trivial⟩
              ·
                refine RL.box rfl rfl rfl rfl rfl rfl ?_
                intro b4
                refine RL.mapEntry (key := .int .i64 a.src) keyI Tryz.runUnderlying292 Tryz.zeroValue298 rfl rfl rfl rfl rfl rfl rfl ⟨a.src, rfl⟩ (by repeat (first | exact List.Mem.head _ | apply List.Mem.tail)) (fun st => ⟨_, (by repeat (first | exact Upd.here | apply Upd.there)), ?_⟩)
                refine RL.p rfl (RL.entryStore rfl rfl rfl rfl rfl rfl rfl (by repeat (first | exact Upd.here | apply Upd.there)) ?_)
                refine RL.p rfl (RL.nil ?_)
                exact NQ.midG ((), _) trivial (.cons rfl (.cons rfl (.cons rfl (.cons rfl (.cons rfl .nil))))) (fun w h => h.rea (fun _ h => h) (by repeat (first | exact Rea.nil | (apply Rea.cons; (solve | (repeat (first | exact Del.here | apply Del.there)))))))
              ·
                refine RL.mapEntry (key := .int .i64 a.src) keyI Tryz.runUnderlying292 Tryz.zeroValue298 rfl rfl rfl rfl rfl rfl rfl ⟨a.src, rfl⟩ (by repeat (first | exact List.Mem.head _ | apply List.Mem.tail)) (fun st => ⟨_, (by repeat (first | exact Upd.here | apply Upd.there)), ?_⟩)
                refine RL.p rfl (RL.box rfl rfl rfl rfl rfl rfl ?_)
                intro b4
                refine RL.entryStore rfl rfl rfl rfl rfl rfl rfl (by repeat (first | exact Upd.here | apply Upd.there)) ?_
                refine RL.p rfl (RL.nil ?_)
                exact NQ.midG ((), _) trivial (.cons rfl (.cons rfl (.cons rfl (.cons rfl (.cons rfl .nil))))) (fun w h => h.rea (fun _ h => h) (by repeat (first | exact Rea.nil | (apply Rea.cons; (solve | (repeat (first | exact Del.here | apply Del.there)))))))
            ·
              refine RL.mapEntry (key := .int .i64 a.src) keyI Tryz.runUnderlying292 Tryz.zeroValue298 rfl rfl rfl rfl rfl rfl rfl ⟨a.src, rfl⟩ (by repeat (first | exact List.Mem.head _ | apply List.Mem.tail)) (fun st => ⟨_, (by repeat (first | exact Upd.here | apply Upd.there)), ?_⟩)
              refine RL.loadSq Tryz.isAgg297 Tryz.sizeOf297 rfl rfl rfl rfl ?_
              refine RL.buildS [_, _, _, _, _, _, _, _, _, _, _, _] Tryz.zeroValue302 pl_302 rfl rfl rfl rfl rfl (RL.p rfl (RL.box rfl rfl rfl rfl rfl rfl ?_))
              intro b4
              refine RL.entryStore rfl rfl rfl rfl rfl rfl rfl (by repeat (first | exact Upd.here | apply Upd.there)) ?_
              refine RL.p rfl (RL.nil ?_)
              exact NQ.midG ((), _) trivial (.cons rfl (.cons rfl (.cons rfl (.cons rfl (.cons rfl .nil))))) (fun w h => h.rea (fun _ h => h) (by repeat (first | exact Rea.nil | (apply Rea.cons; (solve | (repeat (first | exact Del.here | apply Del.there)))))))
          ·
            refine RL.mapEntry (key := .int .i64 a.src) keyI Tryz.runUnderlying292 Tryz.zeroValue298 rfl rfl rfl rfl rfl rfl rfl ⟨a.src, rfl⟩ (by repeat (first | exact List.Mem.head _ | apply List.Mem.tail)) (fun st => ⟨_, (by repeat (first | exact Upd.here | apply Upd.there)), ?_⟩)
            refine RL.loadSq Tryz.isAgg297 Tryz.sizeOf297 rfl rfl rfl rfl ?_
            refine RL.buildS [_, _, _, _, _, _, _, _, _, _, _, _] Tryz.zeroValue302 pl_302 rfl rfl rfl rfl rfl (RL.p rfl ?_)
            refine RL.fork ⟨?_, ?_, trivial⟩
            ·
              refine RL.box rfl rfl rfl rfl rfl rfl ?_
              intro b4
              refine RL.fork ⟨?_, ?_, trivial⟩
              ·
                refine RL.loadq Tryz.isAgg3 rfl rfl rfl rfl ?_
                refine RL.entryStore rfl rfl rfl rfl rfl rfl rfl (by repeat (first | exact Upd.here | apply Upd.there)) ?_
                refine RL.p rfl (RL.nil ?_)
                exact NQ.midG ((), _) trivial (.cons rfl (.cons rfl (.cons rfl (.cons rfl (.cons rfl .nil))))) (fun w h => h.rea (fun _ h => h) (by repeat (first | exact Rea.nil | (apply Rea.cons; (solve | (repeat (first | exact Del.here | apply Del.there)))))))
              ·
                refine RL.entryStore rfl rfl rfl rfl rfl rfl rfl (by repeat (first | exact Upd.here | apply Upd.there)) ?_
                refine RL.loadq Tryz.isAgg3 rfl rfl rfl rfl ?_
                refine RL.p rfl (RL.nil ?_)
                exact NQ.midG ((), _) trivial (.cons rfl (.cons rfl (.cons rfl (.cons rfl (.cons rfl .nil))))) (fun w h => h.rea (fun _ h => h) (by repeat (first | exact Rea.nil | (apply Rea.cons; (solve | (repeat (first | exact Del.here | apply Del.there)))))))
            ·
              refine RL.loadq Tryz.isAgg3 rfl rfl rfl rfl ?_
              refine RL.box rfl rfl rfl rfl rfl rfl ?_
              intro b4
              refine RL.entryStore rfl rfl rfl rfl rfl rfl rfl (by repeat (first | exact Upd.here | apply Upd.there)) ?_
              refine RL.p rfl (RL.nil ?_)
              exact NQ.midG ((), _) trivial (.cons rfl (.cons rfl (.cons rfl (.cons rfl (.cons rfl .nil))))) (fun w h => h.rea (fun _ h => h) (by repeat (first | exact Rea.nil | (apply Rea.cons; (solve | (repeat (first | exact Del.here | apply Del.there)))))))
        rintro ⟨⟨⟩, c2⟩ -
        dsimp only
        refine NQ.block (NQ.seq (CW.rg (RL.bx rfl (wrapV_i64 (by omega) (by omega)) ?_)))
        refine RL.p rfl (RL.nil ?_)
        refine NQ.round (g := (i, c)) (i + 1, c2) ⟨hlt, fun j hj => ?_⟩ (by show L.length - (i + 1) < L.length - i; omega) (.cons rfl (.cons (by rw [hw]; rfl) (.cons rfl (.cons rfl (.cons rfl .nil))))) (fun w h => h.rea (fun _ h => h) (by repeat (first | exact Rea.nil | (apply Rea.cons; (solve | (repeat (first | exact Del.here | apply Del.there)))))))
        rcases Nat.lt_succ_iff_lt_or_eq.1 hj with hj | rfl
        · exact hok j hj
        · exact hs
    ·
      have hin : i = L.length := by simp at hlt; omega
      refine CW.exit (XQ.seq (XQ.seq (XQ.hit (NQ.seq (CW.seq (CW.rg (RL.p rfl (RL.p rfl (RL.p rfl (RL.nil (NQ.seq (CW.ok [2, 3] rfl (CW.ret ?_)))))))))))))
      have hyes : 0 ≤ dr ∧ L.length ≤ 8 ∧ adsB L = true := by
        refine ⟨h1.1, h1.2, adsB_iff.2 fun j => ?_⟩
        by_cases hj : j < L.length
        · exact hok j (by omega)
        · rw [stepA, List.getElem?_eq_none (by omega)]
      exact RQ.post (res2 rfl rfl rfl) (Split.none _) ⟨_, by rw [errI_yes hyes], rfl, rfl⟩
end Go.Proofs.YthndhipjfdgdfaaGreatDoor
