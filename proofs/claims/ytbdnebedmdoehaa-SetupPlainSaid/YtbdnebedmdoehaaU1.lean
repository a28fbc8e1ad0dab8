import Derived.Test.YtbdnebedmdoehaaRWide2
namespace Go.Proofs.Ytbdnebedmdoehaa
open Go.PK
/-! ### How far a source may lead astray -/
abbrev Wc (z : Int) : List Value := [.int .i64 (z / 18446744073709551616), .int .u64 (z % 18446744073709551616)]
theorem bit_cast (t i : Nat) : (t : Int) / 2 ^ i % 2 = ((t / 2 ^ i % 2 : Nat) : Int) := by simp
theorem mod_step (t i : Nat) : t % 2 ^ (i + 1) = t % 2 ^ i + 2 ^ i * (t / 2 ^ i % 2) := by
  rw [Nat.pow_succ, Nat.mod_mul]
theorem bit_small {t i : Nat} (ht : t ≤ 65535) (h : t / 2 ^ i % 2 = 1) : i < 16 := by
  rcases Nat.lt_or_ge i 16 with h1 | h1
  · exact h1
  · have h2 : (2 : Nat) ^ 16 ≤ 2 ^ i := Nat.pow_le_pow_right (by decide) h1
    have h3 : t / 2 ^ i = 0 := Nat.div_eq_of_lt (by omega)
    rw [h3] at h; cases h
theorem dbl_bd {a : Int} (ha : 0 ≤ a ∧ a ≤ 9223372036854775807) {i : Nat} (hi : i ≤ 16) : 0 ≤ a * 2 ^ i ∧ a * 2 ^ i ≤ 9223372036854775807 * 65536 := by
  have h1 : (2 : Int) ^ i ≤ 65536 := by
    have : (2 : Nat) ^ i ≤ 2 ^ 16 := Nat.pow_le_pow_right (by decide) hi
    have h2 : (((2 : Nat) ^ i : Nat) : Int) ≤ ((2 ^ 16 : Nat) : Int) := Int.ofNat_le.2 this
    simpa using h2
  have h0 : (0 : Int) ≤ 2 ^ i := Int.le_of_lt (Int.pow_pos (by decide))
  exact ⟨Int.mul_nonneg ha.1 h0, Int.mul_le_mul ha.2 h1 h0 (by decide)⟩
theorem prd_bd {a : Int} (ha : 0 ≤ a ∧ a ≤ 9223372036854775807) {n : Nat} (hn : n ≤ 65535) : 0 ≤ a * (n : Int) ∧ a * (n : Int) ≤ 9223372036854775807 * 65535 :=
  ⟨Int.mul_nonneg ha.1 (by omega), Int.mul_le_mul ha.2 (by omega) (by omega) (by decide)⟩
theorem rmul_any (a : Int) (t : Nat) (ha : 0 ≤ a ∧ a ≤ 9223372036854775807) (ht : t ≤ 65535) : Spc Try.prog 85 #[.int .i64 a, .int .i64 (t : Int)] [] [] (Is (W (a * t))) := by
  refine Spc.enter Try.func85 rfl rfl rfl (fun w0 hw0 => ?_)
  refine CW.seq (CW.region (ef := [0]) (bk := []) (RL.alloc Try.zeroValue202 rfl rfl rfl rfl rfl ?_))
  intro b1
  refine RL.nil (NQ.seq (CW.seq (CW.region (ef := [1, 2]) (bk := [2]) (RL.buildS _ Try.zeroValue202 pl_202 rfl rfl rfl rfl rfl (RL.alloc Try.zeroValue202 rfl rfl rfl rfl rfl ?_)))))
  intro b2
  refine RL.store (vs := [_, _]) Try.sizeOf202 rfl rfl rfl rfl rfl rfl rfl rfl rfl (by repeat (first | exact Upd.here | apply Upd.there)) ?_
  refine RL.nil (NQ.seq (CW.seq (CW.region (ef := [4, 5, 6]) (bk := [6]) (RL.p rfl (RL.callvq (rof_any a (by omega)) Try.call110 rfl rfl rfl rfl ?_)))))
  refine RL.p rfl (RL.callvq (rof_any t (by omega)) Try.call110 rfl rfl rfl rfl ?_)
  refine RL.callq (digits_any (t : Int) (by omega)) Try.call111 rfl rfl rfl rfl rfl (.inl rfl) ?_
  rintro _ _ _ ⟨ob1, cap1, rfl, rfl, rfl, ho1⟩
  refine RL.alloc Try.zeroValue202 rfl rfl rfl rfl rfl ?_
  intro b3
  refine RL.storeW (vs := Wc a) Try.sizeOf202 rfl rfl rfl rfl rfl rfl rfl rfl (by repeat (first | exact Upd.here | apply Upd.there)) rfl rfl ?_
  refine RL.p rfl (RL.nil (NQ.seq (CW.ok [4, 5, 6, 7] rfl (CW.seq (CW.seq (CW.rg (RL.p rfl (RL.nil (NQ.seq (CW.block ?_))))))))))
  obtain ⟨bd, rfl⟩ : ∃ q, ob1 = some q := Option.isSome_iff_exists.1 (by simpa using ho1)
  have hgd : ∀ i, i < 128 → (zbits 128 (t : Int))[i]? = some ((t : Int) / 2 ^ i % 2) := fun i h => zbits_get h
  generalize zbits 128 (t : Int) = ds at hgd ⊢
  refine CW.loop (γ := Nat × Int) (fun g => g.1 ≤ 127 ∧ (-170141183460469231731687303715884105728 ≤ g.2 ∧ g.2 < 170141183460469231731687303715884105728) ∧ (g.1 ≤ 16 → g.2 = a * 2 ^ g.1)) (fun g => [(4, .pointer (some ⟨b1, 0, none⟩)), (5, .pointer (some ⟨b2, 0, none⟩)), (6, .pointer (some ⟨b3, 0, none⟩)), (7, slO (some bd) 128 cap1), (8, .int .i64 (g.1 : Int))]) (fun _ => [])
    (fun g => [cel b3 (Wc g.2) 202, cel b2 (Wc (a * ((t % 2 ^ g.1 : Nat) : Int))) 202, own (some bd) cap1 3 1 128 (ints ds), cel b1 [.int .i64 0, .int .u64 0] 202]) (fun g => 127 - g.1) (0, a) ⟨by show 0 ≤ 127; decide, by omega, fun _ => by simp⟩
    (.cons rfl (.cons rfl (.cons rfl (.cons rfl (.cons rfl .nil))))) (fun w h => h.rea (fun _ h => h) (by
      rw [show Wc (a * ((t % 2 ^ 0 : Nat) : Int)) = [.int .i64 0, .int .u64 0] by simp [Wc, Nat.mod_one]]
      exact (by repeat (first | exact Rea.nil | (apply Rea.cons; (solve | (repeat (first | exact Del.here | apply Del.there)))))))) ?_
  rintro ⟨i, x⟩ ⟨hi, hx1, hx⟩
  dsimp only at hi hx1 hx ⊢
  refine CW.seq (CW.seq (CW.rg (RL.p rfl (RL.p rfl (RL.nil (NQ.seq ?_))))))
  refine CW.cond rfl (fun hlt => ?_) (fun hlt => ?_)
  ·
    have hlt : i < 127 := by simp at hlt; omega
    have hgi := hgd i (by omega)
    rw [bit_cast] at hgi
    have hms := mod_step t i
    have hlt2 : t / 2 ^ i % 2 < 2 := Nat.mod_lt _ (by decide)
    obtain ⟨bt, hbt⟩ : ∃ b, t / 2 ^ i % 2 = b := ⟨_, rfl⟩
    rw [hbt] at hgi hms hlt2
    have hsm := Nat.le_trans (Nat.mod_le t (2 ^ i)) ht
    have hsb := prd_bd ha hsm
    have hxx : i + 1 ≤ 16 → sw (x + x) = a * 2 ^ (i + 1) := fun h => by
      have h1 := dbl_bd ha (show i ≤ 16 by omega)
      rw [← hx (by omega)] at h1
      rw [sw_id (by omega), hx (by omega), Int.pow_succ, ← Int.mul_assoc]; omega
    refine CW.skip (NQ.seq (CW.seq (CW.block (CW.seq (CW.seq (CW.rg (RL.p rfl (RL.p rfl (RL.idx (j := i) Try.runUnderlying22 Try.sizeOf3 rfl rfl rfl rfl rfl rfl (by omega) ?_)))))))))
    refine RL.load Try.isAgg3 rfl rfl rfl rfl (Rd.getO (by repeat (first | exact List.Mem.head _ | apply List.Mem.tail)) (ints_get hgi)) ?_
    refine RL.p rfl (RL.nil (NQ.seq (CW.ok [4, 5, 6, 7, 8, 23] rfl ?_)))
    refine CW.cond rfl (fun hb => ?_) (fun hb => ?_)
    ·
      have hb1 : bt = 1 := by simp at hb; omega
      subst hb1
      have hi16 := bit_small ht hbt
      have hsum : sw (a * ((t % 2 ^ i : Nat) : Int) + x) = a * ((t % 2 ^ (i + 1) : Nat) : Int) := by
        have h1 := dbl_bd ha (show i ≤ 16 by omega)
        rw [← hx (by omega)] at h1
        rw [sw_id (by omega), hms, hx (by omega), Nat.mul_one, Int.natCast_add, Int.mul_add]; simp
      refine CW.region (ef := [3]) (bk := [3]) (RL.loadN (vs := Wc (a * ((t % 2 ^ i : Nat) : Int))) Try.isAgg202 Try.sizeOf202 rfl rfl rfl rfl (Rds.cel (by repeat (first | exact List.Mem.head _ | apply List.Mem.tail)) (at_spec ⟨rfl, rfl, trivial⟩)) ?_)
      refine RL.loadN (vs := Wc x) Try.isAgg202 Try.sizeOf202 rfl rfl rfl rfl (Rds.cel (by repeat (first | exact List.Mem.head _ | apply List.Mem.tail)) (at_spec ⟨rfl, rfl, trivial⟩)) ?_
      refine RL.callvq (radd_w (a * ((t % 2 ^ i : Nat) : Int)) x (by omega) hx1) Try.call112 rfl rfl rfl rfl ?_
      rw [hsum]
      refine RL.storeW (vs := Wc (a * ((t % 2 ^ (i + 1) : Nat) : Int))) Try.sizeOf202 rfl rfl rfl rfl rfl rfl rfl rfl (by repeat (first | exact Upd.here | apply Upd.there)) rfl rfl ?_
      refine RL.nil (NQ.seq (CW.region (ef := [3]) (bk := [3]) (RL.loadN (vs := Wc x) Try.isAgg202 Try.sizeOf202 rfl rfl rfl rfl (Rds.cel (by repeat (first | exact List.Mem.head _ | apply List.Mem.tail)) (at_spec ⟨rfl, rfl, trivial⟩)) ?_)))
      refine RL.loadN (vs := Wc x) Try.isAgg202 Try.sizeOf202 rfl rfl rfl rfl (Rds.cel (by repeat (first | exact List.Mem.head _ | apply List.Mem.tail)) (at_spec ⟨rfl, rfl, trivial⟩)) ?_
      refine RL.callvq (radd_w x x hx1 hx1) Try.call112 rfl rfl rfl rfl ?_
      refine RL.storeW (vs := Wc (sw (x + x))) Try.sizeOf202 rfl rfl rfl rfl rfl rfl rfl rfl (by repeat (first | exact Upd.here | apply Upd.there)) rfl rfl ?_
      refine RL.nil (NQ.block (NQ.seq (CW.ok [4, 5, 6, 7, 8] rfl (CW.rg (RL.p rfl (RL.bx rfl (wrapV_i64 (by omega) (by omega)) ?_))))))
      refine RL.p rfl (RL.nil ?_)
      refine NQ.round (g := (i, x)) (i + 1, sw (x + x)) ⟨hlt, sw_bd _, hxx⟩ (by show 127 - (i + 1) < 127 - i; omega) (.cons rfl (.cons rfl (.cons rfl (.cons rfl (.cons rfl .nil))))) (fun w h => h.rea (fun _ h => h) (by repeat (first | exact Rea.nil | (apply Rea.cons; (solve | (repeat (first | exact Del.here | apply Del.there)))))))
    ·
      have hb1 : bt = 0 := by simp at hb; omega
      subst hb1
      have hsum : t % 2 ^ i = t % 2 ^ (i + 1) := by rw [hms, Nat.mul_zero, Nat.add_zero]
      rw [hsum]
      refine CW.skip (NQ.seq (CW.region (ef := [3]) (bk := [3]) (RL.loadN (vs := Wc x) Try.isAgg202 Try.sizeOf202 rfl rfl rfl rfl (Rds.cel (by repeat (first | exact List.Mem.head _ | apply List.Mem.tail)) (at_spec ⟨rfl, rfl, trivial⟩)) ?_)))
      refine RL.loadN (vs := Wc x) Try.isAgg202 Try.sizeOf202 rfl rfl rfl rfl (Rds.cel (by repeat (first | exact List.Mem.head _ | apply List.Mem.tail)) (at_spec ⟨rfl, rfl, trivial⟩)) ?_
      refine RL.callvq (radd_w x x hx1 hx1) Try.call112 rfl rfl rfl rfl ?_
      refine RL.storeW (vs := Wc (sw (x + x))) Try.sizeOf202 rfl rfl rfl rfl rfl rfl rfl rfl (by repeat (first | exact Upd.here | apply Upd.there)) rfl rfl ?_
      refine RL.nil (NQ.block (NQ.seq (CW.rg (RL.p rfl (RL.bx rfl (wrapV_i64 (by omega) (by omega)) ?_)))))
      refine RL.p rfl (RL.nil ?_)
      refine NQ.round (g := (i, x)) (i + 1, sw (x + x)) ⟨hlt, sw_bd _, hxx⟩ (by show 127 - (i + 1) < 127 - i; omega) (.cons rfl (.cons rfl (.cons rfl (.cons rfl (.cons rfl .nil))))) (fun w h => h.rea (fun _ h => h) (by repeat (first | exact Rea.nil | (apply Rea.cons; (solve | (repeat (first | exact Del.here | apply Del.there)))))))
  ·
    have hin : i = 127 := by simp at hlt; omega
    subst hin
    have hgi := hgd 127 (by omega)
    have h127 : (2 : Nat) ^ 127 > 65535 := by decide
    rw [bit_cast, Nat.div_eq_of_lt (show t < 2 ^ 127 by omega)] at hgi
    rw [Nat.mod_eq_of_lt (show t < 2 ^ 127 by omega)]
    refine CW.exit (XQ.seq (XQ.seq (XQ.hit (NQ.seq (CW.seq (CW.seq (CW.rg (RL.p rfl (RL.idx (j := 127) Try.runUnderlying22 Try.sizeOf3 rfl rfl rfl rfl rfl rfl (by omega) ?_)))))))))
    refine RL.load Try.isAgg3 rfl rfl rfl rfl (Rd.getO (by repeat (first | exact List.Mem.head _ | apply List.Mem.tail)) (ints_get hgi)) ?_
    refine RL.p rfl (RL.nil (NQ.seq (CW.ok [4, 5, 6, 33] rfl (CW.condF rfl (rfl) (CW.skip (NQ.seq (CW.seq (CW.region (ef := [1]) (bk := [1]) (RL.loadN (vs := Wc (a * (t : Int))) Try.isAgg202 Try.sizeOf202 rfl rfl rfl rfl (Rds.cel (by repeat (first | exact List.Mem.head _ | apply List.Mem.tail)) (at_spec ⟨rfl, rfl, trivial⟩)) ?_)))))))))
    refine RL.storeW (vs := Wc (a * (t : Int))) Try.sizeOf202 rfl rfl rfl rfl rfl rfl rfl rfl (by repeat (first | exact Upd.here | apply Upd.there)) rfl rfl ?_
    refine RL.nil (NQ.seq (CW.ret ?_))
    exact RQ.post (resW (vs := Wc (a * (t : Int))) rfl rfl Try.isAgg202 Try.sizeOf202 (by repeat (first | exact List.Mem.head _ | apply List.Mem.tail)) rfl) (Split.none _) ⟨rfl, rfl, rfl⟩
def i64 (n : Int) : Prop := -9223372036854775808 ≤ n ∧ n ≤ 9223372036854775807
def drf (k t : Int) : Int := min (max k 0 * min (max t 0) 65535) 9223372036854775807
def limB (h k g t : Int) : Int := clip (isum [max h 0, max g 0, drf k t])
theorem drf_bd (k t : Int) : 0 ≤ drf k t ∧ drf k t ≤ 9223372036854775807 := by
  have : 0 ≤ max k 0 * min (max t 0) 65535 := Int.mul_nonneg (by omega) (by omega)
  unfold drf; omega
theorem rbound_any (h k g t : Int) (hh : i64 h) (hk : i64 k) (hg : i64 g) : Spc Try.prog 55 #[.int .i64 h, .int .i64 k, .int .i64 g, .int .i64 t] [] [] (Is (.int .i64 (limB h k g t))) := by
  unfold i64 at hh hk hg
  obtain ⟨n, hn, hnb⟩ : ∃ n : Nat, min (max t 0) 65535 = (n : Int) ∧ n ≤ 65535 := ⟨(min (max t 0) 65535).toNat, by omega, by omega⟩
  have hp := prd_bd (a := max k 0) (by omega) hnb
  have hd : clip (max k 0 * (n : Int)) = drf k t := by
    unfold drf clip
    rw [hn]
    split
    · omega
    · split <;> omega
  have hdb := drf_bd k t
  have hm : Spc Try.prog 85 #[.int .i64 (max k 0), .int .i64 (min (max t 0) 65535)] [] [] (Is (W (max k 0 * n))) := by
    rw [hn]; exact rmul_any _ n (by omega) hnb
  have hcl := rwclip_any (max k 0 * (n : Int)) (by omega)
  rw [hd] at hcl
  refine Spc.enter Try.func55 rfl rfl rfl (fun w0 hw0 => ?_)
  refine CW.seq (CW.rg (RL.p rfl (RL.nil (NQ.seq (CW.seq (CW.rg (RL.p rfl (RL.max rfl rfl rfl rfl rfl (RL.p rfl (RL.max rfl rfl rfl rfl rfl (RL.min rfl rfl rfl rfl rfl (RL.callvq (hm) Try.call85 rfl rfl rfl rfl ?_))))))))))))
  refine RL.callvq (hcl) Try.call84 rfl rfl rfl rfl ?_
  refine RL.p rfl (RL.p rfl (RL.p rfl (RL.p rfl (RL.p rfl (RL.nil (NQ.seq (CW.ok [0, 2, 9] rfl (CW.seq (CW.region (ef := [5]) (bk := []) (RL.p rfl (RL.max rfl rfl rfl rfl rfl (RL.p rfl (RL.max rfl rfl rfl rfl rfl ?_)))))))))))))
  refine RL.p rfl (RL.buildSlice [_, _, _] Try.runUnderlying205 Try.sizeOf24 Try.zeroValue24 rfl rfl (by decide) (by decide) rfl rfl rfl rfl rfl rfl ?_)
  intro b1
  refine RL.callv (rsum_any _ [max h 0, max g 0, drf k t] _ (by simp) (by intro z hz; simp only [List.mem_cons, List.not_mem_nil, or_false] at hz; rcases hz with rfl | rfl | rfl <;> omega)) Try.call86 rfl rfl rfl rfl (.all (List.Mem.head _) rfl .nil) ?_
  refine RL.p rfl (RL.p rfl (RL.p rfl (RL.p rfl (RL.p rfl (RL.nil (NQ.seq (CW.ok [11] rfl (CW.seq (CW.rg (RL.p rfl (RL.p rfl (RL.nil (NQ.seq ?_)))))))))))))
  refine CW.ret ?_
  exact RQ.post (res1 rfl rfl) (Split.none _) ⟨rfl, rfl, rfl⟩
theorem bound_any (h k g t : Int) (hh : i64 h) (hk : i64 k) (hg : i64 g) : Spc Try.prog 54 #[.int .i64 h, .int .i64 k, .int .i64 g, .int .i64 t] [] [] (Is (.int .i64 (limB h k g t))) := by
  unfold i64 at hh hk hg
  have hdb := drf_bd k t
  obtain ⟨n, hn, hnb⟩ : ∃ n : Nat, min (max t 0) 65535 = (n : Int) ∧ n ≤ 65535 := ⟨(min (max t 0) 65535).toNat, by omega, by omega⟩
  have hp := prd_bd (a := max k 0) (by omega) hnb
  have hDd : drf k t = min (max k 0 * (n : Int)) 9223372036854775807 := by rw [drf, hn]
  generalize hdf : drf k t = D at *
  refine Spc.enter Try.func54 rfl rfl rfl (fun w0 hw0 => ?_)
  refine CW.seq (CW.rg (RL.p rfl (RL.nil (NQ.seq (CW.seq (CW.rg (RL.p rfl (RL.max rfl rfl rfl rfl rfl (RL.min rfl rfl rfl rfl rfl (RL.p rfl (RL.nil (NQ.seq (CW.seq ?_)))))))))))))
  rw [hn]
  refine CW.rg (RL.p rfl (RL.max rfl rfl rfl rfl rfl (RL.p rfl (RL.nil (NQ.seq (CW.ok [0, 2, 9, 10] rfl (CW.seq (CW.seq (CW.rg (RL.p rfl (RL.p rfl (RL.p rfl ?_))))))))))))
  refine RL.part (d := 20) rfl (fun h1 => ?_) (fun h1 => ?_)
  ·
    have h1' : 0 < n := by simp at h1; omega
    have hq : IntKind.i64.wrap ((9223372036854775807 : Int).tdiv n) = (9223372036854775807 : Int) / n := by
      rw [Int.tdiv_eq_ediv_of_nonneg (by decide)]
      have h2 : 0 ≤ (9223372036854775807 : Int) / n := Int.ediv_nonneg (by decide) (by omega)
      have h3 : (9223372036854775807 : Int) / n ≤ 9223372036854775807 := Int.ediv_le_self _ (by decide)
      exact IntWalk.i64_in _ (by omega)
    have hiff : max k 0 > (9223372036854775807 : Int) / n ↔ max k 0 * (n : Int) > 9223372036854775807 := by
      rw [gt_iff_lt, Int.ediv_lt_iff_lt_mul (by omega)]
    refine RL.p rfl (RL.p rfl (RL.quoX rfl rfl rfl rfl rfl (by omega) (congrArg (Value.int .i64) hq) ?_))
    refine RL.p rfl (RL.p rfl (RL.nil (NQ.seq (CW.ok [0, 2, 9, 10, 25] rfl ?_))))
    refine CW.cond rfl (fun h2 => ?_) (fun h2 => ?_)
    ·
      have h2' : max k 0 * (n : Int) > 9223372036854775807 := hiff.1 (by simpa using h2)
      have hD : D = 9223372036854775807 := by omega
      refine CW.rg (RL.p rfl (RL.nil (NQ.seq (CW.seq (CW.region (ef := [5]) (bk := []) (RL.p rfl (RL.max rfl rfl rfl rfl rfl (RL.p rfl (RL.max rfl rfl rfl rfl rfl (RL.p rfl (RL.buildSlice [_, _, _] Try.runUnderlying205 Try.sizeOf24 Try.zeroValue24 rfl rfl (by decide) (by decide) rfl rfl rfl rfl rfl rfl ?_)))))))))))
      intro b1
      refine RL.callv (fixSum _ [max h 0, max g 0, 9223372036854775807] _ (by simp) (by intro z hz; simp only [List.mem_cons, List.not_mem_nil, or_false] at hz; rcases hz with rfl | rfl | rfl <;> omega)) Try.call83 rfl rfl rfl rfl (.all (List.Mem.head _) rfl .nil) ?_
      refine RL.p rfl (RL.p rfl (RL.p rfl (RL.p rfl (RL.p rfl (RL.nil (NQ.seq (CW.ok [11] rfl (CW.seq (CW.rg (RL.p rfl (RL.p rfl (RL.nil (NQ.seq ?_)))))))))))))
      refine CW.ret ?_
      exact RQ.post (res1 rfl rfl) (Split.none _) ⟨by rw [limB, hdf, hD]; rfl, rfl, rfl⟩
    ·
      have h2' : ¬ max k 0 * (n : Int) > 9223372036854775807 := fun h => by
        have := hiff.2 h
        simp at h2
        omega
      have hD : max k 0 * (n : Int) = D := by omega
      have hmw : Value.int .i64 (IntKind.i64.wrap (max k 0 * (n : Int))) = .int .i64 D := by rw [hD, IntWalk.i64_in _ (by omega)]
      refine CW.rg (RL.p rfl (RL.p rfl (RL.bx rfl hmw (RL.p rfl (RL.nil (NQ.seq (CW.seq (CW.region (ef := [5]) (bk := []) (RL.p rfl (RL.max rfl rfl rfl rfl rfl (RL.p rfl (RL.max rfl rfl rfl rfl rfl (RL.p rfl ?_)))))))))))))
      refine RL.buildSlice [_, _, _] Try.runUnderlying205 Try.sizeOf24 Try.zeroValue24 rfl rfl (by decide) (by decide) rfl rfl rfl rfl rfl rfl ?_
      intro b1
      refine RL.callv (fixSum _ [max h 0, max g 0, D] _ (by simp) (by intro z hz; simp only [List.mem_cons, List.not_mem_nil, or_false] at hz; rcases hz with rfl | rfl | rfl <;> omega)) Try.call83 rfl rfl rfl rfl (.all (List.Mem.head _) rfl .nil) ?_
      refine RL.p rfl (RL.p rfl (RL.p rfl (RL.p rfl (RL.p rfl (RL.nil (NQ.seq (CW.ok [11] rfl (CW.seq (CW.rg (RL.p rfl (RL.p rfl (RL.nil (NQ.seq ?_)))))))))))))
      refine CW.ret ?_
      exact RQ.post (res1 rfl rfl) (Split.none _) ⟨by rw [limB, hdf]; rfl, rfl, rfl⟩
  ·
    have h1' : n = 0 := by simp at h1; omega
    subst h1'
    have hD : (0 : Int) = D := by rw [hDd]; simp; omega
    have hmw : Value.int .i64 (IntKind.i64.wrap (max k 0 * ((0 : Nat) : Int))) = .int .i64 D := by rw [← hD]; simp; rfl
    refine RL.p rfl (RL.p rfl (RL.p rfl (RL.p rfl (RL.p rfl (RL.nil (NQ.seq (CW.ok [0, 2, 9, 10, 25] rfl (CW.condF rfl rfl (CW.rg (RL.p rfl (RL.p rfl (RL.bx rfl hmw (RL.p rfl ?_)))))))))))))
    refine RL.nil (NQ.seq (CW.seq (CW.region (ef := [5]) (bk := []) (RL.p rfl (RL.max rfl rfl rfl rfl rfl (RL.p rfl (RL.max rfl rfl rfl rfl rfl (RL.p rfl (RL.buildSlice [_, _, _] Try.runUnderlying205 Try.sizeOf24 Try.zeroValue24 rfl rfl (by decide) (by decide) rfl rfl rfl rfl rfl rfl ?_)))))))))
    intro b1
    refine RL.callv (fixSum _ [max h 0, max g 0, D] _ (by simp) (by intro z hz; simp only [List.mem_cons, List.not_mem_nil, or_false] at hz; rcases hz with rfl | rfl | rfl <;> omega)) Try.call83 rfl rfl rfl rfl (.all (List.Mem.head _) rfl .nil) ?_
    refine RL.p rfl (RL.p rfl (RL.p rfl (RL.p rfl (RL.p rfl (RL.nil (NQ.seq (CW.ok [11] rfl (CW.seq (CW.rg (RL.p rfl (RL.p rfl (RL.nil (NQ.seq ?_)))))))))))))
    refine CW.ret ?_
    exact RQ.post (res1 rfl rfl) (Split.none _) ⟨by rw [limB, hdf]; rfl, rfl, rfl⟩
end Go.Proofs.Ytbdnebedmdoehaa
