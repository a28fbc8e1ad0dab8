import Derived.Test.YtggmnhogmjglmaaC4
namespace Go.Proofs.Ytggmnhogmjglmaa
open Go.PK
theorem half_bd (x : Int) : x ≤ 2 * x.tdiv 2 + 1 ∧ 2 * x.tdiv 2 - 1 ≤ x := by
  by_cases h : 0 ≤ x
  · rw [Int.tdiv_eq_ediv_of_nonneg h]; omega
  · have : x.tdiv 2 = -((-x) / 2) := by
      rw [← Int.tdiv_eq_ediv_of_nonneg (by omega), Int.neg_tdiv, Int.neg_neg]
    omega
theorem over_max (a b most : Int) (h : 0 < most) : (decide (a > most) || decide (b > most)) = decide (max (max a 0) (max b 0) > most) := by
  rw [Bool.eq_iff_iff]; simp; omega
theorem rstep_bad (y : Nat) (s a x : Int) (h : mayP s a = false) : Spc Try.prog 31 #[.pointer (some ⟨y, 0, none⟩), .agg #[.int .i64 s, .int .i64 a], .int .i64 x] [] [] (Is (.tuple #[.bool false, .int .i64 2])) := by
  refine Spc.enter Try.func31 rfl rfl rfl (fun w0 hw0 => ?_)
  refine CW.seq ?_
  refine CW.region (ef := [0]) (bk := []) ?_
  refine RL.box rfl rfl rfl rfl rfl rfl ?_
  intro b1
  refine RL.assign rfl rfl rfl rfl ?_
  refine RL.assign rfl rfl rfl rfl ?_
  refine RL.nil ?_
  refine NQ.seq ?_
  refine CW.seq ?_
  refine CW.seq ?_
  refine CW.region (ef := []) (bk := []) ?_
  refine RL.loadN (vs := [_, _]) Try.isAgg82 Try.sizeOf82 rfl rfl rfl rfl (by first | (apply Rds.cel; (solve | (repeat (first | exact List.Mem.head _ | apply List.Mem.tail))); exact at_spec ⟨rfl, rfl, trivial⟩) | (apply Rds.celI; (solve | (repeat (first | exact List.Mem.head _ | apply List.Mem.tail))); exact at_spec ⟨rfl, rfl, trivial⟩) | assumption | (apply RdsI.rds; assumption)) ?_
  refine RL.callvq (rmay_any _ _) Try.call45 rfl rfl rfl rfl ?_
  refine RL.not rfl rfl rfl rfl ?_
  refine RL.nil ?_
  refine NQ.seq ?_
  refine CW.condT rfl (by rw [h]; rfl) ?_
  refine CW.seq ?_
  refine CW.region (ef := []) (bk := []) ?_
  refine RL.assign rfl rfl rfl rfl ?_
  refine RL.assign rfl rfl rfl rfl ?_
  refine RL.nil ?_
  refine NQ.seq ?_
  refine CW.ret ?_
  refine RQ.seq ?_
  exact RQ.post (res2 rfl rfl rfl) (Split.none _) ⟨rfl, rfl, rfl⟩
theorem rstep_ok (y : Nat) (slack most : Int) (U D : Nat → Int) (s a : Nat) (x : Int) (hs : s < 8) (ha : a < 3) (hsl : isMax slack) (hm : 0 < most) (hx : -9223372036854775808 ≤ x ∧ x ≤ 9223372036854775807) (hU : isMax (U (3 * s + a))) (hD : isMax (D (3 * s + a))) :
    Spc Try.prog 31 #[.pointer (some ⟨y, 0, none⟩), .agg #[.int .i64 (s : Int), .int .i64 (a : Int)], .int .i64 x] [] [rmon y slack most U D]
    (fun v I' H' => v = .tuple #[.bool (decide (max (nextP slack x (U (3 * s + a), D (3 * s + a))).1 (nextP slack x (U (3 * s + a), D (3 * s + a))).2 > most)), .int .i64 0] ∧ I' = [] ∧
      H' = [rmon y slack most (setF U (3 * s + a) (nextP slack x (U (3 * s + a), D (3 * s + a))).1) (setF D (3 * s + a) (nextP slack x (U (3 * s + a), D (3 * s + a))).2)]) := by
  have hh := half_bd x
  obtain ⟨h, hxh⟩ : ∃ h, x.tdiv 2 = h := ⟨_, rfl⟩
  rw [hxh] at hh
  have hq : Value.int .i64 (IntKind.i64.wrap (x.tdiv 2)) = .int .i64 h := by rw [hxh, i64_in' (by omega)]
  unfold isMax at hsl hU hD
  have hu := rm_up (slack := slack) (most := most) (U := U) (D := D) hs ha
  have hd := rm_down (slack := slack) (most := most) (U := U) (D := D) hs ha
  generalize hUk : U (3 * s + a) = u at *
  generalize hDk : D (3 * s + a) = d at *
  have e1 : isum [u, x, IntKind.i64.wrap (0 - slack)] = u + x - slack := by
    simp only [isum, IntKind.wrap_i64]; omega
  have e2 : isum [d, IntKind.i64.wrap (0 - slack), IntKind.i64.wrap (0 - h), IntKind.i64.wrap (0 - (x - h))] = d - x - slack := by
    simp only [isum, IntKind.wrap_i64]; omega
  have k1 : ∀ z ∈ [u, x, IntKind.i64.wrap (0 - slack)], -9223372036854775808 ≤ z ∧ z ≤ 9223372036854775807 := by
    intro z hz
    simp only [List.mem_cons, List.not_mem_nil, or_false] at hz
    rcases hz with rfl | rfl | rfl <;> (try simp only [IntKind.wrap_i64]) <;> omega
  have k2 : ∀ z ∈ [d, IntKind.i64.wrap (0 - slack), IntKind.i64.wrap (0 - h), IntKind.i64.wrap (0 - (x - h))], -9223372036854775808 ≤ z ∧ z ≤ 9223372036854775807 := by
    intro z hz
    simp only [List.mem_cons, List.not_mem_nil, or_false] at hz
    rcases hz with rfl | rfl | rfl | rfl <;> (try simp only [IntKind.wrap_i64]) <;> omega
  refine Spc.enter Try.func31 rfl rfl rfl (fun w0 hw0 => ?_)
  refine CW.seq ?_
  refine CW.region (ef := [0]) (bk := []) ?_
  refine RL.box rfl rfl rfl rfl rfl rfl ?_
  intro b1
  refine RL.assign rfl rfl rfl rfl ?_
  refine RL.assign rfl rfl rfl rfl ?_
  refine RL.nil ?_
  refine NQ.seq ?_
  refine CW.seq ?_
  refine CW.seq ?_
  refine CW.freezeP (A := [_]) (B := [_]) (.take (.leave .nil)) rfl ?_
  refine CW.region (ef := []) (bk := []) ?_
  refine RL.loadN (vs := [_, _]) Try.isAgg82 Try.sizeOf82 rfl rfl rfl rfl (by first | (apply Rds.cel; (solve | (repeat (first | exact List.Mem.head _ | apply List.Mem.tail))); exact at_spec ⟨rfl, rfl, trivial⟩) | (apply Rds.celI; (solve | (repeat (first | exact List.Mem.head _ | apply List.Mem.tail))); exact at_spec ⟨rfl, rfl, trivial⟩) | assumption | (apply RdsI.rds; assumption)) ?_
  refine RL.callvq (rmay_any _ _) Try.call45 rfl rfl rfl rfl ?_
  refine RL.not rfl rfl rfl rfl ?_
  refine RL.nil ?_
  refine NQ.seq ?_
  refine CW.condF rfl (by simp [mayP]; omega) ?_
  refine CW.skip ?_
  refine NQ.seq ?_
  refine CW.only (.cons (k := 0) rfl (.cons (k := 2) rfl (.cons (k := 4) rfl .nil))) ?_
  refine CW.seq ?_
  refine CW.regionD (Sq.of [0, 1, 2, 3, 4, 5, 6, 7, 8, 9, 10, 11, 12, 13, 14, 15, 16, 17, 18, 19, 20, 21, 22, 23, 24]) [23] [] [0, 1, 3, 5, 6, 7, 8, 10, 11, 12, 14, 15, 16, 17, 18, 19, 20, 21, 22, 24] mixed (by kernel_rfl) ?_
  refine RL.move rfl rfl rfl rfl ?_
  refine RL.fieldAddr fa_82_0 rfl rfl rfl rfl ?_
  refine RL.loadq Try.isAgg3 rfl rfl rfl rfl ?_
  refine RL.fieldAddr fa_82_1 rfl rfl rfl rfl ?_
  refine RL.loadq Try.isAgg3 rfl rfl rfl rfl ?_
  refine RL.nilCheck rfl rfl rfl rfl ?_
  refine RL.fieldAddr fa_92_3 rfl rfl rfl rfl ?_
  refine RL.idxAAt (j := s) Try.runUnderlying90 Try.sizeOf89 rfl rfl rfl rfl rfl rfl hs ?_
  refine RL.idxAAt (j := a) Try.runUnderlying89 Try.sizeOf70 rfl rfl rfl rfl rfl rfl ha ?_
  refine RL.load Try.isAgg70 rfl rfl rfl rfl (Rd.get (by repeat (first | exact List.Mem.head _ | apply List.Mem.tail)) hd) ?_
  refine RL.move rfl rfl rfl rfl ?_
  refine RL.nilCheck rfl rfl rfl rfl ?_
  refine RL.fieldAddr fa_92_0 rfl rfl rfl rfl ?_
  refine RL.load Try.isAgg70 rfl rfl rfl rfl (Rd.get (by repeat (first | exact List.Mem.head _ | apply List.Mem.tail)) rm_slack) ?_
  refine RL.neg rfl rfl rfl rfl ?_
  refine RL.move rfl rfl rfl rfl ?_
  refine RL.quoX rfl rfl rfl rfl rfl (by decide) hq ?_
  refine RL.neg rfl rfl rfl rfl ?_
  refine RL.move rfl rfl rfl rfl ?_
  refine RL.move rfl rfl rfl rfl ?_
  refine RL.quoX rfl rfl rfl rfl rfl (by decide) hq ?_
  refine RL.binX rfl rfl rfl rfl rfl rfl (wrapV_i64 (by omega) (by omega)) ?_
  refine RL.neg rfl rfl rfl rfl ?_
  refine RL.buildSlice [_, _, _, _] Try.runUnderlying112 Try.sizeOf70 Try.zeroValue70 rfl rfl (by decide) (by decide) rfl rfl rfl rfl rfl rfl ?_
  intro b2
  refine RL.assign rfl rfl rfl rfl ?_
  refine RL.nil ?_
  refine NQ.seq ?_
  refine CW.only (.cons (k := 0) rfl (.cons (k := 2) rfl (.cons (k := 4) rfl (.cons (k := 8) rfl .nil)))) ?_
  refine CW.seq ?_
  refine CW.regionD (Sq.of [0, 1, 2, 3, 4, 5, 6, 7, 8, 9, 10, 11, 12, 13, 14, 15, 16, 17, 18, 19, 20, 21, 22]) [16] [] [0, 1, 3, 5, 6, 7, 8, 10, 11, 12, 13, 15, 18, 19, 20, 21, 22] mixed (by kernel_rfl) ?_
  refine RL.move rfl rfl rfl rfl ?_
  refine RL.fieldAddr fa_82_0 rfl rfl rfl rfl ?_
  refine RL.loadq Try.isAgg3 rfl rfl rfl rfl ?_
  refine RL.fieldAddr fa_82_1 rfl rfl rfl rfl ?_
  refine RL.loadq Try.isAgg3 rfl rfl rfl rfl ?_
  refine RL.nilCheck rfl rfl rfl rfl ?_
  refine RL.fieldAddr fa_92_2 rfl rfl rfl rfl ?_
  refine RL.idxAAt (j := s) Try.runUnderlying90 Try.sizeOf89 rfl rfl rfl rfl rfl rfl hs ?_
  refine RL.idxAAt (j := a) Try.runUnderlying89 Try.sizeOf70 rfl rfl rfl rfl rfl rfl ha ?_
  refine RL.load Try.isAgg70 rfl rfl rfl rfl (Rd.get (by repeat (first | exact List.Mem.head _ | apply List.Mem.tail)) hu) ?_
  refine RL.move rfl rfl rfl rfl ?_
  refine RL.move rfl rfl rfl rfl ?_
  refine RL.nilCheck rfl rfl rfl rfl ?_
  refine RL.fieldAddr fa_92_0 rfl rfl rfl rfl ?_
  refine RL.load Try.isAgg70 rfl rfl rfl rfl (Rd.get (by repeat (first | exact List.Mem.head _ | apply List.Mem.tail)) rm_slack) ?_
  refine RL.neg rfl rfl rfl rfl ?_
  refine RL.buildSlice [_, _, _] Try.runUnderlying112 Try.sizeOf70 Try.zeroValue70 rfl rfl (by decide) (by decide) rfl rfl rfl rfl rfl rfl ?_
  intro b3
  refine RL.callv (rsum_any _ [u, x, IntKind.i64.wrap (0 - slack)] _ (by simp) k1) Try.call46 rfl rfl rfl rfl (.all (List.Mem.head _) rfl .nil) ?_
  refine RL.move rfl rfl rfl rfl ?_
  refine RL.extract rfl rfl rfl rfl rfl ?_
  refine RL.extract rfl rfl rfl rfl rfl ?_
  refine RL.assign rfl rfl rfl rfl ?_
  refine RL.assign rfl rfl rfl rfl ?_
  refine RL.nil ?_
  refine NQ.seq ?_
  refine CW.only (.cons (k := 0) rfl (.cons (k := 4) rfl (.cons (k := 8) rfl (.cons (k := 9) rfl .nil)))) ?_
  refine CW.seq ?_
  refine CW.region (ef := []) (bk := []) ?_
  refine RL.move rfl rfl rfl rfl ?_
  refine RL.callv (rsum_any _ [d, IntKind.i64.wrap (0 - slack), IntKind.i64.wrap (0 - h), IntKind.i64.wrap (0 - (x - h))] _ (by simp) k2) Try.call46 rfl rfl rfl rfl (.all (List.Mem.tail _ (List.Mem.head _)) rfl .nil) ?_
  refine RL.move rfl rfl rfl rfl ?_
  refine RL.extract rfl rfl rfl rfl rfl ?_
  refine RL.extract rfl rfl rfl rfl rfl ?_
  refine RL.assign rfl rfl rfl rfl ?_
  refine RL.assign rfl rfl rfl rfl ?_
  refine RL.nil ?_
  refine NQ.seq ?_
  refine CW.only (.cons (k := 0) rfl (.cons (k := 4) rfl (.cons (k := 9) rfl (.cons (k := 11) rfl .nil)))) ?_
  refine CW.seq ?_
  rw [e1, e2]
  refine CW.cut [(0, .pointer (some ⟨y, 0, none⟩)), (9, .int .i64 (clip (u + x - slack))), (11, .int .i64 (clip (d - x - slack)))] [] [rmon y slack most (setF U (3 * s + a) (max (clip (u + x - slack)) 0)) (setF D (3 * s + a) (max (clip (d - x - slack)) 0))] ?_ ?_
  ·
    refine CW.regionD (Sq.of [0, 1, 2, 3, 4, 5, 6, 7, 8, 9, 10, 11, 12, 13, 14, 15, 16, 17, 19, 20, 21, 18, 22, 23]) [18, 23] [18, 23] [0, 1, 2, 3, 4, 5, 6, 7, 8, 9, 10, 11, 12, 13, 14, 15, 16, 17, 19, 20, 21, 22] mixed (by kernel_rfl) ?_
    refine RL.move rfl rfl rfl rfl ?_
    refine RL.fieldAddr fa_82_0 rfl rfl rfl rfl ?_
    refine RL.loadTq Try.isAgg3 rfl rfl rfl rfl ?_
    refine RL.fieldAddr fa_82_1 rfl rfl rfl rfl ?_
    refine RL.loadTq Try.isAgg3 rfl rfl rfl rfl ?_
    refine RL.move rfl rfl rfl rfl ?_
    refine RL.fieldAddr fa_82_0 rfl rfl rfl rfl ?_
    refine RL.loadTq Try.isAgg3 rfl rfl rfl rfl ?_
    refine RL.fieldAddr fa_82_1 rfl rfl rfl rfl ?_
    refine RL.loadTq Try.isAgg3 rfl rfl rfl rfl ?_
    refine RL.move rfl rfl rfl rfl ?_
    refine RL.max rfl rfl rfl rfl rfl ?_
    refine RL.move rfl rfl rfl rfl ?_
    refine RL.max rfl rfl rfl rfl rfl ?_
    refine RL.nilCheck rfl rfl rfl rfl ?_
    refine RL.fieldAddr fa_92_2 rfl rfl rfl rfl ?_
    refine RL.idxAAt (j := s) Try.runUnderlying90 Try.sizeOf89 rfl rfl rfl rfl rfl rfl hs ?_
    refine RL.idxAAt (j := a) Try.runUnderlying89 Try.sizeOf70 rfl rfl rfl rfl rfl rfl ha ?_
    refine RL.nilCheck rfl rfl rfl rfl ?_
    refine RL.fieldAddr fa_92_3 rfl rfl rfl rfl ?_
    refine RL.idxAAt (j := s) Try.runUnderlying90 Try.sizeOf89 rfl rfl rfl rfl rfl rfl hs ?_
    refine RL.storeX (up_set hs ha) Try.sizeOf70 rfl rfl rfl rfl rfl rfl rfl rfl (by repeat (first | exact Upd.here | apply Upd.there)) (by rw [rmc_len]; simp; omega) ?_
    refine RL.idxAAt (j := a) Try.runUnderlying89 Try.sizeOf70 rfl rfl rfl rfl rfl rfl ha ?_
    refine RL.storeX (down_set hs ha) Try.sizeOf70 rfl rfl rfl rfl rfl rfl rfl rfl (by repeat (first | exact Upd.here | apply Upd.there)) (by rw [rmc_len]; simp; omega) ?_
    refine RL.nil ?_
    exact NQ.mid (.cons rfl (.cons rfl (.cons rfl .nil))) (fun w h => h.rea (fun _ h => by simp at h) (by repeat (first | exact Rea.nil | (apply Rea.cons; (solve | (repeat (first | exact Del.here | apply Del.there)))))))
  refine CW.seq ?_
  refine CW.region (ef := []) (bk := []) ?_
  refine RL.move rfl rfl rfl rfl ?_
  refine RL.move rfl rfl rfl rfl ?_
  refine RL.nilCheck rfl rfl rfl rfl ?_
  refine RL.fieldAddr fa_92_1 rfl rfl rfl rfl ?_
  refine RL.load Try.isAgg70 rfl rfl rfl rfl (Rd.get (by repeat (first | exact List.Mem.head _ | apply List.Mem.tail)) rm_most) ?_
  refine RL.bin rfl rfl rfl rfl rfl rfl ?_
  refine RL.move rfl rfl rfl rfl ?_
  apply RL.orB (d := 94) (dp := 101) (l' := (Sq.of [14, 15])) rfl .nil
  ·
    intro hb7 K7
    refine RL.move rfl rfl rfl rfl ?_
    refine RL.move rfl rfl rfl rfl ?_
    refine RL.nilCheck rfl rfl rfl rfl ?_
    refine RL.fieldAddr fa_92_1 rfl rfl rfl rfl ?_
    refine RL.load Try.isAgg70 rfl rfl rfl rfl (Rd.get (by repeat (first | exact List.Mem.head _ | apply List.Mem.tail)) rm_most) ?_
    refine RL.bin rfl rfl rfl rfl rfl rfl ?_
    refine RL.pickF rfl rfl rfl rfl rfl ?_
    exact K7 _ (.cons rfl .nil)
  ·
    intro hb7 K7
    refine RL.skip rfl rfl rfl rfl ?_
    refine RL.skip rfl rfl rfl rfl ?_
    refine RL.skip rfl rfl rfl rfl ?_
    refine RL.skip rfl rfl rfl rfl ?_
    refine RL.skip rfl rfl rfl rfl ?_
    refine RL.skip rfl rfl rfl rfl ?_
    refine RL.pickT rfl rfl rfl rfl rfl ?_
    exact K7 _ (.cons rfl .nil)
  refine RL.assign rfl rfl rfl rfl ?_
  refine RL.assign rfl rfl rfl rfl ?_
  refine RL.nil ?_
  refine NQ.seq ?_
  refine CW.ret ?_
  exact RQ.post (res2 rfl rfl rfl) (.keep .nil) ⟨by rw [over_max _ _ _ hm]; rfl, rfl, rfl⟩
/-! ### Drifts of the reference -/
def drK (most : Int) (U D : Nat → Int) (k : Nat) : Bool := decide (U k > most) || decide (D k > most)
def kp (k : Nat) : Int × Int := (((k / 3 : Nat) : Int), ((k % 3 : Nat) : Int))
def rdl (most : Int) (U D : Nat → Int) (k : Nat) : List (Int × Int) := ((List.range k).filter (drK most U D)).map kp
theorem rdl_yes {most : Int} {U D : Nat → Int} {k : Nat} (h : drK most U D k = true) : rdl most U D (k + 1) = rdl most U D k ++ [kp k] := by
  rw [rdl, List.range_succ, List.filter_append, List.map_append, List.filter_cons_of_pos h]; rfl
theorem rdl_no {most : Int} {U D : Nat → Int} {k : Nat} (h : drK most U D k = false) : rdl most U D (k + 1) = rdl most U D k := by
  rw [rdl, List.range_succ, List.filter_append, List.map_append, List.filter_cons_of_neg (by rw [h]; decide)]
  simp [rdl]
theorem rdl_le (most : Int) (U D : Nat → Int) (k : Nat) : (rdl most U D k).length ≤ k := by
  have := List.length_filter_le (drK most U D) (List.range k)
  simpa [rdl] using this
/-- Places of one's own, so many. -/
def PlsN (T : TypeId) (l : List (Int × Int)) : Value → List It → List It → Prop := fun v I' H' => ∃ ob cap n, n = l.length ∧ v = slO ob n cap ∧ I' = [] ∧ H' = [own ob cap T 2 n (l.flatMap plc)]
theorem rdrifts_any (y : Nat) (slack most : Int) (U D : Nat → Int) : Spc Try.prog 34 #[.pointer (some ⟨y, 0, none⟩)] [rmon y slack most U D] [] (PlsN 82 (rdl most U D 24)) := by
  refine Spc.enter Try.func34 rfl rfl rfl (fun w0 hw0 => ?_)
  refine CW.seq ?_
  refine CW.region (ef := []) (bk := []) ?_
  refine RL.assign rfl rfl rfl rfl ?_
  refine RL.nil ?_
  refine NQ.seq ?_
  refine CW.seq ?_
  refine CW.region (ef := [0]) (bk := []) ?_
  refine RL.buildOwn [] Try.runUnderlying95 Try.sizeOf82 Try.zeroValue82 rfl rfl (by decide) (by decide) rfl (by decide) rfl rfl rfl rfl rfl rfl ?_
  intro b1
  refine RL.assign rfl rfl rfl rfl ?_
  refine RL.nil ?_
  refine NQ.seq ?_
  refine CW.seq ?_
  refine CW.seq ?_
  refine CW.region (ef := []) (bk := []) ?_
  refine RL.assign rfl rfl rfl rfl ?_
  refine RL.nil ?_
  refine NQ.seq ?_
  refine CW.block ?_
  refine CW.loop (γ := Nat × Option Nat × Nat × Nat) (fun g => g.1 ≤ 8 ∧ g.2.2.2 = (rdl most U D (3 * g.1)).length) (fun g => [(0, .pointer (some ⟨y, 0, none⟩)), (3, slO g.2.1 g.2.2.2 g.2.2.1), (4, .int .i64 (g.1 : Int))]) (fun _ => [rmon y slack most U D])
    (fun g => [own g.2.1 g.2.2.1 82 2 g.2.2.2 ((rdl most U D (3 * g.1)).flatMap plc)]) (fun g => 8 - g.1) (0, some b1, 0, 0) ⟨by simp, rfl⟩
    (.cons rfl (.cons rfl (.cons rfl .nil))) (fun w h => h) ?_
  rintro ⟨s, ob, cp, n⟩ ⟨hi, hn⟩
  dsimp only at hi hn ⊢
  refine CW.seq ?_
  refine CW.seq ?_
  refine CW.region (ef := []) (bk := []) ?_
  refine RL.move rfl rfl rfl rfl ?_
  refine RL.bin rfl rfl rfl rfl rfl rfl ?_
  refine RL.nil ?_
  refine NQ.seq ?_
  refine CW.cond rfl (fun hlt => ?_) (fun hlt => ?_)
  ·
    have hs : s < 8 := by simp at hlt; omega
    refine CW.skip ?_
    refine NQ.seq ?_
    refine CW.seq ?_
    refine CW.block ?_
    refine CW.seq ?_
    refine CW.region (ef := []) (bk := []) ?_
    refine RL.assign rfl rfl rfl rfl ?_
    refine RL.nil ?_
    refine NQ.seq ?_
    refine CW.block ?_
    refine CW.loop (γ := Nat × Option Nat × Nat × Nat) (fun g => g.1 ≤ 3 ∧ g.2.2.2 = (rdl most U D (3 * s + g.1)).length) (fun g => [(0, .pointer (some ⟨y, 0, none⟩)), (3, slO g.2.1 g.2.2.2 g.2.2.1), (4, .int .i64 (s : Int)), (5, .int .i64 (g.1 : Int))]) (fun _ => [rmon y slack most U D])
      (fun g => [own g.2.1 g.2.2.1 82 2 g.2.2.2 ((rdl most U D (3 * s + g.1)).flatMap plc)]) (fun g => 3 - g.1) (0, ob, cp, n) ⟨by simp, hn⟩
      (.cons rfl (.cons rfl (.cons rfl (.cons rfl .nil)))) (fun w h => h) ?_
    rintro ⟨a, oc, cq, m⟩ ⟨hj, hm⟩
    dsimp only at hj hm ⊢
    have hle := rdl_le most U D (3 * s + a)
    refine CW.seq ?_
    refine CW.seq ?_
    refine CW.region (ef := []) (bk := []) ?_
    refine RL.move rfl rfl rfl rfl ?_
    refine RL.bin rfl rfl rfl rfl rfl rfl ?_
    refine RL.nil ?_
    refine NQ.seq ?_
    refine CW.cond rfl (fun hlt2 => ?_) (fun hlt2 => ?_)
    ·
      have ha : a < 3 := by simp at hlt2; omega
      have hk : kp (3 * s + a) = ((s : Int), (a : Int)) := by
        simp only [kp]; congr 1 <;> omega
      refine CW.skip ?_
      refine NQ.seq ?_
      refine CW.seq ?_
      refine CW.block ?_
      refine CW.seq ?_
      refine CW.regionD (Sq.of [0, 1, 2, 3, 4, 5, 6, 7, 8, 9, 10, 11, 12, 13, 14, 15, 16, 17, 18, 19, 20, 21, 22, 23, 24, 25, 26, 27]) [] [] [0, 1, 2, 3, 4, 5, 6, 8, 9, 10, 12, 13, 14, 15, 16, 17, 18, 19, 20, 22, 23, 24, 26, 27] mixed (by kernel_rfl) ?_
      refine RL.move rfl rfl rfl rfl ?_
      refine RL.move rfl rfl rfl rfl ?_
      refine RL.move rfl rfl rfl rfl ?_
      refine RL.nilCheck rfl rfl rfl rfl ?_
      refine RL.fieldAddr fa_92_2 rfl rfl rfl rfl ?_
      refine RL.idxAAt (j := s) Try.runUnderlying90 Try.sizeOf89 rfl rfl rfl rfl rfl rfl hs ?_
      refine RL.idxAAt (j := a) Try.runUnderlying89 Try.sizeOf70 rfl rfl rfl rfl rfl rfl ha ?_
      refine RL.load Try.isAgg70 rfl rfl rfl rfl (Rd.getI (by repeat (first | exact List.Mem.head _ | apply List.Mem.tail)) (rm_up hs ha)) ?_
      refine RL.move rfl rfl rfl rfl ?_
      refine RL.nilCheck rfl rfl rfl rfl ?_
      refine RL.fieldAddr fa_92_1 rfl rfl rfl rfl ?_
      refine RL.load Try.isAgg70 rfl rfl rfl rfl (Rd.getI (by repeat (first | exact List.Mem.head _ | apply List.Mem.tail)) rm_most) ?_
      refine RL.bin rfl rfl rfl rfl rfl rfl ?_
      refine RL.move rfl rfl rfl rfl ?_
      apply RL.orB (d := 28) (dp := 42) (l' := (Sq.of [])) rfl (.cons (k := 0) rfl (.cons (k := 3) rfl (.cons (k := 4) rfl (.cons (k := 5) rfl .nil))))
      ·
        intro hb14 K14
        refine RL.move rfl rfl rfl rfl ?_
        refine RL.move rfl rfl rfl rfl ?_
        refine RL.move rfl rfl rfl rfl ?_
        refine RL.nilCheck rfl rfl rfl rfl ?_
        refine RL.fieldAddr fa_92_3 rfl rfl rfl rfl ?_
        refine RL.idxAAt (j := s) Try.runUnderlying90 Try.sizeOf89 rfl rfl rfl rfl rfl rfl hs ?_
        refine RL.idxAAt (j := a) Try.runUnderlying89 Try.sizeOf70 rfl rfl rfl rfl rfl rfl ha ?_
        refine RL.load Try.isAgg70 rfl rfl rfl rfl (Rd.getI (by repeat (first | exact List.Mem.head _ | apply List.Mem.tail)) (rm_down hs ha)) ?_
        refine RL.move rfl rfl rfl rfl ?_
        refine RL.nilCheck rfl rfl rfl rfl ?_
        refine RL.fieldAddr fa_92_1 rfl rfl rfl rfl ?_
        refine RL.load Try.isAgg70 rfl rfl rfl rfl (Rd.getI (by repeat (first | exact List.Mem.head _ | apply List.Mem.tail)) rm_most) ?_
        refine RL.bin rfl rfl rfl rfl rfl rfl ?_
        refine RL.pickF rfl rfl rfl rfl rfl ?_
        exact K14 _ (.cons rfl (.cons (k := 0) rfl (.cons (k := 3) rfl (.cons (k := 4) rfl (.cons (k := 5) rfl .nil)))))
      ·
        intro hb14 K14
        refine RL.skip rfl rfl rfl rfl ?_
        refine RL.skip rfl rfl rfl rfl ?_
        refine RL.skip rfl rfl rfl rfl ?_
        refine RL.skip rfl rfl rfl rfl ?_
        refine RL.skip rfl rfl rfl rfl ?_
        refine RL.skip rfl rfl rfl rfl ?_
        refine RL.skip rfl rfl rfl rfl ?_
        refine RL.skip rfl rfl rfl rfl ?_
        refine RL.skip rfl rfl rfl rfl ?_
        refine RL.skip rfl rfl rfl rfl ?_
        refine RL.skip rfl rfl rfl rfl ?_
        refine RL.skip rfl rfl rfl rfl ?_
        refine RL.skip rfl rfl rfl rfl ?_
        refine RL.pickT rfl rfl rfl rfl rfl ?_
        exact K14 _ (.cons rfl (.cons (k := 0) rfl (.cons (k := 3) rfl (.cons (k := 4) rfl (.cons (k := 5) rfl .nil)))))
      refine RL.nil ?_
      refine NQ.seq ?_
      refine CW.cond rfl (fun hd => ?_) (fun hd => ?_)
      ·
        refine CW.region (ef := [4, 5]) (bk := [5]) ?_
        refine RL.move rfl rfl rfl rfl ?_
        refine RL.move rfl rfl rfl rfl ?_
        refine RL.move rfl rfl rfl rfl ?_
        refine RL.buildS [_, _] Try.zeroValue82 pl_82 rfl rfl rfl rfl rfl ?_
        refine RL.buildOwn [_, _] Try.runUnderlying95 Try.sizeOf82 Try.zeroValue82 rfl rfl (by decide) (by decide) rfl (by decide) rfl rfl rfl rfl rfl rfl ?_
        intro b2
        refine RL.appendq el_95 rfl rfl rfl rfl rfl rfl rfl ?_ (hs := (by first | (exact Src.cel (by (solve | (repeat (first | exact List.Mem.head _ | apply List.Mem.tail)))) (by first | rfl | assumption | (simp only [List.length_map]; assumption) | (simp only [List.length_map, List.length_replicate]; done) | (simp; done))) | (exact Src.ownS (by (solve | (repeat (first | exact List.Mem.head _ | apply List.Mem.tail))))) | (exact Src.own (by (solve | (repeat (first | exact List.Mem.head _ | apply List.Mem.tail))))) | (exact Src.sls (by (solve | (repeat (first | exact List.Mem.head _ | apply List.Mem.tail))))) | (exact Src.celI (by (solve | (repeat (first | exact List.Mem.head _ | apply List.Mem.tail)))) (by first | rfl | assumption | (simp only [List.length_map]; assumption) | (simp only [List.length_map, List.length_replicate]; done) | (simp; done)))))
        intro ob1 cap1 ho1
        refine RL.assign rfl rfl rfl rfl ?_
        refine RL.nil ?_
        refine NQ.block ?_
        refine NQ.seq ?_
        refine CW.only (.cons (k := 0) rfl (.cons (k := 3) rfl (.cons (k := 4) rfl (.cons (k := 5) rfl .nil)))) ?_
        refine CW.region (ef := []) (bk := []) ?_
        refine RL.move rfl rfl rfl rfl ?_
        refine RL.binX rfl rfl rfl rfl rfl rfl (wrapV_i64 (by omega) (by omega)) ?_
        refine RL.assign rfl rfl rfl rfl ?_
        refine RL.nil ?_
        have hy := rdl_yes (k := 3 * s + a) hd
        refine NQ.round (g := (a, oc, cq, m)) (a + 1, ob1, cap1, m + 1) ⟨ha, by show m + 1 = (rdl most U D (3 * s + a + 1)).length; rw [hy, List.length_append, hm]; rfl⟩ (by show 3 - (a + 1) < 3 - a; omega) (.cons rfl (.cons rfl (.cons rfl (.cons rfl .nil)))) (fun w h => ?_)
        show Cls w0 _ _ [own ob1 cap1 _ 2 (m + 1) ((rdl most U D (3 * s + a + 1)).flatMap plc)] w
        rw [hy, plc_snoc, hk]
        exact h.rea (fun _ h => h) (by repeat (first | exact Rea.nil | (apply Rea.cons; (solve | (repeat (first | exact Del.here | apply Del.there))))))
      ·
        refine CW.skip ?_
        refine NQ.block ?_
        refine NQ.seq ?_
        refine CW.region (ef := []) (bk := []) ?_
        refine RL.move rfl rfl rfl rfl ?_
        refine RL.binX rfl rfl rfl rfl rfl rfl (wrapV_i64 (by omega) (by omega)) ?_
        refine RL.assign rfl rfl rfl rfl ?_
        refine RL.nil ?_
        have hy := rdl_no (k := 3 * s + a) hd
        refine NQ.round (g := (a, oc, cq, m)) (a + 1, oc, cq, m) ⟨ha, by show m = (rdl most U D (3 * s + a + 1)).length; rw [hy]; exact hm⟩ (by show 3 - (a + 1) < 3 - a; omega) (.cons rfl (.cons rfl (.cons rfl (.cons rfl .nil)))) (fun w h => ?_)
        show Cls w0 _ _ [own oc cq _ 2 m ((rdl most U D (3 * s + a + 1)).flatMap plc)] w
        rw [hy]
        exact h
    ·
      have ha : a = 3 := by simp at hlt2; omega
      subst ha
      refine CW.exit ?_
      refine XQ.seq ?_
      refine XQ.seq ?_
      refine XQ.hit ?_
      refine NQ.block ?_
      refine NQ.seq ?_
      refine CW.region (ef := []) (bk := []) ?_
      refine RL.move rfl rfl rfl rfl ?_
      refine RL.binX rfl rfl rfl rfl rfl rfl (wrapV_i64 (by omega) (by omega)) ?_
      refine RL.assign rfl rfl rfl rfl ?_
      refine RL.nil ?_
      refine NQ.round (g := (s, ob, cp, n)) (s + 1, oc, cq, m) ⟨hs, hm⟩ (by show 8 - (s + 1) < 8 - s; omega) (.cons rfl (.cons rfl (.cons rfl .nil))) (fun w h => h)
  ·
    have hs : s = 8 := by simp at hlt; omega
    subst hs
    refine CW.exit ?_
    refine XQ.seq ?_
    refine XQ.seq ?_
    refine XQ.hit ?_
    refine NQ.seq ?_
    refine CW.seq ?_
    refine CW.region (ef := []) (bk := []) ?_
    refine RL.move rfl rfl rfl rfl ?_
    refine RL.assign rfl rfl rfl rfl ?_
    refine RL.nil ?_
    refine NQ.seq ?_
    refine CW.only (.cons (k := 2) rfl .nil) ?_
    refine CW.ret ?_
    exact RQ.post (res1 rfl rfl) (.keep .nil) ⟨ob, cp, n, hn, rfl, rfl, rfl⟩
end Go.Proofs.Ytggmnhogmjglmaa
