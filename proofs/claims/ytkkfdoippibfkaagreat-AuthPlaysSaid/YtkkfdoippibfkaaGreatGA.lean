import Derived.Test.YtkkfdoippibfkaaGreatAA
import Derived.Test.YtkkfdoippibfkaaGreatAB
import Derived.Test.YtkkfdoippibfkaaGreatKE
namespace Go.Proofs.YtkkfdoippibfkaaGreat
open Go.PK

/-! ### The reference's failures and marks -/
abbrev rkI (kb : Nat) (mo ti : Int) (l : List Lk) : It := cel kb (kCells mo ti l) 113
def RKR (kb : Nat) (mo ti : Int) (l : List Lk) (x : Int) : Value → List It → List It → Prop := fun v I' H' => v = .int .i64 x ∧ I' = [] ∧ H' = [rkI kb mo ti l]
theorem kmay_at {l : List Lk} {n : Nat} {t : Int} {x : Lk} (hm : mayB (n : Int) = true) (ht : tickB t = true) (hx : l[n]? = some x) : kmay l (n : Int) t = if t < x.u then 180 else 0 := by
  rw [kmay, if_pos ⟨hm, ht⟩, Int.toNat_natCast, hx]
theorem rlmay_any (kb : Nat) (mo ti : Int) (l : List Lk) (s t : Int) (hl : l.length = 8) : Spc Tryz.prog 81 #[.pointer (some ⟨kb, 0, none⟩), .int .i64 s, .int .i64 t] [rkI kb mo ti l] [] (Is (.int .i64 (kmay l s t))) := by
  refine Spc.enter Tryz.func81 rfl rfl rfl (fun w0 hw0 => ?_)
  refine CW.seq ?_
  refine CW.region (ef := []) (bk := []) ?_
  refine RL.assign rfl rfl rfl rfl ?_
  refine RL.nil ?_
  refine NQ.seq ?_
  refine CW.seq ?_
  refine CW.seq ?_
  refine CW.region (ef := []) (bk := []) ?_
  refine RL.move rfl rfl rfl rfl ?_
  refine RL.bin rfl rfl rfl rfl rfl rfl ?_
  refine RL.move rfl rfl rfl rfl ?_
  apply RL.orB (d := 9) (dp := 12) (l' := (Sq.of [6, 7, 8, 9, 10, 11, 12, 13])) rfl (.cons (k := 0) rfl (.cons (k := 1) rfl (.cons (k := 2) rfl (.cons (k := 6) rfl .nil))))
  ·
    intro hb3 K3
    refine RL.move rfl rfl rfl rfl ?_
    refine RL.bin rfl rfl rfl rfl rfl rfl ?_
    refine RL.pickF rfl rfl rfl rfl rfl ?_
    exact K3 _ (.cons rfl (.cons (k := 0) rfl (.cons (k := 1) rfl (.cons (k := 2) rfl (.cons (k := 6) rfl .nil)))))
  ·
    intro hb3 K3
    refine RL.skip rfl rfl rfl rfl ?_
    refine RL.skip rfl rfl rfl rfl ?_
    refine RL.pickT rfl rfl rfl rfl rfl ?_
    exact K3 _ (.cons rfl (.cons (k := 0) rfl (.cons (k := 1) rfl (.cons (k := 2) rfl (.cons (k := 6) rfl .nil)))))
  refine RL.move rfl rfl rfl rfl ?_
  apply RL.orB (d := 13) (dp := 16) (l' := (Sq.of [10, 11, 12, 13])) rfl (.cons (k := 0) rfl (.cons (k := 1) rfl (.cons (k := 2) rfl (.cons (k := 6) rfl .nil))))
  ·
    intro hb7 K7
    refine RL.move rfl rfl rfl rfl ?_
    refine RL.bin rfl rfl rfl rfl rfl rfl ?_
    refine RL.pickF rfl rfl rfl rfl rfl ?_
    exact K7 _ (.cons rfl (.cons (k := 0) rfl (.cons (k := 1) rfl (.cons (k := 2) rfl (.cons (k := 6) rfl .nil)))))
  ·
    intro hb7 K7
    refine RL.skip rfl rfl rfl rfl ?_
    refine RL.skip rfl rfl rfl rfl ?_
    refine RL.pickT rfl rfl rfl rfl rfl ?_
    exact K7 _ (.cons rfl (.cons (k := 0) rfl (.cons (k := 1) rfl (.cons (k := 2) rfl (.cons (k := 6) rfl .nil)))))
  refine RL.move rfl rfl rfl rfl ?_
  apply RL.orB (d := 17) (dp := 20) (l' := (Sq.of [])) rfl (.cons (k := 0) rfl (.cons (k := 1) rfl (.cons (k := 2) rfl (.cons (k := 6) rfl .nil))))
  ·
    intro hb11 K11
    refine RL.move rfl rfl rfl rfl ?_
    refine RL.bin rfl rfl rfl rfl rfl rfl ?_
    refine RL.pickF rfl rfl rfl rfl rfl ?_
    exact K11 _ (.cons rfl (.cons (k := 0) rfl (.cons (k := 1) rfl (.cons (k := 2) rfl (.cons (k := 6) rfl .nil)))))
  ·
    intro hb11 K11
    refine RL.skip rfl rfl rfl rfl ?_
    refine RL.skip rfl rfl rfl rfl ?_
    refine RL.pickT rfl rfl rfl rfl rfl ?_
    exact K11 _ (.cons rfl (.cons (k := 0) rfl (.cons (k := 1) rfl (.cons (k := 2) rfl (.cons (k := 6) rfl .nil)))))
  refine RL.nil ?_
  refine NQ.seq ?_
  refine CW.cond rfl (fun h => ?_) (fun h => ?_)
  ·
    refine CW.seq ?_
    refine CW.region (ef := []) (bk := []) ?_
    refine RL.assign rfl rfl rfl rfl ?_
    refine RL.nil ?_
    refine NQ.seq ?_
    refine CW.ret ?_
    refine RQ.seq ?_
    have hk : kmay l s t = 2 := by rw [kmay, if_neg]; simp [mayB, tickB]; simp at h; intros; omega
    exact RQ.post (res1 rfl rfl) (Split.none _) ⟨by rw [hk], rfl, rfl⟩
  ·
    refine CW.skip ?_
    refine NQ.seq ?_
    refine CW.seq ?_
    refine CW.seq ?_
    refine CW.region (ef := []) (bk := []) ?_
    refine RL.move rfl rfl rfl rfl ?_
    refine RL.move rfl rfl rfl rfl ?_
    refine RL.move rfl rfl rfl rfl ?_
    refine RL.nilCheck rfl rfl rfl rfl ?_
    refine RL.fieldAddr fa_113_2 rfl rfl rfl rfl ?_
    have hm : mayB s = true := by simp [mayB]; simp at h; omega
    have ht : tickB t = true := by simp [tickB]; simp at h; omega
    obtain ⟨n, rfl⟩ : ∃ n : Nat, s = (n : Int) := ⟨s.toNat, by simp [mayB] at hm; omega⟩
    have h8 : n < 8 := by simp [mayB] at hm; omega
    have hx := List.getElem?_eq_getElem (show n < l.length by omega)
    generalize l[n] = x at hx
    have hk := kmay_at hm ht hx
    have g1 : (kCells mo ti l)[0 + 2 + n * 3 + 2]? = some (.int .i64 x.u) := k_get hx rfl (by omega)
    refine RL.idxAAt (j := n) Tryz.runUnderlying111 Tryz.sizeOf110 rfl rfl rfl rfl rfl rfl h8 ?_
    refine RL.fieldAddr fa_110_2 rfl rfl rfl rfl ?_
    refine RL.loadq Tryz.isAgg3 rfl rfl rfl rfl ?_
    refine RL.bin rfl rfl rfl rfl rfl rfl ?_
    refine RL.nil ?_
    refine NQ.seq ?_
    refine CW.only (.cons (k := 6) rfl (.cons (k := 29) rfl .nil)) ?_
    refine CW.cond rfl (fun hu => ?_) (fun hu => ?_)
    ·
      refine CW.seq ?_
      refine CW.region (ef := []) (bk := []) ?_
      refine RL.assign rfl rfl rfl rfl ?_
      refine RL.nil ?_
      refine NQ.seq ?_
      refine CW.ret ?_
      refine RQ.seq ?_
      exact RQ.post (res1 rfl rfl) (Split.none _) ⟨by rw [hk, if_pos (by simpa using hu)], rfl, rfl⟩
    ·
      refine CW.skip ?_
      refine NQ.seq ?_
      refine CW.seq ?_
      refine CW.region (ef := []) (bk := []) ?_
      refine RL.assign rfl rfl rfl rfl ?_
      refine RL.nil ?_
      refine NQ.seq ?_
      refine CW.ret ?_
      exact RQ.post (res1 rfl rfl) (Split.none _) ⟨by rw [hk, if_neg (by simpa using hu)], rfl, rfl⟩
theorem lk_rds {kb : Nat} {mo ti : Int} {l : List Lk} {n : Nat} {x : Lk} {I H : List It} {T : TypeId} (hx : l[n]? = some x) (hm : cel kb (kCells mo ti l) T ∈ H) : Rds I H ⟨kb, 0 + 2 + n * 3, none⟩ [.int .i64 x.f, .int .i64 x.t, .int .i64 x.u] :=
  Rds.cel hm (fun j u hj => by
    have hlt : j < 3 := (List.getElem?_eq_some_iff.1 hj).1
    exact k_get hx hj hlt)
theorem k_setAll {mo ti : Int} {l : List Lk} {n : Nat} {x : Lk} (hx : l[n]? = some x) (f t u : Int) : spl (kCells mo ti l) (0 + 2 + n * 3) [.int .i64 f, .int .i64 t, .int .i64 u] = kCells mo ti (l.set n ⟨f, t, u⟩) := by
  obtain ⟨A, B, rfl, rfl⟩ := k_split hx
  have e : kCells mo ti (A ++ x :: B) = (.int .i64 mo :: .int .i64 ti :: A.flatMap Lk.cells) ++ (x.cells ++ B.flatMap Lk.cells) := by simp [kCells]
  have e' : kCells mo ti ((A ++ x :: B).set A.length ⟨f, t, u⟩) = (.int .i64 mo :: .int .i64 ti :: A.flatMap Lk.cells) ++ (Lk.cells ⟨f, t, u⟩ ++ B.flatMap Lk.cells) := by simp [kCells]
  have hA : (.int .i64 mo :: .int .i64 ti :: A.flatMap Lk.cells : List Value).length = 0 + 2 + A.length * 3 := by simp [length_flat (f := Lk.cells) (n := 3) (fun _ _ => rfl)]; omega
  rw [e, e']
  exact seg_spl (B := x.cells) (B' := Lk.cells ⟨f, t, u⟩) hA rfl
theorem rlfail_any (kb : Nat) (mo ti : Int) (l : List Lk) (s t : Int) (hl : l.length = 8) : Spc Tryz.prog 83 #[.pointer (some ⟨kb, 0, none⟩), .int .i64 s, .int .i64 t] [] [rkI kb mo ti l] (RKR kb mo ti (failL mo ti l s t) (kmay l s t)) := by
  refine Spc.enter Tryz.func83 rfl rfl rfl (fun w0 hw0 => ?_)
  refine CW.seq ?_
  refine CW.region (ef := []) (bk := []) ?_
  refine RL.assign rfl rfl rfl rfl ?_
  refine RL.nil ?_
  refine NQ.seq ?_
  refine CW.seq ?_
  refine CW.seq ?_
  refine CW.region (ef := []) (bk := []) ?_
  refine RL.move rfl rfl rfl rfl ?_
  refine RL.move rfl rfl rfl rfl ?_
  refine RL.move rfl rfl rfl rfl ?_
  refine RL.callvq (rlmay_any kb mo ti l s t hl) Tryz.call81 rfl rfl rfl rfl ?_
  refine RL.assign rfl rfl rfl rfl ?_
  refine RL.nil ?_
  refine NQ.seq ?_
  refine CW.seq ?_
  refine CW.region (ef := []) (bk := []) ?_
  refine RL.move rfl rfl rfl rfl ?_
  refine RL.bin rfl rfl rfl rfl rfl rfl ?_
  refine RL.nil ?_
  refine NQ.seq ?_
  refine CW.cond rfl (fun hk => ?_) (fun hk => ?_)
  ·
    refine CW.seq ?_
    refine CW.region (ef := []) (bk := []) ?_
    refine RL.move rfl rfl rfl rfl ?_
    refine RL.assign rfl rfl rfl rfl ?_
    refine RL.nil ?_
    refine NQ.seq ?_
    refine CW.only (.cons (k := 0) rfl (.cons (k := 1) rfl (.cons (k := 2) rfl (.cons (k := 6) rfl .nil)))) ?_
    refine CW.ret ?_
    refine RQ.seq ?_
    have hk : ¬ kmay l s t = 0 := by simpa using hk
    exact RQ.post (res1 rfl rfl) (.keep .nil) ⟨rfl, rfl, by rw [failL, if_neg hk]⟩
  ·
    have hk : kmay l s t = 0 := by simpa using hk
    obtain ⟨hm, ht⟩ := kmay_zero hk
    obtain ⟨n, rfl⟩ : ∃ n : Nat, s = (n : Int) := ⟨s.toNat, by simp [mayB] at hm; omega⟩
    have h8 : n < 8 := by simp [mayB] at hm; omega
    have hx := List.getElem?_eq_getElem (show n < l.length by omega)
    generalize l[n] = x at hx
    have hlt : n < l.length := by omega
    refine CW.skip ?_
    refine NQ.seq ?_
    refine CW.only (.cons (k := 0) rfl (.cons (k := 1) rfl (.cons (k := 2) rfl .nil))) ?_
    refine CW.seq ?_
    refine CW.region (ef := [6, 7]) (bk := [7]) ?_
    refine RL.move rfl rfl rfl rfl ?_
    refine RL.move rfl rfl rfl rfl ?_
    refine RL.nilCheck rfl rfl rfl rfl ?_
    refine RL.fieldAddr fa_113_2 rfl rfl rfl rfl ?_
    refine RL.idxAAt (j := n) Tryz.runUnderlying111 Tryz.sizeOf110 rfl rfl rfl rfl rfl rfl h8 ?_
    refine RL.loadN (vs := [_, _, _]) Tryz.isAgg110 Tryz.sizeOf110 rfl rfl rfl rfl (lk_rds hx (by repeat (first | exact List.Mem.head _ | apply List.Mem.tail))) ?_
    refine RL.alloc Tryz.zeroValue110 rfl rfl rfl rfl rfl ?_
    intro b1
    refine RL.store (vs := [_, _, _]) Tryz.sizeOf110 rfl rfl rfl rfl rfl rfl rfl rfl rfl (by repeat (first | exact Upd.here | apply Upd.there)) ?_
    refine RL.nil ?_
    refine NQ.seq ?_
    refine CW.only (.cons (k := 0) rfl (.cons (k := 1) rfl (.cons (k := 2) rfl (.cons (k := 8) rfl .nil)))) ?_
    refine CW.seq ?_
    refine CW.region (ef := [7, 9]) (bk := [7, 9]) ?_
    refine RL.fieldAddr fa_110_0 rfl rfl rfl rfl ?_
    refine RL.loadq Tryz.isAgg3 rfl rfl rfl rfl ?_
    refine RL.bin rfl rfl rfl rfl rfl rfl ?_
    refine RL.fieldAddr fa_110_1 rfl rfl rfl rfl ?_
    refine RL.loadq Tryz.isAgg3 rfl rfl rfl rfl ?_
    refine RL.bin rfl rfl rfl rfl rfl rfl ?_
    refine RL.fieldAddr fa_110_0 rfl rfl rfl rfl ?_
    refine RL.store (vs := [_]) Tryz.sizeOf3 rfl rfl rfl rfl rfl rfl rfl rfl rfl (by repeat (first | exact Upd.here | apply Upd.there)) ?_
    refine RL.fieldAddr fa_110_1 rfl rfl rfl rfl ?_
    refine RL.store (vs := [_]) Tryz.sizeOf3 rfl rfl rfl rfl rfl rfl rfl rfl rfl (by repeat (first | exact Upd.here | apply Upd.there)) ?_
    refine RL.nil ?_
    refine NQ.seq ?_
    refine CW.only (.cons (k := 0) rfl (.cons (k := 1) rfl (.cons (k := 2) rfl (.cons (k := 8) rfl .nil)))) ?_
    refine CW.seq ?_
    refine CW.seq ?_
    refine CW.regionD (Sq.of [0, 1, 2, 3, 4, 5, 6]) [] [] [0, 2, 3, 4, 6] mixed (by kernel_rfl) ?_
    refine RL.fieldAddr fa_110_0 rfl rfl rfl rfl ?_
    refine RL.loadq Tryz.isAgg3 rfl rfl rfl rfl ?_
    refine RL.move rfl rfl rfl rfl ?_
    refine RL.nilCheck rfl rfl rfl rfl ?_
    refine RL.fieldAddr fa_113_0 rfl rfl rfl rfl ?_
    refine RL.loadq Tryz.isAgg3 rfl rfl rfl rfl ?_
    refine RL.bin rfl rfl rfl rfl rfl rfl ?_
    refine RL.nil ?_
    refine NQ.seq ?_
    refine CW.only (.cons (k := 0) rfl (.cons (k := 1) rfl (.cons (k := 2) rfl (.cons (k := 8) rfl (.cons (k := 36) rfl .nil))))) ?_
    refine CW.cond rfl (fun he => ?_) (fun he => ?_)
    ·
      have he : IntKind.i64.wrap (x.f + 1) = mo := by simpa using he
      have hy : lkFail mo ti t x = ⟨0, IntKind.i64.wrap (x.t + 1), IntKind.i64.wrap (t + ti)⟩ := by rw [lkFail, if_pos he]
      rw [hk]
      have hF : failL mo ti l (n : Int) t = l.set n (lkFail mo ti t x) := by rw [failL, if_pos hk, Int.toNat_natCast, hx]
      rw [hF, hy]
      refine CW.regionD (.cons 0 (.cons 1 (.cons 2 (.cons 3 (.cons 6 (.fork [4, 7] (fun k => (bif Nat.beq k 4 then (Sq.of [5, 7, 8, 9]) else (Sq.of [4, 5, 8, 9]))))))))) [7, 9] [7, 9] [0, 1, 2, 3, 5, 6, 8] mixed (by kernel_rfl) ?_
      refine RL.move rfl rfl rfl rfl ?_
      refine RL.move rfl rfl rfl rfl ?_
      refine RL.nilCheck rfl rfl rfl rfl ?_
      refine RL.fieldAddr fa_113_1 rfl rfl rfl rfl ?_
      refine RL.fieldAddr fa_110_0 rfl rfl rfl rfl ?_
      refine RL.fork ⟨?_, ?_, trivial⟩
      ·
        refine RL.loadq Tryz.isAgg3 rfl rfl rfl rfl ?_
        refine RL.bin rfl rfl rfl rfl rfl rfl ?_
        refine RL.store (vs := [_]) Tryz.sizeOf3 rfl rfl rfl rfl rfl rfl rfl rfl rfl (by repeat (first | exact Upd.here | apply Upd.there)) ?_
        refine RL.fieldAddr fa_110_2 rfl rfl rfl rfl ?_
        refine RL.store (vs := [_]) Tryz.sizeOf3 rfl rfl rfl rfl rfl rfl rfl rfl rfl (by repeat (first | exact Upd.here | apply Upd.there)) ?_
        refine RL.nil ?_
        refine NQ.seq ?_
        refine CW.only (.cons (k := 0) rfl (.cons (k := 1) rfl (.cons (k := 8) rfl .nil))) ?_
        refine CW.seq ?_
        refine CW.regionD (Sq.of [0, 1, 2, 3, 4, 5, 6]) [6] [6] [0, 1, 3, 4, 5] mixed (by kernel_rfl) ?_
        refine RL.move rfl rfl rfl rfl ?_
        refine RL.move rfl rfl rfl rfl ?_
        refine RL.loadN (vs := [_, _, _]) Tryz.isAgg110 Tryz.sizeOf110 rfl rfl rfl rfl (by first | (apply Rds.cel; (solve | (repeat (first | exact List.Mem.head _ | apply List.Mem.tail))); exact at_spec ⟨rfl, rfl, rfl, trivial⟩) | (apply Rds.celI; (solve | (repeat (first | exact List.Mem.head _ | apply List.Mem.tail))); exact at_spec ⟨rfl, rfl, rfl, trivial⟩) | assumption | (apply RdsI.rds; assumption)) ?_
        refine RL.nilCheck rfl rfl rfl rfl ?_
        refine RL.fieldAddr fa_113_2 rfl rfl rfl rfl ?_
        refine RL.idxAAt (j := n) Tryz.runUnderlying111 Tryz.sizeOf110 rfl rfl rfl rfl rfl rfl h8 ?_
        refine RL.storeX (vs := [_, _, _]) (k_setAll hx _ _ _) Tryz.sizeOf110 rfl rfl rfl rfl rfl rfl rfl rfl (by repeat (first | exact Upd.here | apply Upd.there)) (by rw [k_len]; simp; omega) ?_
        refine RL.nil ?_
        refine NQ.seq ?_
        refine CW.only .nil ?_
        refine CW.seq ?_
        refine CW.region (ef := []) (bk := []) ?_
        refine RL.assign rfl rfl rfl rfl ?_
        refine RL.nil ?_
        refine NQ.seq ?_
        refine CW.ret ?_
        exact RQ.post (res1 rfl rfl) (.drop (.keep .nil)) ⟨rfl, rfl, rfl⟩
      ·
        refine RL.store (vs := [_]) Tryz.sizeOf3 rfl rfl rfl rfl rfl rfl rfl rfl rfl (by repeat (first | exact Upd.here | apply Upd.there)) ?_
        refine RL.loadq Tryz.isAgg3 rfl rfl rfl rfl ?_
        refine RL.bin rfl rfl rfl rfl rfl rfl ?_
        refine RL.fieldAddr fa_110_2 rfl rfl rfl rfl ?_
        refine RL.store (vs := [_]) Tryz.sizeOf3 rfl rfl rfl rfl rfl rfl rfl rfl rfl (by repeat (first | exact Upd.here | apply Upd.there)) ?_
        refine RL.nil ?_
        refine NQ.seq ?_
        refine CW.only (.cons (k := 0) rfl (.cons (k := 1) rfl (.cons (k := 8) rfl .nil))) ?_
        refine CW.seq ?_
        refine CW.regionD (Sq.of [0, 1, 2, 3, 4, 5, 6]) [6] [6] [0, 1, 3, 4, 5] mixed (by kernel_rfl) ?_
        refine RL.move rfl rfl rfl rfl ?_
        refine RL.move rfl rfl rfl rfl ?_
        refine RL.loadN (vs := [_, _, _]) Tryz.isAgg110 Tryz.sizeOf110 rfl rfl rfl rfl (by first | (apply Rds.cel; (solve | (repeat (first | exact List.Mem.head _ | apply List.Mem.tail))); exact at_spec ⟨rfl, rfl, rfl, trivial⟩) | (apply Rds.celI; (solve | (repeat (first | exact List.Mem.head _ | apply List.Mem.tail))); exact at_spec ⟨rfl, rfl, rfl, trivial⟩) | assumption | (apply RdsI.rds; assumption)) ?_
        refine RL.nilCheck rfl rfl rfl rfl ?_
        refine RL.fieldAddr fa_113_2 rfl rfl rfl rfl ?_
        refine RL.idxAAt (j := n) Tryz.runUnderlying111 Tryz.sizeOf110 rfl rfl rfl rfl rfl rfl h8 ?_
        refine RL.storeX (vs := [_, _, _]) (k_setAll hx _ _ _) Tryz.sizeOf110 rfl rfl rfl rfl rfl rfl rfl rfl (by repeat (first | exact Upd.here | apply Upd.there)) (by rw [k_len]; simp; omega) ?_
        refine RL.nil ?_
        refine NQ.seq ?_
        refine CW.only .nil ?_
        refine CW.seq ?_
        refine CW.region (ef := []) (bk := []) ?_
        refine RL.assign rfl rfl rfl rfl ?_
        refine RL.nil ?_
        refine NQ.seq ?_
        refine CW.ret ?_
        exact RQ.post (res1 rfl rfl) (.drop (.keep .nil)) ⟨rfl, rfl, rfl⟩
    ·
      have he : ¬ IntKind.i64.wrap (x.f + 1) = mo := by simpa using he
      have hy : lkFail mo ti t x = ⟨IntKind.i64.wrap (x.f + 1), IntKind.i64.wrap (x.t + 1), x.u⟩ := by rw [lkFail, if_neg he]
      rw [hk]
      have hF : failL mo ti l (n : Int) t = l.set n (lkFail mo ti t x) := by rw [failL, if_pos hk, Int.toNat_natCast, hx]
      rw [hF, hy]
      refine CW.skip ?_
      refine NQ.seq ?_
      refine CW.seq ?_
      refine CW.regionD (Sq.of [0, 1, 2, 3, 4, 5, 6]) [6] [6] [0, 1, 3, 4, 5] mixed (by kernel_rfl) ?_
      refine RL.move rfl rfl rfl rfl ?_
      refine RL.move rfl rfl rfl rfl ?_
      refine RL.loadN (vs := [_, _, _]) Tryz.isAgg110 Tryz.sizeOf110 rfl rfl rfl rfl (by first | (apply Rds.cel; (solve | (repeat (first | exact List.Mem.head _ | apply List.Mem.tail))); exact at_spec ⟨rfl, rfl, rfl, trivial⟩) | (apply Rds.celI; (solve | (repeat (first | exact List.Mem.head _ | apply List.Mem.tail))); exact at_spec ⟨rfl, rfl, rfl, trivial⟩) | assumption | (apply RdsI.rds; assumption)) ?_
      refine RL.nilCheck rfl rfl rfl rfl ?_
      refine RL.fieldAddr fa_113_2 rfl rfl rfl rfl ?_
      refine RL.idxAAt (j := n) Tryz.runUnderlying111 Tryz.sizeOf110 rfl rfl rfl rfl rfl rfl h8 ?_
      refine RL.storeX (vs := [_, _, _]) (k_setAll hx _ _ _) Tryz.sizeOf110 rfl rfl rfl rfl rfl rfl rfl rfl (by repeat (first | exact Upd.here | apply Upd.there)) (by rw [k_len]; simp; omega) ?_
      refine RL.nil ?_
      refine NQ.seq ?_
      refine CW.only .nil ?_
      refine CW.seq ?_
      refine CW.region (ef := []) (bk := []) ?_
      refine RL.assign rfl rfl rfl rfl ?_
      refine RL.nil ?_
      refine NQ.seq ?_
      refine CW.ret ?_
      exact RQ.post (res1 rfl rfl) (.drop (.keep .nil)) ⟨rfl, rfl, rfl⟩
theorem rlgood_any (kb : Nat) (mo ti : Int) (l : List Lk) (s : Int) (hl : l.length = 8) : Spc Tryz.prog 84 #[.pointer (some ⟨kb, 0, none⟩), .int .i64 s] [] [rkI kb mo ti l] (RKR kb mo ti (goodL l s) (if mayB s = true then 0 else 2)) := by
  refine Spc.enter Tryz.func84 rfl rfl rfl (fun w0 hw0 => ?_)
  refine CW.seq ?_
  refine CW.region (ef := []) (bk := []) ?_
  refine RL.assign rfl rfl rfl rfl ?_
  refine RL.nil ?_
  refine NQ.seq ?_
  refine CW.seq ?_
  refine CW.seq ?_
  refine CW.region (ef := []) (bk := []) ?_
  refine RL.move rfl rfl rfl rfl ?_
  refine RL.bin rfl rfl rfl rfl rfl rfl ?_
  refine RL.move rfl rfl rfl rfl ?_
  apply RL.orB (d := 7) (dp := 10) (l' := (Sq.of [])) rfl (.cons (k := 0) rfl (.cons (k := 1) rfl (.cons (k := 4) rfl .nil)))
  ·
    intro hb3 K3
    refine RL.move rfl rfl rfl rfl ?_
    refine RL.bin rfl rfl rfl rfl rfl rfl ?_
    refine RL.pickF rfl rfl rfl rfl rfl ?_
    exact K3 _ (.cons rfl (.cons (k := 0) rfl (.cons (k := 1) rfl (.cons (k := 4) rfl .nil))))
  ·
    intro hb3 K3
    refine RL.skip rfl rfl rfl rfl ?_
    refine RL.skip rfl rfl rfl rfl ?_
    refine RL.pickT rfl rfl rfl rfl rfl ?_
    exact K3 _ (.cons rfl (.cons (k := 0) rfl (.cons (k := 1) rfl (.cons (k := 4) rfl .nil))))
  refine RL.nil ?_
  refine NQ.seq ?_
  refine CW.cond rfl (fun h => ?_) (fun h => ?_)
  ·
    refine CW.seq ?_
    refine CW.region (ef := []) (bk := []) ?_
    refine RL.assign rfl rfl rfl rfl ?_
    refine RL.nil ?_
    refine NQ.seq ?_
    refine CW.ret ?_
    refine RQ.seq ?_
    have hm : ¬ mayB s = true := by simp [mayB]; simp at h; omega
    exact RQ.post (res1 rfl rfl) (.keep .nil) ⟨by rw [if_neg hm], rfl, by rw [goodL, if_neg hm]⟩
  ·
    have hm : mayB s = true := by simp [mayB]; simp at h; omega
    obtain ⟨n, rfl⟩ : ∃ n : Nat, s = (n : Int) := ⟨s.toNat, by simp [mayB] at hm; omega⟩
    have h8 : n < 8 := by simp [mayB] at hm; omega
    have hx := List.getElem?_eq_getElem (show n < l.length by omega)
    have hlt : n < l.length := by omega
    generalize l[n] = x at hx
    refine CW.skip ?_
    refine NQ.seq ?_
    refine CW.seq ?_
    refine CW.region (ef := [6]) (bk := [6]) ?_
    refine RL.move rfl rfl rfl rfl ?_
    refine RL.move rfl rfl rfl rfl ?_
    refine RL.nilCheck rfl rfl rfl rfl ?_
    refine RL.fieldAddr fa_113_2 rfl rfl rfl rfl ?_
    refine RL.idxAAt (j := n) Tryz.runUnderlying111 Tryz.sizeOf110 rfl rfl rfl rfl rfl rfl h8 ?_
    refine RL.fieldAddr fa_110_0 rfl rfl rfl rfl ?_
    refine RL.storeX (vs := [_]) (k_set hx (j := 0) (by decide) (y := { x with f := 0 }) rfl) Tryz.sizeOf3 rfl rfl rfl rfl rfl rfl rfl rfl (by repeat (first | exact Upd.here | apply Upd.there)) (by rw [k_len]; simp; omega) ?_
    refine RL.nil ?_
    refine NQ.seq ?_
    refine CW.only .nil ?_
    refine CW.seq ?_
    refine CW.region (ef := []) (bk := []) ?_
    refine RL.assign rfl rfl rfl rfl ?_
    refine RL.nil ?_
    refine NQ.seq ?_
    refine CW.ret ?_
    exact RQ.post (res1 rfl rfl) (.keep .nil) ⟨by rw [if_pos hm], rfl, by rw [goodL, if_pos hm, Int.toNat_natCast, hx]⟩
end Go.Proofs.YtkkfdoippibfkaaGreat

namespace Go.Proofs.YtkkfdoippibfkaaGreat
open Go.PK

def mc (p : Nat × Nat) : List Value := [.int .u32 (p.1 : Int), .int .u64 (p.2 : Int)]
def tC (ms : List (Nat × Nat)) (hs : List Bool) : List Value := ms.flatMap mc ++ hs.map .bool
def msOf (M : Marks) : List (Nat × Nat) := (List.range 8).map fun i : Nat => (M (i : Int)).getD (0, 0)
def hsOf (M : Marks) : List Bool := (List.range 8).map fun i : Nat => (M (i : Int)).isSome
abbrev rtI (tb : Nat) (M : Marks) : It := cel tb (tC (msOf M) (hsOf M)) 89
theorem msOf_len (M : Marks) : (msOf M).length = 8 := by simp [msOf]
theorem hsOf_len (M : Marks) : (hsOf M).length = 8 := by simp [hsOf]
theorem msOf_get {M : Marks} {n : Nat} (h : n < 8) : (msOf M)[n]? = some ((M (n : Int)).getD (0, 0)) := by simp [msOf, h]
theorem hsOf_get {M : Marks} {n : Nat} (h : n < 8) : (hsOf M)[n]? = some (M (n : Int)).isSome := by simp [hsOf, h]
theorem msOf_set (M : Marks) {n : Nat} (p : Nat × Nat) : (msOf M).set n p = msOf (updM M (n : Int) p) := by
  unfold msOf
  exact set_range (f' := fun i => (updM M (n : Int) p (i : Int)).getD (0, 0)) (fun q hq => by rw [updM, if_neg (by omega)]) (by rw [updM, if_pos rfl]; rfl)
theorem hsOf_set (M : Marks) {n : Nat} (p : Nat × Nat) : (hsOf M).set n true = hsOf (updM M (n : Int) p) := by
  unfold hsOf
  exact set_range (f' := fun i => (updM M (n : Int) p (i : Int)).isSome) (fun q hq => by rw [updM, if_neg (by omega)]) (by rw [updM, if_pos rfl]; rfl)
theorem mc_len (ms : List (Nat × Nat)) : (ms.flatMap mc).length = ms.length * 2 := length_flat (fun _ _ => rfl)
theorem tC_len (ms : List (Nat × Nat)) (hs : List Bool) : (tC ms hs).length = ms.length * 2 + hs.length := by rw [tC, List.length_append, mc_len, List.length_map]
theorem tC_has {ms : List (Nat × Nat)} {hs : List Bool} (h8 : ms.length = 8) {n : Nat} {b : Bool} (hb : hs[n]? = some b) : (tC ms hs)[0 + 16 + n * 1]? = some (.bool b) := by
  rw [show 0 + 16 + n * 1 = 16 + n by omega, tC, List.getElem?_append_right (by rw [mc_len]; omega), mc_len, h8, show 16 + n - 8 * 2 = n by omega, List.getElem?_map, hb]; rfl
theorem tC_mk {I H : List It} {tb : Nat} {T : TypeId} {ms : List (Nat × Nat)} {hs : List Bool} {n : Nat} {p : Nat × Nat} (hp : ms[n]? = some p) (hm : cel tb (tC ms hs) T ∈ H) : Rds I H ⟨tb, 0 + 0 + n * 2, none⟩ [.int .u32 (p.1 : Int), .int .u64 (p.2 : Int)] :=
  Rds.cel hm (fun j u hj => by
    have hlt : j < 2 := (List.getElem?_eq_some_iff.1 hj).1
    have h1 := get_flat (f := mc) (n := 2) (fun _ _ => rfl) hp hlt
    have h2 : n * 2 + j < (ms.flatMap mc).length := by rw [mc_len]; have := (List.getElem?_eq_some_iff.1 hp).1; omega
    rw [show 0 + 0 + n * 2 + j = n * 2 + j by omega, tC, List.getElem?_append_left h2, h1]; exact hj)
theorem tC_mkI {I : List It} {H : List It} {tb : Nat} {T : TypeId} {ms : List (Nat × Nat)} {hs : List Bool} {n : Nat} {p : Nat × Nat} (hp : ms[n]? = some p) (hm : cel tb (tC ms hs) T ∈ I) : Rds I H ⟨tb, 0 + 0 + n * 2, none⟩ [.int .u32 (p.1 : Int), .int .u64 (p.2 : Int)] :=
  Rds.celI hm (fun j u hj => by
    have hlt : j < 2 := (List.getElem?_eq_some_iff.1 hj).1
    have h1 := get_flat (f := mc) (n := 2) (fun _ _ => rfl) hp hlt
    have h2 : n * 2 + j < (ms.flatMap mc).length := by rw [mc_len]; have := (List.getElem?_eq_some_iff.1 hp).1; omega
    rw [show 0 + 0 + n * 2 + j = n * 2 + j by omega, tC, List.getElem?_append_left h2, h1]; exact hj)
theorem tC_setM {ms : List (Nat × Nat)} {hs : List Bool} {n : Nat} (hn : n < ms.length) (a b : Nat) : spl (tC ms hs) (0 + 0 + n * 2) [.int .u32 (a : Int), .int .u64 (b : Int)] = tC (ms.set n (a, b)) hs := by
  obtain ⟨A, B, x, e, hA⟩ : ∃ A B x, ms = A ++ x :: B ∧ A.length = n := ⟨ms.take n, ms.drop (n + 1), ms[n], by rw [← List.drop_eq_getElem_cons hn, List.take_append_drop], by rw [List.length_take]; omega⟩
  subst e
  have e1 : tC (A ++ x :: B) hs = A.flatMap mc ++ (mc x ++ (B.flatMap mc ++ hs.map .bool)) := by simp [tC]
  have e2 : tC ((A ++ x :: B).set n (a, b)) hs = A.flatMap mc ++ (mc (a, b) ++ (B.flatMap mc ++ hs.map .bool)) := by subst hA; simp [tC]
  rw [e1, e2]
  exact seg_spl (B := mc x) (B' := mc (a, b)) (by rw [mc_len, hA]; omega) rfl
theorem tC_setH {ms : List (Nat × Nat)} {hs : List Bool} (h8 : ms.length = 8) {n : Nat} (hn : n < hs.length) (b : Bool) : spl (tC ms hs) (0 + 16 + n * 1) [.bool b] = tC ms (hs.set n b) := by
  have hl : (ms.flatMap mc).length = 16 := by rw [mc_len, h8]
  rw [tC, tC, show 0 + 16 + n * 1 = (ms.flatMap mc).length + n by rw [hl]; omega, spl_app, spl_set (by rw [List.length_map]; exact hn), List.map_set]
theorem r17may_any (s : Int) : Spc Tryz.prog 110 #[.int .i64 s] [] [] (Is (.bool (mayB s))) := by
  refine Spc.enter Tryz.func110 rfl rfl rfl (fun w0 hw0 => ?_)
  refine CW.seq ?_
  refine CW.region (ef := []) (bk := []) ?_
  refine RL.assign rfl rfl rfl rfl ?_
  refine RL.nil ?_
  refine NQ.seq ?_
  refine CW.seq ?_
  refine CW.region (ef := []) (bk := []) ?_
  refine RL.move rfl rfl rfl rfl ?_
  refine RL.bin rfl rfl rfl rfl rfl rfl ?_
  refine RL.move rfl rfl rfl rfl ?_
  apply RL.andB (d := 5) (dp := 8) (l' := (Sq.of [6])) rfl (.cons (k := 2) rfl .nil)
  ·
    intro hb3 K3
    refine RL.move rfl rfl rfl rfl ?_
    refine RL.bin rfl rfl rfl rfl rfl rfl ?_
    refine RL.pickT rfl rfl rfl rfl rfl ?_
    exact K3 _ (.cons rfl (.cons (k := 2) rfl .nil))
  ·
    intro hb3 K3
    refine RL.skip rfl rfl rfl rfl ?_
    refine RL.skip rfl rfl rfl rfl ?_
    refine RL.pickF rfl rfl rfl rfl rfl ?_
    exact K3 _ (.cons rfl (.cons (k := 2) rfl .nil))
  refine RL.assign rfl rfl rfl rfl ?_
  refine RL.nil ?_
  refine NQ.seq ?_
  refine CW.ret ?_
  exact RQ.post (res1 rfl rfl) (Split.none _) ⟨rfl, rfl, rfl⟩
theorem rgreater_any (p q : Nat × Nat) : Spc Tryz.prog 111 #[mkV p, mkV q] [] [] (Is (.bool (gtB p q))) := by
  obtain ⟨a, b⟩ := p
  obtain ⟨c, d⟩ := q
  refine Spc.enter Tryz.func111 rfl rfl rfl (fun w0 hw0 => ?_)
  refine CW.seq ?_
  refine CW.region (ef := [0, 1]) (bk := []) ?_
  refine RL.box rfl rfl rfl rfl rfl rfl ?_
  intro b1
  refine RL.box rfl rfl rfl rfl rfl rfl ?_
  intro b2
  refine RL.assign rfl rfl rfl rfl ?_
  refine RL.nil ?_
  refine NQ.seq ?_
  refine CW.seq ?_
  refine CW.region (ef := []) (bk := []) ?_
  refine RL.fieldAddr fa_85_0 rfl rfl rfl rfl ?_
  refine RL.loadq Tryz.isAgg32 rfl rfl rfl rfl ?_
  refine RL.fieldAddr fa_85_0 rfl rfl rfl rfl ?_
  refine RL.loadq Tryz.isAgg32 rfl rfl rfl rfl ?_
  refine RL.bin rfl rfl rfl rfl rfl rfl ?_
  refine RL.move rfl rfl rfl rfl ?_
  apply RL.orB (d := 10) (dp := 23) (l' := (Sq.of [19])) rfl (.cons (k := 4) rfl .nil)
  ·
    intro hb6 K6
    refine RL.fieldAddr fa_85_0 rfl rfl rfl rfl ?_
    refine RL.loadq Tryz.isAgg32 rfl rfl rfl rfl ?_
    refine RL.fieldAddr fa_85_0 rfl rfl rfl rfl ?_
    refine RL.loadq Tryz.isAgg32 rfl rfl rfl rfl ?_
    refine RL.bin rfl rfl rfl rfl rfl rfl ?_
    refine RL.move rfl rfl rfl rfl ?_
    apply RL.andB (d := 16) (dp := 22) (l' := (Sq.of [18, 19])) rfl (.cons (k := 4) rfl (.cons (k := 10) rfl .nil))
    ·
      intro hb12 K12
      refine RL.fieldAddr fa_85_1 rfl rfl rfl rfl ?_
      refine RL.loadq Tryz.isAgg33 rfl rfl rfl rfl ?_
      refine RL.fieldAddr fa_85_1 rfl rfl rfl rfl ?_
      refine RL.loadq Tryz.isAgg33 rfl rfl rfl rfl ?_
      refine RL.bin rfl rfl rfl rfl rfl rfl ?_
      refine RL.pickT rfl rfl rfl rfl rfl ?_
      exact K12 _ (.cons rfl (.cons (k := 4) rfl (.cons (k := 10) rfl .nil)))
    ·
      intro hb12 K12
      refine RL.skip rfl rfl rfl rfl ?_
      refine RL.skip rfl rfl rfl rfl ?_
      refine RL.skip rfl rfl rfl rfl ?_
      refine RL.skip rfl rfl rfl rfl ?_
      refine RL.skip rfl rfl rfl rfl ?_
      refine RL.pickF rfl rfl rfl rfl rfl ?_
      exact K12 _ (.cons rfl (.cons (k := 4) rfl (.cons (k := 10) rfl .nil)))
    refine RL.pickF rfl rfl rfl rfl rfl ?_
    exact K6 _ (.cons rfl (.cons (k := 4) rfl .nil))
  ·
    intro hb6 K6
    refine RL.skip rfl rfl rfl rfl ?_
    refine RL.skip rfl rfl rfl rfl ?_
    refine RL.skip rfl rfl rfl rfl ?_
    refine RL.skip rfl rfl rfl rfl ?_
    refine RL.skip rfl rfl rfl rfl ?_
    refine RL.skip rfl rfl rfl rfl ?_
    refine RL.skip rfl rfl rfl rfl ?_
    refine RL.skip rfl rfl rfl rfl ?_
    refine RL.skip rfl rfl rfl rfl ?_
    refine RL.skip rfl rfl rfl rfl ?_
    refine RL.skip rfl rfl rfl rfl ?_
    refine RL.skip rfl rfl rfl rfl ?_
    refine RL.pickT rfl rfl rfl rfl rfl ?_
    exact K6 _ (.cons rfl (.cons (k := 4) rfl .nil))
  refine RL.assign rfl rfl rfl rfl ?_
  refine RL.nil ?_
  refine NQ.seq ?_
  refine CW.ret ?_
  exact RQ.post (res1 rfl rfl) (Split.none _) ⟨by
    congr 1
    rw [Bool.eq_iff_iff]
    by_cases h : a = c
    · subst h; simp [gtB]
    · have h' : ¬ (a : Int) = (c : Int) := by omega
      simp [gtB, h, h'], rfl, rfl⟩
theorem rtMay_any (tb : Nat) (M : Marks) (s : Int) (p : Nat × Nat) : Spc Tryz.prog 101 #[.pointer (some ⟨tb, 0, none⟩), .int .i64 s, mkV p] [rtI tb M] [] (Is (.int .i64 (mmay M s p))) := by
  obtain ⟨a, b⟩ := p
  by_cases hm : mayB s = true
  · obtain ⟨n, rfl⟩ : ∃ n : Nat, s = (n : Int) := ⟨s.toNat, by simp [mayB] at hm; omega⟩
    have h8 : n < 8 := by simp [mayB] at hm; omega
    have g1 := tC_has (msOf_len M) (hsOf_get (M := M) h8)
    refine Spc.enter Tryz.func101 rfl rfl rfl (fun w0 hw0 => ?_)
    refine CW.seq ?_
    refine CW.region (ef := [0]) (bk := []) ?_
    refine RL.box rfl rfl rfl rfl rfl rfl ?_
    intro b1
    refine RL.assign rfl rfl rfl rfl ?_
    refine RL.nil ?_
    refine NQ.seq ?_
    refine CW.seq ?_
    refine CW.seq ?_
    refine CW.region (ef := []) (bk := []) ?_
    refine RL.move rfl rfl rfl rfl ?_
    refine RL.callvq (r17may_any (n : Int)) Tryz.call110 rfl rfl rfl rfl ?_
    refine RL.not rfl rfl rfl rfl ?_
    refine RL.nil ?_
    refine NQ.seq ?_
    refine CW.condF rfl ((by rw [hm]; rfl)) ?_
    refine CW.skip ?_
    refine NQ.seq ?_
    refine CW.seq ?_
    refine CW.seq ?_
    refine CW.regionD (Sq.of [0, 1, 2, 3, 4, 5, 6, 7, 8, 9, 10, 11, 12, 13, 14, 15, 16]) [] [] [0, 1, 2, 3, 4, 6, 8, 9, 10, 11, 12, 15, 16] mixed (by kernel_rfl) ?_
    refine RL.move rfl rfl rfl rfl ?_
    refine RL.move rfl rfl rfl rfl ?_
    refine RL.nilCheck rfl rfl rfl rfl ?_
    refine RL.fieldAddr fa_89_1 rfl rfl rfl rfl ?_
    refine RL.idxAAt (j := n) Tryz.runUnderlying87 Tryz.sizeOf4 rfl rfl rfl rfl rfl rfl h8 ?_
    refine RL.loadq Tryz.isAgg4 rfl rfl rfl rfl ?_
    refine RL.move rfl rfl rfl rfl ?_
    apply RL.andB (d := 16) (dp := 26) (l' := (Sq.of [])) rfl (.cons (k := 6) rfl .nil)
    ·
      intro hb7 K7
      refine RL.loadN (vs := [_, _]) Tryz.isAgg85 Tryz.sizeOf85 rfl rfl rfl rfl (by first | (apply Rds.cel; (solve | (repeat (first | exact List.Mem.head _ | apply List.Mem.tail))); exact at_spec ⟨rfl, rfl, trivial⟩) | (apply Rds.celI; (solve | (repeat (first | exact List.Mem.head _ | apply List.Mem.tail))); exact at_spec ⟨rfl, rfl, trivial⟩) | assumption | (apply RdsI.rds; assumption)) ?_
      refine RL.move rfl rfl rfl rfl ?_
      refine RL.move rfl rfl rfl rfl ?_
      refine RL.nilCheck rfl rfl rfl rfl ?_
      refine RL.fieldAddr fa_89_0 rfl rfl rfl rfl ?_
      refine RL.idxAAt (j := n) Tryz.runUnderlying86 Tryz.sizeOf85 rfl rfl rfl rfl rfl rfl h8 ?_
      refine RL.loadN (vs := [_, _]) Tryz.isAgg85 Tryz.sizeOf85 rfl rfl rfl rfl (tC_mkI (msOf_get h8) (by repeat (first | exact List.Mem.head _ | apply List.Mem.tail))) ?_
      refine RL.callvq (rgreater_any (a, b) ((M (n : Int)).getD (0, 0))) Tryz.call111 rfl rfl rfl rfl ?_
      refine RL.not rfl rfl rfl rfl ?_
      refine RL.pickT rfl rfl rfl rfl rfl ?_
      exact K7 _ (.cons rfl (.cons (k := 6) rfl .nil))
    ·
      intro hb7 K7
      refine RL.skip rfl rfl rfl rfl ?_
      refine RL.skip rfl rfl rfl rfl ?_
      refine RL.skip rfl rfl rfl rfl ?_
      refine RL.skip rfl rfl rfl rfl ?_
      refine RL.skip rfl rfl rfl rfl ?_
      refine RL.skip rfl rfl rfl rfl ?_
      refine RL.skip rfl rfl rfl rfl ?_
      refine RL.skip rfl rfl rfl rfl ?_
      refine RL.skip rfl rfl rfl rfl ?_
      refine RL.pickF rfl rfl rfl rfl rfl ?_
      exact K7 _ (.cons rfl (.cons (k := 6) rfl .nil))
    refine RL.nil ?_
    refine NQ.seq ?_
    refine CW.cond rfl (fun h => ?_) (fun h => ?_)
    ·
      refine CW.seq ?_
      refine CW.region (ef := []) (bk := []) ?_
      refine RL.assign rfl rfl rfl rfl ?_
      refine RL.nil ?_
      refine NQ.seq ?_
      refine CW.ret ?_
      refine RQ.seq ?_
      have h : (M (n : Int)).isSome = true ∧ ¬ gtB (a, b) ((M (n : Int)).getD (0, 0)) = true := by simpa using h
      obtain ⟨q, hq⟩ := Option.isSome_iff_exists.1 h.1
      have h2 := h.2
      rw [hq] at h2
      have h2 : ¬ gtB (a, b) q = true := h2
      exact RQ.post (res1 rfl rfl) (Split.none _) ⟨by rw [mmay, if_pos hm, hq]; dsimp only; rw [if_neg h2], rfl, rfl⟩
    ·
      refine CW.skip ?_
      refine NQ.seq ?_
      refine CW.seq ?_
      refine CW.region (ef := []) (bk := []) ?_
      refine RL.assign rfl rfl rfl rfl ?_
      refine RL.nil ?_
      refine NQ.seq ?_
      refine CW.ret ?_
      have hk : mmay M (n : Int) (a, b) = 0 := by
        rw [mmay, if_pos hm]
        cases hq : M (n : Int) with
        | none => rfl
        | some q =>
          rw [hq] at h
          have h : gtB (a, b) q = true := by simpa using h
          dsimp only; rw [if_pos h]
      exact RQ.post (res1 rfl rfl) (Split.none _) ⟨by rw [hk], rfl, rfl⟩
  · have hm' : mayB s = false := by simpa using hm
    refine Spc.enter Tryz.func101 rfl rfl rfl (fun w0 hw0 => ?_)
    refine CW.seq ?_
    refine CW.region (ef := [0]) (bk := []) ?_
    refine RL.box rfl rfl rfl rfl rfl rfl ?_
    intro b1
    refine RL.assign rfl rfl rfl rfl ?_
    refine RL.nil ?_
    refine NQ.seq ?_
    refine CW.seq ?_
    refine CW.seq ?_
    refine CW.region (ef := []) (bk := []) ?_
    refine RL.move rfl rfl rfl rfl ?_
    refine RL.callvq (r17may_any s) Tryz.call110 rfl rfl rfl rfl ?_
    refine RL.not rfl rfl rfl rfl ?_
    refine RL.nil ?_
    refine NQ.seq ?_
    refine CW.condT rfl ((by rw [hm']; rfl)) ?_
    refine CW.seq ?_
    refine CW.region (ef := []) (bk := []) ?_
    refine RL.assign rfl rfl rfl rfl ?_
    refine RL.nil ?_
    refine NQ.seq ?_
    refine CW.ret ?_
    refine RQ.seq ?_
    exact RQ.post (res1 rfl rfl) (Split.none _) ⟨by rw [mmay, if_neg hm], rfl, rfl⟩
def RTakeR (tb : Nat) (M : Marks) (x : Int) : Value → List It → List It → Prop := fun v I' H' => v = .int .i64 x ∧ I' = [] ∧ H' = [rtI tb M]
theorem mmay_may {M : Marks} {s : Int} {p : Nat × Nat} (h : mmay M s p = 0) : mayB s = true := by
  by_cases hm : mayB s = true
  · exact hm
  · rw [mmay, if_neg hm] at h; cases h
theorem rtake_any (tb : Nat) (M : Marks) (s : Int) (p : Nat × Nat) : Spc Tryz.prog 80 #[.pointer (some ⟨tb, 0, none⟩), .int .i64 s, mkV p] [] [rtI tb M] (RTakeR tb (takeM M s p) (mmay M s p)) := by
  refine Spc.enter Tryz.func80 rfl rfl rfl (fun w0 hw0 => ?_)
  refine CW.seq ?_
  refine CW.region (ef := [0]) (bk := []) ?_
  refine RL.box rfl rfl rfl rfl rfl rfl ?_
  intro b1
  refine RL.assign rfl rfl rfl rfl ?_
  refine RL.nil ?_
  refine NQ.seq ?_
  refine CW.seq ?_
  refine CW.region (ef := []) (bk := []) ?_
  refine RL.move rfl rfl rfl rfl ?_
  refine RL.move rfl rfl rfl rfl ?_
  refine RL.loadN (vs := [_, _]) Tryz.isAgg85 Tryz.sizeOf85 rfl rfl rfl rfl (by first | (apply Rds.cel; (solve | (repeat (first | exact List.Mem.head _ | apply List.Mem.tail))); exact at_spec ⟨rfl, rfl, trivial⟩) | (apply Rds.celI; (solve | (repeat (first | exact List.Mem.head _ | apply List.Mem.tail))); exact at_spec ⟨rfl, rfl, trivial⟩) | assumption | (apply RdsI.rds; assumption)) ?_
  refine RL.callvq (rtMay_any tb M s p) Tryz.call101 rfl rfl rfl rfl ?_
  refine RL.assign rfl rfl rfl rfl ?_
  refine RL.nil ?_
  refine NQ.seq ?_
  refine CW.only (.cons (k := 0) rfl (.cons (k := 1) rfl (.cons (k := 5) rfl (.cons (k := 7) rfl .nil)))) ?_
  refine CW.seq ?_
  refine CW.seq ?_
  refine CW.region (ef := []) (bk := []) ?_
  refine RL.move rfl rfl rfl rfl ?_
  refine RL.bin rfl rfl rfl rfl rfl rfl ?_
  refine RL.nil ?_
  refine NQ.seq ?_
  refine CW.cond rfl (fun h => ?_) (fun h => ?_)
  ·
    have h : mmay M s p = 0 := by simpa using h
    have hm := mmay_may h
    obtain ⟨n, rfl⟩ : ∃ n : Nat, s = (n : Int) := ⟨s.toNat, by simp [mayB] at hm; omega⟩
    have h8 : n < 8 := by simp [mayB] at hm; omega
    obtain ⟨a, b⟩ := p
    have l1 := msOf_len M
    have l2 := hsOf_len M
    have e : takeM M (n : Int) (a, b) = updM M (n : Int) (a, b) := by rw [takeM, if_pos h]
    have e2 : rtI tb (updM M (n : Int) (a, b)) = cel tb (tC ((msOf M).set n (a, b)) ((hsOf M).set n true)) 89 := by rw [rtI, ← msOf_set, ← hsOf_set M (a, b)]
    rw [e]
    refine CW.regionD (Sq.of [0, 1, 2, 3, 4, 5, 6, 7, 9, 10, 8, 11, 12]) [8, 12] [8, 12] [0, 1, 2, 3, 5, 6, 7, 9, 10, 11] mixed (by kernel_rfl) ?_
    refine RL.move rfl rfl rfl rfl ?_
    refine RL.move rfl rfl rfl rfl ?_
    refine RL.move rfl rfl rfl rfl ?_
    refine RL.move rfl rfl rfl rfl ?_
    refine RL.loadN (vs := [_, _]) Tryz.isAgg85 Tryz.sizeOf85 rfl rfl rfl rfl (by first | (apply Rds.cel; (solve | (repeat (first | exact List.Mem.head _ | apply List.Mem.tail))); exact at_spec ⟨rfl, rfl, trivial⟩) | (apply Rds.celI; (solve | (repeat (first | exact List.Mem.head _ | apply List.Mem.tail))); exact at_spec ⟨rfl, rfl, trivial⟩) | assumption | (apply RdsI.rds; assumption)) ?_
    refine RL.nilCheck rfl rfl rfl rfl ?_
    refine RL.fieldAddr fa_89_0 rfl rfl rfl rfl ?_
    refine RL.idxAAt (j := n) Tryz.runUnderlying86 Tryz.sizeOf85 rfl rfl rfl rfl rfl rfl h8 ?_
    refine RL.nilCheck rfl rfl rfl rfl ?_
    refine RL.fieldAddr fa_89_1 rfl rfl rfl rfl ?_
    first | (refine RL.storeX (vs := [_, _]) (tC_setM (ms := msOf M) (hs := hsOf M) (n := n) (by omega) a b) Tryz.sizeOf85 rfl rfl rfl rfl rfl rfl rfl rfl (by repeat (first | exact Upd.here | apply Upd.there)) (by rw [tC_len]; simp [l1, l2]; omega) ?_) | (refine RL.storeX (vs := [_, _]) (tC_setM (ms := msOf M) (hs := (hsOf M).set n true) (n := n) (by omega) a b) Tryz.sizeOf85 rfl rfl rfl rfl rfl rfl rfl rfl (by repeat (first | exact Upd.here | apply Upd.there)) (by rw [tC_len]; simp [l1, l2]; omega) ?_)
    refine RL.idxAAt (j := n) Tryz.runUnderlying87 Tryz.sizeOf4 rfl rfl rfl rfl rfl rfl h8 ?_
    first | (refine RL.storeX (vs := [_]) (tC_setH (ms := (msOf M).set n (a, b)) (hs := hsOf M) (n := n) (by simp [l1]) (by omega) true) Tryz.sizeOf4 rfl rfl rfl rfl rfl rfl rfl rfl (by repeat (first | exact Upd.here | apply Upd.there)) (by rw [tC_len]; simp [l1, l2]; omega) ?_) | (refine RL.storeX (vs := [_]) (tC_setH (ms := msOf M) (hs := hsOf M) (n := n) (by simp [l1]) (by omega) true) Tryz.sizeOf4 rfl rfl rfl rfl rfl rfl rfl rfl (by repeat (first | exact Upd.here | apply Upd.there)) (by rw [tC_len]; simp [l1, l2]; omega) ?_)
    refine RL.nil ?_
    refine NQ.seq ?_
    refine CW.only (.cons (k := 7) rfl .nil) ?_
    refine CW.seq ?_
    refine CW.region (ef := []) (bk := []) ?_
    refine RL.move rfl rfl rfl rfl ?_
    refine RL.assign rfl rfl rfl rfl ?_
    refine RL.nil ?_
    refine NQ.seq ?_
    refine CW.ret ?_
    exact RQ.post (res1 rfl rfl) (.drop (.keep .nil)) ⟨rfl, rfl, by rw [e2]⟩
  ·
    refine CW.skip ?_
    refine NQ.seq ?_
    refine CW.seq ?_
    refine CW.region (ef := []) (bk := []) ?_
    refine RL.move rfl rfl rfl rfl ?_
    refine RL.assign rfl rfl rfl rfl ?_
    refine RL.nil ?_
    refine NQ.seq ?_
    refine CW.only (.cons (k := 6) rfl .nil) ?_
    refine CW.ret ?_
    have h : ¬ mmay M s p = 0 := by simpa using h
    exact RQ.post (res1 rfl rfl) (.drop (.keep .nil)) ⟨rfl, rfl, by rw [takeM, if_neg h]⟩
theorem rtraise_any (tb : Nat) (M : Marks) (s : Int) (p : Nat × Nat) : Spc Tryz.prog 60 #[.pointer (some ⟨tb, 0, none⟩), .int .i64 s, mkV p] [] [rtI tb M] (RTakeR tb (takeM M s p) (if mayB s = true then 0 else 2)) := by
  refine Spc.enter Tryz.func60 rfl rfl rfl (fun w0 hw0 => ?_)
  refine CW.seq ?_
  refine CW.region (ef := [0]) (bk := []) ?_
  refine RL.box rfl rfl rfl rfl rfl rfl ?_
  intro b1
  refine RL.assign rfl rfl rfl rfl ?_
  refine RL.nil ?_
  refine NQ.seq ?_
  refine CW.seq ?_
  refine CW.seq ?_
  refine CW.region (ef := [3]) (bk := [3]) ?_
  refine RL.move rfl rfl rfl rfl ?_
  refine RL.move rfl rfl rfl rfl ?_
  refine RL.loadN (vs := [_, _]) Tryz.isAgg85 Tryz.sizeOf85 rfl rfl rfl rfl (by first | (apply Rds.cel; (solve | (repeat (first | exact List.Mem.head _ | apply List.Mem.tail))); exact at_spec ⟨rfl, rfl, trivial⟩) | (apply Rds.celI; (solve | (repeat (first | exact List.Mem.head _ | apply List.Mem.tail))); exact at_spec ⟨rfl, rfl, trivial⟩) | assumption | (apply RdsI.rds; assumption)) ?_
  refine RL.callq (rtake_any tb M s p) Tryz.call80 rfl rfl rfl rfl rfl (.inr rfl) ?_
  rintro _ _ _ ⟨rfl, rfl, rfl⟩
  refine RL.assign rfl rfl rfl rfl ?_
  refine RL.nil ?_
  refine NQ.seq ?_
  refine CW.only (.cons (k := 6) rfl (.cons (k := 7) rfl .nil)) ?_
  refine CW.seq ?_
  refine CW.region (ef := []) (bk := []) ?_
  refine RL.move rfl rfl rfl rfl ?_
  refine RL.bin rfl rfl rfl rfl rfl rfl ?_
  refine RL.nil ?_
  refine NQ.seq ?_
  refine CW.cond rfl (fun h => ?_) (fun h => ?_)
  ·
    refine CW.seq ?_
    refine CW.region (ef := []) (bk := []) ?_
    refine RL.move rfl rfl rfl rfl ?_
    refine RL.assign rfl rfl rfl rfl ?_
    refine RL.nil ?_
    refine NQ.seq ?_
    refine CW.ret ?_
    refine RQ.seq ?_
    have h : mmay M s p = 2 := by simpa using h
    have hm : ¬ mayB s = true := fun hm => by
      rw [mmay, if_pos hm] at h
      cases hq : M s with
      | none => rw [hq] at h; cases h
      | some q => rw [hq] at h; dsimp only at h; split at h <;> cases h
    exact RQ.post (res1 rfl rfl) (.keep (Split.none _)) ⟨by rw [if_neg hm, h], rfl, rfl⟩
  ·
    refine CW.skip ?_
    refine NQ.seq ?_
    refine CW.seq ?_
    refine CW.region (ef := []) (bk := []) ?_
    refine RL.assign rfl rfl rfl rfl ?_
    refine RL.nil ?_
    refine NQ.seq ?_
    refine CW.ret ?_
    have h : ¬ mmay M s p = 2 := by simpa using h
    have hm : mayB s = true := by
      by_cases hm : mayB s = true
      · exact hm
      · rw [mmay, if_neg hm] at h; exact absurd rfl h
    exact RQ.post (res1 rfl rfl) (.keep (Split.none _)) ⟨by rw [if_pos hm], rfl, rfl⟩
end Go.Proofs.YtkkfdoippibfkaaGreat

namespace Go.Proofs.YtkkfdoippibfkaaGreat
open Go.PK

/-! ### The reference's guard -/
def wc (p : Int × Int) : List Value := [.int .i64 p.1, .int .i64 p.2]
abbrev wcs (W : List (Int × Int)) : List Value := W.flatMap wc
theorem wcs_len (W : List (Int × Int)) : (wcs W).length = W.length * 2 := length_flat (fun _ _ => rfl)
theorem wcs_get {W : List (Int × Int)} {i j : Nat} {p : Int × Int} (hi : W[i]? = some p) (hj : j < 2) : (wcs W)[i * 2 + j]? = (wc p)[j]? := get_flat (f := wc) (n := 2) (fun _ _ => rfl) hi hj
/-- Where its parts lie. -/
structure RB where
  yb : Nat
  y : Nat
  rt : Nat
  rk : Nat
  mo : Int
  ti : Int
/-- What it holds. -/
structure RS where
  R : List One
  ob : Option Nat
  cp : Nat
  l : List Lk
  M : Marks
  W : List (Int × Int)
  ow : Option Nat
  cw : Nat
  D : List (Int × Int)
  od : Option Nat
  cd : Nat
abbrev rgCel (B : RB) (g : RS) : It := cel B.yb [.pointer (some ⟨B.y, 0, none⟩), .pointer (some ⟨B.rt, 0, none⟩), .pointer (some ⟨B.rk, 0, none⟩), slO g.ow g.W.length g.cw, slO g.od g.D.length g.cd] 93
abbrev RGI (B : RB) (g : RS) : List It := [rgCel B g, cel B.y [slO g.ob g.R.length g.cp] 83, own g.ob g.cp 131 35 g.R.length (rcs g.R), rtI B.rt g.M, rkI B.rk B.mo B.ti g.l, own g.ow g.cw 103 2 g.W.length (wcs g.W), own g.od g.cd 115 2 g.D.length (wcs g.D)]
structure RSOk (g : RS) : Prop where
  r : ROk g.R
  e1 : ∀ o ∈ g.R, 1 ≤ o.e
  e2 : ∀ o ∈ g.R, o.e < 4294967296
  n : g.R.length ≤ 8
  l : g.l.length = 8
  w : g.W.length ≤ 100000
  d : g.D.length ≤ 100000
def rraE (g : RS) (s : Int) (p : Nat × Nat) : Int := if rraiseE g.R s p.1 = 0 then (if mayB s = true then 0 else 2) else rraiseE g.R s p.1
def rraM (g : RS) (s : Int) (p : Nat × Nat) : Marks := if rraiseE g.R s p.1 = 0 then takeM g.M s p else g.M
def RingsR (B : RB) (g : RS) (x : Int) : Value → List It → List It → Prop := fun v I' H' => v = .int .i64 x ∧ I' = [] ∧ ∃ ob cp, H' = RGI B { g with ob := ob, cp := cp }
theorem rgraise_any (B : RB) (g : RS) (s : Int) (p : Nat × Nat) (hg : RSOk g) :
    Spc Tryz.prog 32 #[.pointer (some ⟨B.yb, 0, none⟩), .int .i64 s, mkV p] [] (RGI B g) (RingsR B { g with R := rraiseR g.R s p.1, M := rraM g s p } (rraE g s p)) := by
  refine Spc.enter Tryz.func32 rfl rfl rfl (fun w0 hw0 => ?_)
  refine CW.seq ?_
  refine CW.region (ef := [0]) (bk := []) ?_
  refine RL.box rfl rfl rfl rfl rfl rfl ?_
  intro b1
  refine RL.assign rfl rfl rfl rfl ?_
  refine RL.nil ?_
  refine NQ.seq ?_
  refine CW.seq ?_
  refine CW.seq ?_
  refine CW.regionD (Sq.of [0, 1, 2, 3, 4, 5, 6, 7, 8]) [7] [7] [0, 1, 2, 4, 5, 8] mixed (by kernel_rfl) ?_
  refine RL.move rfl rfl rfl rfl ?_
  refine RL.nilCheck rfl rfl rfl rfl ?_
  refine RL.fieldAddr fa_93_0 rfl rfl rfl rfl ?_
  refine RL.loadq Tryz.isAgg80 rfl rfl rfl rfl ?_
  refine RL.move rfl rfl rfl rfl ?_
  refine RL.fieldAddr fa_85_0 rfl rfl rfl rfl ?_
  refine RL.loadq Tryz.isAgg32 rfl rfl rfl rfl ?_
  refine RL.callq (rraise_any B.y g.R g.ob g.cp s p.1 hg.r (by have := hg.n; omega)) Tryz.call59 rfl rfl rfl rfl rfl (.inr rfl) ?_
  rintro _ _ _ ⟨rfl, rfl, ob', cp', rfl⟩
  refine RL.assign rfl rfl rfl rfl ?_
  refine RL.nil ?_
  refine NQ.seq ?_
  refine CW.only (.cons (k := 0) rfl (.cons (k := 1) rfl (.cons (k := 5) rfl (.cons (k := 6) rfl (.cons (k := 7) rfl .nil))))) ?_
  refine CW.seq ?_
  refine CW.region (ef := []) (bk := []) ?_
  refine RL.move rfl rfl rfl rfl ?_
  refine RL.bin rfl rfl rfl rfl rfl rfl ?_
  refine RL.nil ?_
  refine NQ.seq ?_
  refine CW.cond rfl (fun h => ?_) (fun h => ?_)
  ·
    refine CW.seq ?_
    refine CW.region (ef := []) (bk := []) ?_
    refine RL.move rfl rfl rfl rfl ?_
    refine RL.assign rfl rfl rfl rfl ?_
    refine RL.nil ?_
    refine NQ.seq ?_
    refine CW.ret ?_
    refine RQ.seq ?_
    have h : ¬ rraiseE g.R s p.1 = 0 := by simpa using h
    have hM : rraM g s p = g.M := by rw [rraM, if_neg h]
    rw [hM]
    refine RQ.rea (fun _ h => h) (H' := RGI B ({ g with R := rraiseR g.R s p.1, ob := ob', cp := cp' })) (by repeat (first | exact Rea.nil | (apply Rea.cons; (solve | (repeat (first | exact Del.here | apply Del.there)))))) ?_
    exact RQ.post (res1 rfl rfl) (.keep (.keep (.keep (.keep (.keep (.keep (.keep .nil))))))) ⟨by rw [rraE, if_neg h], rfl, ob', cp', rfl⟩
  ·
    refine CW.skip ?_
    refine NQ.seq ?_
    refine CW.seq ?_
    refine CW.regionD (Sq.of [0, 1, 2, 3, 4, 5, 6, 7]) [6] [6] [0, 1, 2, 4, 7] mixed (by kernel_rfl) ?_
    refine RL.move rfl rfl rfl rfl ?_
    refine RL.nilCheck rfl rfl rfl rfl ?_
    refine RL.fieldAddr fa_93_1 rfl rfl rfl rfl ?_
    refine RL.loadq Tryz.isAgg84 rfl rfl rfl rfl ?_
    refine RL.move rfl rfl rfl rfl ?_
    first | refine RL.loadM Tryz.isAgg85 Tryz.sizeOf85 rfl rfl rfl rfl (by assumption) ?_ | refine RL.loadA Tryz.isAgg85 Tryz.sizeOf85 rfl rfl rfl rfl (by first | assumption | (apply RdsI.rds; assumption)) (by first | rfl | assumption | (simp only [List.length_map]; assumption) | (simp only [List.length_map, List.length_replicate]; done) | (simp; done)) ?_ | refine RL.loadW Tryz.isAgg85 Tryz.sizeOf85 rfl rfl rfl rfl (by (solve | (repeat (first | exact List.Mem.head _ | apply List.Mem.tail)))) (by first | rfl | assumption | (simp only [List.length_map]; assumption) | (simp only [List.length_map, List.length_replicate]; done) | (simp; done)) ?_
    refine RL.callq (rtraise_any B.rt g.M s p) Tryz.call60 rfl rfl rfl rfl rfl (.inr rfl) ?_
    have h : rraiseE g.R s p.1 = 0 := by simpa using h
    have hM : rraM g s p = takeM g.M s p := by rw [rraM, if_pos h]
    rintro _ _ _ ⟨rfl, rfl, rfl⟩
    refine RL.assign rfl rfl rfl rfl ?_
    refine RL.nil ?_
    refine NQ.seq ?_
    refine CW.only (.cons (k := 6) rfl .nil) ?_
    refine CW.ret ?_
    rw [hM]
    refine RQ.rea (fun _ h => h) (H' := RGI B ({ g with R := rraiseR g.R s p.1, ob := ob', cp := cp', M := takeM g.M s p })) (by repeat (first | exact Rea.nil | (apply Rea.cons; (solve | (repeat (first | exact Del.here | apply Del.there)))))) ?_
    exact RQ.post (res1 rfl rfl) (.keep (.keep (.keep (.keep (.keep (.keep (.keep .nil))))))) ⟨by rw [rraE, if_pos h], rfl, ob', cp', rfl⟩
theorem rlnew_yes (mo ti : Int) (h1 : 1 ≤ mo) (h2 : mo ≤ 1000) (h3 : 1 ≤ ti) (h4 : ti ≤ 65535) : Spc Tryz.prog 27 #[.int .i64 mo, .int .i64 ti] [] [] (fun v I' H' => ∃ kb, v = .tuple #[.pointer (some ⟨kb, 0, none⟩), .int .i64 0] ∧ I' = [] ∧ H' = [rkI kb mo ti (List.replicate 8 ⟨0, 0, 0⟩)]) := by
  refine Spc.enter Tryz.func27 rfl rfl rfl (fun w0 hw0 => ?_)
  refine CW.seq ?_
  refine CW.region (ef := []) (bk := []) ?_
  refine RL.assign rfl rfl rfl rfl ?_
  refine RL.assign rfl rfl rfl rfl ?_
  refine RL.nil ?_
  refine NQ.seq ?_
  refine CW.seq ?_
  refine CW.seq ?_
  refine CW.region (ef := []) (bk := []) ?_
  refine RL.move rfl rfl rfl rfl ?_
  refine RL.bin rfl rfl rfl rfl rfl rfl ?_
  refine RL.move rfl rfl rfl rfl ?_
  apply RL.orB (d := 8) (dp := 11) (l' := (Sq.of [6, 7, 8, 9, 10, 11, 12, 13])) rfl (.cons (k := 0) rfl (.cons (k := 1) rfl (.cons (k := 4) rfl (.cons (k := 5) rfl .nil))))
  ·
    intro hb3 K3
    refine RL.move rfl rfl rfl rfl ?_
    refine RL.bin rfl rfl rfl rfl rfl rfl ?_
    refine RL.pickF rfl rfl rfl rfl rfl ?_
    exact K3 _ (.cons rfl (.cons (k := 0) rfl (.cons (k := 1) rfl (.cons (k := 4) rfl (.cons (k := 5) rfl .nil)))))
  ·
    intro hb3 K3
    refine RL.skip rfl rfl rfl rfl ?_
    refine RL.skip rfl rfl rfl rfl ?_
    refine RL.pickT rfl rfl rfl rfl rfl ?_
    exact K3 _ (.cons rfl (.cons (k := 0) rfl (.cons (k := 1) rfl (.cons (k := 4) rfl (.cons (k := 5) rfl .nil)))))
  refine RL.move rfl rfl rfl rfl ?_
  apply RL.orB (d := 12) (dp := 15) (l' := (Sq.of [10, 11, 12, 13])) rfl (.cons (k := 0) rfl (.cons (k := 1) rfl (.cons (k := 4) rfl (.cons (k := 5) rfl .nil))))
  ·
    intro hb7 K7
    refine RL.move rfl rfl rfl rfl ?_
    refine RL.bin rfl rfl rfl rfl rfl rfl ?_
    refine RL.pickF rfl rfl rfl rfl rfl ?_
    exact K7 _ (.cons rfl (.cons (k := 0) rfl (.cons (k := 1) rfl (.cons (k := 4) rfl (.cons (k := 5) rfl .nil)))))
  ·
    intro hb7 K7
    refine RL.skip rfl rfl rfl rfl ?_
    refine RL.skip rfl rfl rfl rfl ?_
    refine RL.pickT rfl rfl rfl rfl rfl ?_
    exact K7 _ (.cons rfl (.cons (k := 0) rfl (.cons (k := 1) rfl (.cons (k := 4) rfl (.cons (k := 5) rfl .nil)))))
  refine RL.move rfl rfl rfl rfl ?_
  apply RL.orB (d := 16) (dp := 19) (l' := (Sq.of [])) rfl (.cons (k := 0) rfl (.cons (k := 1) rfl (.cons (k := 4) rfl (.cons (k := 5) rfl .nil))))
  ·
    intro hb11 K11
    refine RL.move rfl rfl rfl rfl ?_
    refine RL.bin rfl rfl rfl rfl rfl rfl ?_
    refine RL.pickF rfl rfl rfl rfl rfl ?_
    exact K11 _ (.cons rfl (.cons (k := 0) rfl (.cons (k := 1) rfl (.cons (k := 4) rfl (.cons (k := 5) rfl .nil)))))
  ·
    intro hb11 K11
    refine RL.skip rfl rfl rfl rfl ?_
    refine RL.skip rfl rfl rfl rfl ?_
    refine RL.pickT rfl rfl rfl rfl rfl ?_
    exact K11 _ (.cons rfl (.cons (k := 0) rfl (.cons (k := 1) rfl (.cons (k := 4) rfl (.cons (k := 5) rfl .nil)))))
  refine RL.nil ?_
  refine NQ.seq ?_
  refine CW.condF rfl ((by simp; omega)) ?_
  refine CW.skip ?_
  refine NQ.seq ?_
  refine CW.seq ?_
  refine CW.region (ef := [3]) (bk := []) ?_
  refine RL.move rfl rfl rfl rfl ?_
  refine RL.move rfl rfl rfl rfl ?_
  refine RL.buildS (kCells mo ti (List.replicate 8 ⟨0, 0, 0⟩)) Tryz.zeroValue113 pl_113 rfl rfl rfl rfl rfl ?_
  refine RL.box (cs := kCells mo ti (List.replicate 8 ⟨0, 0, 0⟩)) rfl rfl rfl rfl rfl rfl (fun kb => ?_)
  refine RL.assign rfl rfl rfl rfl ?_
  refine RL.assign rfl rfl rfl rfl ?_
  refine RL.nil ?_
  refine NQ.seq ?_
  refine CW.only (.cons (k := 4) rfl (.cons (k := 5) rfl .nil)) ?_
  refine CW.ret ?_
  exact RQ.post (res2 rfl rfl rfl) (.keep .nil) ⟨kb, rfl, rfl, rfl⟩
theorem rlnew_no (mo ti : Int) (h : ¬ (1 ≤ mo ∧ mo ≤ 1000 ∧ 1 ≤ ti ∧ ti ≤ 65535)) : Spc Tryz.prog 27 #[.int .i64 mo, .int .i64 ti] [] [] (Is (.tuple #[.pointer none, .int .i64 2])) := by
  refine Spc.enter Tryz.func27 rfl rfl rfl (fun w0 hw0 => ?_)
  refine CW.seq ?_
  refine CW.region (ef := []) (bk := []) ?_
  refine RL.assign rfl rfl rfl rfl ?_
  refine RL.assign rfl rfl rfl rfl ?_
  refine RL.nil ?_
  refine NQ.seq ?_
  refine CW.seq ?_
  refine CW.seq ?_
  refine CW.region (ef := []) (bk := []) ?_
  refine RL.move rfl rfl rfl rfl ?_
  refine RL.bin rfl rfl rfl rfl rfl rfl ?_
  refine RL.move rfl rfl rfl rfl ?_
  apply RL.orB (d := 8) (dp := 11) (l' := (Sq.of [6, 7, 8, 9, 10, 11, 12, 13])) rfl (.cons (k := 0) rfl (.cons (k := 1) rfl (.cons (k := 4) rfl (.cons (k := 5) rfl .nil))))
  ·
    intro hb3 K3
    refine RL.move rfl rfl rfl rfl ?_
    refine RL.bin rfl rfl rfl rfl rfl rfl ?_
    refine RL.pickF rfl rfl rfl rfl rfl ?_
    exact K3 _ (.cons rfl (.cons (k := 0) rfl (.cons (k := 1) rfl (.cons (k := 4) rfl (.cons (k := 5) rfl .nil)))))
  ·
    intro hb3 K3
    refine RL.skip rfl rfl rfl rfl ?_
    refine RL.skip rfl rfl rfl rfl ?_
    refine RL.pickT rfl rfl rfl rfl rfl ?_
    exact K3 _ (.cons rfl (.cons (k := 0) rfl (.cons (k := 1) rfl (.cons (k := 4) rfl (.cons (k := 5) rfl .nil)))))
  refine RL.move rfl rfl rfl rfl ?_
  apply RL.orB (d := 12) (dp := 15) (l' := (Sq.of [10, 11, 12, 13])) rfl (.cons (k := 0) rfl (.cons (k := 1) rfl (.cons (k := 4) rfl (.cons (k := 5) rfl .nil))))
  ·
    intro hb7 K7
    refine RL.move rfl rfl rfl rfl ?_
    refine RL.bin rfl rfl rfl rfl rfl rfl ?_
    refine RL.pickF rfl rfl rfl rfl rfl ?_
    exact K7 _ (.cons rfl (.cons (k := 0) rfl (.cons (k := 1) rfl (.cons (k := 4) rfl (.cons (k := 5) rfl .nil)))))
  ·
    intro hb7 K7
    refine RL.skip rfl rfl rfl rfl ?_
    refine RL.skip rfl rfl rfl rfl ?_
    refine RL.pickT rfl rfl rfl rfl rfl ?_
    exact K7 _ (.cons rfl (.cons (k := 0) rfl (.cons (k := 1) rfl (.cons (k := 4) rfl (.cons (k := 5) rfl .nil)))))
  refine RL.move rfl rfl rfl rfl ?_
  apply RL.orB (d := 16) (dp := 19) (l' := (Sq.of [])) rfl (.cons (k := 0) rfl (.cons (k := 1) rfl (.cons (k := 4) rfl (.cons (k := 5) rfl .nil))))
  ·
    intro hb11 K11
    refine RL.move rfl rfl rfl rfl ?_
    refine RL.bin rfl rfl rfl rfl rfl rfl ?_
    refine RL.pickF rfl rfl rfl rfl rfl ?_
    exact K11 _ (.cons rfl (.cons (k := 0) rfl (.cons (k := 1) rfl (.cons (k := 4) rfl (.cons (k := 5) rfl .nil)))))
  ·
    intro hb11 K11
    refine RL.skip rfl rfl rfl rfl ?_
    refine RL.skip rfl rfl rfl rfl ?_
    refine RL.pickT rfl rfl rfl rfl rfl ?_
    exact K11 _ (.cons rfl (.cons (k := 0) rfl (.cons (k := 1) rfl (.cons (k := 4) rfl (.cons (k := 5) rfl .nil)))))
  refine RL.nil ?_
  refine NQ.seq ?_
  refine CW.condT rfl ((by simp; omega)) ?_
  refine CW.seq ?_
  refine CW.region (ef := []) (bk := []) ?_
  refine RL.assign rfl rfl rfl rfl ?_
  refine RL.assign rfl rfl rfl rfl ?_
  refine RL.nil ?_
  refine NQ.seq ?_
  refine CW.ret ?_
  refine RQ.seq ?_
  exact RQ.post (res2 rfl rfl rfl) (Split.none _) ⟨rfl, rfl, rfl⟩
def rs0 : RS := ⟨[], none, 0, List.replicate 8 ⟨0, 0, 0⟩, fun _ => none, [], none, 0, [], none, 0⟩
theorem rs0_ok : RSOk rs0 := ⟨by simp [rs0, ROk], by simp [rs0], by simp [rs0], by simp [rs0], by simp [rs0], by simp [rs0], by simp [rs0]⟩
theorem rgnew_yes (mo ti : Int) (h1 : 1 ≤ mo) (h2 : mo ≤ 1000) (h3 : 1 ≤ ti) (h4 : ti ≤ 65535) : Spc Tryz.prog 9 #[.int .i64 mo, .int .i64 ti] [] [] (fun v I' H' => ∃ B : RB, B.mo = mo ∧ B.ti = ti ∧ v = .tuple #[.pointer (some ⟨B.yb, 0, none⟩), .int .i64 0] ∧ I' = [] ∧ H' = RGI B rs0) := by
  refine Spc.enter Tryz.func9 rfl rfl rfl (fun w0 hw0 => ?_)
  refine CW.seq ?_
  refine CW.region (ef := []) (bk := []) ?_
  refine RL.assign rfl rfl rfl rfl ?_
  refine RL.assign rfl rfl rfl rfl ?_
  refine RL.nil ?_
  refine NQ.seq ?_
  refine CW.seq ?_
  refine CW.region (ef := [2]) (bk := []) ?_
  refine RL.move rfl rfl rfl rfl ?_
  refine RL.move rfl rfl rfl rfl ?_
  refine RL.callq (rlnew_yes mo ti h1 h2 h3 h4) Tryz.call27 rfl rfl rfl rfl rfl (.inl rfl) ?_
  rintro _ _ _ ⟨kb, rfl, rfl, rfl⟩
  refine RL.move rfl rfl rfl rfl ?_
  refine RL.extract rfl rfl rfl rfl rfl ?_
  refine RL.extract rfl rfl rfl rfl rfl ?_
  refine RL.assign rfl rfl rfl rfl ?_
  refine RL.assign rfl rfl rfl rfl ?_
  refine RL.nil ?_
  refine NQ.seq ?_
  refine CW.only (.cons (k := 6) rfl (.cons (k := 7) rfl .nil)) ?_
  refine CW.seq ?_
  refine CW.seq ?_
  refine CW.region (ef := []) (bk := []) ?_
  refine RL.move rfl rfl rfl rfl ?_
  refine RL.bin rfl rfl rfl rfl rfl rfl ?_
  refine RL.nil ?_
  refine NQ.seq ?_
  refine CW.condF rfl ((by simp)) ?_
  refine CW.skip ?_
  refine NQ.seq ?_
  refine CW.seq ?_
  refine CW.region (ef := [1, 3, 6]) (bk := []) ?_
  refine RL.buildS _ Tryz.zeroValue83 pl_83 rfl rfl rfl rfl rfl ?_
  refine RL.box rfl rfl rfl rfl rfl rfl ?_
  intro b1
  refine RL.buildS _ Tryz.zeroValue89 pl_89 rfl rfl rfl rfl rfl ?_
  refine RL.box rfl rfl rfl rfl rfl rfl ?_
  intro b2
  refine RL.move rfl rfl rfl rfl ?_
  refine RL.buildS [_, _, _, _, _] Tryz.zeroValue93 pl_93 rfl rfl rfl rfl rfl ?_
  refine RL.box rfl rfl rfl rfl rfl rfl ?_
  intro b3
  refine RL.assign rfl rfl rfl rfl ?_
  refine RL.assign rfl rfl rfl rfl ?_
  refine RL.nil ?_
  refine NQ.seq ?_
  refine CW.only (.cons (k := 4) rfl (.cons (k := 5) rfl .nil)) ?_
  refine CW.ret ?_
  refine RQ.ownNone (e := 131) 35 ?_
  refine RQ.ownNone (e := 103) 2 ?_
  refine RQ.ownNone (e := 115) 2 ?_
  refine RQ.rea (fun _ h => h) (H' := RGI ⟨b3, b1, b2, kb, mo, ti⟩ rs0) (by repeat (first | exact Rea.nil | (apply Rea.cons; (solve | (repeat (first | exact Del.here | apply Del.there)))))) ?_
  exact RQ.post (res2 rfl rfl rfl) (.keep (.keep (.keep (.keep (.keep (.keep (.keep .nil))))))) ⟨⟨b3, b1, b2, kb, mo, ti⟩, rfl, rfl, rfl, rfl, rfl⟩
theorem rgnew_no (mo ti : Int) (h : ¬ (1 ≤ mo ∧ mo ≤ 1000 ∧ 1 ≤ ti ∧ ti ≤ 65535)) : Spc Tryz.prog 9 #[.int .i64 mo, .int .i64 ti] [] [] (Is (.tuple #[.pointer none, .int .i64 2])) := by
  refine Spc.enter Tryz.func9 rfl rfl rfl (fun w0 hw0 => ?_)
  refine CW.seq ?_
  refine CW.region (ef := []) (bk := []) ?_
  refine RL.assign rfl rfl rfl rfl ?_
  refine RL.assign rfl rfl rfl rfl ?_
  refine RL.nil ?_
  refine NQ.seq ?_
  refine CW.seq ?_
  refine CW.region (ef := []) (bk := []) ?_
  refine RL.move rfl rfl rfl rfl ?_
  refine RL.move rfl rfl rfl rfl ?_
  refine RL.callvq (rlnew_no mo ti h) Tryz.call27 rfl rfl rfl rfl ?_
  refine RL.move rfl rfl rfl rfl ?_
  refine RL.extract rfl rfl rfl rfl rfl ?_
  refine RL.extract rfl rfl rfl rfl rfl ?_
  refine RL.assign rfl rfl rfl rfl ?_
  refine RL.assign rfl rfl rfl rfl ?_
  refine RL.nil ?_
  refine NQ.seq ?_
  refine CW.only (.cons (k := 6) rfl (.cons (k := 7) rfl .nil)) ?_
  refine CW.seq ?_
  refine CW.seq ?_
  refine CW.region (ef := []) (bk := []) ?_
  refine RL.move rfl rfl rfl rfl ?_
  refine RL.bin rfl rfl rfl rfl rfl rfl ?_
  refine RL.nil ?_
  refine NQ.seq ?_
  refine CW.condT rfl ((by simp)) ?_
  refine CW.seq ?_
  refine CW.region (ef := []) (bk := []) ?_
  refine RL.move rfl rfl rfl rfl ?_
  refine RL.assign rfl rfl rfl rfl ?_
  refine RL.assign rfl rfl rfl rfl ?_
  refine RL.nil ?_
  refine NQ.seq ?_
  refine CW.ret ?_
  refine RQ.seq ?_
  exact RQ.post (res2 rfl rfl rfl) (Split.none _) ⟨rfl, rfl, rfl⟩
theorem gnew_no (mo ti : Int) (h : ¬ (1 ≤ mo ∧ mo ≤ 1000 ∧ 1 ≤ ti ∧ ti ≤ 65535)) : Spc Tryz.prog 7 #[.int .i64 mo, .int .i64 ti] [] [] (Is (.tuple #[.pointer none, .int .i64 2])) := by
  refine Spc.enter Tryz.func7 rfl rfl rfl (fun w0 hw0 => ?_)
  refine CW.seq ?_
  refine CW.region (ef := []) (bk := []) ?_
  refine RL.assign rfl rfl rfl rfl ?_
  refine RL.assign rfl rfl rfl rfl ?_
  refine RL.nil ?_
  refine NQ.seq ?_
  refine CW.seq ?_
  refine CW.region (ef := []) (bk := []) ?_
  refine RL.move rfl rfl rfl rfl ?_
  refine RL.move rfl rfl rfl rfl ?_
  refine RL.callvq (lnew_no mo ti h) Tryz.call24 rfl rfl rfl rfl ?_
  refine RL.move rfl rfl rfl rfl ?_
  refine RL.extract rfl rfl rfl rfl rfl ?_
  refine RL.extract rfl rfl rfl rfl rfl ?_
  refine RL.assign rfl rfl rfl rfl ?_
  refine RL.assign rfl rfl rfl rfl ?_
  refine RL.nil ?_
  refine NQ.seq ?_
  refine CW.only (.cons (k := 6) rfl (.cons (k := 7) rfl .nil)) ?_
  refine CW.seq ?_
  refine CW.seq ?_
  refine CW.region (ef := []) (bk := []) ?_
  refine RL.move rfl rfl rfl rfl ?_
  refine RL.bin rfl rfl rfl rfl rfl rfl ?_
  refine RL.nil ?_
  refine NQ.seq ?_
  refine CW.condT rfl ((by simp)) ?_
  refine CW.seq ?_
  refine CW.region (ef := []) (bk := []) ?_
  refine RL.move rfl rfl rfl rfl ?_
  refine RL.assign rfl rfl rfl rfl ?_
  refine RL.assign rfl rfl rfl rfl ?_
  refine RL.nil ?_
  refine NQ.seq ?_
  refine CW.ret ?_
  refine RQ.seq ?_
  exact RQ.post (res2 rfl rfl rfl) (Split.none _) ⟨rfl, rfl, rfl⟩
end Go.Proofs.YtkkfdoippibfkaaGreat
