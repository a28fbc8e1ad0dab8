import Derived.Test.YtkkfdoippibfkaaGreatKA
import Derived.Test.YtkkfdoippibfkaaGreatKF
namespace Go.Proofs.YtkkfdoippibfkaaGreat
open Go.PK

/-! ### Failures of sources -/
structure Lk where
  f : Int
  t : Int
  u : Int
def Lk.cells (x : Lk) : List Value := [.int .i64 x.f, .int .i64 x.t, .int .i64 x.u]
def kCells (mo ti : Int) (l : List Lk) : List Value := .int .i64 mo :: .int .i64 ti :: l.flatMap Lk.cells
abbrev kI (kb : Nat) (mo ti : Int) (l : List Lk) : It := cel kb (kCells mo ti l) 122
theorem k_get {mo ti : Int} {l : List Lk} {s j : Nat} {x : Lk} (hx : l[s]? = some x) {v : Value} (hj : x.cells[j]? = some v) (h3 : j < 3) : (kCells mo ti l)[0 + 2 + s * 3 + j]? = some v := by
  rw [show 0 + 2 + s * 3 + j = (s * 3 + j) + 1 + 1 by omega, kCells, List.getElem?_cons_succ, List.getElem?_cons_succ, get_flat (n := 3) (fun _ _ => rfl) hx h3]; exact hj
theorem k_len (mo ti : Int) (l : List Lk) : (kCells mo ti l).length = l.length * 3 + 2 := by simp [kCells, length_flat (f := Lk.cells) (n := 3) (fun _ _ => rfl)]
theorem k_split {l : List Lk} {s : Nat} {x : Lk} (hx : l[s]? = some x) : ∃ A B, l = A ++ x :: B ∧ A.length = s := by
  obtain ⟨hlt, rfl⟩ := List.getElem?_eq_some_iff.1 hx
  exact ⟨l.take s, l.drop (s + 1), by rw [← List.drop_eq_getElem_cons hlt, List.take_append_drop], by simp; omega⟩
theorem k_set {mo ti : Int} {l : List Lk} {s j : Nat} {x y : Lk} {v : Value} (hx : l[s]? = some x) (h3 : j < 3) (hy : spl x.cells j [v] = y.cells) : spl (kCells mo ti l) (0 + 2 + s * 3 + j) [v] = kCells mo ti (l.set s y) := by
  obtain ⟨A, B, rfl, rfl⟩ := k_split hx
  have e : kCells mo ti (A ++ x :: B) = (.int .i64 mo :: .int .i64 ti :: A.flatMap Lk.cells) ++ (x.cells ++ B.flatMap Lk.cells) := by simp [kCells]
  have e' : kCells mo ti ((A ++ x :: B).set A.length y) = (.int .i64 mo :: .int .i64 ti :: A.flatMap Lk.cells) ++ (y.cells ++ B.flatMap Lk.cells) := by simp [kCells]
  have hA : (.int .i64 mo :: .int .i64 ti :: A.flatMap Lk.cells : List Value).length = 0 + 2 + A.length * 3 := by simp [length_flat (f := Lk.cells) (n := 3) (fun _ _ => rfl)]; omega
  rw [e, e', ← hA, spl_app, ← hy]
  congr 1
  have hb : j < x.cells.length := h3
  rw [spl_set (by rw [List.length_append]; omega), spl_set hb, List.set_append_left _ _ hb]
def kmay (l : List Lk) (s t : Int) : Int := if mayB s = true ∧ tickB t = true then (match l[s.toNat]? with
  | some x => if t < x.u then 180 else 0
  | none => 0) else 2
theorem lfind_yes (kb : Nat) (mo ti : Int) (l : List Lk) (s : Nat) (hmo : mo ≠ 0) (h : s < 8) : Spc Tryz.prog 93 #[.pointer (some ⟨kb, 0, none⟩), .int .i64 (s : Int)] [kI kb mo ti l] [] (Is (.tuple #[.pointer (some ⟨kb, 0 + 2 + s * 3, none⟩), .int .i64 0])) := by
  refine Spc.enter Tryz.func93 rfl rfl rfl (fun w0 hw0 => ?_)
  refine CW.seq ?_
  refine CW.region (ef := []) (bk := []) ?_
  refine RL.assign rfl rfl rfl rfl ?_
  refine RL.assign rfl rfl rfl rfl ?_
  refine RL.nil ?_
  refine NQ.seq ?_
  refine CW.seq ?_
  refine CW.block ?_
  refine CW.seq ?_
  refine CW.region (ef := []) (bk := []) ?_
  refine RL.move rfl rfl rfl rfl ?_
  refine RL.cmp rfl rfl rfl rfl rfl (eql_ptr Tryz.runUnderlying66 _) ?_
  refine RL.move rfl rfl rfl rfl ?_
  apply RL.orB (d := 9) (dp := 15) (l' := (Sq.of [9])) rfl (.cons (k := 0) rfl (.cons (k := 1) rfl (.cons (k := 4) rfl (.cons (k := 5) rfl .nil))))
  ·
    intro hb3 K3
    refine RL.move rfl rfl rfl rfl ?_
    refine RL.nilCheck rfl rfl rfl rfl ?_
    refine RL.fieldAddr fa_122_0 rfl rfl rfl rfl ?_
    refine RL.loadq Tryz.isAgg3 rfl rfl rfl rfl ?_
    refine RL.bin rfl rfl rfl rfl rfl rfl ?_
    refine RL.pickF rfl rfl rfl rfl rfl ?_
    exact K3 _ (.cons rfl (.cons (k := 0) rfl (.cons (k := 1) rfl (.cons (k := 4) rfl (.cons (k := 5) rfl .nil)))))
  ·
    intro hb3 K3
    refine RL.skip rfl rfl rfl rfl ?_
    refine RL.skip rfl rfl rfl rfl ?_
    refine RL.skip rfl rfl rfl rfl ?_
    refine RL.skip rfl rfl rfl rfl ?_
    refine RL.skip rfl rfl rfl rfl ?_
    refine RL.pickT rfl rfl rfl rfl rfl ?_
    exact K3 _ (.cons rfl (.cons (k := 0) rfl (.cons (k := 1) rfl (.cons (k := 4) rfl (.cons (k := 5) rfl .nil)))))
  refine RL.assign rfl rfl rfl rfl ?_
  refine RL.nil ?_
  refine NQ.seq ?_
  refine CW.condF rfl ((by simp [hmo])) ?_
  refine CW.seq ?_
  refine CW.region (ef := []) (bk := []) ?_
  refine RL.move rfl rfl rfl rfl ?_
  refine RL.bin rfl rfl rfl rfl rfl rfl ?_
  refine RL.move rfl rfl rfl rfl ?_
  apply RL.orB (d := 19) (dp := 22) (l' := (Sq.of [6])) rfl (.cons (k := 0) rfl (.cons (k := 1) rfl (.cons (k := 4) rfl (.cons (k := 5) rfl .nil))))
  ·
    intro hb3 K3
    refine RL.move rfl rfl rfl rfl ?_
    refine RL.bin rfl rfl rfl rfl rfl rfl ?_
    refine RL.pickF rfl rfl rfl rfl rfl ?_
    exact K3 _ (.cons rfl (.cons (k := 0) rfl (.cons (k := 1) rfl (.cons (k := 4) rfl (.cons (k := 5) rfl .nil)))))
  ·
    intro hb3 K3
    refine RL.skip rfl rfl rfl rfl ?_
    refine RL.skip rfl rfl rfl rfl ?_
    refine RL.pickT rfl rfl rfl rfl rfl ?_
    exact K3 _ (.cons rfl (.cons (k := 0) rfl (.cons (k := 1) rfl (.cons (k := 4) rfl (.cons (k := 5) rfl .nil)))))
  refine RL.assign rfl rfl rfl rfl ?_
  refine RL.nil ?_
  refine NQ.seq ?_
  refine CW.condF rfl ((by simp; omega)) ?_
  refine CW.skip ?_
  refine NQ.block ?_
  refine NQ.seq ?_
  refine CW.seq ?_
  refine CW.region (ef := []) (bk := []) ?_
  refine RL.move rfl rfl rfl rfl ?_
  refine RL.move rfl rfl rfl rfl ?_
  refine RL.nilCheck rfl rfl rfl rfl ?_
  refine RL.fieldAddr fa_122_2 rfl rfl rfl rfl ?_
  refine RL.idxAAt (j := s) Tryz.runUnderlying120 Tryz.sizeOf119 rfl rfl rfl rfl rfl rfl h ?_
  refine RL.assign rfl rfl rfl rfl ?_
  refine RL.assign rfl rfl rfl rfl ?_
  refine RL.nil ?_
  refine NQ.seq ?_
  refine CW.only (.cons (k := 4) rfl (.cons (k := 5) rfl .nil)) ?_
  refine CW.ret ?_
  exact RQ.post (res2 rfl rfl rfl) (Split.none _) ⟨rfl, rfl, rfl⟩
theorem lfind_no (kb : Nat) (mo ti : Int) (l : List Lk) (s : Int) (hmo : mo ≠ 0) (h : ¬ mayB s = true) : Spc Tryz.prog 93 #[.pointer (some ⟨kb, 0, none⟩), .int .i64 s] [kI kb mo ti l] [] (Is (.tuple #[.pointer none, .int .i64 2])) := by
  refine Spc.enter Tryz.func93 rfl rfl rfl (fun w0 hw0 => ?_)
  refine CW.seq ?_
  refine CW.region (ef := []) (bk := []) ?_
  refine RL.assign rfl rfl rfl rfl ?_
  refine RL.assign rfl rfl rfl rfl ?_
  refine RL.nil ?_
  refine NQ.seq ?_
  refine CW.seq ?_
  refine CW.block ?_
  refine CW.seq ?_
  refine CW.region (ef := []) (bk := []) ?_
  refine RL.move rfl rfl rfl rfl ?_
  refine RL.cmp rfl rfl rfl rfl rfl (eql_ptr Tryz.runUnderlying66 _) ?_
  refine RL.move rfl rfl rfl rfl ?_
  apply RL.orB (d := 9) (dp := 15) (l' := (Sq.of [9])) rfl (.cons (k := 0) rfl (.cons (k := 1) rfl (.cons (k := 4) rfl (.cons (k := 5) rfl .nil))))
  ·
    intro hb3 K3
    refine RL.move rfl rfl rfl rfl ?_
    refine RL.nilCheck rfl rfl rfl rfl ?_
    refine RL.fieldAddr fa_122_0 rfl rfl rfl rfl ?_
    refine RL.loadq Tryz.isAgg3 rfl rfl rfl rfl ?_
    refine RL.bin rfl rfl rfl rfl rfl rfl ?_
    refine RL.pickF rfl rfl rfl rfl rfl ?_
    exact K3 _ (.cons rfl (.cons (k := 0) rfl (.cons (k := 1) rfl (.cons (k := 4) rfl (.cons (k := 5) rfl .nil)))))
  ·
    intro hb3 K3
    refine RL.skip rfl rfl rfl rfl ?_
    refine RL.skip rfl rfl rfl rfl ?_
    refine RL.skip rfl rfl rfl rfl ?_
    refine RL.skip rfl rfl rfl rfl ?_
    refine RL.skip rfl rfl rfl rfl ?_
    refine RL.pickT rfl rfl rfl rfl rfl ?_
    exact K3 _ (.cons rfl (.cons (k := 0) rfl (.cons (k := 1) rfl (.cons (k := 4) rfl (.cons (k := 5) rfl .nil)))))
  refine RL.assign rfl rfl rfl rfl ?_
  refine RL.nil ?_
  refine NQ.seq ?_
  refine CW.condF rfl ((by simp [hmo])) ?_
  refine CW.seq ?_
  refine CW.region (ef := []) (bk := []) ?_
  refine RL.move rfl rfl rfl rfl ?_
  refine RL.bin rfl rfl rfl rfl rfl rfl ?_
  refine RL.move rfl rfl rfl rfl ?_
  apply RL.orB (d := 19) (dp := 22) (l' := (Sq.of [6])) rfl (.cons (k := 0) rfl (.cons (k := 1) rfl (.cons (k := 4) rfl (.cons (k := 5) rfl .nil))))
  ·
    intro hb3 K3
    refine RL.move rfl rfl rfl rfl ?_
    refine RL.bin rfl rfl rfl rfl rfl rfl ?_
    refine RL.pickF rfl rfl rfl rfl rfl ?_
    exact K3 _ (.cons rfl (.cons (k := 0) rfl (.cons (k := 1) rfl (.cons (k := 4) rfl (.cons (k := 5) rfl .nil)))))
  ·
    intro hb3 K3
    refine RL.skip rfl rfl rfl rfl ?_
    refine RL.skip rfl rfl rfl rfl ?_
    refine RL.pickT rfl rfl rfl rfl rfl ?_
    exact K3 _ (.cons rfl (.cons (k := 0) rfl (.cons (k := 1) rfl (.cons (k := 4) rfl (.cons (k := 5) rfl .nil)))))
  refine RL.assign rfl rfl rfl rfl ?_
  refine RL.nil ?_
  refine NQ.seq ?_
  refine CW.condT rfl ((by simp [mayB] at h; simp; omega)) ?_
  refine CW.seq ?_
  refine CW.region (ef := []) (bk := []) ?_
  refine RL.assign rfl rfl rfl rfl ?_
  refine RL.assign rfl rfl rfl rfl ?_
  refine RL.nil ?_
  refine NQ.seq ?_
  refine CW.ret ?_
  refine RQ.block ?_
  refine RQ.seq ?_
  exact RQ.post (res2 rfl rfl rfl) (Split.none _) ⟨rfl, rfl, rfl⟩
theorem lopen_any (kb : Nat) (mo ti : Int) (l : List Lk) (s t : Int) (hmo : mo ≠ 0) (hl : l.length = 8) : Spc Tryz.prog 88 #[.pointer (some ⟨kb, 0, none⟩), .int .i64 s, .int .i64 t] [kI kb mo ti l] [] (Is (.tuple #[.pointer (if kmay l s t = 0 then some ⟨kb, 0 + 2 + s.toNat * 3, none⟩ else none), .int .i64 (kmay l s t)])) := by
  by_cases hm : mayB s = true
  · obtain ⟨n, rfl⟩ : ∃ n : Nat, s = (n : Int) := ⟨s.toNat, by simp [mayB] at hm; omega⟩
    have h8 : n < 8 := by simp [mayB] at hm; omega
    have hx := List.getElem?_eq_getElem (show n < l.length by omega)
    generalize l[n] = x at hx
    have g1 : (kCells mo ti l)[0 + 2 + n * 3 + 2]? = some (.int .i64 x.u) := k_get hx rfl (by omega)
    refine Spc.enter Tryz.func88 rfl rfl rfl (fun w0 hw0 => ?_)
    refine CW.seq ?_
    refine CW.region (ef := []) (bk := []) ?_
    refine RL.assign rfl rfl rfl rfl ?_
    refine RL.assign rfl rfl rfl rfl ?_
    refine RL.nil ?_
    refine NQ.seq ?_
    refine CW.seq ?_
    refine CW.region (ef := []) (bk := []) ?_
    refine RL.move rfl rfl rfl rfl ?_
    refine RL.move rfl rfl rfl rfl ?_
    refine RL.callvq (lfind_yes kb mo ti l n hmo h8) Tryz.call93 rfl rfl rfl rfl ?_
    refine RL.move rfl rfl rfl rfl ?_
    refine RL.extract rfl rfl rfl rfl rfl ?_
    refine RL.extract rfl rfl rfl rfl rfl ?_
    refine RL.assign rfl rfl rfl rfl ?_
    refine RL.assign rfl rfl rfl rfl ?_
    refine RL.nil ?_
    refine NQ.seq ?_
    refine CW.only (.cons (k := 2) rfl (.cons (k := 8) rfl (.cons (k := 9) rfl .nil))) ?_
    refine CW.seq ?_
    refine CW.block ?_
    refine CW.seq ?_
    refine CW.region (ef := []) (bk := []) ?_
    refine RL.move rfl rfl rfl rfl ?_
    refine RL.bin rfl rfl rfl rfl rfl rfl ?_
    refine RL.assign rfl rfl rfl rfl ?_
    refine RL.nil ?_
    refine NQ.seq ?_
    refine CW.condF rfl ((by simp)) ?_
    refine CW.seq ?_
    refine CW.region (ef := []) (bk := []) ?_
    refine RL.move rfl rfl rfl rfl ?_
    refine RL.bin rfl rfl rfl rfl rfl rfl ?_
    refine RL.move rfl rfl rfl rfl ?_
    apply RL.orB (d := 23) (dp := 26) (l' := (Sq.of [6])) rfl (.cons (k := 2) rfl (.cons (k := 8) rfl (.cons (k := 9) rfl .nil)))
    ·
      intro hb3 K3
      refine RL.move rfl rfl rfl rfl ?_
      refine RL.bin rfl rfl rfl rfl rfl rfl ?_
      refine RL.pickF rfl rfl rfl rfl rfl ?_
      exact K3 _ (.cons rfl (.cons (k := 2) rfl (.cons (k := 8) rfl (.cons (k := 9) rfl .nil))))
    ·
      intro hb3 K3
      refine RL.skip rfl rfl rfl rfl ?_
      refine RL.skip rfl rfl rfl rfl ?_
      refine RL.pickT rfl rfl rfl rfl rfl ?_
      exact K3 _ (.cons rfl (.cons (k := 2) rfl (.cons (k := 8) rfl (.cons (k := 9) rfl .nil))))
    refine RL.assign rfl rfl rfl rfl ?_
    refine RL.nil ?_
    refine NQ.seq ?_
    refine CW.cond rfl (fun ht => ?_) (fun ht => ?_)
    ·
      refine CW.seq ?_
      refine CW.region (ef := []) (bk := []) ?_
      refine RL.assign rfl rfl rfl rfl ?_
      refine RL.assign rfl rfl rfl rfl ?_
      refine RL.nil ?_
      refine NQ.seq ?_
      refine CW.ret ?_
      refine RQ.block ?_
      refine RQ.seq ?_
      have hk : kmay l (n : Int) t = 2 := by rw [kmay, if_neg]; simp [tickB]; simp at ht; intros; omega
      exact RQ.post (res2 rfl rfl rfl) (Split.none _) ⟨by rw [hk]; rfl, rfl, rfl⟩
    ·
      refine CW.seq ?_
      refine CW.region (ef := []) (bk := []) ?_
      refine RL.move rfl rfl rfl rfl ?_
      refine RL.move rfl rfl rfl rfl ?_
      refine RL.nilCheck rfl rfl rfl rfl ?_
      refine RL.fieldAddr fa_119_2 rfl rfl rfl rfl ?_
      refine RL.loadq Tryz.isAgg3 rfl rfl rfl rfl ?_
      refine RL.bin rfl rfl rfl rfl rfl rfl ?_
      refine RL.assign rfl rfl rfl rfl ?_
      refine RL.nil ?_
      refine NQ.seq ?_
      refine CW.only (.cons (k := 8) rfl (.cons (k := 9) rfl (.cons (k := 27) rfl .nil))) ?_
      have ht : tickB t = true := by simp [tickB]; simp at ht; omega
      refine CW.cond rfl (fun hu => ?_) (fun hu => ?_)
      ·
        refine CW.seq ?_
        refine CW.region (ef := []) (bk := []) ?_
        refine RL.assign rfl rfl rfl rfl ?_
        refine RL.assign rfl rfl rfl rfl ?_
        refine RL.nil ?_
        refine NQ.seq ?_
        refine CW.ret ?_
        refine RQ.block ?_
        refine RQ.seq ?_
        have hk : kmay l (n : Int) t = 180 := by rw [kmay, if_pos ⟨hm, ht⟩, Int.toNat_natCast, hx]; dsimp only; rw [if_pos (by simpa using hu)]
        exact RQ.post (res2 rfl rfl rfl) (Split.none _) ⟨by rw [hk]; rfl, rfl, rfl⟩
      ·
        refine CW.skip ?_
        refine NQ.block ?_
        refine NQ.seq ?_
        refine CW.seq ?_
        refine CW.region (ef := []) (bk := []) ?_
        refine RL.move rfl rfl rfl rfl ?_
        refine RL.move rfl rfl rfl rfl ?_
        refine RL.assign rfl rfl rfl rfl ?_
        refine RL.assign rfl rfl rfl rfl ?_
        refine RL.nil ?_
        refine NQ.seq ?_
        refine CW.ret ?_
        have hk : kmay l (n : Int) t = 0 := by rw [kmay, if_pos ⟨hm, ht⟩, Int.toNat_natCast, hx]; dsimp only; rw [if_neg (by simpa using hu)]
        exact RQ.post (res2 rfl rfl rfl) (Split.none _) ⟨by rw [hk]; rfl, rfl, rfl⟩
  · have hk : kmay l s t = 2 := by rw [kmay, if_neg (fun h => hm h.1)]
    refine Spc.enter Tryz.func88 rfl rfl rfl (fun w0 hw0 => ?_)
    refine CW.seq ?_
    refine CW.region (ef := []) (bk := []) ?_
    refine RL.assign rfl rfl rfl rfl ?_
    refine RL.assign rfl rfl rfl rfl ?_
    refine RL.nil ?_
    refine NQ.seq ?_
    refine CW.seq ?_
    refine CW.region (ef := []) (bk := []) ?_
    refine RL.move rfl rfl rfl rfl ?_
    refine RL.move rfl rfl rfl rfl ?_
    refine RL.callvq (lfind_no kb mo ti l s hmo hm) Tryz.call93 rfl rfl rfl rfl ?_
    refine RL.move rfl rfl rfl rfl ?_
    refine RL.extract rfl rfl rfl rfl rfl ?_
    refine RL.extract rfl rfl rfl rfl rfl ?_
    refine RL.assign rfl rfl rfl rfl ?_
    refine RL.assign rfl rfl rfl rfl ?_
    refine RL.nil ?_
    refine NQ.seq ?_
    refine CW.only (.cons (k := 2) rfl (.cons (k := 8) rfl (.cons (k := 9) rfl .nil))) ?_
    refine CW.seq ?_
    refine CW.block ?_
    refine CW.seq ?_
    refine CW.region (ef := []) (bk := []) ?_
    refine RL.move rfl rfl rfl rfl ?_
    refine RL.bin rfl rfl rfl rfl rfl rfl ?_
    refine RL.assign rfl rfl rfl rfl ?_
    refine RL.nil ?_
    refine NQ.seq ?_
    refine CW.condT rfl ((by simp)) ?_
    refine CW.seq ?_
    refine CW.region (ef := []) (bk := []) ?_
    refine RL.move rfl rfl rfl rfl ?_
    refine RL.assign rfl rfl rfl rfl ?_
    refine RL.assign rfl rfl rfl rfl ?_
    refine RL.nil ?_
    refine NQ.seq ?_
    refine CW.ret ?_
    refine RQ.block ?_
    refine RQ.seq ?_
    exact RQ.post (res2 rfl rfl rfl) (Split.none _) ⟨by rw [hk]; rfl, rfl, rfl⟩
theorem lmay_any (kb : Nat) (mo ti : Int) (l : List Lk) (s t : Int) (hmo : mo ≠ 0) (hl : l.length = 8) : Spc Tryz.prog 67 #[.pointer (some ⟨kb, 0, none⟩), .int .i64 s, .int .i64 t] [kI kb mo ti l] [] (Is (.int .i64 (kmay l s t))) := by
  refine Spc.enter Tryz.func67 rfl rfl rfl (fun w0 hw0 => ?_)
  refine CW.seq ?_
  refine CW.region (ef := []) (bk := []) ?_
  refine RL.assign rfl rfl rfl rfl ?_
  refine RL.nil ?_
  refine NQ.seq ?_
  refine CW.seq ?_
  refine CW.region (ef := []) (bk := []) ?_
  refine RL.move rfl rfl rfl rfl ?_
  refine RL.move rfl rfl rfl rfl ?_
  refine RL.move rfl rfl rfl rfl ?_
  refine RL.callvq (lopen_any kb mo ti l s t hmo hl) Tryz.call88 rfl rfl rfl rfl ?_
  refine RL.move rfl rfl rfl rfl ?_
  refine RL.extract rfl rfl rfl rfl rfl ?_
  refine RL.extract rfl rfl rfl rfl rfl ?_
  refine RL.assign rfl rfl rfl rfl ?_
  refine RL.assign rfl rfl rfl rfl ?_
  refine RL.nil ?_
  refine NQ.seq ?_
  refine CW.only (.cons (k := 8) rfl .nil) ?_
  refine CW.seq ?_
  refine CW.region (ef := []) (bk := []) ?_
  refine RL.move rfl rfl rfl rfl ?_
  refine RL.assign rfl rfl rfl rfl ?_
  refine RL.nil ?_
  refine NQ.seq ?_
  refine CW.ret ?_
  exact RQ.post (res1 rfl rfl) (Split.none _) ⟨rfl, rfl, rfl⟩
/-- A failure. -/
def lkFail (mo ti t : Int) (x : Lk) : Lk := if IntKind.i64.wrap (x.f + 1) = mo then ⟨0, IntKind.i64.wrap (x.t + 1), IntKind.i64.wrap (t + ti)⟩ else ⟨IntKind.i64.wrap (x.f + 1), IntKind.i64.wrap (x.t + 1), x.u⟩
def failL (mo ti : Int) (l : List Lk) (s t : Int) : List Lk := if kmay l s t = 0 then (match l[s.toNat]? with
  | some x => l.set s.toNat (lkFail mo ti t x)
  | none => l) else l
def goodL (l : List Lk) (s : Int) : List Lk := if mayB s = true then (match l[s.toNat]? with
  | some x => l.set s.toNat { x with f := 0 }
  | none => l) else l
theorem failL_len (mo ti : Int) (l : List Lk) (s t : Int) : (failL mo ti l s t).length = l.length := by
  unfold failL
  split
  · split <;> simp
  · rfl
theorem goodL_len (l : List Lk) (s : Int) : (goodL l s).length = l.length := by
  unfold goodL
  split
  · split <;> simp
  · rfl
def KR (kb : Nat) (mo ti : Int) (l : List Lk) (x : Int) : Value → List It → List It → Prop := fun v I' H' => v = .int .i64 x ∧ I' = [] ∧ H' = [kI kb mo ti l]
theorem kmay_zero {l : List Lk} {s t : Int} (h : kmay l s t = 0) : mayB s = true ∧ tickB t = true := by
  by_cases hc : mayB s = true ∧ tickB t = true
  · exact hc
  · rw [kmay, if_neg hc] at h; cases h
theorem lfail_any (kb : Nat) (mo ti : Int) (l : List Lk) (s t : Int) (hmo : mo ≠ 0) (hl : l.length = 8) : Spc Tryz.prog 91 #[.pointer (some ⟨kb, 0, none⟩), .int .i64 s, .int .i64 t] [] [kI kb mo ti l] (KR kb mo ti (failL mo ti l s t) (kmay l s t)) := by
  by_cases hk : kmay l s t = 0
  · obtain ⟨hm, ht⟩ := kmay_zero hk
    obtain ⟨n, rfl⟩ : ∃ n : Nat, s = (n : Int) := ⟨s.toNat, by simp [mayB] at hm; omega⟩
    have h8 : n < 8 := by simp [mayB] at hm; omega
    have hx := List.getElem?_eq_getElem (show n < l.length by omega)
    have hx0 := hx
    generalize l[n] = x at hx hx0
    have hlt : n < l.length := by omega
    have g0 : (kCells mo ti l)[0 + 2 + n * 3 + 0]? = some (.int .i64 x.f) := k_get hx rfl (by omega)
    refine Spc.enter Tryz.func91 rfl rfl rfl (fun w0 hw0 => ?_)
    refine CW.seq ?_
    refine CW.region (ef := []) (bk := []) ?_
    refine RL.assign rfl rfl rfl rfl ?_
    refine RL.nil ?_
    refine NQ.seq ?_
    refine CW.seq ?_
    refine CW.region (ef := []) (bk := []) ?_
    refine RL.move rfl rfl rfl rfl ?_
    refine RL.move rfl rfl rfl rfl ?_
    refine RL.move rfl rfl rfl rfl ?_
    refine RL.callvq (lopen_any kb mo ti l (n : Int) t hmo hl) Tryz.call88 rfl rfl rfl rfl ?_
    refine RL.move rfl rfl rfl rfl ?_
    refine RL.extract rfl rfl rfl rfl rfl ?_
    refine RL.extract rfl rfl rfl rfl rfl ?_
    refine RL.assign rfl rfl rfl rfl ?_
    refine RL.assign rfl rfl rfl rfl ?_
    refine RL.nil ?_
    refine NQ.seq ?_
    refine CW.only (.cons (k := 0) rfl (.cons (k := 2) rfl (.cons (k := 7) rfl (.cons (k := 8) rfl .nil)))) ?_
    refine CW.seq ?_
    refine CW.seq ?_
    rw [hk, if_pos rfl, Int.toNat_natCast]
    refine CW.region (ef := []) (bk := []) ?_
    refine RL.move rfl rfl rfl rfl ?_
    refine RL.bin rfl rfl rfl rfl rfl rfl ?_
    refine RL.nil ?_
    refine NQ.seq ?_
    refine CW.condF rfl ((by simp)) ?_
    refine CW.skip ?_
    refine NQ.seq ?_
    refine CW.seq ?_
    refine CW.region (ef := [7]) (bk := [7]) ?_
    refine RL.move rfl rfl rfl rfl ?_
    refine RL.nilCheck rfl rfl rfl rfl ?_
    refine RL.fieldAddr fa_119_0 rfl rfl rfl rfl ?_
    refine RL.loadq Tryz.isAgg3 rfl rfl rfl rfl ?_
    refine RL.bin rfl rfl rfl rfl rfl rfl ?_
    refine RL.nilCheck rfl rfl rfl rfl ?_
    refine RL.fieldAddr fa_119_0 rfl rfl rfl rfl ?_
    have hx1 : (l.set n ⟨IntKind.i64.wrap (x.f + 1), x.t, x.u⟩)[n]? = some ⟨IntKind.i64.wrap (x.f + 1), x.t, x.u⟩ := by simp [hlt]
    have g1 : (kCells mo ti (l.set n ⟨IntKind.i64.wrap (x.f + 1), x.t, x.u⟩))[0 + 2 + n * 3 + 1]? = some (.int .i64 x.t) := k_get hx1 rfl (by omega)
    have hx2 : ((l.set n ⟨IntKind.i64.wrap (x.f + 1), x.t, x.u⟩).set n ⟨IntKind.i64.wrap (x.f + 1), IntKind.i64.wrap (x.t + 1), x.u⟩)[n]? = some ⟨IntKind.i64.wrap (x.f + 1), IntKind.i64.wrap (x.t + 1), x.u⟩ := by simp [hlt]
    have g2 : (kCells mo ti ((l.set n ⟨IntKind.i64.wrap (x.f + 1), x.t, x.u⟩).set n ⟨IntKind.i64.wrap (x.f + 1), IntKind.i64.wrap (x.t + 1), x.u⟩))[0 + 2 + n * 3 + 0]? = some (.int .i64 (IntKind.i64.wrap (x.f + 1))) := k_get hx2 rfl (by omega)
    have hx3 : (((l.set n ⟨IntKind.i64.wrap (x.f + 1), x.t, x.u⟩).set n ⟨IntKind.i64.wrap (x.f + 1), IntKind.i64.wrap (x.t + 1), x.u⟩).set n ⟨0, IntKind.i64.wrap (x.t + 1), x.u⟩)[n]? = some ⟨0, IntKind.i64.wrap (x.t + 1), x.u⟩ := by simp [hlt]
    refine RL.storeX (vs := [_]) (k_set hx (j := 0) (by decide) (y := ⟨IntKind.i64.wrap (x.f + 1), x.t, x.u⟩) rfl) Tryz.sizeOf3 rfl rfl rfl rfl rfl rfl rfl rfl (by repeat (first | exact Upd.here | apply Upd.there)) (by rw [k_len]; simp; omega) ?_
    refine RL.nil ?_
    refine NQ.seq ?_
    refine CW.only (.cons (k := 0) rfl (.cons (k := 2) rfl (.cons (k := 7) rfl (.cons (k := 8) rfl .nil)))) ?_
    refine CW.seq ?_
    refine CW.region (ef := [7]) (bk := [7]) ?_
    refine RL.move rfl rfl rfl rfl ?_
    refine RL.nilCheck rfl rfl rfl rfl ?_
    refine RL.fieldAddr fa_119_1 rfl rfl rfl rfl ?_
    refine RL.loadq Tryz.isAgg3 rfl rfl rfl rfl ?_
    refine RL.bin rfl rfl rfl rfl rfl rfl ?_
    refine RL.nilCheck rfl rfl rfl rfl ?_
    refine RL.fieldAddr fa_119_1 rfl rfl rfl rfl ?_
    refine RL.storeX (vs := [_]) (k_set hx1 (j := 1) (by decide) (y := ⟨IntKind.i64.wrap (x.f + 1), IntKind.i64.wrap (x.t + 1), x.u⟩) rfl) Tryz.sizeOf3 rfl rfl rfl rfl rfl rfl rfl rfl (by repeat (first | exact Upd.here | apply Upd.there)) (by rw [k_len]; simp; omega) ?_
    refine RL.nil ?_
    refine NQ.seq ?_
    refine CW.only (.cons (k := 0) rfl (.cons (k := 2) rfl (.cons (k := 7) rfl (.cons (k := 8) rfl .nil)))) ?_
    refine CW.seq ?_
    refine CW.seq ?_
    refine CW.regionD (Sq.of [0, 1, 2, 3, 4, 5, 6, 7, 8]) [] [] [0, 1, 2, 4, 5, 6, 8] mixed (by kernel_rfl) ?_
    refine RL.move rfl rfl rfl rfl ?_
    refine RL.nilCheck rfl rfl rfl rfl ?_
    refine RL.fieldAddr fa_119_0 rfl rfl rfl rfl ?_
    refine RL.loadq Tryz.isAgg3 rfl rfl rfl rfl ?_
    refine RL.move rfl rfl rfl rfl ?_
    refine RL.nilCheck rfl rfl rfl rfl ?_
    refine RL.fieldAddr fa_122_0 rfl rfl rfl rfl ?_
    refine RL.loadq Tryz.isAgg3 rfl rfl rfl rfl ?_
    refine RL.bin rfl rfl rfl rfl rfl rfl ?_
    refine RL.nil ?_
    refine NQ.seq ?_
    refine CW.only (.cons (k := 0) rfl (.cons (k := 2) rfl (.cons (k := 7) rfl (.cons (k := 8) rfl (.cons (k := 41) rfl .nil))))) ?_
    refine CW.cond rfl (fun he => ?_) (fun he => ?_)
    ·
      refine CW.region (ef := [10, 13]) (bk := [10, 13]) ?_
      refine RL.move rfl rfl rfl rfl ?_
      refine RL.move rfl rfl rfl rfl ?_
      refine RL.move rfl rfl rfl rfl ?_
      refine RL.move rfl rfl rfl rfl ?_
      refine RL.nilCheck rfl rfl rfl rfl ?_
      refine RL.fieldAddr fa_122_1 rfl rfl rfl rfl ?_
      refine RL.loadq Tryz.isAgg3 rfl rfl rfl rfl ?_
      refine RL.bin rfl rfl rfl rfl rfl rfl ?_
      refine RL.nilCheck rfl rfl rfl rfl ?_
      refine RL.fieldAddr fa_119_0 rfl rfl rfl rfl ?_
      have he : IntKind.i64.wrap (x.f + 1) = mo := by simpa using he
      refine RL.storeX (vs := [_]) (k_set hx2 (j := 0) (by decide) (y := ⟨0, IntKind.i64.wrap (x.t + 1), x.u⟩) rfl) Tryz.sizeOf3 rfl rfl rfl rfl rfl rfl rfl rfl (by repeat (first | exact Upd.here | apply Upd.there)) (by rw [k_len]; simp; omega) ?_
      refine RL.nilCheck rfl rfl rfl rfl ?_
      refine RL.fieldAddr fa_119_2 rfl rfl rfl rfl ?_
      refine RL.storeX (vs := [_]) (k_set hx3 (j := 2) (by decide) (y := ⟨0, IntKind.i64.wrap (x.t + 1), IntKind.i64.wrap (t + ti)⟩) rfl) Tryz.sizeOf3 rfl rfl rfl rfl rfl rfl rfl rfl (by repeat (first | exact Upd.here | apply Upd.there)) (by rw [k_len]; simp; omega) ?_
      refine RL.nil ?_
      refine NQ.seq ?_
      refine CW.only (.cons (k := 8) rfl .nil) ?_
      refine CW.seq ?_
      refine CW.region (ef := []) (bk := []) ?_
      refine RL.move rfl rfl rfl rfl ?_
      refine RL.assign rfl rfl rfl rfl ?_
      refine RL.nil ?_
      refine NQ.seq ?_
      refine CW.ret ?_
      exact RQ.post (res1 rfl rfl) (.keep .nil) ⟨rfl, rfl, by rw [failL, if_pos hk, Int.toNat_natCast, hx0]; dsimp only; rw [lkFail, if_pos he]; simp⟩
    ·
      refine CW.skip ?_
      refine NQ.seq ?_
      refine CW.seq ?_
      refine CW.region (ef := []) (bk := []) ?_
      refine RL.move rfl rfl rfl rfl ?_
      refine RL.assign rfl rfl rfl rfl ?_
      refine RL.nil ?_
      refine NQ.seq ?_
      refine CW.only (.cons (k := 6) rfl .nil) ?_
      refine CW.ret ?_
      have he : ¬ IntKind.i64.wrap (x.f + 1) = mo := by simpa using he
      exact RQ.post (res1 rfl rfl) (.keep .nil) ⟨rfl, rfl, by rw [failL, if_pos hk, Int.toNat_natCast, hx0]; dsimp only; rw [lkFail, if_neg he]; simp⟩
  · have hmo' := hmo
    refine Spc.enter Tryz.func91 rfl rfl rfl (fun w0 hw0 => ?_)
    refine CW.seq ?_
    refine CW.region (ef := []) (bk := []) ?_
    refine RL.assign rfl rfl rfl rfl ?_
    refine RL.nil ?_
    refine NQ.seq ?_
    refine CW.seq ?_
    refine CW.region (ef := []) (bk := []) ?_
    refine RL.move rfl rfl rfl rfl ?_
    refine RL.move rfl rfl rfl rfl ?_
    refine RL.move rfl rfl rfl rfl ?_
    refine RL.callvq (lopen_any kb mo ti l s t hmo hl) Tryz.call88 rfl rfl rfl rfl ?_
    refine RL.move rfl rfl rfl rfl ?_
    refine RL.extract rfl rfl rfl rfl rfl ?_
    refine RL.extract rfl rfl rfl rfl rfl ?_
    refine RL.assign rfl rfl rfl rfl ?_
    refine RL.assign rfl rfl rfl rfl ?_
    refine RL.nil ?_
    refine NQ.seq ?_
    refine CW.only (.cons (k := 0) rfl (.cons (k := 2) rfl (.cons (k := 7) rfl (.cons (k := 8) rfl .nil)))) ?_
    refine CW.seq ?_
    refine CW.seq ?_
    refine CW.region (ef := []) (bk := []) ?_
    refine RL.move rfl rfl rfl rfl ?_
    refine RL.bin rfl rfl rfl rfl rfl rfl ?_
    refine RL.nil ?_
    refine NQ.seq ?_
    refine CW.condT rfl ((by simp [hk])) ?_
    refine CW.seq ?_
    refine CW.region (ef := []) (bk := []) ?_
    refine RL.move rfl rfl rfl rfl ?_
    refine RL.assign rfl rfl rfl rfl ?_
    refine RL.nil ?_
    refine NQ.seq ?_
    refine CW.ret ?_
    refine RQ.seq ?_
    exact RQ.post (res1 rfl rfl) (.keep .nil) ⟨rfl, rfl, by rw [failL, if_neg hk]⟩
theorem lgood_any (kb : Nat) (mo ti : Int) (l : List Lk) (s : Int) (hmo : mo ≠ 0) (hl : l.length = 8) : Spc Tryz.prog 70 #[.pointer (some ⟨kb, 0, none⟩), .int .i64 s] [] [kI kb mo ti l] (KR kb mo ti (goodL l s) (if mayB s = true then 0 else 2)) := by
  by_cases hm : mayB s = true
  · rw [if_pos hm]
    obtain ⟨n, rfl⟩ : ∃ n : Nat, s = (n : Int) := ⟨s.toNat, by simp [mayB] at hm; omega⟩
    have h8 : n < 8 := by simp [mayB] at hm; omega
    have hx := List.getElem?_eq_getElem (show n < l.length by omega)
    generalize l[n] = x at hx
    refine Spc.enter Tryz.func70 rfl rfl rfl (fun w0 hw0 => ?_)
    refine CW.seq ?_
    refine CW.region (ef := []) (bk := []) ?_
    refine RL.assign rfl rfl rfl rfl ?_
    refine RL.nil ?_
    refine NQ.seq ?_
    refine CW.seq ?_
    refine CW.region (ef := []) (bk := []) ?_
    refine RL.move rfl rfl rfl rfl ?_
    refine RL.move rfl rfl rfl rfl ?_
    refine RL.callvq (lfind_yes kb mo ti l n hmo h8) Tryz.call93 rfl rfl rfl rfl ?_
    refine RL.move rfl rfl rfl rfl ?_
    refine RL.extract rfl rfl rfl rfl rfl ?_
    refine RL.extract rfl rfl rfl rfl rfl ?_
    refine RL.assign rfl rfl rfl rfl ?_
    refine RL.assign rfl rfl rfl rfl ?_
    refine RL.nil ?_
    refine NQ.seq ?_
    refine CW.only (.cons (k := 5) rfl (.cons (k := 6) rfl .nil)) ?_
    refine CW.seq ?_
    refine CW.seq ?_
    refine CW.region (ef := []) (bk := []) ?_
    refine RL.move rfl rfl rfl rfl ?_
    refine RL.bin rfl rfl rfl rfl rfl rfl ?_
    refine RL.nil ?_
    refine NQ.seq ?_
    refine CW.condT rfl ((by simp)) ?_
    refine CW.region (ef := [3]) (bk := [3]) ?_
    refine RL.move rfl rfl rfl rfl ?_
    refine RL.nilCheck rfl rfl rfl rfl ?_
    refine RL.fieldAddr fa_119_0 rfl rfl rfl rfl ?_
    refine RL.storeX (vs := [_]) (k_set hx (j := 0) (by decide) (y := { x with f := 0 }) rfl) Tryz.sizeOf3 rfl rfl rfl rfl rfl rfl rfl rfl (by repeat (first | exact Upd.here | apply Upd.there)) (by rw [k_len]; simp; omega) ?_
    refine RL.nil ?_
    refine NQ.seq ?_
    refine CW.only (.cons (k := 6) rfl .nil) ?_
    refine CW.seq ?_
    refine CW.region (ef := []) (bk := []) ?_
    refine RL.move rfl rfl rfl rfl ?_
    refine RL.assign rfl rfl rfl rfl ?_
    refine RL.nil ?_
    refine NQ.seq ?_
    refine CW.ret ?_
    exact RQ.post (res1 rfl rfl) (.keep .nil) ⟨rfl, rfl, by rw [goodL, if_pos hm, Int.toNat_natCast, hx]⟩
  · rw [if_neg hm]
    refine Spc.enter Tryz.func70 rfl rfl rfl (fun w0 hw0 => ?_)
    refine CW.seq ?_
    refine CW.region (ef := []) (bk := []) ?_
    refine RL.assign rfl rfl rfl rfl ?_
    refine RL.nil ?_
    refine NQ.seq ?_
    refine CW.seq ?_
    refine CW.region (ef := []) (bk := []) ?_
    refine RL.move rfl rfl rfl rfl ?_
    refine RL.move rfl rfl rfl rfl ?_
    refine RL.callvq (lfind_no kb mo ti l s hmo hm) Tryz.call93 rfl rfl rfl rfl ?_
    refine RL.move rfl rfl rfl rfl ?_
    refine RL.extract rfl rfl rfl rfl rfl ?_
    refine RL.extract rfl rfl rfl rfl rfl ?_
    refine RL.assign rfl rfl rfl rfl ?_
    refine RL.assign rfl rfl rfl rfl ?_
    refine RL.nil ?_
    refine NQ.seq ?_
    refine CW.only (.cons (k := 5) rfl (.cons (k := 6) rfl .nil)) ?_
    refine CW.seq ?_
    refine CW.seq ?_
    refine CW.region (ef := []) (bk := []) ?_
    refine RL.move rfl rfl rfl rfl ?_
    refine RL.bin rfl rfl rfl rfl rfl rfl ?_
    refine RL.nil ?_
    refine NQ.seq ?_
    refine CW.condF rfl ((by simp)) ?_
    refine CW.skip ?_
    refine NQ.seq ?_
    refine CW.seq ?_
    refine CW.region (ef := []) (bk := []) ?_
    refine RL.move rfl rfl rfl rfl ?_
    refine RL.assign rfl rfl rfl rfl ?_
    refine RL.nil ?_
    refine NQ.seq ?_
    refine CW.ret ?_
    exact RQ.post (res1 rfl rfl) (.keep .nil) ⟨rfl, rfl, by rw [goodL, if_neg hm]⟩
end Go.Proofs.YtkkfdoippibfkaaGreat

namespace Go.Proofs.YtkkfdoippibfkaaGreat
open Go.PK

/-! ### Marks of sources -/
def mkV (p : Nat × Nat) : Value := .agg #[.int .u32 (p.1 : Int), .int .u64 (p.2 : Int)]
abbrev Marks := Int → Option (Nat × Nat)
def MRel (cm : List (Value × Value)) (M : Marks) : Prop := ∀ s, lookV (.int .i64 s) cm = (M s).map mkV
abbrev tabI (tb mt : Nat) : It := cel tb [.map (some mt)] 129
abbrev mksI (mt : Nat) (cm : List (Value × Value)) : It := mapI mt goodI cm
def gtB (p q : Nat × Nat) : Bool := if p.1 ≠ q.1 then decide (p.1 > q.1) else decide (p.2 > q.2)
def mmay (M : Marks) (s : Int) (p : Nat × Nat) : Int := if mayB s = true then (match M s with
  | some q => if gtB p q = true then 0 else 170
  | none => 0) else 2
def updM (M : Marks) (s : Int) (p : Nat × Nat) : Marks := fun s' => if s' = s then some p else M s'
theorem MRel.set {cm : List (Value × Value)} {M : Marks} (h : MRel cm M) (s : Int) (p : Nat × Nat) : MRel (setV (.int .i64 s) (mkV p) cm) (updM M s p) := fun s' => by
  rw [look_set, updM]
  by_cases e : s' = s
  · subst e; rw [if_pos rfl, if_pos rfl]; rfl
  · rw [if_neg e, if_neg (by simpa using e)]; exact h s'
theorem ris_any (tb mt : Nat) : Spc Tryz.prog 62 #[.pointer (some ⟨tb, 0, none⟩)] [tabI tb mt] [] (Is (.bool true)) := by
  refine Spc.enter Tryz.func62 rfl rfl rfl (fun w0 hw0 => ?_)
  refine CW.seq ?_
  refine CW.region (ef := []) (bk := []) ?_
  refine RL.assign rfl rfl rfl rfl ?_
  refine RL.nil ?_
  refine NQ.seq ?_
  refine CW.seq ?_
  refine CW.region (ef := []) (bk := []) ?_
  refine RL.move rfl rfl rfl rfl ?_
  refine RL.cmp rfl rfl rfl rfl rfl (neq_ptr Tryz.runUnderlying71 _) ?_
  refine RL.move rfl rfl rfl rfl ?_
  apply RL.andB (d := 5) (dp := 11) (l' := (Sq.of [9])) rfl (.cons (k := 2) rfl .nil)
  ·
    intro hb3 K3
    refine RL.move rfl rfl rfl rfl ?_
    refine RL.nilCheck rfl rfl rfl rfl ?_
    refine RL.fieldAddr fa_129_0 rfl rfl rfl rfl ?_
    refine RL.loadq Tryz.isAgg127 rfl rfl rfl rfl ?_
    refine RL.cmp rfl rfl rfl rfl rfl (neq_map Tryz.runUnderlying127 _) ?_
    refine RL.pickT rfl rfl rfl rfl rfl ?_
    exact K3 _ (.cons rfl (.cons (k := 2) rfl .nil))
  ·
    intro hb3 K3
    refine RL.skip rfl rfl rfl rfl ?_
    refine RL.skip rfl rfl rfl rfl ?_
    refine RL.skip rfl rfl rfl rfl ?_
    refine RL.skip rfl rfl rfl rfl ?_
    refine RL.skip rfl rfl rfl rfl ?_
    refine RL.pickF rfl rfl rfl rfl rfl ?_
    exact K3 _ (.cons rfl (.cons (k := 2) rfl .nil))
  refine RL.assign rfl rfl rfl rfl ?_
  refine RL.nil ?_
  refine NQ.seq ?_
  refine CW.ret ?_
  exact RQ.post (res1 rfl rfl) (Split.none _) ⟨rfl, rfl, rfl⟩
theorem rpmay_any (tb mt : Nat) (s : Int) : Spc Tryz.prog 79 #[.pointer (some ⟨tb, 0, none⟩), .int .i64 s] [tabI tb mt] [] (Is (.int .i64 (if mayB s = true then 0 else 2))) := by
  refine Spc.enter Tryz.func79 rfl rfl rfl (fun w0 hw0 => ?_)
  refine CW.seq ?_
  refine CW.region (ef := []) (bk := []) ?_
  refine RL.assign rfl rfl rfl rfl ?_
  refine RL.nil ?_
  refine NQ.seq ?_
  refine CW.seq ?_
  refine CW.block ?_
  refine CW.seq ?_
  refine CW.region (ef := []) (bk := []) ?_
  refine RL.move rfl rfl rfl rfl ?_
  refine RL.callvq (ris_any tb mt) Tryz.call62 rfl rfl rfl rfl ?_
  refine RL.not rfl rfl rfl rfl ?_
  refine RL.assign rfl rfl rfl rfl ?_
  refine RL.nil ?_
  refine NQ.seq ?_
  refine CW.condF rfl ((by simp)) ?_
  refine CW.seq ?_
  refine CW.region (ef := []) (bk := []) ?_
  refine RL.move rfl rfl rfl rfl ?_
  refine RL.bin rfl rfl rfl rfl rfl rfl ?_
  refine RL.move rfl rfl rfl rfl ?_
  apply RL.orB (d := 12) (dp := 15) (l' := (Sq.of [6])) rfl (.cons (k := 4) rfl .nil)
  ·
    intro hb3 K3
    refine RL.move rfl rfl rfl rfl ?_
    refine RL.bin rfl rfl rfl rfl rfl rfl ?_
    refine RL.pickF rfl rfl rfl rfl rfl ?_
    exact K3 _ (.cons rfl (.cons (k := 4) rfl .nil))
  ·
    intro hb3 K3
    refine RL.skip rfl rfl rfl rfl ?_
    refine RL.skip rfl rfl rfl rfl ?_
    refine RL.pickT rfl rfl rfl rfl rfl ?_
    exact K3 _ (.cons rfl (.cons (k := 4) rfl .nil))
  refine RL.assign rfl rfl rfl rfl ?_
  refine RL.nil ?_
  refine NQ.seq ?_
  refine CW.cond rfl (fun h => ?_) (fun h => ?_)
  ·
    refine CW.seq ?_
    refine CW.region (ef := []) (bk := []) ?_
    refine RL.assign rfl rfl rfl rfl ?_
    refine RL.nil ?_
    refine NQ.seq ?_
    refine CW.ret ?_
    refine RQ.block ?_
    refine RQ.seq ?_
    exact RQ.post (res1 rfl rfl) (Split.none _) ⟨by rw [if_neg (by simp [mayB]; simp at h; omega)], rfl, rfl⟩
  ·
    refine CW.skip ?_
    refine NQ.block ?_
    refine NQ.seq ?_
    refine CW.seq ?_
    refine CW.region (ef := []) (bk := []) ?_
    refine RL.assign rfl rfl rfl rfl ?_
    refine RL.nil ?_
    refine NQ.seq ?_
    refine CW.ret ?_
    exact RQ.post (res1 rfl rfl) (Split.none _) ⟨by rw [if_pos (by simp [mayB]; simp at h; omega)], rfl, rfl⟩
theorem greater_any (p q : Nat × Nat) : Spc Tryz.prog 15 #[mkV p, mkV q] [] [] (Is (.bool (gtB p q))) := by
  obtain ⟨a, b⟩ := p
  obtain ⟨c, d⟩ := q
  refine Spc.enter Tryz.func15 rfl rfl rfl (fun w0 hw0 => ?_)
  refine CW.seq ?_
  refine CW.region (ef := [0, 1]) (bk := []) ?_
  refine RL.box rfl rfl rfl rfl rfl rfl ?_
  intro b1
  refine RL.box rfl rfl rfl rfl rfl rfl ?_
  intro b2
  refine RL.assign rfl rfl rfl rfl ?_
  refine RL.nil ?_
  refine NQ.seq ?_
  refine CW.seq ?_
  refine CW.seq ?_
  refine CW.region (ef := []) (bk := []) ?_
  refine RL.fieldAddr fa_40_0 rfl rfl rfl rfl ?_
  refine RL.loadq Tryz.isAgg32 rfl rfl rfl rfl ?_
  refine RL.fieldAddr fa_40_0 rfl rfl rfl rfl ?_
  refine RL.loadq Tryz.isAgg32 rfl rfl rfl rfl ?_
  refine RL.bin rfl rfl rfl rfl rfl rfl ?_
  refine RL.nil ?_
  refine NQ.seq ?_
  refine CW.only (.cons (k := 2) rfl (.cons (k := 3) rfl (.cons (k := 4) rfl (.cons (k := 9) rfl .nil)))) ?_
  refine CW.cond rfl (fun h => ?_) (fun h => ?_)
  ·
    refine CW.seq ?_
    refine CW.region (ef := []) (bk := []) ?_
    refine RL.fieldAddr fa_40_0 rfl rfl rfl rfl ?_
    refine RL.loadq Tryz.isAgg32 rfl rfl rfl rfl ?_
    refine RL.fieldAddr fa_40_0 rfl rfl rfl rfl ?_
    refine RL.loadq Tryz.isAgg32 rfl rfl rfl rfl ?_
    refine RL.bin rfl rfl rfl rfl rfl rfl ?_
    refine RL.assign rfl rfl rfl rfl ?_
    refine RL.nil ?_
    refine NQ.seq ?_
    refine CW.only (.cons (k := 2) rfl (.cons (k := 3) rfl (.cons (k := 4) rfl .nil))) ?_
    refine CW.ret ?_
    refine RQ.seq ?_
    have h : a ≠ c := by simp at h; omega
    exact RQ.post (res1 rfl rfl) (Split.none _) ⟨by simp [gtB, h], rfl, rfl⟩
  ·
    refine CW.skip ?_
    refine NQ.seq ?_
    refine CW.seq ?_
    refine CW.region (ef := []) (bk := []) ?_
    refine RL.fieldAddr fa_40_1 rfl rfl rfl rfl ?_
    refine RL.loadq Tryz.isAgg33 rfl rfl rfl rfl ?_
    refine RL.fieldAddr fa_40_1 rfl rfl rfl rfl ?_
    refine RL.loadq Tryz.isAgg33 rfl rfl rfl rfl ?_
    refine RL.bin rfl rfl rfl rfl rfl rfl ?_
    refine RL.assign rfl rfl rfl rfl ?_
    refine RL.nil ?_
    refine NQ.seq ?_
    refine CW.only (.cons (k := 4) rfl .nil) ?_
    refine CW.ret ?_
    have h : a = c := by simp at h; omega
    exact RQ.post (res1 rfl rfl) (Split.none _) ⟨by simp [gtB, h], rfl, rfl⟩
theorem rMay_any (tb mt : Nat) (cm : List (Value × Value)) (M : Marks) (s : Int) (p : Nat × Nat) (hM : MRel cm M) : Spc Tryz.prog 92 #[.pointer (some ⟨tb, 0, none⟩), .int .i64 s, mkV p] [tabI tb mt, mksI mt cm] [] (Is (.int .i64 (mmay M s p))) := by
  obtain ⟨a, b⟩ := p
  by_cases hm : mayB s = true
  · have hm0 : mayB s = true := hm
    refine Spc.enter Tryz.func92 rfl rfl rfl (fun w0 hw0 => ?_)
    refine CW.seq ?_
    refine CW.region (ef := [0]) (bk := []) ?_
    refine RL.box rfl rfl rfl rfl rfl rfl ?_
    intro b1
    refine RL.assign rfl rfl rfl rfl ?_
    refine RL.nil ?_
    refine NQ.seq ?_
    refine CW.seq ?_
    refine CW.seq ?_
    refine CW.region (ef := []) (bk := []) ?_
    refine RL.move rfl rfl rfl rfl ?_
    refine RL.move rfl rfl rfl rfl ?_
    refine RL.callvq (rpmay_any tb mt s) Tryz.call79 rfl rfl rfl rfl ?_
    refine RL.assign rfl rfl rfl rfl ?_
    refine RL.nil ?_
    refine NQ.seq ?_
    refine CW.seq ?_
    refine CW.region (ef := []) (bk := []) ?_
    refine RL.move rfl rfl rfl rfl ?_
    refine RL.bin rfl rfl rfl rfl rfl rfl ?_
    refine RL.nil ?_
    refine NQ.seq ?_
    refine CW.condF rfl ((by rw [if_pos hm0]; rfl)) ?_
    refine CW.skip ?_
    refine NQ.seq ?_
    refine CW.only (.cons (k := 0) rfl (.cons (k := 1) rfl (.cons (k := 5) rfl .nil))) ?_
    refine CW.seq ?_
    refine CW.seq ?_
    refine CW.region (ef := [9, 10]) (bk := [10]) ?_
    refine RL.move rfl rfl rfl rfl ?_
    refine RL.nilCheck rfl rfl rfl rfl ?_
    refine RL.fieldAddr fa_129_0 rfl rfl rfl rfl ?_
    refine RL.loadq Tryz.isAgg127 rfl rfl rfl rfl ?_
    refine RL.move rfl rfl rfl rfl ?_
    refine RL.lookupOk keyI Tryz.runUnderlying127 Tryz.zeroValue40 rfl rfl rfl rfl rfl ⟨s, rfl⟩ (MapAt.told (by repeat (first | exact List.Mem.head _ | apply List.Mem.tail))) ?_
    rw [show lookV (.int .i64 s) cm = _ from hM s]
    cases hq : M s with
    | none =>
      refine RL.move rfl rfl rfl rfl ?_
      refine RL.extract rfl rfl rfl rfl rfl ?_
      refine RL.extract rfl rfl rfl rfl rfl ?_
      refine RL.alloc Tryz.zeroValue40 rfl rfl rfl rfl rfl ?_
      intro b2
      refine RL.store (vs := [_, _]) Tryz.sizeOf40 rfl rfl rfl rfl rfl rfl rfl rfl rfl (by repeat (first | exact Upd.here | apply Upd.there)) ?_
      refine RL.assign rfl rfl rfl rfl ?_
      refine RL.nil ?_
      refine NQ.seq ?_
      refine CW.only (.cons (k := 5) rfl (.cons (k := 8) rfl (.cons (k := 9) rfl .nil))) ?_
      refine CW.seq ?_
      refine CW.region (ef := [4]) (bk := []) ?_
      refine RL.move rfl rfl rfl rfl ?_
      refine RL.move rfl rfl rfl rfl ?_
      refine RL.cast (d := 26) (v' := .bool false) rfl (rfl) ?_
      refine RL.skip rfl rfl rfl rfl ?_
      refine RL.skip rfl rfl rfl rfl ?_
      refine RL.skip rfl rfl rfl rfl ?_
      refine RL.skip rfl rfl rfl rfl ?_
      refine RL.pickF rfl rfl rfl rfl rfl ?_
      refine RL.nil ?_
      refine NQ.seq ?_
      refine CW.only (.cons (k := 31) rfl .nil) ?_
      refine CW.condF rfl rfl ?_
      refine CW.skip ?_
      refine NQ.seq ?_
      refine CW.seq ?_
      refine CW.region (ef := []) (bk := []) ?_
      refine RL.assign rfl rfl rfl rfl ?_
      refine RL.nil ?_
      refine NQ.seq ?_
      refine CW.ret ?_
      exact RQ.post (res1 rfl rfl) (Split.none _) ⟨by rw [mmay, if_pos hm0, hq], rfl, rfl⟩
    | some q =>
      obtain ⟨c, d⟩ := q
      refine RL.move rfl rfl rfl rfl ?_
      refine RL.extract rfl rfl rfl rfl rfl ?_
      refine RL.extract rfl rfl rfl rfl rfl ?_
      refine RL.alloc Tryz.zeroValue40 rfl rfl rfl rfl rfl ?_
      intro b2
      refine RL.store (vs := [_, _]) Tryz.sizeOf40 rfl rfl rfl rfl rfl rfl rfl rfl rfl (by repeat (first | exact Upd.here | apply Upd.there)) ?_
      refine RL.assign rfl rfl rfl rfl ?_
      refine RL.nil ?_
      refine NQ.seq ?_
      refine CW.only (.cons (k := 5) rfl (.cons (k := 8) rfl (.cons (k := 9) rfl .nil))) ?_
      refine CW.seq ?_
      refine CW.region (ef := []) (bk := []) ?_
      refine RL.move rfl rfl rfl rfl ?_
      refine RL.move rfl rfl rfl rfl ?_
      apply RL.andB (d := 26) (dp := 31) (l' := (Sq.of [])) rfl .nil
      ·
        intro hb2 K2
        refine RL.loadN (vs := [_, _]) Tryz.isAgg40 Tryz.sizeOf40 rfl rfl rfl rfl (by first | (apply Rds.cel; (solve | (repeat (first | exact List.Mem.head _ | apply List.Mem.tail))); exact at_spec ⟨rfl, rfl, trivial⟩) | (apply Rds.celI; (solve | (repeat (first | exact List.Mem.head _ | apply List.Mem.tail))); exact at_spec ⟨rfl, rfl, trivial⟩) | assumption | (apply RdsI.rds; assumption)) ?_
        refine RL.loadN (vs := [_, _]) Tryz.isAgg40 Tryz.sizeOf40 rfl rfl rfl rfl (by first | (apply Rds.cel; (solve | (repeat (first | exact List.Mem.head _ | apply List.Mem.tail))); exact at_spec ⟨rfl, rfl, trivial⟩) | (apply Rds.celI; (solve | (repeat (first | exact List.Mem.head _ | apply List.Mem.tail))); exact at_spec ⟨rfl, rfl, trivial⟩) | assumption | (apply RdsI.rds; assumption)) ?_
        refine RL.callvq (greater_any (a, b) (c, d)) Tryz.call15 rfl rfl rfl rfl ?_
        refine RL.not rfl rfl rfl rfl ?_
        refine RL.pickT rfl rfl rfl rfl rfl ?_
        exact K2 _ (.cons rfl .nil)
      ·
        intro hb2 K2
        refine RL.skip rfl rfl rfl rfl ?_
        refine RL.skip rfl rfl rfl rfl ?_
        refine RL.skip rfl rfl rfl rfl ?_
        refine RL.skip rfl rfl rfl rfl ?_
        refine RL.pickF rfl rfl rfl rfl rfl ?_
        exact K2 _ (.cons rfl .nil)
      refine RL.nil ?_
      refine NQ.seq ?_
      refine CW.cond rfl (fun hg => ?_) (fun hg => ?_)
      ·
        refine CW.seq ?_
        refine CW.region (ef := []) (bk := []) ?_
        refine RL.assign rfl rfl rfl rfl ?_
        refine RL.nil ?_
        refine NQ.seq ?_
        refine CW.ret ?_
        refine RQ.seq ?_
        have hg : ¬ gtB (a, b) (c, d) = true := by simpa using hg
        exact RQ.post (res1 rfl rfl) (Split.none _) ⟨by rw [mmay, if_pos hm0, hq]; dsimp only; rw [if_neg hg], rfl, rfl⟩
      ·
        refine CW.skip ?_
        refine NQ.seq ?_
        refine CW.seq ?_
        refine CW.region (ef := []) (bk := []) ?_
        refine RL.assign rfl rfl rfl rfl ?_
        refine RL.nil ?_
        refine NQ.seq ?_
        refine CW.ret ?_
        have hg : gtB (a, b) (c, d) = true := by simpa using hg
        exact RQ.post (res1 rfl rfl) (Split.none _) ⟨by rw [mmay, if_pos hm0, hq]; dsimp only; rw [if_pos hg], rfl, rfl⟩
  · have hm0 : ¬ mayB s = true := hm
    refine Spc.enter Tryz.func92 rfl rfl rfl (fun w0 hw0 => ?_)
    refine CW.seq ?_
    refine CW.region (ef := [0]) (bk := []) ?_
    refine RL.box rfl rfl rfl rfl rfl rfl ?_
    intro b1
    refine RL.assign rfl rfl rfl rfl ?_
    refine RL.nil ?_
    refine NQ.seq ?_
    refine CW.seq ?_
    refine CW.seq ?_
    refine CW.region (ef := []) (bk := []) ?_
    refine RL.move rfl rfl rfl rfl ?_
    refine RL.move rfl rfl rfl rfl ?_
    refine RL.callvq (rpmay_any tb mt s) Tryz.call79 rfl rfl rfl rfl ?_
    refine RL.assign rfl rfl rfl rfl ?_
    refine RL.nil ?_
    refine NQ.seq ?_
    refine CW.seq ?_
    refine CW.region (ef := []) (bk := []) ?_
    refine RL.move rfl rfl rfl rfl ?_
    refine RL.bin rfl rfl rfl rfl rfl rfl ?_
    refine RL.nil ?_
    refine NQ.seq ?_
    refine CW.condT rfl ((by rw [if_neg hm0]; rfl)) ?_
    refine CW.seq ?_
    refine CW.region (ef := []) (bk := []) ?_
    refine RL.move rfl rfl rfl rfl ?_
    refine RL.assign rfl rfl rfl rfl ?_
    refine RL.nil ?_
    refine NQ.seq ?_
    refine CW.only (.cons (k := 0) rfl (.cons (k := 1) rfl (.cons (k := 5) rfl (.cons (k := 6) rfl .nil)))) ?_
    refine CW.ret ?_
    refine RQ.seq ?_
    exact RQ.post (res1 rfl rfl) (Split.none _) ⟨by rw [if_neg hm0, mmay, if_neg hm0], rfl, rfl⟩
def takeM (M : Marks) (s : Int) (p : Nat × Nat) : Marks := if mmay M s p = 0 then updM M s p else M
def TakeR (tb mt : Nat) (M : Marks) (x : Int) : Value → List It → List It → Prop := fun v I' H' => v = .int .i64 x ∧ I' = [] ∧ ∃ cm, MRel cm M ∧ H' = [tabI tb mt, mksI mt cm]
theorem take_any (tb mt : Nat) (cm : List (Value × Value)) (M : Marks) (s : Int) (p : Nat × Nat) (hM : MRel cm M) : Spc Tryz.prog 69 #[.pointer (some ⟨tb, 0, none⟩), .int .i64 s, mkV p] [] [tabI tb mt, mksI mt cm] (TakeR tb mt (takeM M s p) (mmay M s p)) := by
  refine Spc.enter Tryz.func69 rfl rfl rfl (fun w0 hw0 => ?_)
  refine CW.seq ?_
  refine CW.region (ef := [0]) (bk := []) ?_
  refine RL.box rfl rfl rfl rfl rfl rfl ?_
  intro b1
  refine RL.assign rfl rfl rfl rfl ?_
  refine RL.nil ?_
  refine NQ.seq ?_
  refine CW.seq ?_
  refine CW.region (ef := []) (bk := []) ?_
  refine RL.move rfl rfl rfl rfl ?_
  refine RL.move rfl rfl rfl rfl ?_
  refine RL.loadN (vs := [_, _]) Tryz.isAgg40 Tryz.sizeOf40 rfl rfl rfl rfl (by first | (apply Rds.cel; (solve | (repeat (first | exact List.Mem.head _ | apply List.Mem.tail))); exact at_spec ⟨rfl, rfl, trivial⟩) | (apply Rds.celI; (solve | (repeat (first | exact List.Mem.head _ | apply List.Mem.tail))); exact at_spec ⟨rfl, rfl, trivial⟩) | assumption | (apply RdsI.rds; assumption)) ?_
  refine RL.callvq (rMay_any tb mt cm M s p hM) Tryz.call92 rfl rfl rfl rfl ?_
  refine RL.assign rfl rfl rfl rfl ?_
  refine RL.nil ?_
  refine NQ.seq ?_
  refine CW.only (.cons (k := 0) rfl (.cons (k := 1) rfl (.cons (k := 5) rfl (.cons (k := 7) rfl .nil)))) ?_
  refine CW.seq ?_
  refine CW.seq ?_
  refine CW.region (ef := []) (bk := []) ?_
  refine RL.move rfl rfl rfl rfl ?_
  refine RL.bin rfl rfl rfl rfl rfl rfl ?_
  refine RL.nil ?_
  refine NQ.seq ?_
  refine CW.cond rfl (fun h => ?_) (fun h => ?_)
  ·
    refine CW.regionD (Sq.of [0, 1, 2, 3, 4, 5, 6]) [6] [6] [0, 1, 2, 4] mixed (by kernel_rfl) ?_
    refine RL.move rfl rfl rfl rfl ?_
    refine RL.nilCheck rfl rfl rfl rfl ?_
    refine RL.fieldAddr fa_129_0 rfl rfl rfl rfl ?_
    refine RL.loadq Tryz.isAgg127 rfl rfl rfl rfl ?_
    refine RL.move rfl rfl rfl rfl ?_
    refine RL.loadN (vs := [_, _]) Tryz.isAgg40 Tryz.sizeOf40 rfl rfl rfl rfl (by first | (apply Rds.cel; (solve | (repeat (first | exact List.Mem.head _ | apply List.Mem.tail))); exact at_spec ⟨rfl, rfl, trivial⟩) | (apply Rds.celI; (solve | (repeat (first | exact List.Mem.head _ | apply List.Mem.tail))); exact at_spec ⟨rfl, rfl, trivial⟩) | assumption | (apply RdsI.rds; assumption)) ?_
    have h : mmay M s p = 0 := by simpa using h
    refine RL.mapUpdate keyI Tryz.runUnderlying127 rfl rfl rfl rfl rfl rfl rfl ⟨s, rfl⟩ (by repeat (first | exact Upd.here | apply Upd.there)) ?_
    refine RL.nil ?_
    refine NQ.seq ?_
    refine CW.only (.cons (k := 7) rfl .nil) ?_
    refine CW.seq ?_
    refine CW.region (ef := []) (bk := []) ?_
    refine RL.move rfl rfl rfl rfl ?_
    refine RL.assign rfl rfl rfl rfl ?_
    refine RL.nil ?_
    refine NQ.seq ?_
    refine CW.ret ?_
    exact RQ.post (res1 rfl rfl) (.drop (.keep (.keep .nil))) ⟨rfl, rfl, _, by rw [takeM, if_pos h]; exact hM.set s p, rfl⟩
  ·
    refine CW.skip ?_
    refine NQ.seq ?_
    refine CW.seq ?_
    refine CW.region (ef := []) (bk := []) ?_
    refine RL.move rfl rfl rfl rfl ?_
    refine RL.assign rfl rfl rfl rfl ?_
    refine RL.nil ?_
    refine NQ.seq ?_
    refine CW.only (.cons (k := 6) rfl .nil) ?_
    refine CW.ret ?_
    have h : ¬ mmay M s p = 0 := by simpa using h
    exact RQ.post (res1 rfl rfl) (.drop (.keep (.keep .nil))) ⟨rfl, rfl, cm, by rw [takeM, if_neg h]; exact hM, rfl⟩
end Go.Proofs.YtkkfdoippibfkaaGreat

namespace Go.Proofs.YtkkfdoippibfkaaGreat
open Go.PK

/-! ### A guard -/
def rt (a b : Int) : Value := .agg #[.int .i64 a, .int .i64 b]
def goodR (v : Value) : Prop := ∃ a b : Int, v = rt a b
theorem rt_inj {a b c d : Int} : rt a b = rt c d ↔ a = c ∧ b = d := by simp [rt]
theorem same_rt (a b c d : Int) : same (rt a b) (rt c d) = (a == c && b == d) := by
  rw [Bool.eq_iff_iff, same_iff, rt_inj]; simp
theorem keyR : KeyT Tryz.prog 101 goodR where
  desc := ⟨_, Tryz.runUnderlying101, fun a b _ _ => .inl (by cases a <;> cases b <;> rfl)⟩
  eq := by
    rintro _ _ ⟨a, b, rfl⟩ ⟨c, d, rfl⟩ w
    rw [same_rt]
    simp [rt, Op.equal, Op.maxDepth, run_equalIn_struct, Program.fieldsOf, Op.eqFields, Go.part, go_sem]
    by_cases h1 : a = c <;> by_cases h2 : b = d <;> simp [h1, h2]
  chk := by
    rintro _ ⟨a, b, rfl⟩ e w
    have : ∀ n, (Instr.checkKey e (n + 2) 101 (.agg #[.int .i64 a, .int .i64 b])).run Tryz.prog w = .ok () w := by
      intro n
      simp [Instr.checkKey, Go.part, go_sem]
    exact this 9998
  bits := by
    rintro _ ⟨a, b, rfl⟩
    simp [rt, Instr.sameBits]
theorem keyE' : KeyT Tryz.prog 25 goodI where
  desc := ⟨_, Tryz.runUnderlying25, fun a b ha hb => by
    obtain ⟨m, rfl⟩ := ha; obtain ⟨n, rfl⟩ := hb
    by_cases h : m = n <;> simp [Instr.sameNow, same, h]⟩
  eq := by
    rintro _ _ ⟨a, rfl⟩ ⟨c, rfl⟩ w
    by_cases h : a = c <;> simp [Op.equal, Op.maxDepth, same, h, Go.part, go_sem]
  chk := by
    rintro _ ⟨a, rfl⟩ e w
    have : ∀ n, (Instr.checkKey e (n + 2) 25 (.int .i64 a)).run Tryz.prog w = .ok () w := by
      intro n
      simp [Instr.checkKey, Go.part, go_sem]
    exact this 9998
  bits := by
    rintro _ ⟨a, rfl⟩
    simp [Instr.sameBits]
/-- Where a guard's parts lie, and its limits. -/
structure GB where
  gb : Nat
  r : Nat
  m1 : Nat
  m2 : Nat
  kb : Nat
  tb : Nat
  mt : Nat
  my : Nat
  md : Nat
  mo : Int
  ti : Int
/-- What a guard holds. -/
structure GSt where
  T : List One
  c : List (Value × Value)
  l : List Lk
  M : Marks
  cm : List (Value × Value)
  Y : Int → Int → Bool
  cy : List (Value × Value)
  D : Int → Int
  ct : List (Value × Value)
def YRel (cy : List (Value × Value)) (Y : Int → Int → Bool) : Prop := ∀ a b, lookV (rt a b) cy = if Y a b = true then some (.bool true) else none
def DRel (ct : List (Value × Value)) (D : Int → Int) : Prop := ∀ e, (lookV (.int .i64 e) ct).getD (.int .i64 0) = .int .i64 (D e)
structure GOk (g : GSt) : Prop where
  t : TOk g.T
  k : KOk g.T g.c
  l : g.l.length = 8
  m : MRel g.cm g.M
  y : YRel g.cy g.Y
  d : DRel g.ct g.D
abbrev gCel (B : GB) : It := cel B.gb [.pointer (some ⟨B.r, 0, none⟩), .pointer (some ⟨B.kb, 0, none⟩), .pointer (some ⟨B.tb, 0, none⟩), .map (some B.my), .map (some B.md)] 76
abbrev GI (B : GB) (g : GSt) : List It := [gCel B, allI (RingL B.r B.m1 B.m2 g.T g.c), kI B.kb B.mo B.ti g.l, tabI B.tb B.mt, mksI B.mt g.cm, mapI B.my goodR g.cy, mapI B.md goodI g.ct]
theorem YRel.set {cy : List (Value × Value)} {Y : Int → Int → Bool} (h : YRel cy Y) (a b : Int) : YRel (setV (rt a b) (.bool true) cy) (fun a' b' => (a' == a && b' == b) || Y a' b') := fun a' b' => by
  rw [look_set, rt_inj, h a' b']
  by_cases e : a' = a ∧ b' = b
  · rw [if_pos e]; simp [e.1, e.2]
  · rw [if_neg e]
    have : (a' == a && b' == b) = false := by
      cases hh : (a' == a && b' == b)
      · rfl
      · simp at hh; exact absurd hh e
    show _ = if (a' == a && b' == b || Y a' b') = true then _ else _
    rw [this]; simp
theorem DRel.set {ct : List (Value × Value)} {D : Int → Int} (h : DRel ct D) (e x : Int) : DRel (setV (.int .i64 e) (.int .i64 x) ct) (fun e' => if e' = e then x else D e') := fun e' => by
  rw [look_set]
  by_cases he : e' = e
  · subst he; simp
  · rw [if_neg (by simpa using he)]; dsimp only; rw [if_neg he]; exact h e'
theorem gis_any (B : GB) : Spc Tryz.prog 34 #[.pointer (some ⟨B.gb, 0, none⟩)] [gCel B] [] (Is (.bool true)) := by
  refine Spc.enter Tryz.func34 rfl rfl rfl (fun w0 hw0 => ?_)
  refine CW.seq ?_
  refine CW.region (ef := []) (bk := []) ?_
  refine RL.assign rfl rfl rfl rfl ?_
  refine RL.nil ?_
  refine NQ.seq ?_
  refine CW.seq ?_
  refine CW.region (ef := []) (bk := []) ?_
  refine RL.move rfl rfl rfl rfl ?_
  refine RL.cmp rfl rfl rfl rfl rfl (neq_ptr Tryz.runUnderlying24 _) ?_
  refine RL.move rfl rfl rfl rfl ?_
  apply RL.andB (d := 5) (dp := 11) (l' := (Sq.of [9])) rfl (.cons (k := 2) rfl .nil)
  ·
    intro hb3 K3
    refine RL.move rfl rfl rfl rfl ?_
    refine RL.nilCheck rfl rfl rfl rfl ?_
    refine RL.fieldAddr fa_76_3 rfl rfl rfl rfl ?_
    refine RL.loadq Tryz.isAgg73 rfl rfl rfl rfl ?_
    refine RL.cmp rfl rfl rfl rfl rfl (neq_map Tryz.runUnderlying73 _) ?_
    refine RL.pickT rfl rfl rfl rfl rfl ?_
    exact K3 _ (.cons rfl (.cons (k := 2) rfl .nil))
  ·
    intro hb3 K3
    refine RL.skip rfl rfl rfl rfl ?_
    refine RL.skip rfl rfl rfl rfl ?_
    refine RL.skip rfl rfl rfl rfl ?_
    refine RL.skip rfl rfl rfl rfl ?_
    refine RL.skip rfl rfl rfl rfl ?_
    refine RL.pickF rfl rfl rfl rfl rfl ?_
    exact K3 _ (.cons rfl (.cons (k := 2) rfl .nil))
  refine RL.assign rfl rfl rfl rfl ?_
  refine RL.nil ?_
  refine NQ.seq ?_
  refine CW.ret ?_
  exact RQ.post (res1 rfl rfl) (Split.none _) ⟨rfl, rfl, rfl⟩
theorem gcount_any (B : GB) (ct : List (Value × Value)) (D : Int → Int) (e : Int) (hD : DRel ct D) : Spc Tryz.prog 23 #[.pointer (some ⟨B.gb, 0, none⟩), .int .i64 e] [gCel B, mapI B.md goodI ct] [] (Is (.int .i64 (D e))) := by
  refine Spc.enter Tryz.func23 rfl rfl rfl (fun w0 hw0 => ?_)
  refine CW.seq ?_
  refine CW.region (ef := []) (bk := []) ?_
  refine RL.assign rfl rfl rfl rfl ?_
  refine RL.nil ?_
  refine NQ.seq ?_
  refine CW.seq ?_
  refine CW.seq ?_
  refine CW.region (ef := []) (bk := []) ?_
  refine RL.move rfl rfl rfl rfl ?_
  refine RL.callvq (gis_any B) Tryz.call34 rfl rfl rfl rfl ?_
  refine RL.not rfl rfl rfl rfl ?_
  refine RL.nil ?_
  refine NQ.seq ?_
  refine CW.condF rfl (rfl) ?_
  refine CW.skip ?_
  refine NQ.seq ?_
  refine CW.seq ?_
  refine CW.region (ef := []) (bk := []) ?_
  refine RL.move rfl rfl rfl rfl ?_
  refine RL.nilCheck rfl rfl rfl rfl ?_
  refine RL.fieldAddr fa_76_4 rfl rfl rfl rfl ?_
  refine RL.loadq Tryz.isAgg74 rfl rfl rfl rfl ?_
  refine RL.move rfl rfl rfl rfl ?_
  refine RL.lookup keyE' Tryz.runUnderlying74 Tryz.zeroValue3 rfl rfl rfl rfl rfl ⟨e, rfl⟩ (MapAt.told (by repeat (first | exact List.Mem.head _ | apply List.Mem.tail))) ?_
  rw [hD e]
  refine RL.assign rfl rfl rfl rfl ?_
  refine RL.nil ?_
  refine NQ.seq ?_
  refine CW.only (.cons (k := 4) rfl .nil) ?_
  refine CW.ret ?_
  exact RQ.post (res1 rfl rfl) (Split.none _) ⟨rfl, rfl, rfl⟩
theorem lnew_yes (mo ti : Int) (h1 : 1 ≤ mo) (h2 : mo ≤ 1000) (h3 : 1 ≤ ti) (h4 : ti ≤ 65535) : Spc Tryz.prog 24 #[.int .i64 mo, .int .i64 ti] [] [] (fun v I' H' => ∃ kb, v = .tuple #[.pointer (some ⟨kb, 0, none⟩), .int .i64 0] ∧ I' = [] ∧ H' = [kI kb mo ti (List.replicate 8 ⟨0, 0, 0⟩)]) := by
  refine Spc.enter Tryz.func24 rfl rfl rfl (fun w0 hw0 => ?_)
  refine CW.seq ?_
  refine CW.region (ef := []) (bk := []) ?_
  refine RL.assign rfl rfl rfl rfl ?_
  refine RL.assign rfl rfl rfl rfl ?_
  refine RL.nil ?_
  refine NQ.seq ?_
  refine CW.seq ?_
  refine CW.seq ?_
  refine CW.region (ef := []) (bk := []) ?_
  refine RL.move rfl rfl rfl rfl ?_
  refine RL.bin rfl rfl rfl rfl rfl rfl ?_
  refine RL.move rfl rfl rfl rfl ?_
  apply RL.orB (d := 8) (dp := 11) (l' := (Sq.of [6, 7, 8, 9, 10, 11, 12, 13])) rfl (.cons (k := 0) rfl (.cons (k := 1) rfl (.cons (k := 4) rfl (.cons (k := 5) rfl .nil))))
  ·
    intro hb3 K3
    refine RL.move rfl rfl rfl rfl ?_
    refine RL.bin rfl rfl rfl rfl rfl rfl ?_
    refine RL.pickF rfl rfl rfl rfl rfl ?_
    exact K3 _ (.cons rfl (.cons (k := 0) rfl (.cons (k := 1) rfl (.cons (k := 4) rfl (.cons (k := 5) rfl .nil)))))
  ·
    intro hb3 K3
    refine RL.skip rfl rfl rfl rfl ?_
    refine RL.skip rfl rfl rfl rfl ?_
    refine RL.pickT rfl rfl rfl rfl rfl ?_
    exact K3 _ (.cons rfl (.cons (k := 0) rfl (.cons (k := 1) rfl (.cons (k := 4) rfl (.cons (k := 5) rfl .nil)))))
  refine RL.move rfl rfl rfl rfl ?_
  apply RL.orB (d := 12) (dp := 15) (l' := (Sq.of [10, 11, 12, 13])) rfl (.cons (k := 0) rfl (.cons (k := 1) rfl (.cons (k := 4) rfl (.cons (k := 5) rfl .nil))))
  ·
    intro hb7 K7
    refine RL.move rfl rfl rfl rfl ?_
    refine RL.bin rfl rfl rfl rfl rfl rfl ?_
    refine RL.pickF rfl rfl rfl rfl rfl ?_
    exact K7 _ (.cons rfl (.cons (k := 0) rfl (.cons (k := 1) rfl (.cons (k := 4) rfl (.cons (k := 5) rfl .nil)))))
  ·
    intro hb7 K7
    refine RL.skip rfl rfl rfl rfl ?_
    refine RL.skip rfl rfl rfl rfl ?_
    refine RL.pickT rfl rfl rfl rfl rfl ?_
    exact K7 _ (.cons rfl (.cons (k := 0) rfl (.cons (k := 1) rfl (.cons (k := 4) rfl (.cons (k := 5) rfl .nil)))))
  refine RL.move rfl rfl rfl rfl ?_
  apply RL.orB (d := 16) (dp := 19) (l' := (Sq.of [])) rfl (.cons (k := 0) rfl (.cons (k := 1) rfl (.cons (k := 4) rfl (.cons (k := 5) rfl .nil))))
  ·
    intro hb11 K11
    refine RL.move rfl rfl rfl rfl ?_
    refine RL.bin rfl rfl rfl rfl rfl rfl ?_
    refine RL.pickF rfl rfl rfl rfl rfl ?_
    exact K11 _ (.cons rfl (.cons (k := 0) rfl (.cons (k := 1) rfl (.cons (k := 4) rfl (.cons (k := 5) rfl .nil)))))
  ·
    intro hb11 K11
    refine RL.skip rfl rfl rfl rfl ?_
    refine RL.skip rfl rfl rfl rfl ?_
    refine RL.pickT rfl rfl rfl rfl rfl ?_
    exact K11 _ (.cons rfl (.cons (k := 0) rfl (.cons (k := 1) rfl (.cons (k := 4) rfl (.cons (k := 5) rfl .nil)))))
  refine RL.nil ?_
  refine NQ.seq ?_
  refine CW.condF rfl ((by simp; omega)) ?_
  refine CW.skip ?_
  refine NQ.seq ?_
  refine CW.seq ?_
  refine CW.region (ef := [3]) (bk := []) ?_
  refine RL.move rfl rfl rfl rfl ?_
  refine RL.move rfl rfl rfl rfl ?_
  refine RL.buildS (kCells mo ti (List.replicate 8 ⟨0, 0, 0⟩)) Tryz.zeroValue122 pl_122 rfl rfl rfl rfl rfl ?_
  refine RL.box (cs := kCells mo ti (List.replicate 8 ⟨0, 0, 0⟩)) rfl rfl rfl rfl rfl rfl (fun kb => ?_)
  refine RL.assign rfl rfl rfl rfl ?_
  refine RL.assign rfl rfl rfl rfl ?_
  refine RL.nil ?_
  refine NQ.seq ?_
  refine CW.only (.cons (k := 4) rfl (.cons (k := 5) rfl .nil)) ?_
  refine CW.ret ?_
  exact RQ.post (res2 rfl rfl rfl) (.keep .nil) ⟨kb, rfl, rfl, rfl⟩
theorem lnew_no (mo ti : Int) (h : ¬ (1 ≤ mo ∧ mo ≤ 1000 ∧ 1 ≤ ti ∧ ti ≤ 65535)) : Spc Tryz.prog 24 #[.int .i64 mo, .int .i64 ti] [] [] (Is (.tuple #[.pointer none, .int .i64 2])) := by
  refine Spc.enter Tryz.func24 rfl rfl rfl (fun w0 hw0 => ?_)
  refine CW.seq ?_
  refine CW.region (ef := []) (bk := []) ?_
  refine RL.assign rfl rfl rfl rfl ?_
  refine RL.assign rfl rfl rfl rfl ?_
  refine RL.nil ?_
  refine NQ.seq ?_
  refine CW.seq ?_
  refine CW.seq ?_
  refine CW.region (ef := []) (bk := []) ?_
  refine RL.move rfl rfl rfl rfl ?_
  refine RL.bin rfl rfl rfl rfl rfl rfl ?_
  refine RL.move rfl rfl rfl rfl ?_
  apply RL.orB (d := 8) (dp := 11) (l' := (Sq.of [6, 7, 8, 9, 10, 11, 12, 13])) rfl (.cons (k := 0) rfl (.cons (k := 1) rfl (.cons (k := 4) rfl (.cons (k := 5) rfl .nil))))
  ·
    intro hb3 K3
    refine RL.move rfl rfl rfl rfl ?_
    refine RL.bin rfl rfl rfl rfl rfl rfl ?_
    refine RL.pickF rfl rfl rfl rfl rfl ?_
    exact K3 _ (.cons rfl (.cons (k := 0) rfl (.cons (k := 1) rfl (.cons (k := 4) rfl (.cons (k := 5) rfl .nil)))))
  ·
    intro hb3 K3
    refine RL.skip rfl rfl rfl rfl ?_
    refine RL.skip rfl rfl rfl rfl ?_
    refine RL.pickT rfl rfl rfl rfl rfl ?_
    exact K3 _ (.cons rfl (.cons (k := 0) rfl (.cons (k := 1) rfl (.cons (k := 4) rfl (.cons (k := 5) rfl .nil)))))
  refine RL.move rfl rfl rfl rfl ?_
  apply RL.orB (d := 12) (dp := 15) (l' := (Sq.of [10, 11, 12, 13])) rfl (.cons (k := 0) rfl (.cons (k := 1) rfl (.cons (k := 4) rfl (.cons (k := 5) rfl .nil))))
  ·
    intro hb7 K7
    refine RL.move rfl rfl rfl rfl ?_
    refine RL.bin rfl rfl rfl rfl rfl rfl ?_
    refine RL.pickF rfl rfl rfl rfl rfl ?_
    exact K7 _ (.cons rfl (.cons (k := 0) rfl (.cons (k := 1) rfl (.cons (k := 4) rfl (.cons (k := 5) rfl .nil)))))
  ·
    intro hb7 K7
    refine RL.skip rfl rfl rfl rfl ?_
    refine RL.skip rfl rfl rfl rfl ?_
    refine RL.pickT rfl rfl rfl rfl rfl ?_
    exact K7 _ (.cons rfl (.cons (k := 0) rfl (.cons (k := 1) rfl (.cons (k := 4) rfl (.cons (k := 5) rfl .nil)))))
  refine RL.move rfl rfl rfl rfl ?_
  apply RL.orB (d := 16) (dp := 19) (l' := (Sq.of [])) rfl (.cons (k := 0) rfl (.cons (k := 1) rfl (.cons (k := 4) rfl (.cons (k := 5) rfl .nil))))
  ·
    intro hb11 K11
    refine RL.move rfl rfl rfl rfl ?_
    refine RL.bin rfl rfl rfl rfl rfl rfl ?_
    refine RL.pickF rfl rfl rfl rfl rfl ?_
    exact K11 _ (.cons rfl (.cons (k := 0) rfl (.cons (k := 1) rfl (.cons (k := 4) rfl (.cons (k := 5) rfl .nil)))))
  ·
    intro hb11 K11
    refine RL.skip rfl rfl rfl rfl ?_
    refine RL.skip rfl rfl rfl rfl ?_
    refine RL.pickT rfl rfl rfl rfl rfl ?_
    exact K11 _ (.cons rfl (.cons (k := 0) rfl (.cons (k := 1) rfl (.cons (k := 4) rfl (.cons (k := 5) rfl .nil)))))
  refine RL.nil ?_
  refine NQ.seq ?_
  refine CW.condT rfl ((by simp; omega)) ?_
  refine CW.seq ?_
  refine CW.region (ef := []) (bk := []) ?_
  refine RL.assign rfl rfl rfl rfl ?_
  refine RL.assign rfl rfl rfl rfl ?_
  refine RL.nil ?_
  refine NQ.seq ?_
  refine CW.ret ?_
  refine RQ.seq ?_
  exact RQ.post (res2 rfl rfl rfl) (Split.none _) ⟨rfl, rfl, rfl⟩
theorem rnew_any : Spc Tryz.prog 26 #[] [] [] (fun v I' H' => ∃ tb mt, v = .pointer (some ⟨tb, 0, none⟩) ∧ I' = [] ∧ H' = [tabI tb mt, mksI mt []]) := by
  refine Spc.enter Tryz.func26 rfl rfl rfl (fun w0 hw0 => ?_)
  refine CW.seq ?_
  refine CW.region (ef := []) (bk := []) ?_
  refine RL.assign rfl rfl rfl rfl ?_
  refine RL.nil ?_
  refine NQ.seq ?_
  refine CW.seq ?_
  refine CW.region (ef := [0, 2]) (bk := []) ?_
  refine RL.makeMap (good := goodI) rfl rfl rfl rfl (fun mt => ?_)
  refine RL.buildS [_] Tryz.zeroValue129 pl_129 rfl rfl rfl rfl rfl ?_
  refine RL.box rfl rfl rfl rfl rfl rfl ?_
  intro b1
  refine RL.assign rfl rfl rfl rfl ?_
  refine RL.nil ?_
  refine NQ.seq ?_
  refine CW.ret ?_
  exact RQ.post (res1 rfl rfl) (.keep (.keep .nil)) ⟨b1, mt, rfl, rfl, rfl⟩
/-- A guard that has nothing. -/
def g0 : GSt := ⟨[], [], List.replicate 8 ⟨0, 0, 0⟩, fun _ => none, [], fun _ _ => false, [], fun _ => 0, []⟩
theorem g0_ok : GOk g0 := ⟨tok_nil, kok_nil, rfl, fun _ => rfl, fun _ _ => rfl, fun _ => rfl⟩
theorem gnew_yes (mo ti : Int) (h1 : 1 ≤ mo) (h2 : mo ≤ 1000) (h3 : 1 ≤ ti) (h4 : ti ≤ 65535) : Spc Tryz.prog 7 #[.int .i64 mo, .int .i64 ti] [] [] (fun v I' H' => ∃ B : GB, B.mo = mo ∧ B.ti = ti ∧ v = .tuple #[.pointer (some ⟨B.gb, 0, none⟩), .int .i64 0] ∧ I' = [] ∧ H' = GI B g0) := by
  refine Spc.enter Tryz.func7 rfl rfl rfl (fun w0 hw0 => ?_)
  refine CW.seq ?_
  refine CW.region (ef := []) (bk := []) ?_
  refine RL.assign rfl rfl rfl rfl ?_
  refine RL.assign rfl rfl rfl rfl ?_
  refine RL.nil ?_
  refine NQ.seq ?_
  refine CW.seq ?_
  refine CW.region (ef := [2]) (bk := []) ?_
  refine RL.move rfl rfl rfl rfl ?_
  refine RL.move rfl rfl rfl rfl ?_
  refine RL.callq (lnew_yes mo ti h1 h2 h3 h4) Tryz.call24 rfl rfl rfl rfl rfl (.inl rfl) ?_
  rintro _ _ _ ⟨kb, rfl, rfl, rfl⟩
  refine RL.move rfl rfl rfl rfl ?_
  refine RL.extract rfl rfl rfl rfl rfl ?_
  refine RL.extract rfl rfl rfl rfl rfl ?_
  refine RL.assign rfl rfl rfl rfl ?_
  refine RL.assign rfl rfl rfl rfl ?_
  refine RL.nil ?_
  refine NQ.seq ?_
  refine CW.only (.cons (k := 6) rfl (.cons (k := 7) rfl .nil)) ?_
  refine CW.seq ?_
  refine CW.seq ?_
  refine CW.region (ef := []) (bk := []) ?_
  refine RL.move rfl rfl rfl rfl ?_
  refine RL.bin rfl rfl rfl rfl rfl rfl ?_
  refine RL.nil ?_
  refine NQ.seq ?_
  refine CW.condF rfl ((by simp)) ?_
  refine CW.skip ?_
  refine NQ.seq ?_
  refine CW.seq ?_
  refine CW.region (ef := [0, 2, 3, 4, 6]) (bk := []) ?_
  refine RL.callq (new_keys) Tryz.call25 rfl rfl rfl rfl rfl (.inl rfl) ?_
  rintro _ _ _ ⟨r, m1, m2, rfl, rfl, rfl⟩
  refine RL.move rfl rfl rfl rfl ?_
  refine RL.callq (rnew_any) Tryz.call26 rfl rfl rfl rfl rfl (.inl rfl) ?_
  rintro _ _ _ ⟨tb, mt, rfl, rfl, rfl⟩
  refine RL.makeMap (good := goodR) rfl rfl rfl rfl (fun my => ?_)
  refine RL.makeMap (good := goodI) rfl rfl rfl rfl (fun md => ?_)
  refine RL.buildS [_, _, _, _, _] Tryz.zeroValue76 pl_76 rfl rfl rfl rfl rfl ?_
  refine RL.box rfl rfl rfl rfl rfl rfl ?_
  intro b1
  refine RL.move rfl rfl rfl rfl ?_
  refine RL.assign rfl rfl rfl rfl ?_
  refine RL.assign rfl rfl rfl rfl ?_
  refine RL.nil ?_
  refine NQ.seq ?_
  refine CW.only (.cons (k := 4) rfl (.cons (k := 5) rfl .nil)) ?_
  refine CW.ret ?_
  refine RQ.rea (fun _ h => h) (H' := GI ⟨b1, r, m1, m2, kb, tb, mt, my, md, mo, ti⟩ g0) (by repeat (first | exact Rea.nil | (apply Rea.cons; (solve | (repeat (first | exact Del.here | apply Del.there)))))) ?_
  exact RQ.post (res2 rfl rfl rfl) (.keep (.keep (.keep (.keep (.keep (.keep (.keep .nil))))))) ⟨⟨b1, r, m1, m2, kb, tb, mt, my, md, mo, ti⟩, rfl, rfl, rfl, rfl, rfl⟩
end Go.Proofs.YtkkfdoippibfkaaGreat
