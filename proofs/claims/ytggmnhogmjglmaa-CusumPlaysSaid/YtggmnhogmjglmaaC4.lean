import Derived.Test.YtggmnhogmjglmaaC2
import Derived.Test.YtggmnhogmjglmaaRWide2
namespace Go.Proofs.Ytggmnhogmjglmaa
open Go.PK

/-! ### The reference's monitor: a table of fifty cells -/
def rcf (slack most : Int) (U D : Nat → Int) (i : Nat) : Value := .int .i64 (if i = 0 then slack else if i = 1 then most else if i < 26 then U (i - 2) else D (i - 26))
def rmc (slack most : Int) (U D : Nat → Int) : List Value := (List.range 50).map (rcf slack most U D)
abbrev rmon (y : Nat) (slack most : Int) (U D : Nat → Int) : It := cel y (rmc slack most U D) 92
theorem rmc_get {slack most : Int} {U D : Nat → Int} {i : Nat} (h : i < 50) : (rmc slack most U D)[i]? = some (rcf slack most U D i) := by
  rw [rmc, List.getElem?_map, List.getElem?_range h]; rfl
theorem rmc_len (slack most : Int) (U D : Nat → Int) : (rmc slack most U D).length = 50 := by simp [rmc]
theorem spl_tab {f f' : Nat → Value} {n off : Nat} {vs : List Value} (h : off + vs.length ≤ n) (h1 : ∀ q, q < off ∨ off + vs.length ≤ q → f' q = f q) (h2 : ∀ q v, vs[q]? = some v → f' (off + q) = v) : spl ((List.range n).map f) off vs = (List.range n).map f' := by
  rw [spl_eq _ _ _ (by simpa using h)]
  apply List.ext_getElem?
  intro i
  by_cases hi : i < n
  · rw [List.getElem?_map, List.getElem?_range hi]
    by_cases a : i < off
    · rw [List.append_assoc, List.getElem?_append_left (by simp; omega), List.getElem?_take_of_lt a, List.getElem?_map, List.getElem?_range hi]
      simp [h1 i (.inl a)]
    · by_cases b : i < off + vs.length
      · rw [List.getElem?_append_left (by simp; omega), List.getElem?_append_right (by simp; omega)]
        have hl : ((List.map f (List.range n)).take off).length = off := by simp; omega
        rw [hl]
        have hv := List.getElem?_eq_getElem (show i - off < vs.length by omega)
        rw [hv]
        have := h2 _ _ hv
        rw [show off + (i - off) = i by omega] at this
        simp [this]
      · rw [List.getElem?_append_right (by simp; omega), List.getElem?_drop, List.getElem?_map]
        have hl : ((List.map f (List.range n)).take off ++ vs).length = off + vs.length := by simp; omega
        rw [hl, List.getElem?_range (by omega), show off + vs.length + (i - (off + vs.length)) = i by omega]
        simp [h1 i (.inr (by omega))]
  · rw [List.getElem?_eq_none (by simp; omega), List.getElem?_eq_none (by simp; omega)]
def setF (U : Nat → Int) (k : Nat) (v : Int) : Nat → Int := fun j => if j = k then v else U j
def clrF (U : Nat → Int) (s : Nat) : Nat → Int := fun j => if j / 3 = s then 0 else U j
theorem up_set {slack most : Int} {U D : Nat → Int} {s a : Nat} {v : Int} (hs : s < 8) (ha : a < 3) : spl (rmc slack most U D) (0 + 2 + s * 3 + a * 1) [.int .i64 v] = rmc slack most (setF U (3 * s + a) v) D := by
  refine spl_tab (by simp; omega) (fun q hq => ?_) (fun q w hq => ?_)
  · simp only [List.length_cons, List.length_nil] at hq
    simp only [rcf, setF]
    by_cases h0 : q = 0; · simp [h0]
    by_cases h1 : q = 1; · simp [h1]
    by_cases h2 : q < 26
    · rw [if_neg h0, if_neg h1, if_pos h2, if_neg h0, if_neg h1, if_pos h2, if_neg (by omega)]
    · rw [if_neg h0, if_neg h1, if_neg h2, if_neg h0, if_neg h1, if_neg h2]
  · have hq0 : q = 0 := by have := (List.getElem?_eq_some_iff.1 hq).1; simp at this; exact this
    subst hq0
    simp at hq
    rw [← hq, rcf, if_neg (by omega), if_neg (by omega), if_pos (by omega), setF, if_pos (by omega)]
theorem down_set {slack most : Int} {U D : Nat → Int} {s a : Nat} {v : Int} (hs : s < 8) (ha : a < 3) : spl (rmc slack most U D) (0 + 26 + s * 3 + a * 1) [.int .i64 v] = rmc slack most U (setF D (3 * s + a) v) := by
  refine spl_tab (by simp; omega) (fun q hq => ?_) (fun q w hq => ?_)
  · simp only [List.length_cons, List.length_nil] at hq
    simp only [rcf, setF]
    by_cases h0 : q = 0; · simp [h0]
    by_cases h1 : q = 1; · simp [h1]
    by_cases h2 : q < 26
    · rw [if_neg h0, if_neg h1, if_pos h2, if_neg h0, if_neg h1, if_pos h2]
    · rw [if_neg h0, if_neg h1, if_neg h2, if_neg h0, if_neg h1, if_neg h2, if_neg (by omega)]
  · have hq0 : q = 0 := by have := (List.getElem?_eq_some_iff.1 hq).1; simp at this; exact this
    subst hq0
    simp at hq
    rw [← hq, rcf, if_neg (by omega), if_neg (by omega), if_neg (by omega), setF, if_pos (by omega)]
theorem zero3 {q : Nat} {w : Value} (h : [Value.int .i64 0, .int .i64 0, .int .i64 0][q]? = some w) : q < 3 ∧ w = .int .i64 0 := by
  match q, h with
  | 0, h => simp at h; exact ⟨by decide, h.symm⟩
  | 1, h => simp at h; exact ⟨by decide, h.symm⟩
  | 2, h => simp at h; exact ⟨by decide, h.symm⟩
  | q + 3, h => simp at h
theorem up_clr {slack most : Int} {U D : Nat → Int} {s : Nat} (hs : s < 8) : spl (rmc slack most U D) (0 + 2 + s * 3) [.int .i64 0, .int .i64 0, .int .i64 0] = rmc slack most (clrF U s) D := by
  refine spl_tab (by simp; omega) (fun q hq => ?_) (fun q w hq => ?_)
  · simp only [List.length_cons, List.length_nil] at hq
    simp only [rcf, clrF]
    by_cases h0 : q = 0; · simp [h0]
    by_cases h1 : q = 1; · simp [h1]
    by_cases h2 : q < 26
    · rw [if_neg h0, if_neg h1, if_pos h2, if_neg h0, if_neg h1, if_pos h2, if_neg (by omega)]
    · rw [if_neg h0, if_neg h1, if_neg h2, if_neg h0, if_neg h1, if_neg h2]
  · obtain ⟨h3, rfl⟩ := zero3 hq
    rw [rcf, if_neg (by omega), if_neg (by omega), if_pos (by omega), clrF, if_pos (by omega)]
theorem down_clr {slack most : Int} {U D : Nat → Int} {s : Nat} (hs : s < 8) : spl (rmc slack most U D) (0 + 26 + s * 3) [.int .i64 0, .int .i64 0, .int .i64 0] = rmc slack most U (clrF D s) := by
  refine spl_tab (by simp; omega) (fun q hq => ?_) (fun q w hq => ?_)
  · simp only [List.length_cons, List.length_nil] at hq
    simp only [rcf, clrF]
    by_cases h0 : q = 0; · simp [h0]
    by_cases h1 : q = 1; · simp [h1]
    by_cases h2 : q < 26
    · rw [if_neg h0, if_neg h1, if_pos h2, if_neg h0, if_neg h1, if_pos h2]
    · rw [if_neg h0, if_neg h1, if_neg h2, if_neg h0, if_neg h1, if_neg h2, if_neg (by omega)]
  · obtain ⟨h3, rfl⟩ := zero3 hq
    rw [rcf, if_neg (by omega), if_neg (by omega), if_neg (by omega), clrF, if_pos (by omega)]
theorem rm_up {slack most : Int} {U D : Nat → Int} {s a : Nat} (hs : s < 8) (ha : a < 3) : (rmc slack most U D)[0 + 2 + s * 3 + a * 1]? = some (.int .i64 (U (3 * s + a))) := by
  rw [rmc_get (by omega), rcf, if_neg (by omega), if_neg (by omega), if_pos (by omega)]
  congr 3; omega
theorem rm_down {slack most : Int} {U D : Nat → Int} {s a : Nat} (hs : s < 8) (ha : a < 3) : (rmc slack most U D)[0 + 26 + s * 3 + a * 1]? = some (.int .i64 (D (3 * s + a))) := by
  rw [rmc_get (by omega), rcf, if_neg (by omega), if_neg (by omega), if_neg (by omega)]
  congr 3; omega
theorem rm_slack {slack most : Int} {U D : Nat → Int} : (rmc slack most U D)[0 + 0]? = some (.int .i64 slack) := rmc_get (by omega)
theorem rm_most {slack most : Int} {U D : Nat → Int} : (rmc slack most U D)[0 + 1]? = some (.int .i64 most) := rmc_get (by omega)
def mayP (s a : Int) : Bool := decide (0 ≤ s ∧ s < 8 ∧ 0 ≤ a ∧ a < 3)
theorem rmay_any (s a : Int) : Spc Try.prog 45 #[.agg #[.int .i64 s, .int .i64 a]] [] [] (Is (.bool (mayP s a))) := by
  refine Spc.enter Try.func45 rfl rfl rfl (fun w0 hw0 => ?_)
  refine CW.seq ?_
  refine CW.region (ef := [0]) (bk := []) ?_
  refine RL.box rfl rfl rfl rfl rfl rfl ?_
  intro b1
  refine RL.assign rfl rfl rfl rfl ?_
  refine RL.nil ?_
  refine NQ.seq ?_
  refine CW.seq ?_
  refine CW.region (ef := []) (bk := []) ?_
  refine RL.fieldAddr fa_82_0 rfl rfl rfl rfl ?_
  refine RL.loadq Try.isAgg3 rfl rfl rfl rfl ?_
  refine RL.bin rfl rfl rfl rfl rfl rfl ?_
  refine RL.move rfl rfl rfl rfl ?_
  apply RL.andB (d := 6) (dp := 10) (l' := (Sq.of [8, 9, 10, 11, 12, 13, 14, 15, 16, 17, 18])) rfl (.cons (k := 1) rfl (.cons (k := 2) rfl .nil))
  ·
    intro hb4 K4
    refine RL.fieldAddr fa_82_0 rfl rfl rfl rfl ?_
    refine RL.loadq Try.isAgg3 rfl rfl rfl rfl ?_
    refine RL.bin rfl rfl rfl rfl rfl rfl ?_
    refine RL.pickT rfl rfl rfl rfl rfl ?_
    exact K4 _ (.cons rfl (.cons (k := 1) rfl (.cons (k := 2) rfl .nil)))
  ·
    intro hb4 K4
    refine RL.skip rfl rfl rfl rfl ?_
    refine RL.skip rfl rfl rfl rfl ?_
    refine RL.skip rfl rfl rfl rfl ?_
    refine RL.pickF rfl rfl rfl rfl rfl ?_
    exact K4 _ (.cons rfl (.cons (k := 1) rfl (.cons (k := 2) rfl .nil)))
  refine RL.move rfl rfl rfl rfl ?_
  apply RL.andB (d := 11) (dp := 15) (l' := (Sq.of [13, 14, 15, 16, 17, 18])) rfl (.cons (k := 1) rfl (.cons (k := 2) rfl .nil))
  ·
    intro hb9 K9
    refine RL.fieldAddr fa_82_1 rfl rfl rfl rfl ?_
    refine RL.loadq Try.isAgg3 rfl rfl rfl rfl ?_
    refine RL.bin rfl rfl rfl rfl rfl rfl ?_
    refine RL.pickT rfl rfl rfl rfl rfl ?_
    exact K9 _ (.cons rfl (.cons (k := 1) rfl (.cons (k := 2) rfl .nil)))
  ·
    intro hb9 K9
    refine RL.skip rfl rfl rfl rfl ?_
    refine RL.skip rfl rfl rfl rfl ?_
    refine RL.skip rfl rfl rfl rfl ?_
    refine RL.pickF rfl rfl rfl rfl rfl ?_
    exact K9 _ (.cons rfl (.cons (k := 1) rfl (.cons (k := 2) rfl .nil)))
  refine RL.move rfl rfl rfl rfl ?_
  apply RL.andB (d := 16) (dp := 20) (l' := (Sq.of [18])) rfl (.cons (k := 2) rfl .nil)
  ·
    intro hb14 K14
    refine RL.fieldAddr fa_82_1 rfl rfl rfl rfl ?_
    refine RL.loadq Try.isAgg3 rfl rfl rfl rfl ?_
    refine RL.bin rfl rfl rfl rfl rfl rfl ?_
    refine RL.pickT rfl rfl rfl rfl rfl ?_
    exact K14 _ (.cons rfl (.cons (k := 2) rfl .nil))
  ·
    intro hb14 K14
    refine RL.skip rfl rfl rfl rfl ?_
    refine RL.skip rfl rfl rfl rfl ?_
    refine RL.skip rfl rfl rfl rfl ?_
    refine RL.pickF rfl rfl rfl rfl rfl ?_
    exact K14 _ (.cons rfl (.cons (k := 2) rfl .nil))
  refine RL.assign rfl rfl rfl rfl ?_
  refine RL.nil ?_
  refine NQ.seq ?_
  refine CW.ret ?_
  refine RQ.post (res1 rfl rfl) (Split.none _) ⟨?_, rfl, rfl⟩
  congr 1
  rw [Bool.eq_iff_iff, mayP]
  simp
  omega
theorem rnew_bad (slack most : Int) (h : ¬ (0 ≤ slack ∧ 0 < most)) : Spc Try.prog 27 #[.int .i64 slack, .int .i64 most] [] [] (Is (.tuple #[.pointer none, .int .i64 2])) := by
  refine Spc.enter Try.func27 rfl rfl rfl (fun w0 hw0 => ?_)
  refine CW.seq ?_
  refine CW.region (ef := []) (bk := []) ?_
  refine RL.assign rfl rfl rfl rfl ?_
  refine RL.assign rfl rfl rfl rfl ?_
  refine RL.nil ?_
  refine NQ.seq ?_
  refine CW.seq ?_
  refine CW.seq ?_
  refine CW.region (ef := []) (bk := []) ?_
  refine RL.move rfl rfl rfl rfl ?_
  refine RL.bin rfl rfl rfl rfl rfl rfl ?_
  refine RL.move rfl rfl rfl rfl ?_
  apply RL.orB (d := 8) (dp := 11) (l' := (Sq.of [])) rfl (.cons (k := 0) rfl (.cons (k := 1) rfl (.cons (k := 4) rfl (.cons (k := 5) rfl .nil))))
  ·
    intro hb3 K3
    refine RL.move rfl rfl rfl rfl ?_
    refine RL.bin rfl rfl rfl rfl rfl rfl ?_
    refine RL.pickF rfl rfl rfl rfl rfl ?_
    exact K3 _ (.cons rfl (.cons (k := 0) rfl (.cons (k := 1) rfl (.cons (k := 4) rfl (.cons (k := 5) rfl .nil)))))
  ·
    intro hb3 K3
    refine RL.skip rfl rfl rfl rfl ?_
    refine RL.skip rfl rfl rfl rfl ?_
    refine RL.pickT rfl rfl rfl rfl rfl ?_
    exact K3 _ (.cons rfl (.cons (k := 0) rfl (.cons (k := 1) rfl (.cons (k := 4) rfl (.cons (k := 5) rfl .nil)))))
  refine RL.nil ?_
  refine NQ.seq ?_
  refine CW.condT rfl (by simp; omega) ?_
  refine CW.seq ?_
  refine CW.region (ef := []) (bk := []) ?_
  refine RL.assign rfl rfl rfl rfl ?_
  refine RL.assign rfl rfl rfl rfl ?_
  refine RL.nil ?_
  refine NQ.seq ?_
  refine CW.ret ?_
  refine RQ.seq ?_
  exact RQ.post (res2 rfl rfl rfl) (Split.none _) ⟨rfl, rfl, rfl⟩
theorem rnew_yes (slack most : Int) (h1 : 0 ≤ slack) (h2 : 0 < most) : Spc Try.prog 27 #[.int .i64 slack, .int .i64 most] [] []
    (fun v I' H' => ∃ y, v = .tuple #[.pointer (some ⟨y, 0, none⟩), .int .i64 0] ∧ I' = [] ∧ H' = [rmon y slack most (fun _ => 0) (fun _ => 0)]) := by
  refine Spc.enter Try.func27 rfl rfl rfl (fun w0 hw0 => ?_)
  refine CW.seq ?_
  refine CW.region (ef := []) (bk := []) ?_
  refine RL.assign rfl rfl rfl rfl ?_
  refine RL.assign rfl rfl rfl rfl ?_
  refine RL.nil ?_
  refine NQ.seq ?_
  refine CW.seq ?_
  refine CW.seq ?_
  refine CW.region (ef := []) (bk := []) ?_
  refine RL.move rfl rfl rfl rfl ?_
  refine RL.bin rfl rfl rfl rfl rfl rfl ?_
  refine RL.move rfl rfl rfl rfl ?_
  apply RL.orB (d := 8) (dp := 11) (l' := (Sq.of [])) rfl (.cons (k := 0) rfl (.cons (k := 1) rfl (.cons (k := 4) rfl (.cons (k := 5) rfl .nil))))
  ·
    intro hb3 K3
    refine RL.move rfl rfl rfl rfl ?_
    refine RL.bin rfl rfl rfl rfl rfl rfl ?_
    refine RL.pickF rfl rfl rfl rfl rfl ?_
    exact K3 _ (.cons rfl (.cons (k := 0) rfl (.cons (k := 1) rfl (.cons (k := 4) rfl (.cons (k := 5) rfl .nil)))))
  ·
    intro hb3 K3
    refine RL.skip rfl rfl rfl rfl ?_
    refine RL.skip rfl rfl rfl rfl ?_
    refine RL.pickT rfl rfl rfl rfl rfl ?_
    exact K3 _ (.cons rfl (.cons (k := 0) rfl (.cons (k := 1) rfl (.cons (k := 4) rfl (.cons (k := 5) rfl .nil)))))
  refine RL.nil ?_
  refine NQ.seq ?_
  refine CW.condF rfl (by simp; omega) ?_
  refine CW.skip ?_
  refine NQ.seq ?_
  refine CW.seq ?_
  refine CW.region (ef := [3]) (bk := []) ?_
  refine RL.move rfl rfl rfl rfl ?_
  refine RL.move rfl rfl rfl rfl ?_
  refine RL.buildS (rmc slack most (fun _ => 0) (fun _ => 0)) Try.zeroValue92 pl_92 rfl rfl rfl rfl rfl ?_
  refine RL.box rfl rfl rfl rfl rfl rfl ?_
  intro b1
  refine RL.assign rfl rfl rfl rfl ?_
  refine RL.assign rfl rfl rfl rfl ?_
  refine RL.nil ?_
  refine NQ.seq ?_
  refine CW.only (.cons (k := 4) rfl (.cons (k := 5) rfl .nil)) ?_
  refine CW.ret ?_
  exact RQ.post (res2 rfl rfl rfl) (.keep .nil) ⟨b1, rfl, rfl, rfl⟩
theorem rclear_bad (y : Nat) (n : Int) (hn : ¬ (0 ≤ n ∧ n < 8)) : Spc Try.prog 29 #[.pointer (some ⟨y, 0, none⟩), .int .i64 n] [] [] (Is (.int .i64 2)) := by
  refine Spc.enter Try.func29 rfl rfl rfl (fun w0 hw0 => ?_)
  refine CW.seq ?_
  refine CW.region (ef := []) (bk := []) ?_
  refine RL.assign rfl rfl rfl rfl ?_
  refine RL.nil ?_
  refine NQ.seq ?_
  refine CW.seq ?_
  refine CW.seq ?_
  refine CW.region (ef := []) (bk := []) ?_
  refine RL.move rfl rfl rfl rfl ?_
  refine RL.bin rfl rfl rfl rfl rfl rfl ?_
  refine RL.move rfl rfl rfl rfl ?_
  apply RL.orB (d := 7) (dp := 10) (l' := (Sq.of [])) rfl (.cons (k := 0) rfl (.cons (k := 1) rfl (.cons (k := 4) rfl .nil)))
  ·
    intro hb3 K3
    refine RL.move rfl rfl rfl rfl ?_
    refine RL.bin rfl rfl rfl rfl rfl rfl ?_
    refine RL.pickF rfl rfl rfl rfl rfl ?_
    exact K3 _ (.cons rfl (.cons (k := 0) rfl (.cons (k := 1) rfl (.cons (k := 4) rfl .nil))))
  ·
    intro hb3 K3
    refine RL.skip rfl rfl rfl rfl ?_
    refine RL.skip rfl rfl rfl rfl ?_
    refine RL.pickT rfl rfl rfl rfl rfl ?_
    exact K3 _ (.cons rfl (.cons (k := 0) rfl (.cons (k := 1) rfl (.cons (k := 4) rfl .nil))))
  refine RL.nil ?_
  refine NQ.seq ?_
  refine CW.condT rfl (by simp; omega) ?_
  refine CW.seq ?_
  refine CW.region (ef := []) (bk := []) ?_
  refine RL.assign rfl rfl rfl rfl ?_
  refine RL.nil ?_
  refine NQ.seq ?_
  refine CW.ret ?_
  refine RQ.seq ?_
  exact RQ.post (res1 rfl rfl) (Split.none _) ⟨rfl, rfl, rfl⟩
theorem rclear_ok (y : Nat) (slack most : Int) (U D : Nat → Int) (s : Nat) (hs : s < 8) : Spc Try.prog 29 #[.pointer (some ⟨y, 0, none⟩), .int .i64 (s : Int)] [] [rmon y slack most U D] (fun v I' H' => v = .int .i64 0 ∧ I' = [] ∧ H' = [rmon y slack most (clrF U s) (clrF D s)]) := by
  refine Spc.enter Try.func29 rfl rfl rfl (fun w0 hw0 => ?_)
  refine CW.seq ?_
  refine CW.region (ef := []) (bk := []) ?_
  refine RL.assign rfl rfl rfl rfl ?_
  refine RL.nil ?_
  refine NQ.seq ?_
  refine CW.seq ?_
  refine CW.seq ?_
  refine CW.region (ef := []) (bk := []) ?_
  refine RL.move rfl rfl rfl rfl ?_
  refine RL.bin rfl rfl rfl rfl rfl rfl ?_
  refine RL.move rfl rfl rfl rfl ?_
  apply RL.orB (d := 7) (dp := 10) (l' := (Sq.of [])) rfl (.cons (k := 0) rfl (.cons (k := 1) rfl (.cons (k := 4) rfl .nil)))
  ·
    intro hb3 K3
    refine RL.move rfl rfl rfl rfl ?_
    refine RL.bin rfl rfl rfl rfl rfl rfl ?_
    refine RL.pickF rfl rfl rfl rfl rfl ?_
    exact K3 _ (.cons rfl (.cons (k := 0) rfl (.cons (k := 1) rfl (.cons (k := 4) rfl .nil))))
  ·
    intro hb3 K3
    refine RL.skip rfl rfl rfl rfl ?_
    refine RL.skip rfl rfl rfl rfl ?_
    refine RL.pickT rfl rfl rfl rfl rfl ?_
    exact K3 _ (.cons rfl (.cons (k := 0) rfl (.cons (k := 1) rfl (.cons (k := 4) rfl .nil))))
  refine RL.nil ?_
  refine NQ.seq ?_
  refine CW.condF rfl (by simp; omega) ?_
  refine CW.skip ?_
  refine NQ.seq ?_
  refine CW.seq ?_
  refine CW.cut [] [] [rmon y slack most (clrF U s) (clrF D s)] ?_ ?_
  ·
    refine CW.regionD (Sq.of [0, 1, 2, 3, 4, 5, 6, 7, 8, 10, 11, 9, 12, 13]) [9, 13] [9, 13] [0, 1, 2, 3, 4, 5, 6, 7, 8, 10, 11, 12] mixed (by kernel_rfl) ?_
    refine RL.move rfl rfl rfl rfl ?_
    refine RL.move rfl rfl rfl rfl ?_
    refine RL.move rfl rfl rfl rfl ?_
    refine RL.move rfl rfl rfl rfl ?_
    refine RL.buildA _ Try.zeroValue89 Try.runUnderlying89 Try.sizeOf70 rfl rfl rfl rfl rfl ?_
    refine RL.buildA _ Try.zeroValue89 Try.runUnderlying89 Try.sizeOf70 rfl rfl rfl rfl rfl ?_
    refine RL.nilCheck rfl rfl rfl rfl ?_
    refine RL.fieldAddr fa_92_2 rfl rfl rfl rfl ?_
    refine RL.idxAAt (j := s) Try.runUnderlying90 Try.sizeOf89 rfl rfl rfl rfl rfl rfl hs ?_
    refine RL.nilCheck rfl rfl rfl rfl ?_
    refine RL.fieldAddr fa_92_3 rfl rfl rfl rfl ?_
    refine RL.storeX (up_clr hs) Try.sizeOf89 rfl rfl rfl rfl rfl rfl rfl rfl (by repeat (first | exact Upd.here | apply Upd.there)) (by rw [rmc_len]; simp; omega) ?_
    refine RL.idxAAt (j := s) Try.runUnderlying90 Try.sizeOf89 rfl rfl rfl rfl rfl rfl hs ?_
    refine RL.storeX (down_clr hs) Try.sizeOf89 rfl rfl rfl rfl rfl rfl rfl rfl (by repeat (first | exact Upd.here | apply Upd.there)) (by rw [rmc_len]; simp; omega) ?_
    refine RL.nil ?_
    exact NQ.mid .nil (fun w h => h)
  refine CW.seq ?_
  refine CW.region (ef := []) (bk := []) ?_
  refine RL.assign rfl rfl rfl rfl ?_
  refine RL.nil ?_
  refine NQ.seq ?_
  refine CW.ret ?_
  exact RQ.post (res1 rfl rfl) (.keep .nil) ⟨rfl, rfl, rfl⟩
end Go.Proofs.Ytggmnhogmjglmaa
