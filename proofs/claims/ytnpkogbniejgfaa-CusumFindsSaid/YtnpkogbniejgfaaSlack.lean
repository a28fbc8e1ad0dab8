/- CusumSlack: numbers within the slack leave noughts; numbers of the other signs change up and down. -/
import Derived.Test.YtnpkogbniejgfaaCusum
namespace Go.Proofs.Ytnpkogbniejgfaa
open Go.PK

/-- A monitor that has met one place alone. -/
def one (p v : Int × Int) : Held := if v = (0, 0) then [] else [(p, v)]
theorem at_one (p v : Int × Int) : at0 p (one p v) = v := by
  unfold one; split
  · rename_i h; simp [at0, lk, h]
  · simp [at0, lk]
theorem upd_one (p v v' : Int × Int) : upd p v' (one p v) = one p v' := by
  unfold upd one
  by_cases h1 : v' = (0, 0) <;> by_cases h2 : v = (0, 0) <;> simp [h1, h2, del, put]
theorem bd_one {p v : Int × Int} (h : isMax v.1 ∧ isMax v.2) : Bd (one p v) := by
  intro x hx
  unfold one at hx
  split at hx
  · cases hx
  · have : x = (p, v) := by simpa using hx
    subst this; exact h
theorem max_clip (z : Int) : isMax (max (clip z) 0) := by
  have := clip_bd z
  unfold isMax; omega
theorem next_bd (slack x : Int) (p : Int × Int) : isMax (nextP slack x p).1 ∧ isMax (nextP slack x p).2 := ⟨max_clip _, max_clip _⟩
theorem next_zero {slack x : Int} (h : -slack ≤ x ∧ x ≤ slack) (_ : isMax slack) : nextP slack x (0, 0) = (0, 0) := by
  have h1 : max (clip (0 + x - slack)) 0 = 0 := by unfold clip; split; rfl; split <;> omega
  have h2 : max (clip (0 - x - slack)) 0 = 0 := by unfold clip; split; rfl; split <;> omega
  rw [nextP, Prod.mk.injEq]; exact ⟨h1, h2⟩
theorem next_swap (slack x : Int) (p : Int × Int) : nextP slack (-x) (p.2, p.1) = ((nextP slack x p).2, (nextP slack x p).1) := by
  simp only [nextP]
  rw [show p.2 + -x - slack = p.2 - x - slack by omega, show p.1 - -x - slack = p.1 + x - slack by omega]

theorem step_one (b r : Nat) (slack most s a x : Int) (v : Int × Int) (hs : 0 ≤ s ∧ s < 8) (ha : 0 ≤ a ∧ a < 3) (hsl : isMax slack) (hm : 0 ≤ most) (hx : -9223372036854775808 ≤ x ∧ x ≤ 9223372036854775807) (hv : isMax v.1 ∧ isMax v.2) :
    Spc Try.prog 9 #[.pointer (some ⟨b, 0, none⟩), pl (s, a), .int .i64 x] [] [mon b r slack most, sumsOf r (one (s, a) v)]
    (fun u I' H' => u = .tuple #[.bool (decide (max (nextP slack x v).1 (nextP slack x v).2 > most)), .int .i64 0] ∧ I' = [] ∧ H' = [mon b r slack most, sumsOf r (one (s, a) (nextP slack x v))]) := by
  have h := step_ok b r slack most s a x (one (s, a) v) hs ha hsl hm hx (bd_one hv)
  rw [at_one, upd_one] at h
  exact h
theorem step_in (b r : Nat) (slack most s a x : Int) (hs : 0 ≤ s ∧ s < 8) (ha : 0 ≤ a ∧ a < 3) (hsl : isMax slack) (hm : 0 ≤ most) (hx : -slack ≤ x ∧ x ≤ slack) :
    Spc Try.prog 9 #[.pointer (some ⟨b, 0, none⟩), pl (s, a), .int .i64 x] [] [mon b r slack most, sumsOf r []]
    (fun u I' H' => u = .tuple #[.bool (decide (max (0 : Int) 0 > most)), .int .i64 0] ∧ I' = [] ∧ H' = [mon b r slack most, sumsOf r []]) := by
  have hsl' := hsl; unfold isMax at hsl'
  have h := step_one b r slack most s a x (0, 0) hs ha hsl hm (by omega) (by simp [isMax])
  rw [next_zero hx hsl] at h
  exact h

theorem step_neg (b r : Nat) (slack most s a x : Int) (v : Int × Int) (hs : 0 ≤ s ∧ s < 8) (ha : 0 ≤ a ∧ a < 3) (hsl : isMax slack) (hm : 0 ≤ most) (hx : -9223372036854775807 ≤ x ∧ x ≤ 9223372036854775807) (hv : isMax v.1 ∧ isMax v.2) :
    Spc Try.prog 9 #[.pointer (some ⟨b, 0, none⟩), pl (s, a), .int .i64 (IntKind.i64.wrap (0 - x))] [] [mon b r slack most, sumsOf r (one (s, a) (v.2, v.1))]
    (fun u I' H' => u = .tuple #[.bool (decide (max (nextP slack x v).2 (nextP slack x v).1 > most)), .int .i64 0] ∧ I' = [] ∧ H' = [mon b r slack most, sumsOf r (one (s, a) ((nextP slack x v).2, (nextP slack x v).1))]) := by
  have e1 : IntKind.i64.wrap (0 - x) = -x := by rw [IntKind.wrap_i64]; omega
  have h := step_one b r slack most s a (-x) (v.2, v.1) hs ha hsl hm (by omega) ⟨hv.2, hv.1⟩
  rw [next_swap] at h
  rw [e1]
  exact h

theorem sums_one (b r : Nat) (slack most s a : Int) (v : Int × Int) :
    Spc Try.prog 10 #[.pointer (some ⟨b, 0, none⟩), pl (s, a)] [mon b r slack most, sumsOf r (one (s, a) v)] [] (Is (.tuple #[.int .i64 v.1, .int .i64 v.2])) := by
  have h := sums_ok b r slack most s a (one (s, a) v)
  rw [at_one] at h
  exact h

theorem slack_walk (slack most : Int) (hsl : slack ≤ 9223372036854775807) (hmo : most ≤ 9223372036854775807) (p : Option Addr) (l : List Int) (cap : Nat) (hl : l.length ≤ 9223372036854775807) (hb : ∀ a ∈ l, -9223372036854775808 ≤ a ∧ a ≤ 9223372036854775807) :
    Spc Try.prog 3 #[.int .i64 slack, .int .i64 most, .slice p l.length cap] [sls p 1 l.length (ints l)] [] (Is (.bool true)) := by
  refine Spc.enter Try.func3 rfl rfl rfl (fun w0 hw0 => ?_)
  refine CW.seq ?_
  refine CW.region (ef := []) (bk := []) ?_
  refine RL.assign rfl rfl rfl rfl ?_
  refine RL.nil ?_
  refine NQ.seq ?_
  refine CW.seq ?_
  refine CW.seq ?_
  refine CW.region (ef := []) (bk := []) ?_
  refine RL.callv (works_ok) Try.call7 rfl rfl rfl rfl (by repeat (first | exact Lend.nil | (refine Lend.inI ?_ ?_; (solve | (repeat (first | exact List.Mem.head _ | apply List.Mem.tail)))) | (refine Lend.inH ?_ ?_; (solve | (repeat (first | exact List.Mem.head _ | apply List.Mem.tail)))))) ?_
  refine RL.not rfl rfl rfl rfl ?_
  refine RL.nil ?_
  refine NQ.seq ?_
  -- STOP: if; todo top: ["code", ["cond", ["t", 27], ["seq", ["region", 2, [{"d": 6, "op": ["assign", ["c", ["bool", false]]], "ty": 4, "pos": "law.go:75", "after": [], "guard": null}], false], ["ret"]], ["skip"]]]
  refine CW.condF rfl (rfl) ?_
  refine CW.skip ?_
  refine NQ.seq ?_
  refine CW.seq ?_
  refine CW.region (ef := []) (bk := []) ?_
  refine RL.move rfl rfl rfl rfl ?_
  refine RL.max rfl rfl rfl rfl rfl ?_
  refine RL.move rfl rfl rfl rfl ?_
  refine RL.max rfl rfl rfl rfl rfl ?_
  refine RL.assign rfl rfl rfl rfl ?_
  refine RL.assign rfl rfl rfl rfl ?_
  refine RL.nil ?_
  refine NQ.seq ?_
  refine CW.only (.cons (k := 0) rfl (.cons (k := 1) rfl (.cons (k := 2) rfl .nil))) ?_
  refine CW.seq ?_
  refine CW.region (ef := [2]) (bk := []) ?_
  refine RL.move rfl rfl rfl rfl ?_
  refine RL.move rfl rfl rfl rfl ?_
  refine RL.call (new_yes _ _ (by omega) (by omega)) Try.call8 rfl rfl rfl rfl rfl (by repeat (first | exact Pick.nil | apply Pick.take | apply Pick.leave)) (by repeat (first | exact Lend.nil | (refine Lend.inI ?_ ?_; (solve | (repeat (first | exact List.Mem.head _ | apply List.Mem.tail)))) | (refine Lend.inH ?_ ?_; (solve | (repeat (first | exact List.Mem.head _ | apply List.Mem.tail)))))) (.inl rfl) ?_
  -- STOP: called; op 3: d=32 ["move", ["t", 35]] guard=None (law.go:78)
  rintro _ _ _ ⟨bx, rx, rfl, rfl, rfl⟩
  refine RL.move rfl rfl rfl rfl ?_
  refine RL.extract rfl rfl rfl rfl rfl ?_
  refine RL.extract rfl rfl rfl rfl rfl ?_
  refine RL.assign rfl rfl rfl rfl ?_
  refine RL.assign rfl rfl rfl rfl ?_
  refine RL.nil ?_
  refine NQ.seq ?_
  refine CW.only (.cons (k := 0) rfl (.cons (k := 1) rfl (.cons (k := 2) rfl (.cons (k := 7) rfl .nil)))) ?_
  refine CW.seq ?_
  refine CW.region (ef := [2]) (bk := []) ?_
  refine RL.move rfl rfl rfl rfl ?_
  refine RL.move rfl rfl rfl rfl ?_
  refine RL.call (new_yes _ _ (by omega) (by omega)) Try.call8 rfl rfl rfl rfl rfl (by repeat (first | exact Pick.nil | apply Pick.take | apply Pick.leave)) (by repeat (first | exact Lend.nil | (refine Lend.inI ?_ ?_; (solve | (repeat (first | exact List.Mem.head _ | apply List.Mem.tail)))) | (refine Lend.inH ?_ ?_; (solve | (repeat (first | exact List.Mem.head _ | apply List.Mem.tail)))))) (.inl rfl) ?_
  -- STOP: called; op 3: d=38 ["move", ["t", 41]] guard=None (law.go:79)
  rintro _ _ _ ⟨by_, ry, rfl, rfl, rfl⟩
  refine RL.move rfl rfl rfl rfl ?_
  refine RL.extract rfl rfl rfl rfl rfl ?_
  refine RL.extract rfl rfl rfl rfl rfl ?_
  refine RL.assign rfl rfl rfl rfl ?_
  refine RL.assign rfl rfl rfl rfl ?_
  refine RL.nil ?_
  refine NQ.seq ?_
  refine CW.only (.cons (k := 0) rfl (.cons (k := 1) rfl (.cons (k := 2) rfl (.cons (k := 7) rfl (.cons (k := 9) rfl .nil))))) ?_
  refine CW.seq ?_
  refine CW.region (ef := [2]) (bk := []) ?_
  refine RL.move rfl rfl rfl rfl ?_
  refine RL.move rfl rfl rfl rfl ?_
  refine RL.call (new_yes _ _ (by omega) (by omega)) Try.call8 rfl rfl rfl rfl rfl (by repeat (first | exact Pick.nil | apply Pick.take | apply Pick.leave)) (by repeat (first | exact Lend.nil | (refine Lend.inI ?_ ?_; (solve | (repeat (first | exact List.Mem.head _ | apply List.Mem.tail)))) | (refine Lend.inH ?_ ?_; (solve | (repeat (first | exact List.Mem.head _ | apply List.Mem.tail)))))) (.inl rfl) ?_
  -- STOP: called; op 3: d=44 ["move", ["t", 47]] guard=None (law.go:80)
  rintro _ _ _ ⟨bz, rz, rfl, rfl, rfl⟩
  refine RL.move rfl rfl rfl rfl ?_
  refine RL.extract rfl rfl rfl rfl rfl ?_
  refine RL.extract rfl rfl rfl rfl rfl ?_
  refine RL.assign rfl rfl rfl rfl ?_
  refine RL.assign rfl rfl rfl rfl ?_
  refine RL.nil ?_
  refine NQ.seq ?_
  refine CW.only (.cons (k := 0) rfl (.cons (k := 2) rfl (.cons (k := 7) rfl (.cons (k := 9) rfl (.cons (k := 11) rfl .nil))))) ?_
  refine CW.seq ?_
  refine CW.region (ef := [1, 2]) (bk := [2]) ?_
  refine RL.buildS [_, _] Try.zeroValue30 pl_30 rfl rfl rfl rfl rfl ?_
  refine RL.alloc Try.zeroValue30 rfl rfl rfl rfl rfl ?_
  intro b1
  refine RL.store (vs := [_, _]) Try.sizeOf30 rfl rfl rfl rfl rfl rfl rfl rfl rfl (by repeat (first | exact Upd.here | apply Upd.there)) ?_
  refine RL.nil ?_
  refine NQ.seq ?_
  refine CW.seq ?_
  refine CW.seq ?_
  refine CW.region (ef := []) (bk := []) ?_
  refine RL.assign rfl rfl rfl rfl ?_
  refine RL.nil ?_
  refine NQ.seq ?_
  refine CW.block ?_
  -- STOP: loop; todo top: ["code", ["loop", ["seq", ["seq", ["region", 9, [{"d": 51, "op": ["move", ["t", 14]], "ty": 3, "pos": "law.go:82", "after": [], "guard": null}, {"d": 52, "op": ["move", ["t", 2]], "ty": 23, "pos": "la
  have hp : p = none → l.length = 0 := fun hp => sls_nil (hw0.i _ (List.Mem.head _)) hp
  have hsm : isMax (max slack 0) := by unfold isMax; omega
  refine CW.loop (γ := Nat × (Int × Int)) (fun g => g.1 ≤ l.length ∧ isMax g.2.1 ∧ isMax g.2.2)
    (fun g => [(0, .int .i64 (max slack 0)), (2, .slice p l.length cap), (7, .pointer (some ⟨bx, 0, none⟩)), (9, .pointer (some ⟨by_, 0, none⟩)), (11, .pointer (some ⟨bz, 0, none⟩)), (13, .pointer (some ⟨b1, 0, none⟩)), (14, .int .i64 g.1)])
    (fun _ => [sls p 1 l.length (ints l)])
    (fun g => [cel b1 [.int .i64 7, .int .i64 2] 30, mon bz rz (max slack 0) (max most 1), sumsOf rz (one (7, 2) (g.2.2, g.2.1)), mon by_ ry (max slack 0) (max most 1), sumsOf ry (one (7, 2) g.2), mon bx rx (max slack 0) (max most 1), sumsOf rx []])
    (fun g => l.length - g.1) (0, (0, 0)) ⟨by simp, by simp [isMax], by simp [isMax]⟩ (.cons rfl (.cons rfl (.cons rfl (.cons rfl (.cons rfl (.cons rfl (.cons rfl .nil))))))) (fun _ h => h) ?_
  rintro ⟨k, v⟩ ⟨hk, hv⟩
  dsimp only at hk hv ⊢
  refine CW.seq ?_
  refine CW.seq ?_
  refine CW.region (ef := []) (bk := []) ?_
  refine RL.move rfl rfl rfl rfl ?_
  refine RL.move rfl rfl rfl rfl ?_
  refine RL.lenS Try.runUnderlying23 rfl rfl rfl rfl ?_
  refine RL.bin rfl rfl rfl rfl rfl rfl ?_
  refine RL.move rfl rfl rfl rfl ?_
  -- STOP: part 55; op 5: d=56 ["move", ["t", 14]] guard=[4, True] (law.go:82)
  refine RL.part (d := 55) rfl (fun hc => ?_) (fun hc => ?_)
  ·
    refine RL.move rfl rfl rfl rfl ?_
    refine RL.bin rfl rfl rfl rfl rfl rfl ?_
    refine RL.pickT rfl rfl rfl rfl rfl ?_
    refine RL.nil ?_
    refine NQ.seq ?_
    refine CW.only (.cons (k := 0) rfl (.cons (k := 2) rfl (.cons (k := 7) rfl (.cons (k := 9) rfl (.cons (k := 11) rfl (.cons (k := 13) rfl (.cons (k := 14) rfl (.cons (k := 58) rfl .nil)))))))) ?_
    -- STOP: if; todo top: ["code", ["cond", ["t", 58], ["skip"], ["exit", 0]]]
    refine CW.cond rfl (fun hd => ?_) (fun hd => ?_)
    ·
      refine CW.skip ?_
      refine NQ.seq ?_
      refine CW.seq ?_
      refine CW.block ?_
      refine CW.seq ?_
      refine CW.region (ef := []) (bk := []) ?_
      refine RL.move rfl rfl rfl rfl ?_
      refine RL.move rfl rfl rfl rfl ?_
      -- STOP: op; op 2: d=63 ["indexAddr", 23, ["t", 61], ["t", 62]] guard=None (law.go:83)
      have hlt : k < l.length := by simpa using hc
      obtain ⟨a, rfl⟩ : ∃ a, p = some a := by
        cases p with
        | none => have := hp rfl; omega
        | some a => exact ⟨a, rfl⟩
      have hkk : (ints l)[k * 1]? = some (.int .i64 l[k]) := by simp [ints, hlt]
      have hb2 := hb l[k] (List.getElem_mem _)
      generalize hx : l[k] = x at hkk hb2
      have hsm' := hsm; unfold isMax at hsm'
      have hmm : 0 ≤ max most 1 := by omega
      have e0 : IntKind.i64.wrap (0 - max slack 0) = - max slack 0 := by rw [IntKind.wrap_i64]; omega
      have e1 : IntKind.i64.wrap (0 - max x (-9223372036854775807)) = - max x (-9223372036854775807) := by rw [IntKind.wrap_i64]; omega
      refine RL.idx Try.runUnderlying23 Try.sizeOf22 rfl rfl rfl rfl rfl rfl hlt ?_
      refine RL.load Try.isAgg22 rfl rfl rfl rfl (Rds.rd (Rds.sls (List.Mem.head _)) hkk) ?_
      refine RL.max rfl rfl rfl rfl rfl ?_
      refine RL.assign rfl rfl rfl rfl ?_
      refine RL.nil ?_
      refine NQ.seq ?_
      refine CW.only (.cons (k := 0) rfl (.cons (k := 2) rfl (.cons (k := 7) rfl (.cons (k := 9) rfl (.cons (k := 11) rfl (.cons (k := 13) rfl (.cons (k := 14) rfl (.cons (k := 15) rfl .nil)))))))) ?_
      refine CW.seq ?_
      refine CW.region (ef := [8]) (bk := [8]) ?_
      refine RL.move rfl rfl rfl rfl ?_
      refine RL.loadN (vs := [_, _]) Try.isAgg30 Try.sizeOf30 rfl rfl rfl rfl (by first | (apply Rds.cel; (solve | (repeat (first | exact List.Mem.head _ | apply List.Mem.tail))); exact at_spec ⟨rfl, rfl, trivial⟩) | (apply Rds.celI; (solve | (repeat (first | exact List.Mem.head _ | apply List.Mem.tail))); exact at_spec ⟨rfl, rfl, trivial⟩) | assumption) ?_
      refine RL.move rfl rfl rfl rfl ?_
      refine RL.move rfl rfl rfl rfl ?_
      refine RL.neg rfl rfl rfl rfl ?_
      refine RL.max rfl rfl rfl rfl rfl ?_
      refine RL.move rfl rfl rfl rfl ?_
      refine RL.min rfl rfl rfl rfl rfl ?_
      refine RL.call (step_in _ rx (max slack 0) (max most 1) 7 2 _ (by omega) (by omega) hsm hmm (by rw [e0]; omega)) Try.call9 rfl rfl rfl rfl rfl (by repeat (first | exact Pick.nil | apply Pick.take | apply Pick.leave)) (by repeat (first | exact Lend.nil | (refine Lend.inI ?_ ?_; (solve | (repeat (first | exact List.Mem.head _ | apply List.Mem.tail)))) | (refine Lend.inH ?_ ?_; (solve | (repeat (first | exact List.Mem.head _ | apply List.Mem.tail)))))) (.inr rfl) ?_
      -- STOP: called; todo top: ["code", ["region", 12, [{"d": 66, "op": ["move", ["t", 7]], "ty": 25, "pos": "law.go:85", "after": [], "guard": null}, {"d": 67, "op": ["load", 30, ["t", 13]], "ty": 30, "pos": "law.go:85", "after": 
      rintro _ _ _ ⟨rfl, rfl, rfl⟩
      refine RL.nil ?_
      refine NQ.seq ?_
      refine CW.only (.cons (k := 0) rfl (.cons (k := 2) rfl (.cons (k := 7) rfl (.cons (k := 9) rfl (.cons (k := 11) rfl (.cons (k := 13) rfl (.cons (k := 14) rfl (.cons (k := 15) rfl .nil)))))))) ?_
      refine CW.seq ?_
      refine CW.region (ef := [3]) (bk := [3]) ?_
      refine RL.move rfl rfl rfl rfl ?_
      refine RL.loadN (vs := [_, _]) Try.isAgg30 Try.sizeOf30 rfl rfl rfl rfl (by first | (apply Rds.cel; (solve | (repeat (first | exact List.Mem.head _ | apply List.Mem.tail))); exact at_spec ⟨rfl, rfl, trivial⟩) | (apply Rds.celI; (solve | (repeat (first | exact List.Mem.head _ | apply List.Mem.tail))); exact at_spec ⟨rfl, rfl, trivial⟩) | assumption) ?_
      refine RL.move rfl rfl rfl rfl ?_
      refine RL.call (step_one _ ry (max slack 0) (max most 1) 7 2 _ v (by omega) (by omega) hsm hmm (by omega) hv) Try.call9 rfl rfl rfl rfl rfl (by repeat (first | exact Pick.nil | apply Pick.take | apply Pick.leave)) (by repeat (first | exact Lend.nil | (refine Lend.inI ?_ ?_; (solve | (repeat (first | exact List.Mem.head _ | apply List.Mem.tail)))) | (refine Lend.inH ?_ ?_; (solve | (repeat (first | exact List.Mem.head _ | apply List.Mem.tail)))))) (.inr rfl) ?_
      -- STOP: called; op 4: d=75 ["move", ["t", 79]] guard=None (law.go:86)
      rintro _ _ _ ⟨rfl, rfl, rfl⟩
      refine RL.move rfl rfl rfl rfl ?_
      refine RL.extract rfl rfl rfl rfl rfl ?_
      refine RL.extract rfl rfl rfl rfl rfl ?_
      refine RL.assign rfl rfl rfl rfl ?_
      refine RL.assign rfl rfl rfl rfl ?_
      refine RL.nil ?_
      refine NQ.seq ?_
      refine CW.only (.cons (k := 0) rfl (.cons (k := 2) rfl (.cons (k := 7) rfl (.cons (k := 9) rfl (.cons (k := 11) rfl (.cons (k := 13) rfl (.cons (k := 14) rfl (.cons (k := 15) rfl (.cons (k := 16) rfl .nil))))))))) ?_
      refine CW.seq ?_
      refine CW.region (ef := [4]) (bk := [4]) ?_
      refine RL.move rfl rfl rfl rfl ?_
      refine RL.loadN (vs := [_, _]) Try.isAgg30 Try.sizeOf30 rfl rfl rfl rfl (by first | (apply Rds.cel; (solve | (repeat (first | exact List.Mem.head _ | apply List.Mem.tail))); exact at_spec ⟨rfl, rfl, trivial⟩) | (apply Rds.celI; (solve | (repeat (first | exact List.Mem.head _ | apply List.Mem.tail))); exact at_spec ⟨rfl, rfl, trivial⟩) | assumption) ?_
      refine RL.move rfl rfl rfl rfl ?_
      refine RL.neg rfl rfl rfl rfl ?_
      refine RL.call (step_neg _ rz (max slack 0) (max most 1) 7 2 _ v (by omega) (by omega) hsm hmm (by omega) hv) Try.call9 rfl rfl rfl rfl rfl (by repeat (first | exact Pick.nil | apply Pick.take | apply Pick.leave)) (by repeat (first | exact Lend.nil | (refine Lend.inI ?_ ?_; (solve | (repeat (first | exact List.Mem.head _ | apply List.Mem.tail)))) | (refine Lend.inH ?_ ?_; (solve | (repeat (first | exact List.Mem.head _ | apply List.Mem.tail)))))) (.inr rfl) ?_
      -- STOP: called; op 5: d=82 ["move", ["t", 87]] guard=None (law.go:87)
      rintro _ _ _ ⟨rfl, rfl, rfl⟩
      have hn := next_bd (max slack 0) (max x (-9223372036854775807)) v
      generalize nextP (max slack 0) (max x (-9223372036854775807)) v = u at hn ⊢
      refine RL.move rfl rfl rfl rfl ?_
      refine RL.extract rfl rfl rfl rfl rfl ?_
      refine RL.extract rfl rfl rfl rfl rfl ?_
      refine RL.assign rfl rfl rfl rfl ?_
      refine RL.assign rfl rfl rfl rfl ?_
      refine RL.nil ?_
      refine NQ.seq ?_
      refine CW.only (.cons (k := 0) rfl (.cons (k := 2) rfl (.cons (k := 7) rfl (.cons (k := 9) rfl (.cons (k := 11) rfl (.cons (k := 13) rfl (.cons (k := 14) rfl (.cons (k := 16) rfl (.cons (k := 18) rfl .nil))))))))) ?_
      refine CW.seq ?_
      refine CW.region (ef := []) (bk := []) ?_
      refine RL.move rfl rfl rfl rfl ?_
      refine RL.loadN (vs := [_, _]) Try.isAgg30 Try.sizeOf30 rfl rfl rfl rfl (by first | (apply Rds.cel; (solve | (repeat (first | exact List.Mem.head _ | apply List.Mem.tail))); exact at_spec ⟨rfl, rfl, trivial⟩) | (apply Rds.celI; (solve | (repeat (first | exact List.Mem.head _ | apply List.Mem.tail))); exact at_spec ⟨rfl, rfl, trivial⟩) | assumption) ?_
      refine RL.callv (sums_ok _ rx (max slack 0) (max most 1) _ _ []) Try.call10 rfl rfl rfl rfl (by repeat (first | exact Lend.nil | (refine Lend.inI ?_ ?_; (solve | (repeat (first | exact List.Mem.head _ | apply List.Mem.tail)))) | (refine Lend.inH ?_ ?_; (solve | (repeat (first | exact List.Mem.head _ | apply List.Mem.tail)))))) ?_
      refine RL.move rfl rfl rfl rfl ?_
      refine RL.extract rfl rfl rfl rfl rfl ?_
      refine RL.extract rfl rfl rfl rfl rfl ?_
      refine RL.assign rfl rfl rfl rfl ?_
      refine RL.assign rfl rfl rfl rfl ?_
      refine RL.nil ?_
      refine NQ.seq ?_
      refine CW.only (.cons (k := 0) rfl (.cons (k := 2) rfl (.cons (k := 7) rfl (.cons (k := 9) rfl (.cons (k := 11) rfl (.cons (k := 13) rfl (.cons (k := 14) rfl (.cons (k := 16) rfl (.cons (k := 18) rfl (.cons (k := 20) rfl (.cons (k := 21) rfl .nil))))))))))) ?_
      refine CW.seq ?_
      refine CW.region (ef := []) (bk := []) ?_
      refine RL.move rfl rfl rfl rfl ?_
      refine RL.loadN (vs := [_, _]) Try.isAgg30 Try.sizeOf30 rfl rfl rfl rfl (by first | (apply Rds.cel; (solve | (repeat (first | exact List.Mem.head _ | apply List.Mem.tail))); exact at_spec ⟨rfl, rfl, trivial⟩) | (apply Rds.celI; (solve | (repeat (first | exact List.Mem.head _ | apply List.Mem.tail))); exact at_spec ⟨rfl, rfl, trivial⟩) | assumption) ?_
      -- STOP: op; op 2: d=99 ["call", ["f", 10], [["t", 97], ["t", 98]], [25, 30]] guard=None (law.go:89)
      refine RL.callv (sums_one _ ry (max slack 0) (max most 1) _ _ u) Try.call10 rfl rfl rfl rfl (by repeat (first | exact Lend.nil | (refine Lend.inI ?_ ?_; (solve | (repeat (first | exact List.Mem.head _ | apply List.Mem.tail)))) | (refine Lend.inH ?_ ?_; (solve | (repeat (first | exact List.Mem.head _ | apply List.Mem.tail)))))) ?_
      refine RL.move rfl rfl rfl rfl ?_
      refine RL.extract rfl rfl rfl rfl rfl ?_
      refine RL.extract rfl rfl rfl rfl rfl ?_
      refine RL.assign rfl rfl rfl rfl ?_
      refine RL.assign rfl rfl rfl rfl ?_
      refine RL.nil ?_
      refine NQ.seq ?_
      refine CW.only (.cons (k := 0) rfl (.cons (k := 2) rfl (.cons (k := 7) rfl (.cons (k := 9) rfl (.cons (k := 11) rfl (.cons (k := 13) rfl (.cons (k := 14) rfl (.cons (k := 16) rfl (.cons (k := 18) rfl (.cons (k := 20) rfl (.cons (k := 21) rfl (.cons (k := 22) rfl (.cons (k := 23) rfl .nil))))))))))))) ?_
      refine CW.seq ?_
      refine CW.region (ef := []) (bk := []) ?_
      refine RL.move rfl rfl rfl rfl ?_
      refine RL.loadN (vs := [_, _]) Try.isAgg30 Try.sizeOf30 rfl rfl rfl rfl (by first | (apply Rds.cel; (solve | (repeat (first | exact List.Mem.head _ | apply List.Mem.tail))); exact at_spec ⟨rfl, rfl, trivial⟩) | (apply Rds.celI; (solve | (repeat (first | exact List.Mem.head _ | apply List.Mem.tail))); exact at_spec ⟨rfl, rfl, trivial⟩) | assumption) ?_
      -- STOP: op; op 2: d=105 ["call", ["f", 10], [["t", 103], ["t", 104]], [25, 30]] guard=None (law.go:90)
      refine RL.callv (sums_one _ rz (max slack 0) (max most 1) _ _ (u.2, u.1)) Try.call10 rfl rfl rfl rfl (by repeat (first | exact Lend.nil | (refine Lend.inI ?_ ?_; (solve | (repeat (first | exact List.Mem.head _ | apply List.Mem.tail)))) | (refine Lend.inH ?_ ?_; (solve | (repeat (first | exact List.Mem.head _ | apply List.Mem.tail)))))) ?_
      refine RL.move rfl rfl rfl rfl ?_
      refine RL.extract rfl rfl rfl rfl rfl ?_
      refine RL.extract rfl rfl rfl rfl rfl ?_
      refine RL.assign rfl rfl rfl rfl ?_
      refine RL.assign rfl rfl rfl rfl ?_
      refine RL.nil ?_
      refine NQ.seq ?_
      refine CW.only (.cons (k := 0) rfl (.cons (k := 2) rfl (.cons (k := 7) rfl (.cons (k := 9) rfl (.cons (k := 11) rfl (.cons (k := 13) rfl (.cons (k := 14) rfl (.cons (k := 16) rfl (.cons (k := 18) rfl (.cons (k := 20) rfl (.cons (k := 21) rfl (.cons (k := 22) rfl (.cons (k := 23) rfl (.cons (k := 24) rfl (.cons (k := 25) rfl .nil))))))))))))))) ?_
      refine CW.seq ?_
      refine CW.region (ef := []) (bk := []) ?_
      refine RL.move rfl rfl rfl rfl ?_
      refine RL.bin rfl rfl rfl rfl rfl rfl ?_
      refine RL.move rfl rfl rfl rfl ?_
      -- STOP: part 110; op 3: d=111 ["move", ["t", 21]] guard=[2, False] (law.go:91)
      refine RL.move rfl rfl rfl rfl ?_
      refine RL.bin rfl rfl rfl rfl rfl rfl ?_
      refine RL.pickF rfl rfl rfl rfl rfl ?_
      refine RL.move rfl rfl rfl rfl ?_
      -- STOP: part 114; op 7: d=115 ["move", ["t", 22]] guard=[6, False] (law.go:91)
      refine RL.move rfl rfl rfl rfl ?_
      refine RL.move rfl rfl rfl rfl ?_
      refine RL.bin rfl rfl rfl rfl rfl rfl ?_
      refine RL.pickF rfl rfl rfl rfl rfl ?_
      refine RL.move rfl rfl rfl rfl ?_
      -- STOP: part 119; op 12: d=120 ["move", ["t", 23]] guard=[11, False] (law.go:91)
      refine RL.cast (d := 119) (v' := .bool false) rfl ((by simp)) ?_
      refine RL.move rfl rfl rfl rfl ?_
      refine RL.move rfl rfl rfl rfl ?_
      refine RL.bin rfl rfl rfl rfl rfl rfl ?_
      refine RL.pickF rfl rfl rfl rfl rfl ?_
      refine RL.move rfl rfl rfl rfl ?_
      -- STOP: part 124; op 17: d=125 ["move", ["t", 16]] guard=[16, False] (law.go:91)
      refine RL.cast (d := 124) (v' := .bool false) rfl ((by simp)) ?_
      refine RL.move rfl rfl rfl rfl ?_
      refine RL.move rfl rfl rfl rfl ?_
      refine RL.cmp rfl rfl rfl rfl rfl (neq_bool Try.runUnderlying4 _ _) ?_
      refine RL.pickF rfl rfl rfl rfl rfl ?_
      refine RL.nil ?_
      refine NQ.seq ?_
      refine CW.only (.cons (k := 0) rfl (.cons (k := 2) rfl (.cons (k := 7) rfl (.cons (k := 9) rfl (.cons (k := 11) rfl (.cons (k := 13) rfl (.cons (k := 14) rfl (.cons (k := 128) rfl .nil)))))))) ?_
      -- STOP: if; todo top: ["code", ["cond", ["t", 128], ["seq", ["region", 19, [{"d": 6, "op": ["assign", ["c", ["bool", false]]], "ty": 4, "pos": "law.go:92", "after": [], "guard": null}], false], ["ret"]], ["skip"]]]
      refine CW.condF rfl ((by rw [Int.max_comm]; simp)) ?_
      refine CW.skip ?_
      refine NQ.block ?_
      refine NQ.seq ?_
      refine CW.region (ef := []) (bk := []) ?_
      refine RL.move rfl rfl rfl rfl ?_
      refine RL.binX rfl rfl rfl rfl rfl rfl (wrapV_i64 (by omega) (by omega)) ?_
      refine RL.assign rfl rfl rfl rfl ?_
      refine RL.nil ?_
      -- STOP: round; todo top: ["N"]
      refine NQ.round (g := (k, v)) (k + 1, u) ⟨hlt, hn⟩ (by dsimp only; omega) (.cons rfl (.cons rfl (.cons rfl (.cons rfl (.cons rfl (.cons rfl (.cons rfl .nil))))))) (fun w hw => hw.rea (fun _ h => h) (by repeat (first | exact Rea.nil | (apply Rea.cons; (solve | (repeat (first | exact Del.here | apply Del.there)))))))
    ·
      refine CW.exit ?_
      refine XQ.seq ?_
      refine XQ.seq ?_
      refine XQ.hit ?_
      refine NQ.seq ?_
      refine CW.only .nil ?_
      refine CW.seq ?_
      refine CW.region (ef := []) (bk := []) ?_
      refine RL.assign rfl rfl rfl rfl ?_
      refine RL.nil ?_
      refine NQ.seq ?_
      refine CW.ret ?_
      -- STOP: ret; end
      exact RQ.post (res1 rfl rfl) (Split.none _) ⟨rfl, rfl, rfl⟩
  ·
    refine RL.skip rfl rfl rfl rfl ?_
    refine RL.skip rfl rfl rfl rfl ?_
    refine RL.pickF rfl rfl rfl rfl rfl ?_
    refine RL.nil ?_
    refine NQ.seq ?_
    refine CW.only (.cons (k := 0) rfl (.cons (k := 2) rfl (.cons (k := 7) rfl (.cons (k := 9) rfl (.cons (k := 11) rfl (.cons (k := 13) rfl (.cons (k := 14) rfl (.cons (k := 58) rfl .nil)))))))) ?_
    refine CW.condF rfl rfl ?_
    refine CW.exit ?_
    refine XQ.seq ?_
    refine XQ.seq ?_
    refine XQ.hit ?_
    refine NQ.seq ?_
    refine CW.only .nil ?_
    refine CW.seq ?_
    refine CW.region (ef := []) (bk := []) ?_
    refine RL.assign rfl rfl rfl rfl ?_
    refine RL.nil ?_
    refine NQ.seq ?_
    refine CW.ret ?_
    -- STOP: ret; end
    exact RQ.post (res1 rfl rfl) (Split.none _) ⟨rfl, rfl, rfl⟩
end Go.Proofs.Ytnpkogbniejgfaa
