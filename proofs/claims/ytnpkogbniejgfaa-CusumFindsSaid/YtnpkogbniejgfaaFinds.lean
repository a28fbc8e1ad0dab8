/- CusumFinds: what the walk of the law needs: sums of small numbers do not saturate. -/
import Derived.Test.YtnpkogbniejgfaaSlack
namespace Go.Proofs.Ytnpkogbniejgfaa
open Go.PK

def ints32 (l : List Int) : List Value := l.map (Value.int .i32)

/-- How far the sums may be behind 'k' numbers. -/
def Near (k : Nat) (U D : Int) (v : Int × Int) : Prop :=
  -(281474976710656 * (k : Int)) ≤ U ∧ U ≤ 281474976710656 * k ∧ -(281474976710656 * (k : Int)) ≤ D ∧ D ≤ 281474976710656 * k ∧ U ≤ v.1 ∧ D ≤ v.2 ∧ 0 ≤ v.1 ∧ 0 ≤ v.2 ∧ v.1 ≤ 281474976710656 * k ∧ v.2 ≤ 281474976710656 * k

theorem near_next {k : Nat} {U D sl r : Int} {v : Int × Int} (h : Near k U D v) (hk : k < 60) (hs : 0 ≤ sl ∧ sl < 1099511627776) (hr : -140737488355328 ≤ r ∧ r ≤ 140737488355328) : Near (k + 1) (U + r - sl) (D - r - sl) (nextP sl r v) := by
  unfold Near at *
  have c1 : clip (v.1 + r - sl) = v.1 + r - sl := by unfold clip; split; omega; split <;> omega
  have c2 : clip (v.2 - r - sl) = v.2 - r - sl := by unfold clip; split; omega; split <;> omega
  simp only [nextP, c1, c2]
  omega

theorem near_max {k : Nat} {U D : Int} {v : Int × Int} (h : Near k U D v) (hk : k ≤ 60) : isMax v.1 ∧ isMax v.2 := by
  unfold Near isMax at *; omega

theorem finds_walk (slack most : Int) (hsl : slack ≤ 9223372036854775807) (hmo : most ≤ 9223372036854775807) (p : Option Addr) (l : List Int) (cap : Nat) (hb : ∀ a ∈ l, -2147483648 ≤ a ∧ a ≤ 2147483647) :
    Spc Try.prog 4 #[.int .i64 slack, .int .i64 most, .slice p l.length cap] [sls p 1 l.length (ints32 l)] [] (Is (.bool true)) := by
  have hp : ∀ w0, Sat [sls p 1 l.length (ints32 l)] [] w0 → p = none → l.length = 0 := fun w0 hw0 hp => sls_nil (hw0.i _ (List.Mem.head _)) hp
  obtain ⟨sl, hsl'⟩ : ∃ sl, sl = (max slack 0).tmod 1099511627776 := ⟨_, rfl⟩
  obtain ⟨mo, hmo'⟩ : ∃ mo, mo = (max most 0).tmod 1125899906842624 := ⟨_, rfl⟩
  have h1 : 0 ≤ sl ∧ sl < 1099511627776 := by subst hsl'; rw [Int.tmod_eq_emod_of_nonneg (by omega)]; omega
  have h2 : 0 ≤ mo ∧ mo < 1125899906842624 := by subst hmo'; rw [Int.tmod_eq_emod_of_nonneg (by omega)]; omega
  refine Spc.enter Try.func4 rfl rfl rfl (fun w0 hw0 => ?_)
  refine CW.seq ?_
  refine CW.region (ef := []) (bk := []) ?_
  refine RL.assign rfl rfl rfl rfl ?_
  refine RL.nil ?_
  refine NQ.seq ?_
  refine CW.seq ?_
  refine CW.seq ?_
  refine CW.region (ef := []) (bk := []) ?_
  refine RL.callv (works_ok) Try.call7 rfl rfl rfl rfl (by repeat (first | exact Lend.nil | (refine Lend.inI ?_ ?_; (solve | (repeat (first | exact List.Mem.head _ | apply List.Mem.tail)))) | (refine Lend.inH ?_ ?_; (solve | (repeat (first | exact List.Mem.head _ | apply List.Mem.tail)))))) ?_
  refine RL.not rfl rfl rfl rfl ?_
  refine RL.nil ?_
  refine NQ.seq ?_
  -- STOP: if; todo top: ["code", ["cond", ["t", 19], ["seq", ["region", 2, [{"d": 6, "op": ["assign", ["c", ["bool", false]]], "ty": 4, "pos": "law.go:101", "after": [], "guard": null}], false], ["ret"]], ["skip"]]]
  refine CW.condF rfl (rfl) ?_
  refine CW.skip ?_
  refine NQ.seq ?_
  refine CW.seq ?_
  refine CW.region (ef := []) (bk := []) ?_
  refine RL.move rfl rfl rfl rfl ?_
  refine RL.max rfl rfl rfl rfl rfl ?_
  refine RL.rem rfl rfl rfl rfl rfl (by decide) ?_
  refine RL.move rfl rfl rfl rfl ?_
  refine RL.max rfl rfl rfl rfl rfl ?_
  refine RL.rem rfl rfl rfl rfl rfl (by decide) ?_
  refine RL.binX rfl rfl rfl rfl rfl rfl (wrapV_i64 (by omega) (by omega)) ?_
  refine RL.assign rfl rfl rfl rfl ?_
  refine RL.assign rfl rfl rfl rfl ?_
  refine RL.nil ?_
  refine NQ.seq ?_
  refine CW.only (.cons (k := 0) rfl (.cons (k := 1) rfl (.cons (k := 2) rfl .nil))) ?_
  refine CW.seq ?_
  refine CW.region (ef := [2]) (bk := []) ?_
  refine RL.move rfl rfl rfl rfl ?_
  refine RL.move rfl rfl rfl rfl ?_
  refine RL.call (new_yes _ _ (by omega) (by omega)) Try.call8 rfl rfl rfl rfl rfl (by repeat (first | exact Pick.nil | apply Pick.take | apply Pick.leave)) (by repeat (first | exact Lend.nil | (refine Lend.inI ?_ ?_; (solve | (repeat (first | exact List.Mem.head _ | apply List.Mem.tail)))) | (refine Lend.inH ?_ ?_; (solve | (repeat (first | exact List.Mem.head _ | apply List.Mem.tail)))))) (.inl rfl) ?_
  -- STOP: called; op 3: d=27 ["move", ["t", 30]] guard=None (law.go:105)
  rintro _ _ _ ⟨bx, rx, rfl, rfl, rfl⟩
  refine RL.move rfl rfl rfl rfl ?_
  refine RL.extract rfl rfl rfl rfl rfl ?_
  refine RL.extract rfl rfl rfl rfl rfl ?_
  refine RL.assign rfl rfl rfl rfl ?_
  refine RL.assign rfl rfl rfl rfl ?_
  refine RL.nil ?_
  refine NQ.seq ?_
  refine CW.only (.cons (k := 0) rfl (.cons (k := 1) rfl (.cons (k := 2) rfl (.cons (k := 7) rfl .nil)))) ?_
  refine CW.seq ?_
  refine CW.region (ef := [1, 2]) (bk := [2]) ?_
  refine RL.buildS [_, _] Try.zeroValue30 pl_30 rfl rfl rfl rfl rfl ?_
  refine RL.alloc Try.zeroValue30 rfl rfl rfl rfl rfl ?_
  intro b1
  refine RL.store (vs := [_, _]) Try.sizeOf30 rfl rfl rfl rfl rfl rfl rfl rfl rfl (by repeat (first | exact Upd.here | apply Upd.there)) ?_
  refine RL.nil ?_
  refine NQ.seq ?_
  refine CW.seq ?_
  refine CW.region (ef := []) (bk := []) ?_
  refine RL.assign rfl rfl rfl rfl ?_
  refine RL.assign rfl rfl rfl rfl ?_
  refine RL.nil ?_
  refine NQ.seq ?_
  refine CW.seq ?_
  refine CW.seq ?_
  refine CW.region (ef := []) (bk := []) ?_
  refine RL.assign rfl rfl rfl rfl ?_
  refine RL.nil ?_
  refine NQ.seq ?_
  refine CW.block ?_
  -- STOP: loop; todo top: ["code", ["loop", ["seq", ["seq", ["region", 8, [{"d": 34, "op": ["move", ["t", 12]], "ty": 3, "pos": "law.go:108", "after": [], "guard": null}, {"d": 35, "op": ["move", ["t", 2]], "ty": 36, "pos": "l
  rw [← hsl', ← hmo']
  refine CW.loop (γ := Nat × Int × Int × (Int × Int)) (fun g => g.1 ≤ l.length ∧ Near (min g.1 60) g.2.1 g.2.2.1 g.2.2.2 ∧ g.1 ≤ 60)
    (fun g => [(0, .int .i64 sl), (1, .int .i64 (1 + mo)), (2, .slice p l.length cap), (7, .pointer (some ⟨bx, 0, none⟩)), (9, .pointer (some ⟨b1, 0, none⟩)), (10, .int .i64 g.2.1), (11, .int .i64 g.2.2.1), (12, .int .i64 g.1)])
    (fun _ => [sls p 1 l.length (ints32 l)])
    (fun g => [cel b1 [.int .i64 0, .int .i64 1] 30, mon bx rx sl (1 + mo), sumsOf rx (one (0, 1) g.2.2.2)])
    (fun g => l.length - g.1) (0, 0, 0, (0, 0)) ⟨by simp, by simp [Near], by simp⟩ (.cons rfl (.cons rfl (.cons rfl (.cons rfl (.cons rfl (.cons rfl (.cons rfl (.cons rfl .nil)))))))) (fun _ h => h) ?_
  rintro ⟨k, U, D, v⟩ ⟨hk, hv, hk60⟩
  dsimp only at hk hv hk60 ⊢
  rw [Nat.min_eq_left hk60] at hv
  refine CW.seq ?_
  refine CW.seq ?_
  refine CW.region (ef := []) (bk := []) ?_
  refine RL.move rfl rfl rfl rfl ?_
  refine RL.move rfl rfl rfl rfl ?_
  refine RL.lenS Try.runUnderlying36 rfl rfl rfl rfl ?_
  refine RL.bin rfl rfl rfl rfl rfl rfl ?_
  refine RL.move rfl rfl rfl rfl ?_
  -- STOP: part 38; op 5: d=39 ["move", ["t", 12]] guard=[4, True] (law.go:108)
  refine RL.part (d := 38) rfl (fun hc => ?_) (fun hc => ?_)
  ·
    refine RL.move rfl rfl rfl rfl ?_
    refine RL.bin rfl rfl rfl rfl rfl rfl ?_
    refine RL.pickT rfl rfl rfl rfl rfl ?_
    refine RL.nil ?_
    refine NQ.seq ?_
    refine CW.only (.cons (k := 0) rfl (.cons (k := 1) rfl (.cons (k := 2) rfl (.cons (k := 7) rfl (.cons (k := 9) rfl (.cons (k := 10) rfl (.cons (k := 11) rfl (.cons (k := 12) rfl (.cons (k := 41) rfl .nil))))))))) ?_
    -- STOP: if; todo top: ["code", ["cond", ["t", 41], ["skip"], ["exit", 0]]]
    refine CW.cond rfl (fun hd => ?_) (fun hd => ?_)
    ·
      refine CW.skip ?_
      refine NQ.seq ?_
      refine CW.seq ?_
      refine CW.block ?_
      refine CW.seq ?_
      refine CW.region (ef := []) (bk := []) ?_
      refine RL.move rfl rfl rfl rfl ?_
      refine RL.move rfl rfl rfl rfl ?_
      -- STOP: op; op 2: d=46 ["indexAddr", 36, ["t", 44], ["t", 45]] guard=None (law.go:109)
      have hlt : k < l.length := by simpa using hc
      have hk2 : k < 60 := by simp at hd; omega
      obtain ⟨a, rfl⟩ : ∃ a, p = some a := by
        cases p with
        | none => have := hp w0 hw0 rfl; omega
        | some a => exact ⟨a, rfl⟩
      have hkk : (ints32 l)[k * 1]? = some (.int .i32 l[k]) := by simp [ints32, hlt]
      have hb2 := hb l[k] (List.getElem_mem _)
      generalize l[k] = x at hkk hb2
      have e0 : IntKind.i64.wrap (IntKind.i64.wrap x * 2 ^ 16) = x * 65536 := by rw [IntKind.wrap_i64, IntKind.wrap_i64]; omega
      obtain ⟨r, hr⟩ : ∃ r, r = x * 65536 := ⟨_, rfl⟩
      have hr' : -140737488355328 ≤ r ∧ r ≤ 140737488355328 := by omega
      have hn := near_next hv hk2 h1 hr'
      have hmx := near_max hv hk60
      have hsm : isMax sl := by unfold isMax; omega
      refine RL.idx Try.runUnderlying36 Try.sizeOf21 rfl rfl rfl rfl rfl rfl hlt ?_
      refine RL.load Try.isAgg21 rfl rfl rfl rfl (Rds.rd (Rds.sls (List.Mem.head _)) hkk) ?_
      refine RL.conv Try.runUnderlying21 Try.runUnderlying22 rfl rfl rfl rfl ?_
      refine RL.shl 16 rfl rfl rfl rfl rfl rfl (by decide) ?_
      -- STOP: op; op 6: d=13 ["assign", ["t", 49]] guard=None (law.go:109)
      refine RL.cast (d := 49) rfl (congrArg (Value.int .i64) (e0.trans hr.symm)) ?_
      refine RL.assign rfl rfl rfl rfl ?_
      refine RL.nil ?_
      refine NQ.seq ?_
      refine CW.only (.cons (k := 0) rfl (.cons (k := 1) rfl (.cons (k := 2) rfl (.cons (k := 7) rfl (.cons (k := 9) rfl (.cons (k := 10) rfl (.cons (k := 11) rfl (.cons (k := 12) rfl (.cons (k := 13) rfl .nil))))))))) ?_
      refine CW.seq ?_
      refine CW.region (ef := [3]) (bk := [3]) ?_
      refine RL.move rfl rfl rfl rfl ?_
      refine RL.loadN (vs := [_, _]) Try.isAgg30 Try.sizeOf30 rfl rfl rfl rfl (by first | (apply Rds.cel; (solve | (repeat (first | exact List.Mem.head _ | apply List.Mem.tail))); exact at_spec ⟨rfl, rfl, trivial⟩) | (apply Rds.celI; (solve | (repeat (first | exact List.Mem.head _ | apply List.Mem.tail))); exact at_spec ⟨rfl, rfl, trivial⟩) | assumption) ?_
      refine RL.move rfl rfl rfl rfl ?_
      refine RL.call (step_one _ rx sl (1 + mo) 0 1 _ v (by omega) (by omega) hsm (by omega) (by omega) hmx) Try.call9 rfl rfl rfl rfl rfl (by repeat (first | exact Pick.nil | apply Pick.take | apply Pick.leave)) (by repeat (first | exact Lend.nil | (refine Lend.inI ?_ ?_; (solve | (repeat (first | exact List.Mem.head _ | apply List.Mem.tail)))) | (refine Lend.inH ?_ ?_; (solve | (repeat (first | exact List.Mem.head _ | apply List.Mem.tail)))))) (.inr rfl) ?_
      -- STOP: called; op 4: d=50 ["move", ["t", 54]] guard=None (law.go:110)
      rintro _ _ _ ⟨rfl, rfl, rfl⟩
      generalize nextP sl r v = u at hn ⊢
      have hn' := hn; unfold Near at hn' hv
      refine RL.move rfl rfl rfl rfl ?_
      refine RL.extract rfl rfl rfl rfl rfl ?_
      refine RL.extract rfl rfl rfl rfl rfl ?_
      refine RL.assign rfl rfl rfl rfl ?_
      refine RL.assign rfl rfl rfl rfl ?_
      refine RL.nil ?_
      refine NQ.seq ?_
      refine CW.only (.cons (k := 0) rfl (.cons (k := 1) rfl (.cons (k := 2) rfl (.cons (k := 7) rfl (.cons (k := 9) rfl (.cons (k := 10) rfl (.cons (k := 11) rfl (.cons (k := 12) rfl (.cons (k := 13) rfl (.cons (k := 14) rfl .nil)))))))))) ?_
      refine CW.seq ?_
      refine CW.region (ef := []) (bk := []) ?_
      refine RL.move rfl rfl rfl rfl ?_
      refine RL.move rfl rfl rfl rfl ?_
      refine RL.binX rfl rfl rfl rfl rfl rfl (wrapV_i64 (by omega) (by omega)) ?_
      refine RL.move rfl rfl rfl rfl ?_
      refine RL.binX rfl rfl rfl rfl rfl rfl (wrapV_i64 (by omega) (by omega)) ?_
      refine RL.move rfl rfl rfl rfl ?_
      refine RL.move rfl rfl rfl rfl ?_
      refine RL.binX rfl rfl rfl rfl rfl rfl (wrapV_i64 (by omega) (by omega)) ?_
      refine RL.move rfl rfl rfl rfl ?_
      refine RL.binX rfl rfl rfl rfl rfl rfl (wrapV_i64 (by omega) (by omega)) ?_
      refine RL.assign rfl rfl rfl rfl ?_
      refine RL.assign rfl rfl rfl rfl ?_
      refine RL.nil ?_
      refine NQ.seq ?_
      refine CW.only (.cons (k := 0) rfl (.cons (k := 1) rfl (.cons (k := 2) rfl (.cons (k := 7) rfl (.cons (k := 9) rfl (.cons (k := 10) rfl (.cons (k := 11) rfl (.cons (k := 12) rfl (.cons (k := 14) rfl .nil))))))))) ?_
      refine CW.seq ?_
      refine CW.region (ef := []) (bk := []) ?_
      refine RL.move rfl rfl rfl rfl ?_
      refine RL.loadN (vs := [_, _]) Try.isAgg30 Try.sizeOf30 rfl rfl rfl rfl (by first | (apply Rds.cel; (solve | (repeat (first | exact List.Mem.head _ | apply List.Mem.tail))); exact at_spec ⟨rfl, rfl, trivial⟩) | (apply Rds.celI; (solve | (repeat (first | exact List.Mem.head _ | apply List.Mem.tail))); exact at_spec ⟨rfl, rfl, trivial⟩) | assumption) ?_
      refine RL.callv (sums_one _ rx sl (1 + mo) _ _ u) Try.call10 rfl rfl rfl rfl (by repeat (first | exact Lend.nil | (refine Lend.inI ?_ ?_; (solve | (repeat (first | exact List.Mem.head _ | apply List.Mem.tail)))) | (refine Lend.inH ?_ ?_; (solve | (repeat (first | exact List.Mem.head _ | apply List.Mem.tail)))))) ?_
      refine RL.move rfl rfl rfl rfl ?_
      refine RL.extract rfl rfl rfl rfl rfl ?_
      refine RL.extract rfl rfl rfl rfl rfl ?_
      refine RL.assign rfl rfl rfl rfl ?_
      refine RL.assign rfl rfl rfl rfl ?_
      refine RL.nil ?_
      refine NQ.seq ?_
      refine CW.only (.cons (k := 0) rfl (.cons (k := 1) rfl (.cons (k := 2) rfl (.cons (k := 7) rfl (.cons (k := 9) rfl (.cons (k := 10) rfl (.cons (k := 11) rfl (.cons (k := 12) rfl (.cons (k := 14) rfl (.cons (k := 16) rfl (.cons (k := 17) rfl .nil))))))))))) ?_
      refine CW.seq ?_
      refine CW.region (ef := []) (bk := []) ?_
      refine RL.move rfl rfl rfl rfl ?_
      refine RL.move rfl rfl rfl rfl ?_
      refine RL.bin rfl rfl rfl rfl rfl rfl ?_
      refine RL.move rfl rfl rfl rfl ?_
      -- STOP: part 76; op 4: d=77 ["move", ["t", 17]] guard=[3, False] (law.go:113)
      refine RL.cast (d := 76) (v' := .bool false) rfl ((by simp; omega)) ?_
      refine RL.move rfl rfl rfl rfl ?_
      refine RL.move rfl rfl rfl rfl ?_
      refine RL.bin rfl rfl rfl rfl rfl rfl ?_
      refine RL.pickF rfl rfl rfl rfl rfl ?_
      refine RL.move rfl rfl rfl rfl ?_
      -- STOP: part 81; op 9: d=82 ["move", ["t", 10]] guard=[8, False] (law.go:113)
      refine RL.cast (d := 81) (v' := .bool false) rfl ((by simp; omega)) ?_
      refine RL.move rfl rfl rfl rfl ?_
      refine RL.move rfl rfl rfl rfl ?_
      refine RL.bin rfl rfl rfl rfl rfl rfl ?_
      refine RL.move rfl rfl rfl rfl ?_
      -- STOP: part 85; op 13: d=86 ["move", ["t", 11]] guard=[12, False] (law.go:113)
      refine RL.part (d := 85) rfl (fun h3 => ?_) (fun h3 => ?_)
      ·
        refine RL.skip rfl rfl rfl rfl ?_
        refine RL.skip rfl rfl rfl rfl ?_
        refine RL.skip rfl rfl rfl rfl ?_
        refine RL.pickT rfl rfl rfl rfl rfl ?_
        refine RL.move rfl rfl rfl rfl ?_
        refine RL.move rfl rfl rfl rfl ?_
        refine RL.not rfl rfl rfl rfl ?_
        refine RL.pickT rfl rfl rfl rfl rfl ?_
        refine RL.pickF rfl rfl rfl rfl rfl ?_
        refine RL.move rfl rfl rfl rfl ?_
        -- STOP: part 95; op 23: d=96 ["move", ["t", 14]] guard=[22, False] (law.go:113)
        refine RL.cast (d := 95) (v' := .bool false) rfl ((by simp at h3 ⊢; omega)) ?_
        refine RL.move rfl rfl rfl rfl ?_
        refine RL.move rfl rfl rfl rfl ?_
        refine RL.move rfl rfl rfl rfl ?_
        refine RL.bin rfl rfl rfl rfl rfl rfl ?_
        refine RL.move rfl rfl rfl rfl ?_
        -- STOP: part 100; op 28: d=101 ["move", ["t", 17]] guard=[27, False] (law.go:113)
        refine RL.part (d := 100) rfl (fun h5 => ?_) (fun h5 => ?_)
        ·
          refine RL.skip rfl rfl rfl rfl ?_
          refine RL.skip rfl rfl rfl rfl ?_
          refine RL.skip rfl rfl rfl rfl ?_
          refine RL.pickT rfl rfl rfl rfl rfl ?_
          refine RL.cmp rfl rfl rfl rfl rfl (neq_bool Try.runUnderlying4 _ _) ?_
          refine RL.pickF rfl rfl rfl rfl rfl ?_
          refine RL.nil ?_
          refine NQ.seq ?_
          refine CW.only (.cons (k := 0) rfl (.cons (k := 1) rfl (.cons (k := 2) rfl (.cons (k := 7) rfl (.cons (k := 9) rfl (.cons (k := 10) rfl (.cons (k := 11) rfl (.cons (k := 12) rfl (.cons (k := 106) rfl .nil))))))))) ?_
          -- STOP: if; todo top: ["code", ["cond", ["t", 106], ["seq", ["region", 15, [{"d": 6, "op": ["assign", ["c", ["bool", false]]], "ty": 4, "pos": "law.go:114", "after": [], "guard": null}], false], ["ret"]], ["skip"]]]
          refine CW.condF rfl ((by simp at h5 ⊢; omega)) ?_
          refine CW.skip ?_
          refine NQ.block ?_
          refine NQ.seq ?_
          refine CW.region (ef := []) (bk := []) ?_
          refine RL.move rfl rfl rfl rfl ?_
          refine RL.binX rfl rfl rfl rfl rfl rfl (wrapV_i64 (by omega) (by omega)) ?_
          refine RL.assign rfl rfl rfl rfl ?_
          refine RL.nil ?_
          -- STOP: round; todo top: ["N"]
          refine NQ.round (g := (k, U, D, v)) (k + 1, U + r - sl, D - r - sl, u) ⟨hlt, by rw [Nat.min_eq_left (by omega)]; exact hn, by dsimp only; omega⟩ (by dsimp only; omega) (.cons rfl (.cons rfl (.cons rfl (.cons rfl (.cons rfl (.cons rfl (.cons rfl (.cons rfl .nil)))))))) (fun w hw => hw.rea (fun _ h => h) (by repeat (first | exact Rea.nil | (apply Rea.cons; (solve | (repeat (first | exact Del.here | apply Del.there)))))))
        ·
          refine RL.move rfl rfl rfl rfl ?_
          refine RL.move rfl rfl rfl rfl ?_
          refine RL.bin rfl rfl rfl rfl rfl rfl ?_
          refine RL.pickF rfl rfl rfl rfl rfl ?_
          refine RL.cmp rfl rfl rfl rfl rfl (neq_bool Try.runUnderlying4 _ _) ?_
          refine RL.pickF rfl rfl rfl rfl rfl ?_
          refine RL.nil ?_
          refine NQ.seq ?_
          refine CW.only (.cons (k := 0) rfl (.cons (k := 1) rfl (.cons (k := 2) rfl (.cons (k := 7) rfl (.cons (k := 9) rfl (.cons (k := 10) rfl (.cons (k := 11) rfl (.cons (k := 12) rfl (.cons (k := 106) rfl .nil))))))))) ?_
          -- STOP: if; todo top: ["code", ["cond", ["t", 106], ["seq", ["region", 15, [{"d": 6, "op": ["assign", ["c", ["bool", false]]], "ty": 4, "pos": "law.go:114", "after": [], "guard": null}], false], ["ret"]], ["skip"]]]
          refine CW.condF rfl ((by simp at h5 ⊢; omega)) ?_
          refine CW.skip ?_
          refine NQ.block ?_
          refine NQ.seq ?_
          refine CW.region (ef := []) (bk := []) ?_
          refine RL.move rfl rfl rfl rfl ?_
          refine RL.binX rfl rfl rfl rfl rfl rfl (wrapV_i64 (by omega) (by omega)) ?_
          refine RL.assign rfl rfl rfl rfl ?_
          refine RL.nil ?_
          -- STOP: round; todo top: ["N"]
          refine NQ.round (g := (k, U, D, v)) (k + 1, U + r - sl, D - r - sl, u) ⟨hlt, by rw [Nat.min_eq_left (by omega)]; exact hn, by dsimp only; omega⟩ (by dsimp only; omega) (.cons rfl (.cons rfl (.cons rfl (.cons rfl (.cons rfl (.cons rfl (.cons rfl (.cons rfl .nil)))))))) (fun w hw => hw.rea (fun _ h => h) (by repeat (first | exact Rea.nil | (apply Rea.cons; (solve | (repeat (first | exact Del.here | apply Del.there)))))))
      ·
        refine RL.move rfl rfl rfl rfl ?_
        refine RL.move rfl rfl rfl rfl ?_
        refine RL.bin rfl rfl rfl rfl rfl rfl ?_
        refine RL.pickF rfl rfl rfl rfl rfl ?_
        refine RL.move rfl rfl rfl rfl ?_
        -- STOP: part 90; op 18: d=91 ["move", ["t", 14]] guard=[17, True] (law.go:113)
        refine RL.part (d := 90) rfl (fun h4 => ?_) (fun h4 => ?_)
        ·
          refine RL.move rfl rfl rfl rfl ?_
          refine RL.not rfl rfl rfl rfl ?_
          refine RL.pickT rfl rfl rfl rfl rfl ?_
          refine RL.pickF rfl rfl rfl rfl rfl ?_
          refine RL.move rfl rfl rfl rfl ?_
          -- STOP: part 95; op 23: d=96 ["move", ["t", 14]] guard=[22, False] (law.go:113)
          refine RL.cast (d := 95) (v' := .bool false) rfl ((by simp at h4 ⊢; omega)) ?_
          refine RL.move rfl rfl rfl rfl ?_
          refine RL.move rfl rfl rfl rfl ?_
          refine RL.move rfl rfl rfl rfl ?_
          refine RL.bin rfl rfl rfl rfl rfl rfl ?_
          refine RL.move rfl rfl rfl rfl ?_
          -- STOP: part 100; op 28: d=101 ["move", ["t", 17]] guard=[27, False] (law.go:113)
          refine RL.part (d := 100) rfl (fun h5 => ?_) (fun h5 => ?_)
          ·
            refine RL.skip rfl rfl rfl rfl ?_
            refine RL.skip rfl rfl rfl rfl ?_
            refine RL.skip rfl rfl rfl rfl ?_
            refine RL.pickT rfl rfl rfl rfl rfl ?_
            refine RL.cmp rfl rfl rfl rfl rfl (neq_bool Try.runUnderlying4 _ _) ?_
            refine RL.pickF rfl rfl rfl rfl rfl ?_
            refine RL.nil ?_
            refine NQ.seq ?_
            refine CW.only (.cons (k := 0) rfl (.cons (k := 1) rfl (.cons (k := 2) rfl (.cons (k := 7) rfl (.cons (k := 9) rfl (.cons (k := 10) rfl (.cons (k := 11) rfl (.cons (k := 12) rfl (.cons (k := 106) rfl .nil))))))))) ?_
            -- STOP: if; todo top: ["code", ["cond", ["t", 106], ["seq", ["region", 15, [{"d": 6, "op": ["assign", ["c", ["bool", false]]], "ty": 4, "pos": "law.go:114", "after": [], "guard": null}], false], ["ret"]], ["skip"]]]
            refine CW.condF rfl ((by simp at h5 ⊢; omega)) ?_
            refine CW.skip ?_
            refine NQ.block ?_
            refine NQ.seq ?_
            refine CW.region (ef := []) (bk := []) ?_
            refine RL.move rfl rfl rfl rfl ?_
            refine RL.binX rfl rfl rfl rfl rfl rfl (wrapV_i64 (by omega) (by omega)) ?_
            refine RL.assign rfl rfl rfl rfl ?_
            refine RL.nil ?_
            -- STOP: round; todo top: ["N"]
            refine NQ.round (g := (k, U, D, v)) (k + 1, U + r - sl, D - r - sl, u) ⟨hlt, by rw [Nat.min_eq_left (by omega)]; exact hn, by dsimp only; omega⟩ (by dsimp only; omega) (.cons rfl (.cons rfl (.cons rfl (.cons rfl (.cons rfl (.cons rfl (.cons rfl (.cons rfl .nil)))))))) (fun w hw => hw.rea (fun _ h => h) (by repeat (first | exact Rea.nil | (apply Rea.cons; (solve | (repeat (first | exact Del.here | apply Del.there)))))))
          ·
            refine RL.move rfl rfl rfl rfl ?_
            refine RL.move rfl rfl rfl rfl ?_
            refine RL.bin rfl rfl rfl rfl rfl rfl ?_
            refine RL.pickF rfl rfl rfl rfl rfl ?_
            refine RL.cmp rfl rfl rfl rfl rfl (neq_bool Try.runUnderlying4 _ _) ?_
            refine RL.pickF rfl rfl rfl rfl rfl ?_
            refine RL.nil ?_
            refine NQ.seq ?_
            refine CW.only (.cons (k := 0) rfl (.cons (k := 1) rfl (.cons (k := 2) rfl (.cons (k := 7) rfl (.cons (k := 9) rfl (.cons (k := 10) rfl (.cons (k := 11) rfl (.cons (k := 12) rfl (.cons (k := 106) rfl .nil))))))))) ?_
            -- STOP: if; todo top: ["code", ["cond", ["t", 106], ["seq", ["region", 15, [{"d": 6, "op": ["assign", ["c", ["bool", false]]], "ty": 4, "pos": "law.go:114", "after": [], "guard": null}], false], ["ret"]], ["skip"]]]
            refine CW.condF rfl ((by simp at h5 ⊢; omega)) ?_
            refine CW.skip ?_
            refine NQ.block ?_
            refine NQ.seq ?_
            refine CW.region (ef := []) (bk := []) ?_
            refine RL.move rfl rfl rfl rfl ?_
            refine RL.binX rfl rfl rfl rfl rfl rfl (wrapV_i64 (by omega) (by omega)) ?_
            refine RL.assign rfl rfl rfl rfl ?_
            refine RL.nil ?_
            -- STOP: round; todo top: ["N"]
            refine NQ.round (g := (k, U, D, v)) (k + 1, U + r - sl, D - r - sl, u) ⟨hlt, by rw [Nat.min_eq_left (by omega)]; exact hn, by dsimp only; omega⟩ (by dsimp only; omega) (.cons rfl (.cons rfl (.cons rfl (.cons rfl (.cons rfl (.cons rfl (.cons rfl (.cons rfl .nil)))))))) (fun w hw => hw.rea (fun _ h => h) (by repeat (first | exact Rea.nil | (apply Rea.cons; (solve | (repeat (first | exact Del.here | apply Del.there)))))))
        ·
          refine RL.skip rfl rfl rfl rfl ?_
          refine RL.skip rfl rfl rfl rfl ?_
          refine RL.pickF rfl rfl rfl rfl rfl ?_
          refine RL.pickF rfl rfl rfl rfl rfl ?_
          refine RL.move rfl rfl rfl rfl ?_
          refine RL.move rfl rfl rfl rfl ?_
          refine RL.move rfl rfl rfl rfl ?_
          refine RL.move rfl rfl rfl rfl ?_
          refine RL.bin rfl rfl rfl rfl rfl rfl ?_
          refine RL.move rfl rfl rfl rfl ?_
          -- STOP: part 100; op 28: d=101 ["move", ["t", 17]] guard=[27, False] (law.go:113)
          refine RL.part (d := 100) rfl (fun h5 => ?_) (fun h5 => ?_)
          ·
            refine RL.skip rfl rfl rfl rfl ?_
            refine RL.skip rfl rfl rfl rfl ?_
            refine RL.skip rfl rfl rfl rfl ?_
            refine RL.pickT rfl rfl rfl rfl rfl ?_
            refine RL.cmp rfl rfl rfl rfl rfl (neq_bool Try.runUnderlying4 _ _) ?_
            refine RL.pickF rfl rfl rfl rfl rfl ?_
            refine RL.nil ?_
            refine NQ.seq ?_
            refine CW.only (.cons (k := 0) rfl (.cons (k := 1) rfl (.cons (k := 2) rfl (.cons (k := 7) rfl (.cons (k := 9) rfl (.cons (k := 10) rfl (.cons (k := 11) rfl (.cons (k := 12) rfl (.cons (k := 106) rfl .nil))))))))) ?_
            -- STOP: if; todo top: ["code", ["cond", ["t", 106], ["seq", ["region", 15, [{"d": 6, "op": ["assign", ["c", ["bool", false]]], "ty": 4, "pos": "law.go:114", "after": [], "guard": null}], false], ["ret"]], ["skip"]]]
            refine CW.condF rfl ((by simp at h5 ⊢; omega)) ?_
            refine CW.skip ?_
            refine NQ.block ?_
            refine NQ.seq ?_
            refine CW.region (ef := []) (bk := []) ?_
            refine RL.move rfl rfl rfl rfl ?_
            refine RL.binX rfl rfl rfl rfl rfl rfl (wrapV_i64 (by omega) (by omega)) ?_
            refine RL.assign rfl rfl rfl rfl ?_
            refine RL.nil ?_
            -- STOP: round; todo top: ["N"]
            refine NQ.round (g := (k, U, D, v)) (k + 1, U + r - sl, D - r - sl, u) ⟨hlt, by rw [Nat.min_eq_left (by omega)]; exact hn, by dsimp only; omega⟩ (by dsimp only; omega) (.cons rfl (.cons rfl (.cons rfl (.cons rfl (.cons rfl (.cons rfl (.cons rfl (.cons rfl .nil)))))))) (fun w hw => hw.rea (fun _ h => h) (by repeat (first | exact Rea.nil | (apply Rea.cons; (solve | (repeat (first | exact Del.here | apply Del.there)))))))
          ·
            refine RL.move rfl rfl rfl rfl ?_
            refine RL.move rfl rfl rfl rfl ?_
            refine RL.bin rfl rfl rfl rfl rfl rfl ?_
            refine RL.pickF rfl rfl rfl rfl rfl ?_
            refine RL.cmp rfl rfl rfl rfl rfl (neq_bool Try.runUnderlying4 _ _) ?_
            refine RL.pickF rfl rfl rfl rfl rfl ?_
            refine RL.nil ?_
            refine NQ.seq ?_
            refine CW.only (.cons (k := 0) rfl (.cons (k := 1) rfl (.cons (k := 2) rfl (.cons (k := 7) rfl (.cons (k := 9) rfl (.cons (k := 10) rfl (.cons (k := 11) rfl (.cons (k := 12) rfl (.cons (k := 106) rfl .nil))))))))) ?_
            -- STOP: if; todo top: ["code", ["cond", ["t", 106], ["seq", ["region", 15, [{"d": 6, "op": ["assign", ["c", ["bool", false]]], "ty": 4, "pos": "law.go:114", "after": [], "guard": null}], false], ["ret"]], ["skip"]]]
            refine CW.condF rfl ((by simp at h5 ⊢; omega)) ?_
            refine CW.skip ?_
            refine NQ.block ?_
            refine NQ.seq ?_
            refine CW.region (ef := []) (bk := []) ?_
            refine RL.move rfl rfl rfl rfl ?_
            refine RL.binX rfl rfl rfl rfl rfl rfl (wrapV_i64 (by omega) (by omega)) ?_
            refine RL.assign rfl rfl rfl rfl ?_
            refine RL.nil ?_
            -- STOP: round; todo top: ["N"]
            refine NQ.round (g := (k, U, D, v)) (k + 1, U + r - sl, D - r - sl, u) ⟨hlt, by rw [Nat.min_eq_left (by omega)]; exact hn, by dsimp only; omega⟩ (by dsimp only; omega) (.cons rfl (.cons rfl (.cons rfl (.cons rfl (.cons rfl (.cons rfl (.cons rfl (.cons rfl .nil)))))))) (fun w hw => hw.rea (fun _ h => h) (by repeat (first | exact Rea.nil | (apply Rea.cons; (solve | (repeat (first | exact Del.here | apply Del.there)))))))
    ·
      refine CW.exit ?_
      refine XQ.seq ?_
      refine XQ.seq ?_
      refine XQ.hit ?_
      refine NQ.seq ?_
      refine CW.only .nil ?_
      refine CW.seq ?_
      refine CW.region (ef := []) (bk := []) ?_
      refine RL.assign rfl rfl rfl rfl ?_
      refine RL.nil ?_
      refine NQ.seq ?_
      refine CW.ret ?_
      -- STOP: ret; end
      exact RQ.post (res1 rfl rfl) (Split.none _) ⟨rfl, rfl, rfl⟩
  ·
    refine RL.skip rfl rfl rfl rfl ?_
    refine RL.skip rfl rfl rfl rfl ?_
    refine RL.pickF rfl rfl rfl rfl rfl ?_
    refine RL.nil ?_
    refine NQ.seq ?_
    refine CW.only (.cons (k := 0) rfl (.cons (k := 1) rfl (.cons (k := 2) rfl (.cons (k := 7) rfl (.cons (k := 9) rfl (.cons (k := 10) rfl (.cons (k := 11) rfl (.cons (k := 12) rfl (.cons (k := 41) rfl .nil))))))))) ?_
    refine CW.condF rfl rfl ?_
    refine CW.exit ?_
    refine XQ.seq ?_
    refine XQ.seq ?_
    refine XQ.hit ?_
    refine NQ.seq ?_
    refine CW.only .nil ?_
    refine CW.seq ?_
    refine CW.region (ef := []) (bk := []) ?_
    refine RL.assign rfl rfl rfl rfl ?_
    refine RL.nil ?_
    refine NQ.seq ?_
    refine CW.ret ?_
    -- STOP: ret; end
    exact RQ.post (res1 rfl rfl) (Split.none _) ⟨rfl, rfl, rfl⟩
end Go.Proofs.Ytnpkogbniejgfaa
