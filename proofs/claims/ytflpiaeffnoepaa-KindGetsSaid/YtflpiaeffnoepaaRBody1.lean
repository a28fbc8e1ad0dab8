import Derived.Test.YtflpiaeffnoepaaRBody
namespace Go.Proofs.Ytflpiaeffnoepaa
open Go.PK
attribute [local irreducible] be8' be4 beN

def sel3 (a b c : Int) (i : Nat) : Int := if i = 0 then a else if i = 1 then b else c
theorem sel3_take (a b c : Int) {i : Nat} (h : i < 3) : [a, b, c].take (i + 1) = [a, b, c].take i ++ [sel3 a b c i] := by
  match i, h with
  | 0, _ => rfl
  | 1, _ => rfl
  | 2, _ => rfl
theorem sel3_get (a b c : Int) {cs : List Value} {o : Nat} (h0 : cs[o]? = some (.int .i32 a)) (h1 : cs[o + 1]? = some (.int .i32 b)) (h2 : cs[o + 2]? = some (.int .i32 c)) {i : Nat} (h : i < 3) : cs[o + i * 1]? = some (.int .i32 (sel3 a b c i)) := by
  match i, h with
  | 0, _ => exact h0
  | 1, _ => exact h1
  | 2, _ => exact h2
set_option maxHeartbeats 4000000 in
theorem rbody_1 (r : Rdg) (hk : r.kind = 1) (hr : r.Ok) : Spc Try.prog 82 #[.agg r.cells.toArray] [] [] (OwnB (bodyR r)) := by
  refine Spc.enter Try.func82 rfl rfl rfl (fun w0 hw0 => ?_)
  refine CW.seq ?_
  refine CW.region (ef := [0]) (bk := []) ?_
  refine RL.box rfl rfl rfl rfl rfl rfl ?_
  intro b1
  refine RL.assign rfl rfl rfl rfl ?_
  refine RL.nil ?_
  refine NQ.seq ?_
  refine CW.seq ?_
  -- STOP: region; todo top: ["code", ["region", 1, [{"d": 6, "op": ["buildSlice", 34, 0, []], "ty": 34, "pos": "ref.go:35", "after": [], "guard": null}, {"d": 3, "op": ["assign", ["t", 6]], "ty": 34, "pos": "ref.go:35", "after":
  refine CW.freezeAll rfl ?_
  simp only [List.cons_append, List.nil_append]
  refine CW.region (ef := [0]) (bk := []) ?_
  refine RL.buildOwn [] Try.runUnderlying34 Try.sizeOf5 Try.zeroValue5 rfl rfl (by decide) (by decide) rfl (by decide) rfl rfl rfl rfl rfl rfl ?_
  intro b2
  refine RL.assign rfl rfl rfl rfl ?_
  refine RL.nil ?_
  refine NQ.seq ?_
  refine CW.seq ?_
  refine CW.region (ef := []) (bk := []) ?_
  refine RL.fieldAddr fa_33_0 rfl rfl rfl rfl ?_
  refine RL.load Try.isAgg3 rfl rfl rfl rfl (by first | assumption | (apply Rd.get; (solve | (repeat (first | exact List.Mem.head _ | apply List.Mem.tail))); assumption) | (apply Rd.getS; (solve | (repeat (first | exact List.Mem.head _ | apply List.Mem.tail))); assumption) | (apply Rd.getO; (solve | (repeat (first | exact List.Mem.head _ | apply List.Mem.tail))); assumption) | (apply Rd.getI; (solve | (repeat (first | exact List.Mem.head _ | apply List.Mem.tail))); assumption) | (apply Rd.cel; (solve | (repeat (first | exact List.Mem.head _ | apply List.Mem.tail))); exact rfl) | (apply Rd.celI; (solve | (repeat (first | exact List.Mem.head _ | apply List.Mem.tail))); exact rfl)) ?_
  refine RL.nil ?_
  refine NQ.seq ?_
  refine CW.block ?_
  refine CW.seq ?_
  refine CW.region (ef := []) (bk := []) ?_
  refine RL.bin rfl rfl rfl rfl rfl rfl ?_
  refine RL.assign rfl rfl rfl rfl ?_
  refine RL.nil ?_
  refine NQ.seq ?_
  -- STOP: if; todo top: ["code", ["cond", ["t", 10], ["seq", ["seq", ["region", 5, [{"d": 4, "op": ["assign", ["c", ["int", "Go.IntKind.i64", 0]]], "ty": 3, "pos": "ref.go:38", "after": [], "guard": null}], false], ["block",
  refine CW.condT rfl ((by rw [hk]; rfl)) ?_
  refine CW.seq ?_
  refine CW.seq ?_
  refine CW.region (ef := []) (bk := []) ?_
  refine RL.assign rfl rfl rfl rfl ?_
  refine RL.nil ?_
  refine NQ.seq ?_
  refine CW.only (.cons (k := 1) rfl (.cons (k := 2) rfl (.cons (k := 3) rfl (.cons (k := 4) rfl .nil)))) ?_
  refine CW.block ?_
  -- STOP: loop; todo top: ["code", ["loop", ["seq", ["seq", ["region", 6, [{"d": 12, "op": ["move", ["t", 4]], "ty": 3, "pos": "ref.go:38", "after": [], "guard": null}, {"d": 13, "op": ["binOp", "Go.BinOp.lss", 3, ["t", 12], [
  refine CW.loop (γ := Nat × Option Nat × Nat) (fun g => g.1 ≤ 3 ∧ (0 + g.1 = 0 ∨ g.2.1.isSome = true)) (fun g => [(1, .pointer (some ⟨b1, 0, none⟩)), (3, slO g.2.1 (0 + 4 * g.1) g.2.2), (4, .int .i64 (g.1 : Int))]) (fun _ => [cel b1 r.cells 33])
    (fun g => [own g.2.1 g.2.2 5 1 (0 + 4 * g.1) (bytes ([] ++ ([r.g0, r.g1, r.g2].take g.1).flatMap be4))]) (fun g => 3 - g.1) (0, some b2, 0) ⟨by simp, by simp [true]⟩
    (.cons rfl (.cons rfl (.cons rfl .nil))) (fun w h => by simpa using h) ?_
  rintro ⟨i, ob', c'⟩ ⟨hi, ho⟩
  dsimp only at hi ho ⊢
  refine CW.seq ?_
  refine CW.seq ?_
  refine CW.region (ef := []) (bk := []) ?_
  refine RL.move rfl rfl rfl rfl ?_
  refine RL.bin rfl rfl rfl rfl rfl rfl ?_
  refine RL.nil ?_
  refine NQ.seq ?_
  -- STOP: if; todo top: ["code", ["cond", ["t", 13], ["skip"], ["exit", 1]]]
  refine CW.cond rfl (fun hlt => ?_) (fun hlt => ?_)
  ·
    refine CW.skip ?_
    refine NQ.seq ?_
    refine CW.seq ?_
    refine CW.block ?_
    refine CW.region (ef := [5, 6]) (bk := [6]) ?_
    refine RL.move rfl rfl rfl rfl ?_
    refine RL.move rfl rfl rfl rfl ?_
    refine RL.fieldAddr fa_33_1 rfl rfl rfl rfl ?_
    -- STOP: op; op 3: d=19 ["indexAddr", 23, ["t", 18], ["t", 17]] guard=None (ref.go:39)
    have hlt : i < 3 := by simp at hlt; omega
    refine RL.idxAAt (j := i) Try.runUnderlying23 Try.sizeOf22 rfl rfl rfl rfl rfl rfl hlt ?_
    -- STOP: op; op 4: d=20 ["load", 22, ["t", 19]] guard=None (ref.go:39)
    refine RL.load Try.isAgg22 rfl rfl rfl rfl (Rd.getI (by repeat (first | exact List.Mem.head _ | apply List.Mem.tail)) (sel3_get r.g0 r.g1 r.g2 (o := 0 + 1) rfl rfl rfl hlt)) ?_
    refine RL.call (rput4 (sel3 r.g0 r.g1 r.g2 i)) Try.call132 rfl rfl rfl rfl rfl (by repeat (first | exact Pick.nil | apply Pick.take | apply Pick.leave)) (by repeat (first | exact Lend.nil | (refine Lend.inI ?_ ?_; (solve | (repeat (first | exact List.Mem.head _ | apply List.Mem.tail)))) | (refine Lend.inH ?_ ?_; (solve | (repeat (first | exact List.Mem.head _ | apply List.Mem.tail)))))) (.inl rfl) ?_
    rintro _ _ _ ⟨ob1, cap1, rfl, rfl, rfl, ho1⟩
    refine RL.appendA el_34 rfl rfl rfl rfl rfl rfl rfl (by first | exact ⟨(.take (Pick.none _)), rfl⟩ | exact ⟨(.leave (.take (Pick.none _))), rfl⟩ | exact ⟨(.leave (.leave (.take (Pick.none _)))), rfl⟩ | exact ⟨(.leave (.leave (.leave (.take (Pick.none _))))), rfl⟩ | exact ⟨(.leave (.leave (.leave (.leave (.take (Pick.none _)))))), rfl⟩ | exact ⟨(.leave (.leave (.leave (.leave (.leave (.take (Pick.none _))))))), rfl⟩ | exact ⟨(.leave (.leave (.leave (.leave (.leave (.leave (.take (Pick.none _)))))))), rfl⟩ | exact ⟨(.leave (.leave (.leave (.leave (.leave (.leave (.leave (.take (Pick.none _))))))))), rfl⟩ | exact ⟨(.leave (.leave (.leave (.leave (.leave (.leave (.leave (.leave (.take (Pick.none _)))))))))), rfl⟩ | exact ⟨(.leave (.leave (.leave (.leave (.leave (.leave (.leave (.leave (.leave (.take (Pick.none _))))))))))), rfl⟩) (by first | (exact Src.cel (by (solve | (repeat (first | exact List.Mem.head _ | apply List.Mem.tail)))) (by first | rfl | assumption | (simp only [List.length_map]; assumption) | (simp only [List.length_map, List.length_replicate]; done) | (simp; done))) | (exact Src.ownS (by (solve | (repeat (first | exact List.Mem.head _ | apply List.Mem.tail))))) | (exact Src.own (by (solve | (repeat (first | exact List.Mem.head _ | apply List.Mem.tail))))) | (exact Src.sls (by (solve | (repeat (first | exact List.Mem.head _ | apply List.Mem.tail)))))) (by first | exact one_map one8 _ | exact ones_spec rfl | exact one_map (fun _ => rfl) _ | (intro u hu; simp at hu; simp [hu, Value.oneCell'])) (by first | omega | (simp only [maxLen]; omega)) (by first | omega | (simp only [maxLen]; omega)) ?_
    intro ob2 cap2 ho2
    refine RL.assign rfl rfl rfl rfl ?_
    refine RL.nil ?_
    refine NQ.block ?_
    refine NQ.seq ?_
    refine CW.only (.cons (k := 1) rfl (.cons (k := 3) rfl (.cons (k := 4) rfl .nil))) ?_
    refine CW.region (ef := []) (bk := []) ?_
    refine RL.move rfl rfl rfl rfl ?_
    refine RL.binX rfl rfl rfl rfl rfl rfl (wrapV_i64 (by omega) (by omega)) ?_
    refine RL.assign rfl rfl rfl rfl ?_
    refine RL.nil ?_
    -- STOP: round; todo top: ["N"]
    refine NQ.round (g := (i, ob', c')) (i + 1, ob2, cap2) ⟨hlt, ho2.elim (fun h => by omega) .inr⟩ (by show 3 - (i + 1) < 3 - i; omega) (.cons rfl (.cons (by rw [show 0 + 4 * (i + 1) = 0 + 4 * i + 4 by omega]; rfl) (.cons rfl .nil))) (fun w h => ?_)
    rw [own_is (n' := 0 + 4 * (i + 1)) (xs' := bytes ([] ++ ([r.g0, r.g1, r.g2].take (i + 1)).flatMap be4)) (by omega) (by rw [sel3_take _ _ _ hlt, List.flatMap_append]; simp)] at h
    exact h.rea (fun _ h => h) (by repeat (first | exact Rea.nil | (apply Rea.cons; (solve | (repeat (first | exact Del.here | apply Del.there))))))
  ·
    refine CW.exit ?_
    refine XQ.seq ?_
    refine XQ.seq ?_
    refine XQ.hit ?_
    refine NQ.seq ?_
    refine CW.seq ?_
    refine CW.seq ?_
    refine CW.region (ef := []) (bk := []) ?_
    refine RL.assign rfl rfl rfl rfl ?_
    refine RL.nil ?_
    refine NQ.seq ?_
    refine CW.block ?_
    -- STOP: loop; todo top: ["code", ["loop", ["seq", ["seq", ["region", 10, [{"d": 23, "op": ["move", ["t", 5]], "ty": 3, "pos": "ref.go:41", "after": [], "guard": null}, {"d": 24, "op": ["binOp", "Go.BinOp.lss", 3, ["t", 23], 
    have hi3 : i = 3 := by simp at hlt; omega
    subst hi3
    -- STOP: loop; todo top: ["code", ["loop", ["seq", ["seq", ["region", 10, [{"d": 23, "op": ["move", ["t", 5]], "ty": 3, "pos": "ref.go:41", "after": [], "guard": null}, {"d": 24, "op": ["binOp", "Go.BinOp.lss", 3, ["t", 23], 
    refine CW.loop (γ := Nat × Option Nat × Nat) (fun g => g.1 ≤ 3 ∧ (12 + g.1 = 0 ∨ g.2.1.isSome = true)) (fun g => [(1, .pointer (some ⟨b1, 0, none⟩)), (3, slO g.2.1 (12 + 4 * g.1) g.2.2), (5, .int .i64 (g.1 : Int))]) (fun _ => [cel b1 r.cells 33])
      (fun g => [own g.2.1 g.2.2 5 1 (12 + 4 * g.1) (bytes ([r.g0, r.g1, r.g2].flatMap be4 ++ ([r.a0, r.a1, r.a2].take g.1).flatMap be4))]) (fun g => 3 - g.1) (0, ob', c') ⟨by simp, by simp [show ob'.isSome = true from ho.elim (fun h => by omega) id]⟩
      (.cons rfl (.cons rfl (.cons rfl .nil))) (fun w h => by simpa [be4_length] using h) ?_
    rintro ⟨i, ob', c'⟩ ⟨hi, ho⟩
    dsimp only at hi ho ⊢
    refine CW.seq ?_
    refine CW.seq ?_
    refine CW.region (ef := []) (bk := []) ?_
    refine RL.move rfl rfl rfl rfl ?_
    refine RL.bin rfl rfl rfl rfl rfl rfl ?_
    refine RL.nil ?_
    refine NQ.seq ?_
    -- STOP: if; todo top: ["code", ["cond", ["t", 24], ["skip"], ["exit", 3]]]
    refine CW.cond rfl (fun hlt => ?_) (fun hlt => ?_)
    ·
      refine CW.skip ?_
      refine NQ.seq ?_
      refine CW.seq ?_
      refine CW.block ?_
      refine CW.region (ef := [5, 6]) (bk := [6]) ?_
      refine RL.move rfl rfl rfl rfl ?_
      refine RL.move rfl rfl rfl rfl ?_
      refine RL.fieldAddr fa_33_2 rfl rfl rfl rfl ?_
      -- STOP: op; op 3: d=30 ["indexAddr", 23, ["t", 29], ["t", 28]] guard=None (ref.go:42)
      have hlt : i < 3 := by simp at hlt; omega
      refine RL.idxAAt (j := i) Try.runUnderlying23 Try.sizeOf22 rfl rfl rfl rfl rfl rfl hlt ?_
      -- STOP: op; op 4: d=31 ["load", 22, ["t", 30]] guard=None (ref.go:42)
      refine RL.load Try.isAgg22 rfl rfl rfl rfl (Rd.getI (by repeat (first | exact List.Mem.head _ | apply List.Mem.tail)) (sel3_get r.a0 r.a1 r.a2 (o := 0 + 4) rfl rfl rfl hlt)) ?_
      refine RL.call (rput4 (sel3 r.a0 r.a1 r.a2 i)) Try.call132 rfl rfl rfl rfl rfl (by repeat (first | exact Pick.nil | apply Pick.take | apply Pick.leave)) (by repeat (first | exact Lend.nil | (refine Lend.inI ?_ ?_; (solve | (repeat (first | exact List.Mem.head _ | apply List.Mem.tail)))) | (refine Lend.inH ?_ ?_; (solve | (repeat (first | exact List.Mem.head _ | apply List.Mem.tail)))))) (.inl rfl) ?_
      rintro _ _ _ ⟨ob1, cap1, rfl, rfl, rfl, ho1⟩
      refine RL.appendA el_34 rfl rfl rfl rfl rfl rfl rfl (by first | exact ⟨(.take (Pick.none _)), rfl⟩ | exact ⟨(.leave (.take (Pick.none _))), rfl⟩ | exact ⟨(.leave (.leave (.take (Pick.none _)))), rfl⟩ | exact ⟨(.leave (.leave (.leave (.take (Pick.none _))))), rfl⟩ | exact ⟨(.leave (.leave (.leave (.leave (.take (Pick.none _)))))), rfl⟩ | exact ⟨(.leave (.leave (.leave (.leave (.leave (.take (Pick.none _))))))), rfl⟩ | exact ⟨(.leave (.leave (.leave (.leave (.leave (.leave (.take (Pick.none _)))))))), rfl⟩ | exact ⟨(.leave (.leave (.leave (.leave (.leave (.leave (.leave (.take (Pick.none _))))))))), rfl⟩ | exact ⟨(.leave (.leave (.leave (.leave (.leave (.leave (.leave (.leave (.take (Pick.none _)))))))))), rfl⟩ | exact ⟨(.leave (.leave (.leave (.leave (.leave (.leave (.leave (.leave (.leave (.take (Pick.none _))))))))))), rfl⟩) (by first | (exact Src.cel (by (solve | (repeat (first | exact List.Mem.head _ | apply List.Mem.tail)))) (by first | rfl | assumption | (simp only [List.length_map]; assumption) | (simp only [List.length_map, List.length_replicate]; done) | (simp; done))) | (exact Src.ownS (by (solve | (repeat (first | exact List.Mem.head _ | apply List.Mem.tail))))) | (exact Src.own (by (solve | (repeat (first | exact List.Mem.head _ | apply List.Mem.tail))))) | (exact Src.sls (by (solve | (repeat (first | exact List.Mem.head _ | apply List.Mem.tail)))))) (by first | exact one_map one8 _ | exact ones_spec rfl | exact one_map (fun _ => rfl) _ | (intro u hu; simp at hu; simp [hu, Value.oneCell'])) (by first | omega | (simp only [maxLen]; omega)) (by first | omega | (simp only [maxLen]; omega)) ?_
      intro ob2 cap2 ho2
      refine RL.assign rfl rfl rfl rfl ?_
      refine RL.nil ?_
      refine NQ.block ?_
      refine NQ.seq ?_
      refine CW.only (.cons (k := 1) rfl (.cons (k := 3) rfl (.cons (k := 5) rfl .nil))) ?_
      refine CW.region (ef := []) (bk := []) ?_
      refine RL.move rfl rfl rfl rfl ?_
      refine RL.binX rfl rfl rfl rfl rfl rfl (wrapV_i64 (by omega) (by omega)) ?_
      refine RL.assign rfl rfl rfl rfl ?_
      refine RL.nil ?_
      -- STOP: round; todo top: ["N"]
      refine NQ.round (g := (i, ob', c')) (i + 1, ob2, cap2) ⟨hlt, ho2.elim (fun h => by omega) .inr⟩ (by show 3 - (i + 1) < 3 - i; omega) (.cons rfl (.cons (by rw [show 12 + 4 * (i + 1) = 12 + 4 * i + 4 by omega]; rfl) (.cons rfl .nil))) (fun w h => ?_)
      rw [own_is (n' := 12 + 4 * (i + 1)) (xs' := bytes ([r.g0, r.g1, r.g2].flatMap be4 ++ ([r.a0, r.a1, r.a2].take (i + 1)).flatMap be4)) (by omega) (by rw [sel3_take _ _ _ hlt, List.flatMap_append]; simp)] at h
      exact h.rea (fun _ h => h) (by repeat (first | exact Rea.nil | (apply Rea.cons; (solve | (repeat (first | exact Del.here | apply Del.there))))))
    ·
      refine CW.exit ?_
      refine XQ.seq ?_
      refine XQ.seq ?_
      refine XQ.hit ?_
      refine NQ.seq ?_
      refine CW.seq ?_
      refine CW.region (ef := []) (bk := []) ?_
      refine RL.move rfl rfl rfl rfl ?_
      refine RL.assign rfl rfl rfl rfl ?_
      refine RL.nil ?_
      refine NQ.seq ?_
      refine CW.only (.cons (k := 2) rfl .nil) ?_
      refine CW.ret ?_
      refine RQ.block ?_
      -- STOP: ret; end
      have hi3 : i = 3 := by simp at hlt; omega
      subst hi3
      exact RQ.ownB (l := bodyR r) rfl rfl (.keep (Split.none _)) (by unfold bodyR; simp [hk, be4_length]) (by unfold bodyR; simp [hk]) (ho.elim (fun h => by omega) .inr)
end Go.Proofs.Ytflpiaeffnoepaa
