import Derived.Test.YtpokocnnaendaaaBase
import Derived.Test.YtpokocnnaendaaaHOf
namespace Go.Proofs.Ytpokocnnaendaaa
open Go.PK

theorem sum_after (b : Nat) (p : Option Addr) (cap : Nat) (l : List B8) (hb : l.length ≤ 1000000000) :
    Spc Try.prog 22 #[.pointer (some ⟨b, 0, none⟩)] [hcel b (after l).1 p (after l).2.length cap l.length, sls p 1 (after l).2.length (bytes (after l).2)] [] (Is (.agg (bytes (sha l)).toArray)) :=
  sum_any b (after l).1 p cap l.length (after l).2 (after_rest l).1 hb

def b123 : List B8 := [1#8, 2#8, 3#8]
theorem writes_walk (pp : Option Addr) (cap : Nat) (qs : List Part) (hq : ∀ x ∈ qs, x.m.length ≤ x.c) (fp : Option Addr) (fcap : Nat) (fs : List Int) (hfl : fs.length ≤ maxLen) :
    Spc Try.prog 5 #[.slice pp qs.length cap, .slice fp fs.length fcap] ((sls pp 1 qs.length (qs.map Part.v) :: qs.map Part.i) ++ [sls fp 1 fs.length (ints fs)]) [] (Is (.bool true)) := by
  refine Spc.enter Try.func5 rfl rfl rfl (fun w0 hw0 => ?_)
  refine CW.seq ?_
  refine CW.region (ef := []) (bk := []) ?_
  refine RL.assign rfl rfl rfl rfl ?_
  refine RL.nil ?_
  refine NQ.seq ?_
  refine CW.seq ?_
  refine CW.region (ef := [1]) (bk := []) ?_
  refine RL.move rfl rfl rfl rfl ?_
  refine RL.call (all8_any pp cap qs hq) Try.call15 rfl rfl rfl rfl rfl (by repeat (first | exact Pick.nil | apply Pick.take | apply Pick.leave)) (Lend.many (fun _ h => List.mem_append_left _ h)) (.inl rfl) ?_
  -- STOP: called; op 2: d=11 ["move", ["t", 13]] guard=None (law.go:35)
  rintro _ _ _ ⟨ps, obA, obB, cA, cB, rfl, rfl, rfl, h1, h2, h3⟩
  refine RL.move rfl rfl rfl rfl ?_
  refine RL.extract rfl rfl rfl rfl rfl ?_
  refine RL.extract rfl rfl rfl rfl rfl ?_
  refine RL.assign rfl rfl rfl rfl ?_
  refine RL.assign rfl rfl rfl rfl ?_
  refine RL.nil ?_
  refine NQ.seq ?_
  refine CW.only (.cons (k := 1) rfl (.cons (k := 5) rfl .nil)) ?_
  refine CW.seq ?_
  refine CW.region (ef := [0]) (bk := []) ?_
  refine RL.call (new_any) Try.call19 rfl rfl rfl rfl rfl (by repeat (first | exact Pick.nil | apply Pick.take | apply Pick.leave)) (by repeat (first | exact Lend.nil | (refine Lend.inI ?_ ?_; (solve | (repeat (first | exact List.Mem.head _ | apply List.Mem.tail)))) | (refine Lend.inH ?_ ?_; (solve | (repeat (first | exact List.Mem.head _ | apply List.Mem.tail)))))) (.inl rfl) ?_
  -- STOP: called; op 1: d=7 ["assign", ["t", 16]] guard=None (law.go:36)
  rintro _ _ _ ⟨hb, rfl, rfl, rfl⟩
  refine RL.assign rfl rfl rfl rfl ?_
  refine RL.nil ?_
  refine NQ.seq ?_
  refine CW.seq ?_
  refine CW.region (ef := [0]) (bk := []) ?_
  refine RL.buildOwn [] Try.runUnderlying23 Try.sizeOf5 Try.zeroValue5 rfl rfl (by decide) (by decide) rfl (by decide) rfl rfl rfl rfl rfl rfl ?_
  intro b1
  refine RL.assign rfl rfl rfl rfl ?_
  refine RL.nil ?_
  refine NQ.seq ?_
  refine CW.seq ?_
  refine CW.seq ?_
  refine CW.region (ef := []) (bk := []) ?_
  refine RL.assign rfl rfl rfl rfl ?_
  refine RL.nil ?_
  refine NQ.seq ?_
  refine CW.block ?_
  -- STOP: loop; todo top: ["code", ["loop", ["seq", ["seq", ["region", 5, [{"d": 18, "op": ["move", ["t", 9]], "ty": 3, "pos": "law.go:38", "after": [], "guard": null}, {"d": 19, "op": ["move", ["t", 5]], "ty": 22, "pos": "law
  refine CW.rea (I' := sls fp 1 fs.length (ints fs) :: ps.map Part.i) (H' := [own (some b1) 0 5 1 0 [], hcel hb iv none 0 0 0, own obA cA 23 1 ps.length (ps.map Part.v)]) (fun x hx => by
    rcases List.mem_cons.1 hx with rfl | hx
    · simp
    · first | exact List.mem_append_left _ hx | exact List.mem_append_right _ (List.mem_append_left _ hx)) (by repeat (first | exact Rea.nil | (apply Rea.cons; (solve | (repeat (first | exact Del.here | apply Del.there)))))) ?_
  have hbig := joined_le ps
  refine CW.loop (γ := Nat × Option Addr × Nat × Option Nat × Nat) (fun g => g.1 ≤ ps.length ∧ (after (joined (ps.take g.1))).2.length ≤ g.2.2.1)
    (fun g => [(1, .slice fp fs.length fcap), (5, slO obA ps.length cA), (7, .pointer (some ⟨hb, 0, none⟩)), (8, slO g.2.2.2.1 (joined (ps.take g.1)).length g.2.2.2.2), (9, .int .i64 (g.1 : Int))])
    (fun g => sls g.2.1 1 (after (joined (ps.take g.1))).2.length (bytes (after (joined (ps.take g.1))).2) :: sls fp 1 fs.length (ints fs) :: ps.map Part.i)
    (fun g => [own g.2.2.2.1 g.2.2.2.2 5 1 (joined (ps.take g.1)).length (bytes (joined (ps.take g.1))), hcel hb (after (joined (ps.take g.1))).1 g.2.1 (after (joined (ps.take g.1))).2.length g.2.2.1 (joined (ps.take g.1)).length, own obA cA 23 1 ps.length (ps.map Part.v)])
    (fun g => ps.length - g.1) (0, none, 0, some b1, 0) ⟨Nat.zero_le _, by simp [joined, after_nil]⟩ (.cons rfl (.cons rfl (.cons rfl (.cons rfl (.cons rfl .nil)))))
    (fun w h => by
      have e : after (joined (ps.take 0)) = (iv, []) := by simp [joined, after_nil]
      dsimp only
      rw [e]
      exact h.also (x := sls none 1 0 []) (fun _ _ => ⟨rfl, rfl⟩) (fun c hc => by simp [sls] at hc)) ?_
  rintro ⟨i, p', c', obJ, cJ⟩ ⟨hi, hc⟩
  dsimp only at hi hc ⊢
  have hr := after_rest (joined (ps.take i))
  have hJ := hbig i
  have hJ2 : (joined ps).length ≤ 3600 := by omega
  generalize hJe : joined (ps.take i) = J at hc hr hJ ⊢
  refine CW.fact (p := obA = none → ps.length = 0) (fun w hC e => by
    have := (hC.s.h (own obA cA 23 1 ps.length (ps.map Part.v)) (by repeat (first | exact List.Mem.head _ | apply List.Mem.tail))).2
    rw [e] at this; exact this.1) (fun hpp => ?_)
  refine CW.seq ?_
  refine CW.seq ?_
  refine CW.region (ef := []) (bk := []) ?_
  refine RL.move rfl rfl rfl rfl ?_
  refine RL.move rfl rfl rfl rfl ?_
  refine RL.lenS Try.runUnderlying22 rfl rfl rfl rfl ?_
  refine RL.bin rfl rfl rfl rfl rfl rfl ?_
  refine RL.nil ?_
  refine NQ.seq ?_
  -- STOP: if; todo top: ["code", ["cond", ["t", 21], ["skip"], ["exit", 0]]]
  refine CW.cond rfl (fun hlt => ?_) (fun hlt => ?_)
  ·
    refine CW.skip ?_
    refine NQ.seq ?_
    refine CW.seq ?_
    refine CW.block ?_
    refine CW.seq ?_
    refine CW.seq ?_
    refine CW.region (ef := []) (bk := []) ?_
    refine RL.move rfl rfl rfl rfl ?_
    refine RL.move rfl rfl rfl rfl ?_
    refine RL.callv (hasInt_any fp fcap fs hfl i) Try.call24 rfl rfl rfl rfl (by repeat (first | exact Lend.nil | (refine Lend.inI ?_ ?_; (solve | (repeat (first | exact List.Mem.head _ | apply List.Mem.tail)))) | (refine Lend.inH ?_ ?_; (solve | (repeat (first | exact List.Mem.head _ | apply List.Mem.tail)))))) ?_
    refine RL.nil ?_
    refine NQ.seq ?_
    refine CW.only (.cons (k := 1) rfl (.cons (k := 5) rfl (.cons (k := 7) rfl (.cons (k := 8) rfl (.cons (k := 9) rfl (.cons (k := 26) rfl .nil)))))) ?_
    -- STOP: if; todo top: ["code", ["cond", ["t", 26], ["seq", ["region", 8, [{"d": 27, "op": ["move", ["t", 7]], "ty": 33, "pos": "law.go:40", "after": [], "guard": null}, {"d": 28, "op": ["call", ["f", 25], [["t", 27]], [33]
    have hlt : i < ps.length := by simp at hlt; omega
    refine CW.cut [(1, .slice fp fs.length fcap), (5, slO obA ps.length cA), (7, .pointer (some ⟨hb, 0, none⟩)), (8, slO obJ J.length cJ), (9, .int .i64 (i : Int))]
      (sls p' 1 (after J).2.length (bytes (after J).2) :: sls fp 1 fs.length (ints fs) :: ps.map Part.i)
      [own obJ cJ 5 1 J.length (bytes J), hcel hb (after J).1 p' (after J).2.length c' J.length, own obA cA 23 1 ps.length (ps.map Part.v)] ?_ ?_
    ·
      refine CW.cond rfl (fun hfk => ?_) (fun hfk => ?_)
      ·
        refine CW.seq ?_
        refine CW.region (ef := [1]) (bk := []) ?_
        refine RL.move rfl rfl rfl rfl ?_
        refine RL.call (fork_yes hb (after J).1 p' (after J).2.length c' J.length) Try.call25 rfl rfl rfl rfl rfl (by repeat (first | exact Pick.nil | apply Pick.take | apply Pick.leave)) (by repeat (first | exact Lend.nil | (refine Lend.inI ?_ ?_; (solve | (repeat (first | exact List.Mem.head _ | apply List.Mem.tail)))) | (refine Lend.inH ?_ ?_; (solve | (repeat (first | exact List.Mem.head _ | apply List.Mem.tail)))))) (.inl rfl) ?_
        -- STOP: called; op 2: d=10 ["assign", ["t", 28]] guard=None (law.go:40)
        rintro _ _ _ ⟨hb2, rfl, rfl, rfl⟩
        refine RL.assign rfl rfl rfl rfl ?_
        refine RL.nil ?_
        refine NQ.seq ?_
        refine CW.seq ?_
        refine CW.region (ef := [1, 2]) (bk := [2]) ?_
        refine RL.move rfl rfl rfl rfl ?_
        refine RL.buildOwn [_, _, _] Try.runUnderlying23 Try.sizeOf5 Try.zeroValue5 rfl rfl (by decide) (by decide) rfl (by decide) rfl rfl rfl rfl rfl rfl ?_
        intro b2
        -- STOP: op; op 2: d=31 ["call", ["f", 21], [["t", 29], ["t", 30]], [33, 23]] guard=None (law.go:41)
        refine RL.write (n := J.length) (rest := (after J).2) (m := b123) hr.1 hc hr.2.1 (by simp [b123]; omega) rfl rfl rfl rfl rfl rfl (by repeat (first | exact List.Mem.head _ | apply List.Mem.tail)) (by repeat (first | exact Pick.nil | apply Pick.take | apply Pick.leave)) (Lend.own (ob := some b2) (by repeat (first | exact List.Mem.head _ | apply List.Mem.tail)) .nil) ?_
        intro p2 c2 hc2
        rw [after_append] at hc2 ⊢
        rw [show J.length + b123.length = (J ++ b123).length from List.length_append.symm]
        have hl3 : (J ++ b123).length = J.length + 3 := by simp [b123]
        refine RL.nil ?_
        refine NQ.seq ?_
        refine CW.only (.cons (k := 1) rfl (.cons (k := 5) rfl (.cons (k := 7) rfl (.cons (k := 8) rfl (.cons (k := 9) rfl (.cons (k := 10) rfl .nil)))))) ?_
        refine CW.seq ?_
        refine CW.region (ef := [3, 4, 5, 6]) (bk := [5]) ?_
        refine RL.move rfl rfl rfl rfl ?_
        refine RL.callv (sum_after hb2 p2 c2 (J ++ b123) (by omega)) Try.call22 rfl rfl rfl rfl (by repeat (first | exact Lend.nil | (refine Lend.inI ?_ ?_; (solve | (repeat (first | exact List.Mem.head _ | apply List.Mem.tail)))) | (refine Lend.inH ?_ ?_; (solve | (repeat (first | exact List.Mem.head _ | apply List.Mem.tail)))))) ?_
        refine RL.move rfl rfl rfl rfl ?_
        refine RL.call (bytes_any (obJ.map fun b => ⟨b, 0, none⟩) cJ J (by omega)) Try.call26 rfl rfl rfl rfl rfl (by repeat (first | exact Pick.nil | apply Pick.take | apply Pick.leave)) (Lend.own (by repeat (first | exact List.Mem.head _ | apply List.Mem.tail)) .nil) (.inl rfl) ?_
        -- STOP: called; op 4: d=36 ["buildSlice", 23, 3, [[0, ["c", ["int", "Go.IntKind.u8", 1]]], [1, ["c", ["int", "Go.IntKind.u8", 2]]], [2, ["c", ["int", "Go.IntKind.u8", 3]]]]] guard=None (law.go:42)
        rintro _ _ _ ⟨obT, cT, rfl, rfl, rfl, hoT⟩
        refine RL.buildOwn [_, _, _] Try.runUnderlying23 Try.sizeOf5 Try.zeroValue5 rfl rfl (by decide) (by decide) rfl (by decide) rfl rfl rfl rfl rfl rfl ?_
        intro b3
        refine RL.appendA el_23 rfl rfl rfl rfl rfl rfl rfl (by first | exact ⟨(.take (Pick.none _)), rfl⟩ | exact ⟨(.leave (.take (Pick.none _))), rfl⟩ | exact ⟨(.leave (.leave (.take (Pick.none _)))), rfl⟩ | exact ⟨(.leave (.leave (.leave (.take (Pick.none _))))), rfl⟩ | exact ⟨(.leave (.leave (.leave (.leave (.take (Pick.none _)))))), rfl⟩ | exact ⟨(.leave (.leave (.leave (.leave (.leave (.take (Pick.none _))))))), rfl⟩ | exact ⟨(.leave (.leave (.leave (.leave (.leave (.leave (.take (Pick.none _)))))))), rfl⟩ | exact ⟨(.leave (.leave (.leave (.leave (.leave (.leave (.leave (.take (Pick.none _))))))))), rfl⟩ | exact ⟨(.leave (.leave (.leave (.leave (.leave (.leave (.leave (.leave (.take (Pick.none _)))))))))), rfl⟩ | exact ⟨(.leave (.leave (.leave (.leave (.leave (.leave (.leave (.leave (.leave (.take (Pick.none _))))))))))), rfl⟩) (by first | (exact Src.cel (by (solve | (repeat (first | exact List.Mem.head _ | apply List.Mem.tail)))) rfl) | (exact Src.ownS (by (solve | (repeat (first | exact List.Mem.head _ | apply List.Mem.tail))))) | (exact Src.own (by (solve | (repeat (first | exact List.Mem.head _ | apply List.Mem.tail))))) | (exact Src.sls (by (solve | (repeat (first | exact List.Mem.head _ | apply List.Mem.tail)))))) (by first | exact one_map one8 _ | exact ones_spec rfl | exact one_map (fun _ => rfl) _ | (intro u hu; simp at hu; simp [hu, Value.oneCell'])) (by first | omega | (simp only [maxLen]; omega)) (by first | omega | (simp only [maxLen]; omega)) ?_
        intro ob1 cap1 ho1
        -- STOP: op; op 6: d=38 ["call", ["f", 17], [["t", 37]], [23]] guard=None (law.go:42)
        rw [← hl3, own_is (ob := ob1) (n' := (J ++ b123).length) (xs := bytes J ++ [Value.int .u8 1, Value.int .u8 2, Value.int .u8 3]) (xs' := bytes (J ++ b123)) rfl (by show _ = List.map U8 (J ++ b123); rw [List.map_append]; rfl)]
        refine RL.callv (rof_any (ob1.map fun b => ⟨b, 0, none⟩) cap1 (J ++ b123) (by omega)) Try.call17 rfl rfl rfl rfl (Lend.own (by repeat (first | exact List.Mem.head _ | apply List.Mem.tail)) .nil) ?_
        -- STOP: op; op 7: d=39 ["binOp", "Go.BinOp.neq", 27, ["t", 33], ["t", 38], 27] guard=None (law.go:42)
        refine RL.cmp rfl rfl rfl rfl rfl (dig_ne _ _ (sha_length _) (sha_length _) _ _) ?_
        refine RL.nil ?_
        refine NQ.seq ?_
        refine CW.only (.cons (k := 1) rfl (.cons (k := 5) rfl (.cons (k := 7) rfl (.cons (k := 8) rfl (.cons (k := 9) rfl (.cons (k := 39) rfl .nil)))))) ?_
        -- STOP: if; todo top: ["code", ["cond", ["t", 39], ["seq", ["region", 11, [{"d": 4, "op": ["assign", ["c", ["bool", false]]], "ty": 4, "pos": "law.go:43", "after": [], "guard": null}], false], ["ret"]], ["skip"]]]
        refine CW.condF rfl ((by simp)) ?_
        refine CW.skip ?_
        -- STOP: end; todo top: ["N"]
        exact NQ.mid (.cons rfl (.cons rfl (.cons rfl (.cons rfl (.cons rfl .nil))))) (fun _ h => h.rea (fun x hx => by
          rcases List.mem_cons.1 hx with rfl | hx
          · simp
          · exact List.mem_cons_of_mem _ (List.mem_cons_of_mem _ hx)) (by repeat (first | exact Rea.nil | (apply Rea.cons; (solve | (repeat (first | exact Del.here | apply Del.there)))))))
      ·
        refine CW.skip ?_
        -- STOP: end; todo top: ["N"]
        exact NQ.mid (.cons rfl (.cons rfl (.cons rfl (.cons rfl (.cons rfl .nil))))) (fun _ h => h)
    have hmem : own obA cA 23 1 ps.length (ps.map Part.v) ∈ [own obJ cJ 5 1 J.length (bytes J), hcel hb (after J).1 p' (after J).2.length c' J.length, own obA cA 23 1 ps.length (ps.map Part.v)] := by simp
    obtain ⟨bA, rfl⟩ : ∃ b, obA = some b := by
      cases obA with
      | none => exact absurd (hpp rfl) (by omega)
      | some b => exact ⟨b, rfl⟩
    have hv : (ps.map Part.v)[i * 1]? = some (ps[i]).v := by simp [hlt]
    have hmi : (ps[i]).i ∈ ps.map Part.i := List.mem_map_of_mem (List.getElem_mem _)
    have hj := joined_succ hlt
    rw [hJe] at hj
    have hJ3 := hbig (i + 1)
    rw [hj, List.length_append] at hJ3
    generalize ps[i] = x at hv hmi hj hJ3
    refine CW.seq ?_
    refine CW.seq ?_
    refine CW.region (ef := [5]) (bk := [5]) ?_
    refine RL.move rfl rfl rfl rfl ?_
    refine RL.move rfl rfl rfl rfl ?_
    refine RL.move rfl rfl rfl rfl ?_
    -- STOP: op; op 3: d=43 ["indexAddr", 22, ["t", 41], ["t", 42]] guard=None (law.go:46)
    refine RL.idx (j := i) (p := ⟨bA, 0, none⟩) Try.runUnderlying22 Try.sizeOf23 rfl rfl rfl rfl rfl rfl hlt ?_
    -- STOP: op; op 4: d=44 ["load", 23, ["t", 43]] guard=None (law.go:46)
    refine RL.load Try.isAgg23 rfl rfl rfl rfl (Rd.getO hmem hv) ?_
    -- STOP: op; op 5: d=45 ["call", ["f", 21], [["t", 40], ["t", 44]], [33, 23]] guard=None (law.go:46)
    refine RL.write (n := J.length) (rest := (after J).2) (m := x.m) hr.1 hc hr.2.1 (by omega) rfl rfl rfl rfl rfl rfl (by repeat (first | exact List.Mem.head _ | apply List.Mem.tail)) (by repeat (first | exact Pick.nil | apply Pick.take | apply Pick.leave)) (.inI (List.mem_cons_of_mem _ (List.mem_cons_of_mem _ hmi)) .nil) ?_
    intro p2 c2 hc2
    rw [after_append] at hc2 ⊢
    rw [show J.length + x.m.length = (J ++ x.m).length from List.length_append.symm]
    refine RL.bin rfl rfl rfl rfl rfl rfl ?_
    refine RL.nil ?_
    refine NQ.seq ?_
    refine CW.only (.cons (k := 1) rfl (.cons (k := 5) rfl (.cons (k := 7) rfl (.cons (k := 8) rfl (.cons (k := 9) rfl (.cons (k := 46) rfl .nil)))))) ?_
    -- STOP: if; todo top: ["code", ["cond", ["t", 46], ["seq", ["region", 13, [{"d": 4, "op": ["assign", ["c", ["bool", false]]], "ty": 4, "pos": "law.go:47", "after": [], "guard": null}], false], ["ret"]], ["skip"]]]
    refine CW.condF rfl (rfl) ?_
    refine CW.skip ?_
    refine NQ.seq ?_
    refine CW.seq ?_
    refine CW.region (ef := [5]) (bk := [5]) ?_
    refine RL.move rfl rfl rfl rfl ?_
    refine RL.move rfl rfl rfl rfl ?_
    refine RL.move rfl rfl rfl rfl ?_
    -- STOP: op; op 3: d=50 ["indexAddr", 22, ["t", 48], ["t", 49]] guard=None (law.go:49)
    refine RL.idx (j := i) (p := ⟨bA, 0, none⟩) Try.runUnderlying22 Try.sizeOf23 rfl rfl rfl rfl rfl rfl hlt ?_
    -- STOP: op; op 4: d=51 ["load", 23, ["t", 50]] guard=None (law.go:49)
    refine RL.load Try.isAgg23 rfl rfl rfl rfl (Rd.getO (by repeat (first | exact List.Mem.head _ | apply List.Mem.tail)) hv) ?_
    refine RL.appendA el_23 rfl rfl rfl rfl rfl rfl rfl (by first | exact ⟨(.take (Pick.none _)), rfl⟩ | exact ⟨(.leave (.take (Pick.none _))), rfl⟩ | exact ⟨(.leave (.leave (.take (Pick.none _)))), rfl⟩ | exact ⟨(.leave (.leave (.leave (.take (Pick.none _))))), rfl⟩ | exact ⟨(.leave (.leave (.leave (.leave (.take (Pick.none _)))))), rfl⟩ | exact ⟨(.leave (.leave (.leave (.leave (.leave (.take (Pick.none _))))))), rfl⟩ | exact ⟨(.leave (.leave (.leave (.leave (.leave (.leave (.take (Pick.none _)))))))), rfl⟩ | exact ⟨(.leave (.leave (.leave (.leave (.leave (.leave (.leave (.take (Pick.none _))))))))), rfl⟩ | exact ⟨(.leave (.leave (.leave (.leave (.leave (.leave (.leave (.leave (.take (Pick.none _)))))))))), rfl⟩ | exact ⟨(.leave (.leave (.leave (.leave (.leave (.leave (.leave (.leave (.leave (.take (Pick.none _))))))))))), rfl⟩) (Src.sls (List.mem_cons_of_mem _ (List.mem_cons_of_mem _ (List.mem_cons_of_mem _ hmi)))) (one_map one8 _) (by first | omega | (simp only [maxLen]; omega)) (by first | omega | (simp only [maxLen]; omega)) ?_
    intro obK cK hoK
    rw [own_is (ob := obK) (n' := (J ++ x.m).length) (xs' := bytes (J ++ x.m)) (List.length_append).symm (List.map_append (f := U8)).symm, show J.length + x.m.length = (J ++ x.m).length from List.length_append.symm]
    refine RL.assign rfl rfl rfl rfl ?_
    refine RL.nil ?_
    refine NQ.seq ?_
    refine CW.only (.cons (k := 1) rfl (.cons (k := 5) rfl (.cons (k := 7) rfl (.cons (k := 8) rfl (.cons (k := 9) rfl .nil))))) ?_
    refine CW.seq ?_
    refine CW.region (ef := []) (bk := []) ?_
    refine RL.move rfl rfl rfl rfl ?_
    refine RL.callv (sum_after hb p2 c2 (J ++ x.m) (by rw [List.length_append]; omega)) Try.call22 rfl rfl rfl rfl (by repeat (first | exact Lend.nil | (refine Lend.inI ?_ ?_; (solve | (repeat (first | exact List.Mem.head _ | apply List.Mem.tail)))) | (refine Lend.inH ?_ ?_; (solve | (repeat (first | exact List.Mem.head _ | apply List.Mem.tail)))))) ?_
    refine RL.move rfl rfl rfl rfl ?_
    refine RL.callv (rof_any (obK.map fun b => ⟨b, 0, none⟩) cK (J ++ x.m) (by rw [List.length_append]; omega)) Try.call17 rfl rfl rfl rfl (Lend.own (by repeat (first | exact List.Mem.head _ | apply List.Mem.tail)) .nil) ?_
    -- STOP: op; op 4: d=57 ["binOp", "Go.BinOp.neq", 27, ["t", 54], ["t", 56], 27] guard=None (law.go:50)
    refine RL.cmp rfl rfl rfl rfl rfl (dig_ne _ _ (sha_length _) (sha_length _) _ _) ?_
    refine RL.move rfl rfl rfl rfl ?_
    -- STOP: part 58; op 6: d=59 ["move", ["t", 7]] guard=[5, False] (law.go:50)
    refine RL.cast (d := 58) (v' := .bool false) rfl ((by simp)) ?_
    refine RL.move rfl rfl rfl rfl ?_
    refine RL.callv (len_yes hb (after (J ++ x.m)).1 p2 (after (J ++ x.m)).2.length c2 (J ++ x.m).length) Try.call23 rfl rfl rfl rfl (by repeat (first | exact Lend.nil | (refine Lend.inI ?_ ?_; (solve | (repeat (first | exact List.Mem.head _ | apply List.Mem.tail)))) | (refine Lend.inH ?_ ?_; (solve | (repeat (first | exact List.Mem.head _ | apply List.Mem.tail)))))) ?_
    refine RL.move rfl rfl rfl rfl ?_
    refine RL.lenS Try.runUnderlying23 rfl rfl rfl rfl ?_
    refine RL.bin rfl rfl rfl rfl rfl rfl ?_
    refine RL.pickF rfl rfl rfl rfl rfl ?_
    refine RL.nil ?_
    refine NQ.seq ?_
    refine CW.only (.cons (k := 1) rfl (.cons (k := 5) rfl (.cons (k := 7) rfl (.cons (k := 8) rfl (.cons (k := 9) rfl (.cons (k := 64) rfl .nil)))))) ?_
    -- STOP: if; todo top: ["code", ["cond", ["t", 64], ["seq", ["region", 16, [{"d": 4, "op": ["assign", ["c", ["bool", false]]], "ty": 4, "pos": "law.go:51", "after": [], "guard": null}], false], ["ret"]], ["skip"]]]
    refine CW.condF rfl ((by simp)) ?_
    refine CW.skip ?_
    refine NQ.block ?_
    refine NQ.seq ?_
    refine CW.region (ef := []) (bk := []) ?_
    refine RL.move rfl rfl rfl rfl ?_
    refine RL.binX rfl rfl rfl rfl rfl rfl (wrapV_i64 (by omega) (by omega)) ?_
    refine RL.assign rfl rfl rfl rfl ?_
    refine RL.nil ?_
    -- STOP: round; todo top: ["N"]
    refine NQ.round (g := (i, p', c', obJ, cJ)) (i + 1, p2, c2, obK, cK) ⟨hlt, by rw [hj]; exact hc2⟩ (by show ps.length - (i + 1) < ps.length - i; omega) ?_ (fun w h => ?_)
    · dsimp only
      rw [hj]
      exact .cons rfl (.cons rfl (.cons rfl (.cons rfl (.cons rfl .nil))))
    · dsimp only
      rw [hj]
      exact h.rea (fun y hy => by
        rcases List.mem_cons.1 hy with rfl | hy
        · exact List.Mem.head _
        · exact List.mem_cons_of_mem _ (List.mem_cons_of_mem _ hy)) (by repeat (first | exact Rea.nil | (apply Rea.cons; (solve | (repeat (first | exact Del.here | apply Del.there))))))
  ·
    have hil : i = ps.length := by simp at hlt; omega
    refine CW.exit ?_
    refine XQ.seq ?_
    refine XQ.seq ?_
    refine XQ.hit ?_
    refine NQ.seq ?_
    refine CW.only (.cons (k := 7) rfl (.cons (k := 8) rfl .nil)) ?_
    refine CW.seq ?_
    refine CW.region (ef := []) (bk := []) ?_
    refine RL.move rfl rfl rfl rfl ?_
    refine RL.callv (sum_after hb p' c' J (by omega)) Try.call22 rfl rfl rfl rfl (by repeat (first | exact Lend.nil | (refine Lend.inI ?_ ?_; (solve | (repeat (first | exact List.Mem.head _ | apply List.Mem.tail)))) | (refine Lend.inH ?_ ?_; (solve | (repeat (first | exact List.Mem.head _ | apply List.Mem.tail)))))) ?_
    refine RL.move rfl rfl rfl rfl ?_
    refine RL.callv (rof_any (obJ.map fun b => ⟨b, 0, none⟩) cJ J (by omega)) Try.call17 rfl rfl rfl rfl (Lend.own (by repeat (first | exact List.Mem.head _ | apply List.Mem.tail)) .nil) ?_
    -- STOP: op; op 4: d=69 ["binOp", "Go.BinOp.eql", 27, ["t", 66], ["t", 68], 27] guard=None (law.go:54)
    refine RL.cmp rfl rfl rfl rfl rfl (dig_eq _ _ (sha_length _) (sha_length _) _ _) ?_
    refine RL.move rfl rfl rfl rfl ?_
    -- STOP: part 70; op 6: d=71 ["call", ["f", 18], [], []] guard=[5, True] (law.go:54)
    refine RL.cast (d := 70) (v' := .bool true) rfl ((by simp)) ?_
    refine RL.callv (works_yes) Try.call18 rfl rfl rfl rfl (by repeat (first | exact Lend.nil | (refine Lend.inI ?_ ?_; (solve | (repeat (first | exact List.Mem.head _ | apply List.Mem.tail)))) | (refine Lend.inH ?_ ?_; (solve | (repeat (first | exact List.Mem.head _ | apply List.Mem.tail)))))) ?_
    refine RL.pickT rfl rfl rfl rfl rfl ?_
    refine RL.assign rfl rfl rfl rfl ?_
    refine RL.nil ?_
    refine NQ.seq ?_
    refine CW.only (.cons (k := 4) rfl .nil) ?_
    refine CW.ret ?_
    -- STOP: ret; end
    exact RQ.post (res1 rfl rfl) (Split.none _) ⟨rfl, rfl, rfl⟩

theorem hashWrites_call (W : World) (x : Sl (Sl B8)) (y : Sl Int) (hx : rParts.ok x) (hy : rInts.ok y) (tx : ∀ z ∈ rParts.its x, z.A W) (ty : ∀ z ∈ rInts.its y, z.A W) :
    Calls Try.prog 5 #[rParts.val x, rInts.val y] W (fun e w' => e = .returned (.bool true) ∧ RowKit.Below W.heap.size W w') := by
  have := (writes_walk x.p x.c (x.l.map Part.of) (parts_ok hx) y.p y.c y.l (Nat.le_trans hy.1 hy.2.1)).lawI (fun z hz => by
    rcases List.mem_append.1 hz with hz | hz
    · exact parts_told tx z hz
    · rw [List.mem_singleton.1 hz]; exact ty _ (List.Mem.head _))
  rw [List.length_map] at this
  exact this
end Go.Proofs.Ytpokocnnaendaaa
