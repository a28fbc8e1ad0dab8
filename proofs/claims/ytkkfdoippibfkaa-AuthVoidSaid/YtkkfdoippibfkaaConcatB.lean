import Derived.Test.YtkkfdoippibfkaaOf
import Derived.Test.YtkkfdoippibfkaaPkU
namespace Go.Proofs.Ytkkfdoippibfkaa
open Go.PK

def OwnX (l : List B8) : Value → List It → List It → Prop := fun v I' H' => ∃ ob cap, v = slO ob l.length cap ∧ I' = [] ∧ H' = [own ob cap 5 1 l.length (bytes l)]
theorem ones_u8 (l : List B8) : ∀ u ∈ bytes l, u.oneCell' = true := fun u hu => by
  obtain ⟨b, -, rfl⟩ := List.mem_map.1 hu; rfl
theorem bytes_app (a b : List B8) : bytes (a ++ b) = bytes a ++ bytes b := List.map_append
theorem growB_nil (n : Nat) (hn : n ≤ 1000000) : Spc Try.prog 191 #[.slice none 0 0, .int .i64 (n : Int)] [] []
    (fun v I' H' => ∃ ob cap, v = slO ob 0 cap ∧ I' = [] ∧ H' = [own ob cap 5 1 0 []]) := by
  refine Spc.enter Try.func191 rfl rfl rfl (fun w0 hw0 => ?_)
  refine CW.seq ?_
  refine CW.region (ef := []) (bk := []) ?_
  refine RL.assign rfl rfl rfl rfl ?_
  refine RL.nil ?_
  refine NQ.seq ?_
  refine CW.seq ?_
  refine CW.seq ?_
  refine CW.region (ef := []) (bk := []) ?_
  refine RL.move rfl rfl rfl rfl ?_
  refine RL.bin rfl rfl rfl rfl rfl rfl ?_
  refine RL.nil ?_
  refine NQ.seq ?_
  -- STOP: if; todo top: ["code", ["cond", ["t", 6], ["region", 2, [{"d": 7, "op": ["makeInterface", 9, ["c", ["string", [99, 97, 110, 110, 111, 116, 32, 98, 101, 32, 110, 101, 103, 97, 116, 105, 118, 101]]]], "ty": 20, "pos"
  refine CW.condF rfl ((by simp)) ?_
  refine CW.skip ?_
  refine NQ.seq ?_
  refine CW.seq ?_
  refine CW.seq ?_
  refine CW.region (ef := []) (bk := []) ?_
  refine RL.move rfl rfl rfl rfl ?_
  refine RL.move rfl rfl rfl rfl ?_
  -- STOP: op; op 2: d=10 ["builtin", "Go.Builtin.cap", [["t", 9]], [95]] guard=None (slices.go:426)
  refine RL.capS Try.runUnderlying95 rfl rfl rfl rfl ?_
  refine RL.move rfl rfl rfl rfl ?_
  refine RL.lenS Try.runUnderlying95 rfl rfl rfl rfl ?_
  refine RL.binX rfl rfl rfl rfl rfl rfl (wrapV_i64 (by omega) (by omega)) ?_
  refine RL.binX rfl rfl rfl rfl rfl rfl (wrapV_i64 (by omega) (by omega)) ?_
  refine RL.assign rfl rfl rfl rfl ?_
  refine RL.nil ?_
  refine NQ.seq ?_
  refine CW.only (.cons (k := 0) rfl (.cons (k := 1) rfl (.cons (k := 4) rfl .nil))) ?_
  refine CW.seq ?_
  refine CW.region (ef := []) (bk := []) ?_
  refine RL.move rfl rfl rfl rfl ?_
  refine RL.bin rfl rfl rfl rfl rfl rfl ?_
  refine RL.nil ?_
  refine NQ.seq ?_
  -- STOP: if; todo top: ["code", ["cond", ["t", 16], ["region", 5, [{"d": 17, "op": ["move", ["t", 0]], "ty": 95, "pos": "slices.go:428", "after": [], "guard": null}, {"d": 18, "op": ["move", ["t", 0]], "ty": 95, "pos": "sli
  refine CW.cond rfl (fun hp => ?_) (fun hp => ?_)
  ·
    have hp : 0 < n := by simp at hp; omega
    refine CW.region (ef := [5]) (bk := [5]) ?_
    refine RL.move rfl rfl rfl rfl ?_
    refine RL.move rfl rfl rfl rfl ?_
    -- STOP: op; op 2: d=19 ["builtin", "Go.Builtin.cap", [["t", 18]], [95]] guard=None (slices.go:428)
    refine RL.capS Try.runUnderlying95 rfl rfl rfl rfl ?_
    -- STOP: op; op 3: d=20 ["slice", 95, ["t", 17], null, ["t", 19], null] guard=None (slices.go:428)
    refine RL.slice (lo := 0) (hi := 0) Try.runUnderlying95 Try.sizeOf5 rfl rfl rfl rfl rfl rfl (by omega) (by omega) ?_
    refine RL.move rfl rfl rfl rfl ?_
    -- STOP: op; op 5: d=22 ["builtin", "Go.Builtin.append", [["t", 20], ["t", 21]], [95, 3]] guard=None (slices.go:428)
    refine RL.appendMk0 (mm := n) (zs := [.int .u8 0]) el_95 (fun ii z hi hz => by rw [show Try.prog.info? 5 = some Try.t5 by kernel_rfl] at hi; cases hi; cases hz; rfl) rfl Try.runUnderlying3 rfl rfl rfl rfl rfl (by show _ = some (Value.int .i64 ((n : Nat) : Int)); simp [Env.ev, Env.get]) hp (by first | omega | (simp only [maxLen]; omega)) (by first | omega | (simp only [maxLen]; omega)) ?_
    intro b cap'
    refine RL.move rfl rfl rfl rfl ?_
    refine RL.lenS Try.runUnderlying95 rfl rfl rfl rfl ?_
    -- STOP: op; op 8: d=25 ["slice", 95, ["t", 22], null, ["t", 24], null] guard=None (slices.go:428)
    refine RL.slice (lo := 0) (hi := 0) Try.runUnderlying95 Try.sizeOf5 rfl rfl rfl rfl rfl rfl (by omega) (by omega) ?_
    refine RL.cast (d := 25) (v' := .slice (some ⟨b, 0, none⟩) 0 cap') rfl (by simp only [Nat.sub_zero]; congr 1; split <;> simp [add_none]) ?_
    refine RL.assign rfl rfl rfl rfl ?_
    refine RL.nil ?_
    refine NQ.seq ?_
    refine CW.only (.cons (k := 0) rfl .nil) ?_
    refine CW.seq ?_
    refine CW.region (ef := []) (bk := []) ?_
    refine RL.move rfl rfl rfl rfl ?_
    refine RL.assign rfl rfl rfl rfl ?_
    refine RL.nil ?_
    refine NQ.seq ?_
    refine CW.ret ?_
    -- STOP: ret; end
    exact RQ.post (res1 rfl rfl) (.keep .nil) ⟨some b, cap', rfl, rfl, rfl⟩
  ·
    refine CW.skip ?_
    refine NQ.seq ?_
    refine CW.seq ?_
    refine CW.region (ef := []) (bk := []) ?_
    refine RL.move rfl rfl rfl rfl ?_
    refine RL.assign rfl rfl rfl rfl ?_
    refine RL.nil ?_
    refine NQ.seq ?_
    refine CW.ret ?_
    -- STOP: ret; end
    refine RQ.ownNone (e := 5) 1 ?_
    exact RQ.post (res1 rfl rfl) (.keep .nil) ⟨none, 0, rfl, rfl, rfl⟩
theorem concatB_any (pp : Option Addr) (cap n : Nat) (ps : List Part) (hn : ps.length = n) (hnb : n ≤ 1000000) (hb : (joined ps).length ≤ 1000000) :
    Spc Try.prog 148 #[.slice pp n cap] (sls pp 1 n (ps.map Part.v) :: ps.map Part.i) [] (OwnX (joined ps)) := by
  subst hn
  generalize hBase : sls pp 1 ps.length (ps.map Part.v) :: ps.map Part.i = Base
  have hmem : sls pp 1 ps.length (ps.map Part.v) ∈ Base := by rw [← hBase]; exact List.Mem.head _
  have hpm : ∀ x ∈ ps, Part.i x ∈ Base := fun x hx => by rw [← hBase]; exact List.mem_cons_of_mem _ (List.mem_map_of_mem hx)
  clear hBase
  refine Spc.enter Try.func148 rfl rfl rfl (fun w0 hw0 => ?_)
  refine CW.seq ?_
  refine CW.region (ef := []) (bk := []) ?_
  refine RL.assign rfl rfl rfl rfl ?_
  refine RL.nil ?_
  refine NQ.seq ?_
  refine CW.seq ?_
  refine CW.region (ef := []) (bk := []) ?_
  refine RL.assign rfl rfl rfl rfl ?_
  refine RL.nil ?_
  refine NQ.seq ?_
  refine CW.seq ?_
  refine CW.seq ?_
  refine CW.region (ef := []) (bk := []) ?_
  refine RL.move rfl rfl rfl rfl ?_
  refine RL.lenS Try.runUnderlying281 rfl rfl rfl rfl ?_
  refine RL.move rfl rfl rfl rfl ?_
  refine RL.nil ?_
  refine NQ.seq ?_
  refine CW.block ?_
  -- STOP: loop; todo top: ["code", ["loop", ["seq", ["region", 3, [{"d": 12, "op": ["binOp", "Go.BinOp.lss", 3, ["t", 11], ["t", 10], 3], "ty": 0, "pos": "slices.go:493", "after": [], "guard": null}], false], ["seq", ["cond", 
  refine CW.fact (p := pp = none → ps.length = 0) (fun w hC e => sls_nil (hC.s.i _ hmem) e) (fun hpp => ?_)
  refine CW.loop (γ := Nat) (fun i => i ≤ ps.length) (fun i => [(0, .slice pp ps.length cap), (3, .int .i64 ((joined (ps.take i)).length : Int)), (9, .slice pp ps.length cap), (10, .int .i64 (ps.length : Int)), (11, .int .i64 (i : Int))]) (fun _ => Base) (fun _ => []) (fun i => ps.length - i) 0 (by omega)
    (.cons rfl (.cons rfl (.cons rfl (.cons rfl (.cons rfl .nil))))) (fun w h => h) ?_
  intro i hi
  have hle := joined_le ps i
  have hle1 := joined_le ps (i + 1)
  refine CW.seq ?_
  refine CW.region (ef := []) (bk := []) ?_
  refine RL.bin rfl rfl rfl rfl rfl rfl ?_
  refine RL.nil ?_
  refine NQ.seq ?_
  refine CW.seq ?_
  -- STOP: if; todo top: ["code", ["cond", ["t", 12], ["skip"], ["exit", 0]]]
  refine CW.cond rfl (fun hlt => ?_) (fun hlt => ?_)
  ·
    have hlt : i < ps.length := by simp at hlt; omega
    cases pp with
    | none => exact absurd (hpp rfl) (by omega)
    | some a =>
    have hv : (ps.map Part.v)[i * 1]? = some (.slice ps[i].p ps[i].m.length ps[i].c) := by rw [Nat.mul_one, List.getElem?_map, List.getElem?_eq_getElem hlt]; rfl
    rw [joined_succ hlt, List.length_append] at hle1
    refine CW.skip ?_
    refine NQ.seq ?_
    refine CW.seq ?_
    refine CW.block ?_
    refine CW.seq ?_
    refine CW.region (ef := []) (bk := []) ?_
    -- STOP: op; op 0: d=13 ["indexAddr", 281, ["t", 9], ["t", 11]] guard=None (slices.go:493)
    refine RL.idx (j := i) Try.runUnderlying281 Try.sizeOf95 rfl rfl rfl rfl rfl rfl hlt ?_
    -- STOP: op; op 1: d=14 ["load", 95, ["t", 13]] guard=None (slices.go:493)
    refine RL.load Try.isAgg95 rfl rfl rfl rfl (Rd.getS hmem hv) ?_
    refine RL.assign rfl rfl rfl rfl ?_
    refine RL.nil ?_
    refine NQ.seq ?_
    refine CW.seq ?_
    refine CW.region (ef := []) (bk := []) ?_
    refine RL.move rfl rfl rfl rfl ?_
    refine RL.move rfl rfl rfl rfl ?_
    refine RL.lenS Try.runUnderlying95 rfl rfl rfl rfl ?_
    refine RL.binX rfl rfl rfl rfl rfl rfl (wrapV_i64 (by omega) (by omega)) ?_
    refine RL.assign rfl rfl rfl rfl ?_
    refine RL.nil ?_
    refine NQ.seq ?_
    refine CW.only (.cons (k := 0) rfl (.cons (k := 3) rfl (.cons (k := 9) rfl (.cons (k := 10) rfl (.cons (k := 11) rfl .nil))))) ?_
    refine CW.seq ?_
    refine CW.region (ef := []) (bk := []) ?_
    refine RL.move rfl rfl rfl rfl ?_
    refine RL.bin rfl rfl rfl rfl rfl rfl ?_
    refine RL.nil ?_
    refine NQ.seq ?_
    -- STOP: if; todo top: ["code", ["cond", ["t", 20], ["region", 7, [{"d": 21, "op": ["makeInterface", 9, ["c", ["string", [108, 101, 110, 32, 111, 117, 116, 32, 111, 102, 32, 114, 97, 110, 103, 101]]]], "ty": 20, "pos": "sli
    refine CW.condF rfl (by simp; omega) ?_
    refine CW.skip ?_
    refine NQ.block ?_
    refine NQ.seq ?_
    refine CW.region (ef := []) (bk := []) ?_
    refine RL.binX rfl rfl rfl rfl rfl rfl (wrapV_i64 (by omega) (by omega)) ?_
    refine RL.move rfl rfl rfl rfl ?_
    refine RL.nil ?_
    -- STOP: round; todo top: ["N"]
    refine NQ.round (g := i) (i + 1) hlt (by show ps.length - (i + 1) < ps.length - i; omega) (.cons rfl (.cons (by rw [joined_succ hlt, List.length_append]; rfl) (.cons rfl (.cons rfl (.cons rfl .nil))))) (fun w h => h)
  ·
    have hin : i = ps.length := by simp at hlt; omega
    subst hin
    rw [List.take_length]
    refine CW.exit ?_
    refine XQ.seq ?_
    refine XQ.seq ?_
    refine XQ.hit ?_
    refine NQ.seq ?_
    refine CW.seq ?_
    refine CW.region (ef := [1]) (bk := []) ?_
    refine RL.move rfl rfl rfl rfl ?_
    refine RL.call (growB_nil (joined ps).length hb) Try.call191 rfl rfl rfl rfl rfl (by repeat (first | exact Pick.nil | apply Pick.take | apply Pick.leave)) (by repeat (first | exact Lend.nil | (refine Lend.inI ?_ ?_; (solve | (repeat (first | exact List.Mem.head _ | apply List.Mem.tail)))) | (refine Lend.inH ?_ ?_; (solve | (repeat (first | exact List.Mem.head _ | apply List.Mem.tail)))))) (.inl rfl) ?_
    -- STOP: called; op 2: d=6 ["assign", ["t", 24]] guard=None (slices.go:502)
    rintro _ _ _ ⟨ob, c0, rfl, rfl, rfl⟩
    refine RL.assign rfl rfl rfl rfl ?_
    refine RL.nil ?_
    refine NQ.seq ?_
    refine CW.only (.cons (k := 0) rfl (.cons (k := 6) rfl .nil)) ?_
    refine CW.seq ?_
    refine CW.seq ?_
    refine CW.region (ef := []) (bk := []) ?_
    refine RL.move rfl rfl rfl rfl ?_
    refine RL.lenS Try.runUnderlying281 rfl rfl rfl rfl ?_
    refine RL.move rfl rfl rfl rfl ?_
    refine RL.nil ?_
    refine NQ.seq ?_
    refine CW.block ?_
    -- STOP: loop; todo top: ["code", ["loop", ["seq", ["region", 11, [{"d": 28, "op": ["binOp", "Go.BinOp.lss", 3, ["t", 27], ["t", 26], 3], "ty": 0, "pos": "slices.go:503", "after": [], "guard": null}], false], ["seq", ["cond",
    refine CW.loop (γ := Nat × Option Nat × Nat) (fun g => g.1 ≤ ps.length) (fun g => [(6, slO g.2.1 (joined (ps.take g.1)).length g.2.2), (25, .slice pp ps.length cap), (26, .int .i64 (ps.length : Int)), (27, .int .i64 (g.1 : Int))]) (fun _ => Base)
      (fun g => [own g.2.1 g.2.2 5 1 (joined (ps.take g.1)).length (bytes (joined (ps.take g.1)))]) (fun g => ps.length - g.1) (0, ob, c0) (by simp) (.cons rfl (.cons rfl (.cons rfl (.cons rfl .nil)))) (fun w h => h) ?_
    rintro ⟨i, ob', c'⟩ hi'
    dsimp only at hi' ⊢
    have hle := joined_le ps i
    have hle1 := joined_le ps (i + 1)
    refine CW.seq ?_
    refine CW.region (ef := []) (bk := []) ?_
    refine RL.bin rfl rfl rfl rfl rfl rfl ?_
    refine RL.nil ?_
    refine NQ.seq ?_
    refine CW.seq ?_
    -- STOP: if; todo top: ["code", ["cond", ["t", 28], ["skip"], ["exit", 2]]]
    refine CW.cond rfl (fun hlt => ?_) (fun hlt => ?_)
    ·
      have hlt : i < ps.length := by simp at hlt; omega
      cases pp with
      | none => exact absurd (hpp rfl) (by omega)
      | some a =>
      have hv : (ps.map Part.v)[i * 1]? = some (.slice ps[i].p ps[i].m.length ps[i].c) := by rw [Nat.mul_one, List.getElem?_map, List.getElem?_eq_getElem hlt]; rfl
      have hmi : sls ps[i].p 1 ps[i].m.length (bytes ps[i].m) ∈ Base := hpm _ (List.getElem_mem hlt)
      rw [joined_succ hlt, List.length_append] at hle1
      refine CW.skip ?_
      refine NQ.seq ?_
      refine CW.seq ?_
      refine CW.block ?_
      refine CW.seq ?_
      refine CW.region (ef := []) (bk := []) ?_
      -- STOP: op; op 0: d=29 ["indexAddr", 281, ["t", 25], ["t", 27]] guard=None (slices.go:503)
      refine RL.idx (j := i) Try.runUnderlying281 Try.sizeOf95 rfl rfl rfl rfl rfl rfl hlt ?_
      -- STOP: op; op 1: d=30 ["load", 95, ["t", 29]] guard=None (slices.go:503)
      refine RL.load Try.isAgg95 rfl rfl rfl rfl (Rd.getS hmem hv) ?_
      refine RL.assign rfl rfl rfl rfl ?_
      refine RL.nil ?_
      refine NQ.seq ?_
      refine CW.region (ef := [2]) (bk := [2]) ?_
      refine RL.move rfl rfl rfl rfl ?_
      refine RL.move rfl rfl rfl rfl ?_
      -- STOP: op; op 2: d=33 ["builtin", "Go.Builtin.append", [["t", 31], ["t", 32]], [95, 95]] guard=None (slices.go:504)
      refine RL.appendA el_95 rfl rfl rfl rfl rfl rfl rfl (by first | exact ⟨(.take (Pick.none _)), rfl⟩ | exact ⟨(.leave (.take (Pick.none _))), rfl⟩ | exact ⟨(.leave (.leave (.take (Pick.none _)))), rfl⟩ | exact ⟨(.leave (.leave (.leave (.take (Pick.none _))))), rfl⟩ | exact ⟨(.leave (.leave (.leave (.leave (.take (Pick.none _)))))), rfl⟩ | exact ⟨(.leave (.leave (.leave (.leave (.leave (.take (Pick.none _))))))), rfl⟩ | exact ⟨(.leave (.leave (.leave (.leave (.leave (.leave (.take (Pick.none _)))))))), rfl⟩ | exact ⟨(.leave (.leave (.leave (.leave (.leave (.leave (.leave (.take (Pick.none _))))))))), rfl⟩ | exact ⟨(.leave (.leave (.leave (.leave (.leave (.leave (.leave (.leave (.take (Pick.none _)))))))))), rfl⟩ | exact ⟨(.leave (.leave (.leave (.leave (.leave (.leave (.leave (.leave (.leave (.take (Pick.none _))))))))))), rfl⟩) (Src.sls hmi) (ones_u8 _) (by first | omega | (simp only [maxLen]; omega)) (by first | omega | (simp only [maxLen]; omega)) ?_
      intro ob2 c2 ho2
      refine RL.assign rfl rfl rfl rfl ?_
      refine RL.nil ?_
      refine NQ.block ?_
      refine NQ.seq ?_
      refine CW.only (.cons (k := 6) rfl (.cons (k := 25) rfl (.cons (k := 26) rfl (.cons (k := 27) rfl .nil)))) ?_
      refine CW.region (ef := []) (bk := []) ?_
      refine RL.binX rfl rfl rfl rfl rfl rfl (wrapV_i64 (by omega) (by omega)) ?_
      refine RL.move rfl rfl rfl rfl ?_
      refine RL.nil ?_
      -- STOP: round; todo top: ["N"]
      refine NQ.round (g := (i, ob', c')) (i + 1, ob2, c2) hlt (by show ps.length - (i + 1) < ps.length - i; omega) (.cons (by rw [joined_succ hlt, List.length_append]; rfl) (.cons rfl (.cons rfl (.cons rfl .nil)))) (fun w h => ?_)
      dsimp only
      rw [joined_succ hlt, List.length_append, bytes_app]
      exact h
    ·
      refine CW.exit ?_
      refine XQ.seq ?_
      refine XQ.seq ?_
      refine XQ.hit ?_
      refine NQ.seq ?_
      refine CW.seq ?_
      refine CW.region (ef := []) (bk := []) ?_
      refine RL.move rfl rfl rfl rfl ?_
      refine RL.assign rfl rfl rfl rfl ?_
      refine RL.nil ?_
      refine NQ.seq ?_
      refine CW.only (.cons (k := 2) rfl .nil) ?_
      refine CW.ret ?_
      -- STOP: ret; end
      have hin : i = ps.length := by simp at hlt; omega
      subst hin
      rw [List.take_length]
      exact RQ.post (res1 rfl rfl) (.keep .nil) ⟨ob', c', rfl, rfl, rfl⟩
end Go.Proofs.Ytkkfdoippibfkaa
