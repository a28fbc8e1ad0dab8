import Derived.Test.YtflpiaeffnoepaaT11
import Derived.Test.YtflpiaeffnoepaaOwnN
import Derived.Test.YtflpiaeffnoepaaT12
import Derived.Test.YtflpiaeffnoepaaTRd
namespace Go.Proofs.Ytflpiaeffnoepaa
open Go.PK

theorem zeroCells_reps {zs : List Value} {n sz : Nat} (hsz : zs.length = sz) (hpos : 0 < sz) : Builtin.zeroCells zs.toArray n = (reps zs n).toArray := by
  subst hsz
  rw [← zeros_reps rfl hpos]
  simp [Builtin.zeroCells]
theorem reps_length (zs : List Value) : ∀ n, (reps zs n).length = n * zs.length
  | 0 => by simp [reps]
  | n + 1 => by rw [reps, List.length_append, reps_length zs n, Nat.add_mul, Nat.one_mul, Nat.add_comm]
theorem reps_add (zs : List Value) (m : Nat) : ∀ n, reps zs (n + m) = reps zs n ++ reps zs m
  | 0 => by simp [reps]
  | n + 1 => by rw [show n + 1 + m = n + m + 1 by omega, reps, reps, reps_add zs m n, List.append_assoc]
/-- 'append([]T(nil), make([]T, n)...)', of any elements. -/
theorem run_appendMk0 {P : Program} {t e ti ty : TypeId} {sz bytes : Nat} (T : ElemT P t e sz bytes) {zs : List Value} (hz0 : ∀ ii z, P.info? e = some ii → ii.zero = some z → z.cells = zs.toArray) (hsz' : zs.length = sz) (hti : ∀ w, (underlying ti).run P w = .ok (.int .i64) w) {mm : Nat} {w : World}
    (hm0 : 0 < mm) (hm : mm ≤ maxLen) (hby : mm * bytes ≤ 140737488355328) :
    ∃ b cap' w', (Builtin.append_ #[t, ti] ty #[.slice none 0 0, .int .i64 (mm : Int)]).run P w = .ok (.slice (some ⟨b, 0, none⟩) mm cap') w' ∧ (own (some b) cap' e sz 0 []).A w' ∧ Keeps [] w w' ∧ w.heap.size ≤ b := by
  obtain ⟨ii, z', hi, hz, hsz, hb, hzs⟩ := T.inf
  have hzc := hz0 ii z' hi hz
  have hpos := T.pos
  have h63 : ((mm : Nat) : Int) ≤ 9223372036854775807 := by simp only [maxLen] at hm; omega
  have hwr : IntKind.i64.wrap (mm : Int) = (mm : Int) := IntWalk.i64_in _ (by omega)
  have hneg : ¬ ((mm : Int) < 0) := by omega
  subst hb
  have h48a : ¬ ((281474976710656 : Int) < (mm : Int) * (ii.bytes : Int)) := by
    have : ((mm * ii.bytes : Nat) : Int) = (mm : Int) * (ii.bytes : Int) := by simp
    omega
  have h48' : ¬ (281474976710656 < Builtin.nextslicecap mm 0 * ii.bytes) := by rw [nextslicecap_zero (by omega)]; omega
  have hge := grownCap_ge w mm 0 e
  have hcm : grownCap w mm 0 e ≤ maxLen := grownCap_le_maxLen w mm 0 e hm
  have hne : mm * ii.size ≠ 0 := by rw [hsz]; exact Nat.ne_of_gt (Nat.mul_pos hm0 hpos)
  refine ⟨w.heap.size, grownCap w mm 0 e, w.drew.alloc (.cells ((reps zs mm).toArray ++ (reps zs (grownCap w mm 0 e - mm)).toArray) e), ?_, ?_, (Keeps.drew _ w _).trans (Keeps.alloc _ w.drew _), Nat.le_refl _⟩
  · have hmm : ¬ mm = 0 := by omega
    simp [Builtin.append_, run_underlying T.ut, sizeOf, typeInfo, hi, hti, asInt, asIntOf, hwr, hneg, h48a, hmm, hne, show ¬ ((9223372036854775807 : Int) < (mm : Int)) by omega, h48', Question.forced, run_firstCells_none, zeroValue, hz, hzc, zeroCells_reps hsz' hpos, newRow, grownCap]
  · refine ⟨by simp, Nat.zero_le _, hcm, reps zs (grownCap w mm 0 e), ⟨(0, 0), ?_, .inl rfl⟩, by rw [List.nil_append, reps_length, hsz']⟩
    have := heap_alloc_same w.drew (.cells ((reps zs mm).toArray ++ (reps zs (grownCap w mm 0 e - mm)).toArray) e)
    rw [show w.drew.heap.size = w.heap.size from rfl] at this
    rw [this, List.nil_append, show grownCap w mm 0 e = mm + (grownCap w mm 0 e - mm) by omega, reps_add]
    simp
section
variable {P : Program} {L : List Oper} {ef bk : List Nat} {tq : Tq} {Q : Exit → Act → World → Prop} {N : Nat} {E : Env} {w0 : World} {S : List Nat} {I H : List It} {i : Nat} {l : Sq}
variable {d : Nat} {x y z : Operand} {ty t yt : TypeId} {pos : String} {af : Array Edge} {g : Option (Nat × Bool)} {k : IntKind} {m n o : Int}
theorem RL.appendMk0 {e ti : TypeId} {sz bytes mm : Nat} {zs : List Value} (T : ElemT P t e sz bytes) (hz0 : ∀ ii z, P.info? e = some ii → ii.zero = some z → z.cells = zs.toArray) (hsz' : zs.length = sz) (hti : ∀ w, (underlying ti).run P w = .ok (.int .i64) w)
    (ho : nth L i = some ⟨some d, .call ⟨.builtin .append, #[x, y], #[t, ti]⟩, ty, pos, af, g⟩) (hw : wants L E ⟨some d, .call ⟨.builtin .append, #[x, y], #[t, ti]⟩, ty, pos, af, g⟩ = true) (hN : Nat.blt d N = true) (hi : ef.contains i = true)
    (hx : E.ev x = some (.slice none 0 0)) (hy : E.ev y = some (.int .i64 (mm : Int))) (hm0 : 0 < mm) (hm : mm ≤ maxLen) (hby : mm * bytes ≤ 140737488355328)
    (h : ∀ b cap', RL P L ef bk tq Q l N ((d, .slice (some ⟨b, 0, none⟩) mm cap') :: E) w0 S I (PK.own (some b) cap' e sz 0 [] :: H)) : RL P L ef bk tq Q (.cons i l) N E w0 S I H := by
  refine RL.eff ho hw hi rfl hN (fun a w ha hC => ?_)
  obtain ⟨b, cap', w', r1, r2, r3, r4⟩ := run_appendMk0 (ty := ty) (w := w) T hz0 hsz' hti hm0 hm hby
  unfold does
  rw [exec_append (ha.ev hx) (ha.ev hy) r1]
  exact ⟨I, _, hC.more r3 r2 (by simp [PK.own]) (by simpa [PK.own] using r4), fun _ h => h, fun _ _ h => h.less, h b cap'⟩
theorem exec_capS {ρ : Operand → Value} {dst : Option Tmp} {e : TypeId} {p : Option Addr} {len cap : Nat} (hu : ∀ w, (underlying t).run P w = .ok (.slice e) w) (hx : ρ x = .slice p len cap) (w : World) :
    (execOp ρ ⟨dst, .call ⟨.builtin .cap, #[x], #[t]⟩, ty, pos, af, g⟩).run P w = .ok (.value (.int .i64 cap)) w := by
  simp only [BigFrame.execOp_builtin, BigFrame.builtin_cap, List.map_toArray, List.map_cons, List.map_nil, hx]
  simp [Builtin.cap_, goInt, hu]
theorem RL.capS {e : TypeId} {p : Option Addr} {len cap : Nat} (hu : ∀ w, (underlying t).run P w = .ok (.slice e) w) (ho : nth L i = some ⟨some d, .call ⟨.builtin .cap, #[x], #[t]⟩, ty, pos, af, g⟩) (hw : wants L E ⟨some d, .call ⟨.builtin .cap, #[x], #[t]⟩, ty, pos, af, g⟩ = true) (hN : Nat.blt d N = true)
    (hx : E.ev x = some (.slice p len cap)) (h : RL P L ef bk tq Q l N ((d, .int .i64 cap) :: E) w0 S I H) : RL P L ef bk tq Q (.cons i l) N E w0 S I H :=
  RL.pval ho hw rfl hN (fun _ w ha => exec_capS hu (ha.ev hx) w) h
end
theorem grow_nil (n : Nat) (hn : n ≤ 1000000) : Spc Try.prog 142 #[.slice none 0 0, .int .i64 (n : Int)] [] []
    (fun v I' H' => ∃ ob cap, v = slO ob 0 cap ∧ I' = [] ∧ H' = [own ob cap 57 4 0 []]) := by
  refine Spc.enter Try.func142 rfl rfl rfl (fun w0 hw0 => ?_)
  refine CW.seq ?_
  refine CW.region (ef := []) (bk := []) ?_
  refine RL.assign rfl rfl rfl rfl ?_
  refine RL.nil ?_
  refine NQ.seq ?_
  refine CW.seq ?_
  refine CW.seq ?_
  refine CW.region (ef := []) (bk := []) ?_
  refine RL.move rfl rfl rfl rfl ?_
  refine RL.bin rfl rfl rfl rfl rfl rfl ?_
  refine RL.nil ?_
  refine NQ.seq ?_
  -- STOP: if; todo top: ["code", ["cond", ["t", 6], ["region", 2, [{"d": 7, "op": ["makeInterface", 9, ["c", ["string", [99, 97, 110, 110, 111, 116, 32, 98, 101, 32, 110, 101, 103, 97, 116, 105, 118, 101]]]], "ty": 20, "pos"
  refine CW.condF rfl ((by simp)) ?_
  refine CW.skip ?_
  refine NQ.seq ?_
  refine CW.seq ?_
  refine CW.seq ?_
  refine CW.region (ef := []) (bk := []) ?_
  refine RL.move rfl rfl rfl rfl ?_
  refine RL.move rfl rfl rfl rfl ?_
  -- STOP: op; op 2: d=10 ["builtin", "Go.Builtin.cap", [["t", 9]], [49]] guard=None (slices.go:426)
  refine RL.capS Try.runUnderlying49 rfl rfl rfl rfl ?_
  refine RL.move rfl rfl rfl rfl ?_
  refine RL.lenS Try.runUnderlying49 rfl rfl rfl rfl ?_
  refine RL.binX rfl rfl rfl rfl rfl rfl (wrapV_i64 (by omega) (by omega)) ?_
  refine RL.binX rfl rfl rfl rfl rfl rfl (wrapV_i64 (by omega) (by omega)) ?_
  refine RL.assign rfl rfl rfl rfl ?_
  refine RL.nil ?_
  refine NQ.seq ?_
  refine CW.only (.cons (k := 0) rfl (.cons (k := 1) rfl (.cons (k := 4) rfl .nil))) ?_
  refine CW.seq ?_
  refine CW.region (ef := []) (bk := []) ?_
  refine RL.move rfl rfl rfl rfl ?_
  refine RL.bin rfl rfl rfl rfl rfl rfl ?_
  refine RL.nil ?_
  refine NQ.seq ?_
  -- STOP: if; todo top: ["code", ["cond", ["t", 16], ["region", 5, [{"d": 17, "op": ["move", ["t", 0]], "ty": 49, "pos": "slices.go:428", "after": [], "guard": null}, {"d": 18, "op": ["move", ["t", 0]], "ty": 49, "pos": "sli
  refine CW.cond rfl (fun hp => ?_) (fun hp => ?_)
  ·
    have hp : 0 < n := by simp at hp; omega
    refine CW.region (ef := [5]) (bk := [5]) ?_
    refine RL.move rfl rfl rfl rfl ?_
    refine RL.move rfl rfl rfl rfl ?_
    -- STOP: op; op 2: d=19 ["builtin", "Go.Builtin.cap", [["t", 18]], [49]] guard=None (slices.go:428)
    refine RL.capS Try.runUnderlying49 rfl rfl rfl rfl ?_
    -- STOP: op; op 3: d=20 ["slice", 49, ["t", 17], null, ["t", 19], null] guard=None (slices.go:428)
    refine RL.slice (lo := 0) (hi := 0) Try.runUnderlying49 Try.sizeOf57 rfl rfl rfl rfl rfl rfl (by omega) (by omega) ?_
    refine RL.move rfl rfl rfl rfl ?_
    -- STOP: op; op 5: d=22 ["builtin", "Go.Builtin.append", [["t", 20], ["t", 21]], [49, 3]] guard=None (slices.go:428)
    refine RL.appendMk0 (mm := n) (zs := [.int .i64 0, .int .i64 0, .int .i64 0, .int .i64 0]) el_49 (fun ii z hi hz => by rw [show Try.prog.info? 57 = some Try.t57 by kernel_rfl] at hi; cases hi; cases hz; rfl) rfl Try.runUnderlying3 rfl rfl rfl rfl rfl (by show _ = some (Value.int .i64 ((n : Nat) : Int)); simp [Env.ev, Env.get]) hp (by first | omega | (simp only [maxLen]; omega)) (by first | omega | (simp only [maxLen]; omega)) ?_
    intro b cap'
    refine RL.move rfl rfl rfl rfl ?_
    refine RL.lenS Try.runUnderlying49 rfl rfl rfl rfl ?_
    -- STOP: op; op 8: d=25 ["slice", 49, ["t", 22], null, ["t", 24], null] guard=None (slices.go:428)
    refine RL.slice (lo := 0) (hi := 0) Try.runUnderlying49 Try.sizeOf57 rfl rfl rfl rfl rfl rfl (by omega) (by omega) ?_
    refine RL.cast (d := 25) (v' := .slice (some ⟨b, 0, none⟩) 0 cap') rfl (by simp only [Nat.sub_zero]; congr 1; split <;> simp [add_none]) ?_
    refine RL.assign rfl rfl rfl rfl ?_
    refine RL.nil ?_
    refine NQ.seq ?_
    refine CW.only (.cons (k := 0) rfl .nil) ?_
    refine CW.seq ?_
    refine CW.region (ef := []) (bk := []) ?_
    refine RL.move rfl rfl rfl rfl ?_
    refine RL.assign rfl rfl rfl rfl ?_
    refine RL.nil ?_
    refine NQ.seq ?_
    refine CW.ret ?_
    -- STOP: ret; end
    exact RQ.post (res1 rfl rfl) (.keep .nil) ⟨some b, cap', rfl, rfl, rfl⟩
  ·
    refine CW.skip ?_
    refine NQ.seq ?_
    refine CW.seq ?_
    refine CW.region (ef := []) (bk := []) ?_
    refine RL.move rfl rfl rfl rfl ?_
    refine RL.assign rfl rfl rfl rfl ?_
    refine RL.nil ?_
    refine NQ.seq ?_
    refine CW.ret ?_
    -- STOP: ret; end
    refine RQ.ownNone (e := 57) 4 ?_
    exact RQ.post (res1 rfl rfl) (.keep .nil) ⟨none, 0, rfl, rfl, rfl⟩
/-- Entries somewhere. -/
structure EPart where
  p : Option Addr
  c : Nat
  L : List Ent
abbrev EPart.v (x : EPart) : Value := .slice x.p x.L.length x.c
abbrev EPart.i (x : EPart) : It := sls x.p 4 x.L.length (entsV x.L)
def joinE (ps : List EPart) : List Ent := ps.flatMap (·.L)
theorem joinE_succ {ps : List EPart} {i : Nat} (h : i < ps.length) : joinE (ps.take (i + 1)) = joinE (ps.take i) ++ ps[i].L := by
  rw [joinE, joinE, List.take_succ_eq_append_getElem h, List.flatMap_append]; simp
theorem joinE_le (ps : List EPart) (i : Nat) : (joinE (ps.take i)).length ≤ (joinE ps).length := by
  have : joinE ps = joinE (ps.take i) ++ joinE (ps.drop i) := by rw [joinE, joinE, joinE, ← List.flatMap_append, List.take_append_drop]
  rw [this, List.length_append]; omega
/-- Entries of one's own. -/
def OwnE (l : List Ent) : Value → List It → List It → Prop := fun v I' H' => ∃ ob cap, v = slO ob l.length cap ∧ I' = [] ∧ H' = [own ob cap 57 4 l.length (entsV l)]
theorem ents_one (l : List Ent) : ∀ u ∈ entsV l, u.oneCell' = true := fun u hu => by
  obtain ⟨e, -, he⟩ := List.mem_flatMap.1 hu
  simp [Ent.cells] at he
  rcases he with rfl | rfl | rfl | rfl <;> rfl
theorem concat_any (pp : Option Addr) (cap n : Nat) (ps : List EPart) (hn : ps.length = n) (hnb : n ≤ 1000000) (hb : (joinE ps).length ≤ 1000000) :
    Spc Try.prog 90 #[.slice pp n cap] (sls pp 1 n (ps.map EPart.v) :: ps.map EPart.i) [] (OwnE (joinE ps)) := by
  subst hn
  generalize hBase : sls pp 1 ps.length (ps.map EPart.v) :: ps.map EPart.i = Base
  have hmem : sls pp 1 ps.length (ps.map EPart.v) ∈ Base := by rw [← hBase]; exact List.Mem.head _
  have hpm : ∀ x ∈ ps, EPart.i x ∈ Base := fun x hx => by rw [← hBase]; exact List.mem_cons_of_mem _ (List.mem_map_of_mem hx)
  clear hBase
  refine Spc.enter Try.func90 rfl rfl rfl (fun w0 hw0 => ?_)
  refine CW.seq ?_
  refine CW.region (ef := []) (bk := []) ?_
  refine RL.assign rfl rfl rfl rfl ?_
  refine RL.nil ?_
  refine NQ.seq ?_
  refine CW.seq ?_
  refine CW.region (ef := []) (bk := []) ?_
  refine RL.assign rfl rfl rfl rfl ?_
  refine RL.nil ?_
  refine NQ.seq ?_
  refine CW.seq ?_
  refine CW.seq ?_
  refine CW.region (ef := []) (bk := []) ?_
  refine RL.move rfl rfl rfl rfl ?_
  refine RL.lenS Try.runUnderlying259 rfl rfl rfl rfl ?_
  refine RL.move rfl rfl rfl rfl ?_
  refine RL.nil ?_
  refine NQ.seq ?_
  refine CW.block ?_
  -- STOP: loop; todo top: ["code", ["loop", ["seq", ["region", 3, [{"d": 12, "op": ["binOp", "Go.BinOp.lss", 3, ["t", 11], ["t", 10], 3], "ty": 0, "pos": "slices.go:493", "after": [], "guard": null}], false], ["seq", ["cond", 
  refine CW.fact (p := pp = none → ps.length = 0) (fun w hC e => sls_nil (hC.s.i _ hmem) e) (fun hpp => ?_)
  refine CW.loop (γ := Nat) (fun i => i ≤ ps.length) (fun i => [(0, .slice pp ps.length cap), (3, .int .i64 ((joinE (ps.take i)).length : Int)), (9, .slice pp ps.length cap), (10, .int .i64 (ps.length : Int)), (11, .int .i64 (i : Int))]) (fun _ => Base) (fun _ => []) (fun i => ps.length - i) 0 (by omega)
    (.cons rfl (.cons rfl (.cons rfl (.cons rfl (.cons rfl .nil))))) (fun w h => h) ?_
  intro i hi
  have hle := joinE_le ps i
  have hle1 := joinE_le ps (i + 1)
  refine CW.seq ?_
  refine CW.region (ef := []) (bk := []) ?_
  refine RL.bin rfl rfl rfl rfl rfl rfl ?_
  refine RL.nil ?_
  refine NQ.seq ?_
  refine CW.seq ?_
  -- STOP: if; todo top: ["code", ["cond", ["t", 12], ["skip"], ["exit", 0]]]
  refine CW.cond rfl (fun hlt => ?_) (fun hlt => ?_)
  ·
    have hlt : i < ps.length := by simp at hlt; omega
    cases pp with
    | none => exact absurd (hpp rfl) (by omega)
    | some a =>
    have hv : (ps.map EPart.v)[i * 1]? = some (.slice ps[i].p ps[i].L.length ps[i].c) := by rw [Nat.mul_one, List.getElem?_map, List.getElem?_eq_getElem hlt]; rfl
    rw [joinE_succ hlt, List.length_append] at hle1
    refine CW.skip ?_
    refine NQ.seq ?_
    refine CW.seq ?_
    refine CW.block ?_
    refine CW.seq ?_
    refine CW.region (ef := []) (bk := []) ?_
    -- STOP: op; op 0: d=13 ["indexAddr", 259, ["t", 9], ["t", 11]] guard=None (slices.go:493)
    refine RL.idx (j := i) Try.runUnderlying259 Try.sizeOf49 rfl rfl rfl rfl rfl rfl hlt ?_
    -- STOP: op; op 1: d=14 ["load", 49, ["t", 13]] guard=None (slices.go:493)
    refine RL.load Try.isAgg49 rfl rfl rfl rfl (Rd.getS hmem hv) ?_
    refine RL.assign rfl rfl rfl rfl ?_
    refine RL.nil ?_
    refine NQ.seq ?_
    refine CW.seq ?_
    refine CW.region (ef := []) (bk := []) ?_
    refine RL.move rfl rfl rfl rfl ?_
    refine RL.move rfl rfl rfl rfl ?_
    refine RL.lenS Try.runUnderlying49 rfl rfl rfl rfl ?_
    refine RL.binX rfl rfl rfl rfl rfl rfl (wrapV_i64 (by omega) (by omega)) ?_
    refine RL.assign rfl rfl rfl rfl ?_
    refine RL.nil ?_
    refine NQ.seq ?_
    refine CW.only (.cons (k := 0) rfl (.cons (k := 3) rfl (.cons (k := 9) rfl (.cons (k := 10) rfl (.cons (k := 11) rfl .nil))))) ?_
    refine CW.seq ?_
    refine CW.region (ef := []) (bk := []) ?_
    refine RL.move rfl rfl rfl rfl ?_
    refine RL.bin rfl rfl rfl rfl rfl rfl ?_
    refine RL.nil ?_
    refine NQ.seq ?_
    -- STOP: if; todo top: ["code", ["cond", ["t", 20], ["region", 7, [{"d": 21, "op": ["makeInterface", 9, ["c", ["string", [108, 101, 110, 32, 111, 117, 116, 32, 111, 102, 32, 114, 97, 110, 103, 101]]]], "ty": 20, "pos": "sli
    refine CW.condF rfl (by simp; omega) ?_
    refine CW.skip ?_
    refine NQ.block ?_
    refine NQ.seq ?_
    refine CW.region (ef := []) (bk := []) ?_
    refine RL.binX rfl rfl rfl rfl rfl rfl (wrapV_i64 (by omega) (by omega)) ?_
    refine RL.move rfl rfl rfl rfl ?_
    refine RL.nil ?_
    -- STOP: round; todo top: ["N"]
    refine NQ.round (g := i) (i + 1) hlt (by show ps.length - (i + 1) < ps.length - i; omega) (.cons rfl (.cons (by rw [joinE_succ hlt, List.length_append]; rfl) (.cons rfl (.cons rfl (.cons rfl .nil))))) (fun w h => h)
  ·
    have hin : i = ps.length := by simp at hlt; omega
    subst hin
    rw [List.take_length]
    refine CW.exit ?_
    refine XQ.seq ?_
    refine XQ.seq ?_
    refine XQ.hit ?_
    refine NQ.seq ?_
    refine CW.seq ?_
    refine CW.region (ef := [1]) (bk := []) ?_
    refine RL.move rfl rfl rfl rfl ?_
    refine RL.call (grow_nil (joinE ps).length hb) Try.call142 rfl rfl rfl rfl rfl (by repeat (first | exact Pick.nil | apply Pick.take | apply Pick.leave)) (by repeat (first | exact Lend.nil | (refine Lend.inI ?_ ?_; (solve | (repeat (first | exact List.Mem.head _ | apply List.Mem.tail)))) | (refine Lend.inH ?_ ?_; (solve | (repeat (first | exact List.Mem.head _ | apply List.Mem.tail)))))) (.inl rfl) ?_
    -- STOP: called; op 2: d=6 ["assign", ["t", 24]] guard=None (slices.go:502)
    rintro _ _ _ ⟨ob, c0, rfl, rfl, rfl⟩
    refine RL.assign rfl rfl rfl rfl ?_
    refine RL.nil ?_
    refine NQ.seq ?_
    refine CW.only (.cons (k := 0) rfl (.cons (k := 6) rfl .nil)) ?_
    refine CW.seq ?_
    refine CW.seq ?_
    refine CW.region (ef := []) (bk := []) ?_
    refine RL.move rfl rfl rfl rfl ?_
    refine RL.lenS Try.runUnderlying259 rfl rfl rfl rfl ?_
    refine RL.move rfl rfl rfl rfl ?_
    refine RL.nil ?_
    refine NQ.seq ?_
    refine CW.block ?_
    -- STOP: loop; todo top: ["code", ["loop", ["seq", ["region", 11, [{"d": 28, "op": ["binOp", "Go.BinOp.lss", 3, ["t", 27], ["t", 26], 3], "ty": 0, "pos": "slices.go:503", "after": [], "guard": null}], false], ["seq", ["cond",
    refine CW.loop (γ := Nat × Option Nat × Nat) (fun g => g.1 ≤ ps.length) (fun g => [(6, slO g.2.1 (joinE (ps.take g.1)).length g.2.2), (25, .slice pp ps.length cap), (26, .int .i64 (ps.length : Int)), (27, .int .i64 (g.1 : Int))]) (fun _ => Base)
      (fun g => [own g.2.1 g.2.2 57 4 (joinE (ps.take g.1)).length (entsV (joinE (ps.take g.1)))]) (fun g => ps.length - g.1) (0, ob, c0) (by simp) (.cons rfl (.cons rfl (.cons rfl (.cons rfl .nil)))) (fun w h => h) ?_
    rintro ⟨i, ob', c'⟩ hi'
    dsimp only at hi' ⊢
    have hle := joinE_le ps i
    have hle1 := joinE_le ps (i + 1)
    refine CW.seq ?_
    refine CW.region (ef := []) (bk := []) ?_
    refine RL.bin rfl rfl rfl rfl rfl rfl ?_
    refine RL.nil ?_
    refine NQ.seq ?_
    refine CW.seq ?_
    -- STOP: if; todo top: ["code", ["cond", ["t", 28], ["skip"], ["exit", 2]]]
    refine CW.cond rfl (fun hlt => ?_) (fun hlt => ?_)
    ·
      have hlt : i < ps.length := by simp at hlt; omega
      cases pp with
      | none => exact absurd (hpp rfl) (by omega)
      | some a =>
      have hv : (ps.map EPart.v)[i * 1]? = some (.slice ps[i].p ps[i].L.length ps[i].c) := by rw [Nat.mul_one, List.getElem?_map, List.getElem?_eq_getElem hlt]; rfl
      have hmi : sls ps[i].p 4 ps[i].L.length (entsV ps[i].L) ∈ Base := hpm _ (List.getElem_mem hlt)
      rw [joinE_succ hlt, List.length_append] at hle1
      refine CW.skip ?_
      refine NQ.seq ?_
      refine CW.seq ?_
      refine CW.block ?_
      refine CW.seq ?_
      refine CW.region (ef := []) (bk := []) ?_
      -- STOP: op; op 0: d=29 ["indexAddr", 259, ["t", 25], ["t", 27]] guard=None (slices.go:503)
      refine RL.idx (j := i) Try.runUnderlying259 Try.sizeOf49 rfl rfl rfl rfl rfl rfl hlt ?_
      -- STOP: op; op 1: d=30 ["load", 49, ["t", 29]] guard=None (slices.go:503)
      refine RL.load Try.isAgg49 rfl rfl rfl rfl (Rd.getS hmem hv) ?_
      refine RL.assign rfl rfl rfl rfl ?_
      refine RL.nil ?_
      refine NQ.seq ?_
      refine CW.region (ef := [2]) (bk := [2]) ?_
      refine RL.move rfl rfl rfl rfl ?_
      refine RL.move rfl rfl rfl rfl ?_
      -- STOP: op; op 2: d=33 ["builtin", "Go.Builtin.append", [["t", 31], ["t", 32]], [49, 49]] guard=None (slices.go:504)
      refine RL.appendA el_49 rfl rfl rfl rfl rfl rfl rfl (by first | exact ⟨(.take (Pick.none _)), rfl⟩ | exact ⟨(.leave (.take (Pick.none _))), rfl⟩ | exact ⟨(.leave (.leave (.take (Pick.none _)))), rfl⟩ | exact ⟨(.leave (.leave (.leave (.take (Pick.none _))))), rfl⟩ | exact ⟨(.leave (.leave (.leave (.leave (.take (Pick.none _)))))), rfl⟩ | exact ⟨(.leave (.leave (.leave (.leave (.leave (.take (Pick.none _))))))), rfl⟩ | exact ⟨(.leave (.leave (.leave (.leave (.leave (.leave (.take (Pick.none _)))))))), rfl⟩ | exact ⟨(.leave (.leave (.leave (.leave (.leave (.leave (.leave (.take (Pick.none _))))))))), rfl⟩ | exact ⟨(.leave (.leave (.leave (.leave (.leave (.leave (.leave (.leave (.take (Pick.none _)))))))))), rfl⟩ | exact ⟨(.leave (.leave (.leave (.leave (.leave (.leave (.leave (.leave (.leave (.take (Pick.none _))))))))))), rfl⟩) (Src.sls hmi) (ents_one _) (by first | omega | (simp only [maxLen]; omega)) (by first | omega | (simp only [maxLen]; omega)) ?_
      intro ob2 c2 ho2
      refine RL.assign rfl rfl rfl rfl ?_
      refine RL.nil ?_
      refine NQ.block ?_
      refine NQ.seq ?_
      refine CW.only (.cons (k := 6) rfl (.cons (k := 25) rfl (.cons (k := 26) rfl (.cons (k := 27) rfl .nil)))) ?_
      refine CW.region (ef := []) (bk := []) ?_
      refine RL.binX rfl rfl rfl rfl rfl rfl (wrapV_i64 (by omega) (by omega)) ?_
      refine RL.move rfl rfl rfl rfl ?_
      refine RL.nil ?_
      -- STOP: round; todo top: ["N"]
      refine NQ.round (g := (i, ob', c')) (i + 1, ob2, c2) hlt (by show ps.length - (i + 1) < ps.length - i; omega) (.cons (by rw [joinE_succ hlt, List.length_append]; rfl) (.cons rfl (.cons rfl (.cons rfl .nil)))) (fun w h => ?_)
      dsimp only
      rw [joinE_succ hlt, List.length_append, entsV_append]
      exact h
    ·
      refine CW.exit ?_
      refine XQ.seq ?_
      refine XQ.seq ?_
      refine XQ.hit ?_
      refine NQ.seq ?_
      refine CW.seq ?_
      refine CW.region (ef := []) (bk := []) ?_
      refine RL.move rfl rfl rfl rfl ?_
      refine RL.assign rfl rfl rfl rfl ?_
      refine RL.nil ?_
      refine NQ.seq ?_
      refine CW.only (.cons (k := 2) rfl .nil) ?_
      refine CW.ret ?_
      -- STOP: ret; end
      have hin : i = ps.length := by simp at hlt; omega
      subst hin
      rw [List.take_length]
      exact RQ.post (res1 rfl rfl) (.keep .nil) ⟨ob', c', rfl, rfl, rfl⟩
end Go.Proofs.Ytflpiaeffnoepaa

namespace Go.Proofs.Ytflpiaeffnoepaa
open Go.PK

/-- Reports that are joined. -/
def joinC (p q : Rep) : Prop := holdsE p = 0 ∧ holdsE q = 0 ∧ p.to = q.fr ∧ IntKind.i64.wrap (q.a - p.L.length) = p.a
def joinP (p q : Rep) : Rep := ⟨p.fr, q.to, p.a, p.L ++ q.L⟩
open Classical in
noncomputable def joinV (p q : Rep) : Rep := if joinC p q then joinP p q else rep0
open Classical in
noncomputable def joinE' (p q : Rep) : Int := if joinC p q then 0 else 360
theorem join_yes {p q : Rep} (h : joinC p q) : joinV p q = joinP p q ∧ joinE' p q = 0 := ⟨if_pos h, if_pos h⟩
theorem join_no {p q : Rep} (h : ¬ joinC p q) : joinV p q = rep0 ∧ joinE' p q = 360 := ⟨if_neg h, if_neg h⟩
theorem RdI.told {I : List It} {b off : Nat} {cs : List Value} {T : TypeId} {v : Value} (hm : cel b cs T ∈ I) (hn : cs[off]? = some v) : RdI I ⟨b, off, none⟩ v := ⟨fun _ => Rd.getI hm hn⟩
theorem RdsN.told {I : List It} {b off n : Nat} {cs vs : List Value} {T : TypeId} (hm : cel b cs T ∈ I) (hv : ∀ j u, vs[j]? = some u → cs[off + j]? = some u) (hl : vs.length = n) : RdsN I ⟨b, off, none⟩ n vs := ⟨fun _ => Rds.celI hm hv, hl⟩
theorem lenD {l : List B8} (h : l.length = 32) : (bytes l).length = 32 := by rw [List.length_map, h]
theorem join_any (p q : Rep) (oa ob : Option Nat) (ca cb na nb : Nat) (hp1 : p.fr.length = 32) (hp2 : p.to.length = 32) (hq1 : q.fr.length = 32) (hq2 : q.to.length = 32) (hna : p.L.length = na) (hnb : q.L.length = nb) (hnb1 : na ≤ 1000) (hnb2 : nb ≤ 1000) :
    Spc Try.prog 38 #[.agg (p.cells (slO oa na ca)).toArray, .agg (q.cells (slO ob nb cb)).toArray] [sls (oa.map fun b => ⟨b, 0, none⟩) 4 na (entsV p.L), sls (ob.map fun b => ⟨b, 0, none⟩) 4 nb (entsV q.L)] [] (RepR 57 (joinV p q) (joinE' p q)) := by
  subst hna; subst hnb
  refine Spc.enter Try.func38 rfl rfl rfl (fun w0 hw0 => ?_)
  refine CW.seq ?_
  refine CW.region (ef := [0, 1, 2]) (bk := []) ?_
  refine RL.box rfl rfl rfl rfl rfl rfl ?_
  intro b1
  refine RL.box rfl rfl rfl rfl rfl rfl ?_
  intro b2
  refine RL.alloc Try.zeroValue70 rfl rfl rfl rfl rfl ?_
  intro b3
  refine RL.assign rfl rfl rfl rfl ?_
  refine RL.nil ?_
  refine NQ.seq ?_
  refine CW.seq ?_
  refine CW.seq ?_
  -- STOP: region; todo top: ["code", ["region", 1, [{"d": 6, "op": ["load", 70, ["t", 2]], "ty": 70, "pos": "trace.go:172", "after": [], "guard": null}, {"d": 7, "op": ["call", ["f", 37], [["t", 6]], [70]], "ty": 35, "pos": "tra
  refine CW.freezeP (A := [_, _]) (B := [_]) (.leave (.take (.take .nil))) rfl ?_
  simp only [List.cons_append, List.nil_append]
  generalize hJ : ([cel b2 (q.cells (slO ob q.L.length cb)) 70, cel b1 (p.cells (slO oa p.L.length ca)) 70, sls (oa.map fun b => ⟨b, 0, none⟩) 4 p.L.length (entsV p.L), sls (ob.map fun b => ⟨b, 0, none⟩) 4 q.L.length (entsV q.L)] : List It) = J
  have m1 : cel b1 (p.cells (slO oa p.L.length ca)) 70 ∈ J := by rw [← hJ]; exact (by repeat (first | exact List.Mem.head _ | apply List.Mem.tail))
  have m2 : cel b2 (q.cells (slO ob q.L.length cb)) 70 ∈ J := by rw [← hJ]; exact (by repeat (first | exact List.Mem.head _ | apply List.Mem.tail))
  have m3 : sls (oa.map fun b => ⟨b, 0, none⟩) 4 p.L.length (entsV p.L) ∈ J := by rw [← hJ]; exact (by repeat (first | exact List.Mem.head _ | apply List.Mem.tail))
  have m4 : sls (ob.map fun b => ⟨b, 0, none⟩) 4 q.L.length (entsV q.L) ∈ J := by rw [← hJ]; exact (by repeat (first | exact List.Mem.head _ | apply List.Mem.tail))
  clear hJ
  have w1 : RdsN J ⟨b1, 0, none⟩ 66 (p.cells (slO oa p.L.length ca)) := RdsN.told m1 (fun j u h => by rw [Nat.zero_add]; exact h) (rep_len hp1 hp2)
  have w2 : RdsN J ⟨b2, 0, none⟩ 66 (q.cells (slO ob q.L.length cb)) := RdsN.told m2 (fun j u h => by rw [Nat.zero_add]; exact h) (rep_len hq1 hq2)
  have f1 : RdsN J ⟨b1, 0 + 0, none⟩ 32 (bytes p.fr) := RdsN.told m1 (rep_fr hp1) (lenD hp1)
  have f2 : RdsN J ⟨b2, 0 + 0, none⟩ 32 (bytes q.fr) := RdsN.told m2 (rep_fr hq1) (lenD hq1)
  have f3 : RdsN J ⟨b1, 0 + 32, none⟩ 32 (bytes p.to) := RdsN.told m1 (rep_to hp1) (lenD hp2)
  have f4 : RdsN J ⟨b2, 0 + 32, none⟩ 32 (bytes q.to) := RdsN.told m2 (rep_to hq1) (lenD hq2)
  have f5 : RdI J ⟨b1, 0 + 64, none⟩ (.int .i64 p.a) := RdI.told m1 (rep_a hp1 hp2)
  have f6 : RdI J ⟨b2, 0 + 64, none⟩ (.int .i64 q.a) := RdI.told m2 (rep_a hq1 hq2)
  have f7 : RdI J ⟨b1, 0 + 65, none⟩ (slO oa p.L.length ca) := RdI.told m1 (rep_sl hp1 hp2)
  have f8 : RdI J ⟨b2, 0 + 65, none⟩ (slO ob q.L.length cb) := RdI.told m2 (rep_sl hq1 hq2)
  have l1 : (p.cells (slO oa p.L.length ca)).length = 66 := rep_len hp1 hp2
  have l2 : (q.cells (slO ob q.L.length cb)).length = 66 := rep_len hq1 hq2
  refine CW.region (ef := []) (bk := []) ?_
  first | refine RL.loadM Try.isAgg70 Try.sizeOf70 rfl rfl rfl rfl (by assumption) ?_ | refine RL.loadA Try.isAgg70 Try.sizeOf70 rfl rfl rfl rfl (by first | assumption | (apply RdsI.rds; assumption)) (by first | rfl | assumption | (simp only [List.length_map]; assumption) | (simp only [List.length_map, List.length_replicate]; done) | (simp; done)) ?_
  refine RL.callv (tholds_any p oa ca p.L.length hp1 hp2 rfl (by omega)) Try.call37 rfl rfl rfl rfl (.inI m3 .nil) ?_
  refine RL.bin rfl rfl rfl rfl rfl rfl ?_
  refine RL.move rfl rfl rfl rfl ?_
  apply RL.orB (d := 9) (dp := 13) (l' := (Sq.of [8, 9, 10, 11, 12, 13, 14, 15, 16, 17, 18, 19, 20, 21, 22, 23, 24, 25])) rfl (.cons (k := 2) rfl (.cons (k := 3) rfl (.cons (k := 4) rfl (.cons (k := 5) rfl .nil))))
  ·
    intro hb4 K4
    first | refine RL.loadM Try.isAgg70 Try.sizeOf70 rfl rfl rfl rfl (by assumption) ?_ | refine RL.loadA Try.isAgg70 Try.sizeOf70 rfl rfl rfl rfl (by first | assumption | (apply RdsI.rds; assumption)) (by first | rfl | assumption | (simp only [List.length_map]; assumption) | (simp only [List.length_map, List.length_replicate]; done) | (simp; done)) ?_
    refine RL.callv (tholds_any q ob cb q.L.length hq1 hq2 rfl (by omega)) Try.call37 rfl rfl rfl rfl (.inI m4 .nil) ?_
    refine RL.bin rfl rfl rfl rfl rfl rfl ?_
    refine RL.pickF rfl rfl rfl rfl rfl ?_
    exact K4 _ (.cons rfl (.cons (k := 2) rfl (.cons (k := 3) rfl (.cons (k := 4) rfl (.cons (k := 5) rfl .nil)))))
  ·
    intro hb4 K4
    refine RL.skip rfl rfl rfl rfl ?_
    refine RL.skip rfl rfl rfl rfl ?_
    refine RL.skip rfl rfl rfl rfl ?_
    refine RL.pickT rfl rfl rfl rfl rfl ?_
    exact K4 _ (.cons rfl (.cons (k := 2) rfl (.cons (k := 3) rfl (.cons (k := 4) rfl (.cons (k := 5) rfl .nil)))))
  refine RL.move rfl rfl rfl rfl ?_
  apply RL.orB (d := 14) (dp := 20) (l' := (Sq.of [15, 16, 17, 18, 19, 20, 21, 22, 23, 24, 25])) rfl (.cons (k := 2) rfl (.cons (k := 3) rfl (.cons (k := 4) rfl (.cons (k := 5) rfl .nil))))
  ·
    intro hb9 K9
    refine RL.fieldAddr fa_70_1 rfl rfl rfl rfl ?_
    first | refine RL.loadM Try.isAgg61 Try.sizeOf61 rfl rfl rfl rfl (by assumption) ?_ | refine RL.loadA Try.isAgg61 Try.sizeOf61 rfl rfl rfl rfl (by first | assumption | (apply RdsI.rds; assumption)) (by first | rfl | assumption | (simp only [List.length_map]; assumption) | (simp only [List.length_map, List.length_replicate]; done) | (simp; done)) ?_
    refine RL.fieldAddr fa_70_0 rfl rfl rfl rfl ?_
    first | refine RL.loadM Try.isAgg61 Try.sizeOf61 rfl rfl rfl rfl (by assumption) ?_ | refine RL.loadA Try.isAgg61 Try.sizeOf61 rfl rfl rfl rfl (by first | assumption | (apply RdsI.rds; assumption)) (by first | rfl | assumption | (simp only [List.length_map]; assumption) | (simp only [List.length_map, List.length_replicate]; done) | (simp; done)) ?_
    refine RL.cmp rfl rfl rfl rfl rfl (dig_ne _ _ (by first | rfl | assumption | (simp only [List.length_map]; assumption) | (simp only [List.length_map, List.length_replicate]; done) | (simp; done)) (by first | rfl | assumption | (simp only [List.length_map]; assumption) | (simp only [List.length_map, List.length_replicate]; done) | (simp; done)) _ _) ?_
    refine RL.pickF rfl rfl rfl rfl rfl ?_
    exact K9 _ (.cons rfl (.cons (k := 2) rfl (.cons (k := 3) rfl (.cons (k := 4) rfl (.cons (k := 5) rfl .nil)))))
  ·
    intro hb9 K9
    refine RL.skip rfl rfl rfl rfl ?_
    refine RL.skip rfl rfl rfl rfl ?_
    refine RL.skip rfl rfl rfl rfl ?_
    refine RL.skip rfl rfl rfl rfl ?_
    refine RL.skip rfl rfl rfl rfl ?_
    refine RL.pickT rfl rfl rfl rfl rfl ?_
    exact K9 _ (.cons rfl (.cons (k := 2) rfl (.cons (k := 3) rfl (.cons (k := 4) rfl (.cons (k := 5) rfl .nil)))))
  refine RL.move rfl rfl rfl rfl ?_
  apply RL.orB (d := 21) (dp := 31) (l' := (Sq.of [])) rfl (.cons (k := 2) rfl (.cons (k := 3) rfl (.cons (k := 4) rfl (.cons (k := 5) rfl .nil))))
  ·
    intro hb16 K16
    refine RL.fieldAddr fa_70_2 rfl rfl rfl rfl ?_
    refine RL.load Try.isAgg3 rfl rfl rfl rfl (by first | assumption | (apply RdI.rd; assumption) | (apply Rd.get; (solve | (repeat (first | exact List.Mem.head _ | apply List.Mem.tail))); assumption) | (apply Rd.getS; (solve | (repeat (first | exact List.Mem.head _ | apply List.Mem.tail))); assumption) | (apply Rd.getO; (solve | (repeat (first | exact List.Mem.head _ | apply List.Mem.tail))); assumption) | (apply Rd.getI; (solve | (repeat (first | exact List.Mem.head _ | apply List.Mem.tail))); assumption) | (apply Rd.cel; (solve | (repeat (first | exact List.Mem.head _ | apply List.Mem.tail))); exact rfl) | (apply Rd.celI; (solve | (repeat (first | exact List.Mem.head _ | apply List.Mem.tail))); exact rfl)) ?_
    refine RL.fieldAddr fa_70_3 rfl rfl rfl rfl ?_
    refine RL.load Try.isAgg49 rfl rfl rfl rfl (by first | assumption | (apply RdI.rd; assumption) | (apply Rd.get; (solve | (repeat (first | exact List.Mem.head _ | apply List.Mem.tail))); assumption) | (apply Rd.getS; (solve | (repeat (first | exact List.Mem.head _ | apply List.Mem.tail))); assumption) | (apply Rd.getO; (solve | (repeat (first | exact List.Mem.head _ | apply List.Mem.tail))); assumption) | (apply Rd.getI; (solve | (repeat (first | exact List.Mem.head _ | apply List.Mem.tail))); assumption) | (apply Rd.cel; (solve | (repeat (first | exact List.Mem.head _ | apply List.Mem.tail))); exact rfl) | (apply Rd.celI; (solve | (repeat (first | exact List.Mem.head _ | apply List.Mem.tail))); exact rfl)) ?_
    refine RL.lenS Try.runUnderlying49 rfl rfl rfl rfl ?_
    refine RL.bin rfl rfl rfl rfl rfl rfl ?_
    refine RL.fieldAddr fa_70_2 rfl rfl rfl rfl ?_
    refine RL.load Try.isAgg3 rfl rfl rfl rfl (by first | assumption | (apply RdI.rd; assumption) | (apply Rd.get; (solve | (repeat (first | exact List.Mem.head _ | apply List.Mem.tail))); assumption) | (apply Rd.getS; (solve | (repeat (first | exact List.Mem.head _ | apply List.Mem.tail))); assumption) | (apply Rd.getO; (solve | (repeat (first | exact List.Mem.head _ | apply List.Mem.tail))); assumption) | (apply Rd.getI; (solve | (repeat (first | exact List.Mem.head _ | apply List.Mem.tail))); assumption) | (apply Rd.cel; (solve | (repeat (first | exact List.Mem.head _ | apply List.Mem.tail))); exact rfl) | (apply Rd.celI; (solve | (repeat (first | exact List.Mem.head _ | apply List.Mem.tail))); exact rfl)) ?_
    refine RL.bin rfl rfl rfl rfl rfl rfl ?_
    refine RL.pickF rfl rfl rfl rfl rfl ?_
    exact K16 _ (.cons rfl (.cons (k := 2) rfl (.cons (k := 3) rfl (.cons (k := 4) rfl (.cons (k := 5) rfl .nil)))))
  ·
    intro hb16 K16
    refine RL.skip rfl rfl rfl rfl ?_
    refine RL.skip rfl rfl rfl rfl ?_
    refine RL.skip rfl rfl rfl rfl ?_
    refine RL.skip rfl rfl rfl rfl ?_
    refine RL.skip rfl rfl rfl rfl ?_
    refine RL.skip rfl rfl rfl rfl ?_
    refine RL.skip rfl rfl rfl rfl ?_
    refine RL.skip rfl rfl rfl rfl ?_
    refine RL.skip rfl rfl rfl rfl ?_
    refine RL.pickT rfl rfl rfl rfl rfl ?_
    exact K16 _ (.cons rfl (.cons (k := 2) rfl (.cons (k := 3) rfl (.cons (k := 4) rfl (.cons (k := 5) rfl .nil)))))
  refine RL.nil ?_
  refine NQ.seq ?_
  -- STOP: if; todo top: ["code", ["cond", ["t", 31], ["seq", ["region", 2, [{"d": 32, "op": ["build", 70, []], "ty": 70, "pos": "trace.go:173", "after": [], "guard": null}, {"d": null, "op": ["store", 70, ["t", 4], ["t", 32]
  refine CW.cond rfl (fun hc => ?_) (fun hc => ?_)
  ·
    refine CW.seq ?_
    refine CW.region (ef := [1]) (bk := [1]) ?_
    refine RL.buildS _ Try.zeroValue70 pl_70 rfl rfl rfl rfl rfl ?_
    refine RL.storeW Try.sizeOf70 rfl rfl rfl rfl rfl rfl rfl (by first | rfl | exact ones_map one8 _ | exact ones_map (fun _ => rfl) _) (by repeat (first | exact Upd.here | apply Upd.there)) (by first | rfl | assumption | (simp only [List.length_map]; assumption) | (simp only [List.length_map, List.length_replicate]; done) | (simp; done)) (by first | rfl | assumption | (simp only [List.length_map]; assumption) | (simp only [List.length_map, List.length_replicate]; done) | (simp; done)) ?_
    refine RL.assign rfl rfl rfl rfl ?_
    refine RL.nil ?_
    refine NQ.seq ?_
    refine CW.ret ?_
    refine RQ.seq ?_
    -- STOP: ret; end
    have hno : ¬ joinC p q := by
      rintro ⟨e1, e2, e3, e4⟩
      simp [e1, e2, e3, e4] at hc
    obtain ⟨e1, e2⟩ := join_no hno
    rw [e1, e2]
    refine RQ.ownNone (e := 57) 4 ?_
    exact RQ.post (resWT rfl rfl rfl Try.isAgg70 Try.sizeOf70 (by repeat (first | exact List.Mem.head _ | apply List.Mem.tail)) rfl) (.keep (Split.none _)) ⟨none, 0, rfl, rfl, rfl⟩
  ·
    have hyes : joinC p q := by
      simp at hc
      refine ⟨hc.1.1.1, hc.1.1.2, hc.1.2, ?_⟩
      exact hc.2
    obtain ⟨e1, e2⟩ := join_yes hyes
    rw [e1, e2]
    refine CW.skip ?_
    refine NQ.seq ?_
    refine CW.seq ?_
    refine CW.regionD (Sq.of [0, 1, 2, 3, 4, 5, 6, 7, 8, 9, 10, 11, 12, 13, 14]) [10, 11, 13] [13] [0, 1, 2, 3, 4, 5, 6, 7, 8, 9, 12, 14] mixed (by kernel_rfl) ?_
    refine RL.fieldAddr fa_70_0 rfl rfl rfl rfl ?_
    first | refine RL.loadMT Try.isAgg61 Try.sizeOf61 rfl rfl rfl rfl (by assumption) ?_ | refine RL.loadAT Try.isAgg61 Try.sizeOf61 rfl rfl rfl rfl (by first | assumption | (apply RdsI.rds; assumption)) (by first | rfl | assumption | (simp only [List.length_map]; assumption) | (simp only [List.length_map, List.length_replicate]; done) | (simp; done)) ?_
    refine RL.fieldAddr fa_70_1 rfl rfl rfl rfl ?_
    first | refine RL.loadMT Try.isAgg61 Try.sizeOf61 rfl rfl rfl rfl (by assumption) ?_ | refine RL.loadAT Try.isAgg61 Try.sizeOf61 rfl rfl rfl rfl (by first | assumption | (apply RdsI.rds; assumption)) (by first | rfl | assumption | (simp only [List.length_map]; assumption) | (simp only [List.length_map, List.length_replicate]; done) | (simp; done)) ?_
    refine RL.fieldAddr fa_70_2 rfl rfl rfl rfl ?_
    refine RL.loadT Try.isAgg3 rfl rfl rfl rfl (by first | assumption | (apply RdI.rd; assumption) | (apply Rd.get; (solve | (repeat (first | exact List.Mem.head _ | apply List.Mem.tail))); assumption) | (apply Rd.getS; (solve | (repeat (first | exact List.Mem.head _ | apply List.Mem.tail))); assumption) | (apply Rd.getO; (solve | (repeat (first | exact List.Mem.head _ | apply List.Mem.tail))); assumption) | (apply Rd.getI; (solve | (repeat (first | exact List.Mem.head _ | apply List.Mem.tail))); assumption) | (apply Rd.cel; (solve | (repeat (first | exact List.Mem.head _ | apply List.Mem.tail))); exact rfl) | (apply Rd.celI; (solve | (repeat (first | exact List.Mem.head _ | apply List.Mem.tail))); exact rfl)) ?_
    refine RL.fieldAddr fa_70_3 rfl rfl rfl rfl ?_
    refine RL.loadT Try.isAgg49 rfl rfl rfl rfl (by first | assumption | (apply RdI.rd; assumption) | (apply Rd.get; (solve | (repeat (first | exact List.Mem.head _ | apply List.Mem.tail))); assumption) | (apply Rd.getS; (solve | (repeat (first | exact List.Mem.head _ | apply List.Mem.tail))); assumption) | (apply Rd.getO; (solve | (repeat (first | exact List.Mem.head _ | apply List.Mem.tail))); assumption) | (apply Rd.getI; (solve | (repeat (first | exact List.Mem.head _ | apply List.Mem.tail))); assumption) | (apply Rd.cel; (solve | (repeat (first | exact List.Mem.head _ | apply List.Mem.tail))); exact rfl) | (apply Rd.celI; (solve | (repeat (first | exact List.Mem.head _ | apply List.Mem.tail))); exact rfl)) ?_
    refine RL.fieldAddr fa_70_3 rfl rfl rfl rfl ?_
    refine RL.loadT Try.isAgg49 rfl rfl rfl rfl (by first | assumption | (apply RdI.rd; assumption) | (apply Rd.get; (solve | (repeat (first | exact List.Mem.head _ | apply List.Mem.tail))); assumption) | (apply Rd.getS; (solve | (repeat (first | exact List.Mem.head _ | apply List.Mem.tail))); assumption) | (apply Rd.getO; (solve | (repeat (first | exact List.Mem.head _ | apply List.Mem.tail))); assumption) | (apply Rd.getI; (solve | (repeat (first | exact List.Mem.head _ | apply List.Mem.tail))); assumption) | (apply Rd.cel; (solve | (repeat (first | exact List.Mem.head _ | apply List.Mem.tail))); exact rfl) | (apply Rd.celI; (solve | (repeat (first | exact List.Mem.head _ | apply List.Mem.tail))); exact rfl)) ?_
    refine RL.buildSlice [_, _] Try.runUnderlying259 Try.sizeOf49 Try.zeroValue49 rfl rfl (by decide) (by decide) rfl rfl rfl rfl rfl rfl ?_
    intro b4
    refine RL.call (concat_any (some ⟨b4, 0, none⟩) 2 2 [⟨oa.map fun b => ⟨b, 0, none⟩, ca, p.L⟩, ⟨ob.map fun b => ⟨b, 0, none⟩, cb, q.L⟩] rfl (by decide) (by simp [joinE]; omega)) Try.call90 rfl rfl rfl rfl rfl (by repeat (first | exact Pick.nil | apply Pick.take | apply Pick.leave)) (Lend.all (by repeat (first | exact List.Mem.head _ | apply List.Mem.tail)) rfl (.inI m3 (.inI m4 .nil))) (.inl rfl) ?_
    -- STOP: called; op 12: d=45 ["build", 70, [[0, ["t", 34]], [1, ["t", 36]], [2, ["t", 38]], [3, ["t", 44]]]] guard=None (trace.go:175)
    refine ?_
    rintro _ _ _ ⟨ob2, c2, rfl, rfl, rfl⟩
    -- STOP: op; op 12: d=45 ["build", 70, [[0, ["t", 34]], [1, ["t", 36]], [2, ["t", 38]], [3, ["t", 44]]]] guard=None (trace.go:175)
    refine RL.buildS (Rep.cells ⟨p.fr, q.to, p.a, []⟩ (slO ob2 (joinE [⟨oa.map fun b => ⟨b, 0, none⟩, ca, p.L⟩, ⟨ob.map fun b => ⟨b, 0, none⟩, cb, q.L⟩]).length c2)) Try.zeroValue70 pl_70 rfl rfl rfl rfl (fill_rep4 hp1 hq2 rfl rfl) ?_
    -- STOP: op; op 13: d=None ["store", 70, ["t", 4], ["t", 45]] guard=None (trace.go:175)
    refine RL.storeW Try.sizeOf70 rfl rfl rfl rfl rfl rfl rfl (ones_rep _ rfl) (by repeat (first | exact Upd.here | apply Upd.there)) (rep_len hp1 hq2) rfl ?_
    refine RL.assign rfl rfl rfl rfl ?_
    refine RL.nil ?_
    refine NQ.seq ?_
    refine CW.only (.cons (k := 4) rfl (.cons (k := 5) rfl .nil)) ?_
    refine CW.ret ?_
    -- STOP: ret; end
    have hL : joinE [⟨oa.map fun b => ⟨b, 0, none⟩, ca, p.L⟩, ⟨ob.map fun b => ⟨b, 0, none⟩, cb, q.L⟩] = (joinP p q).L := by simp [joinE, joinP]
    rw [hL]
    exact RQ.post (resWT rfl rfl rfl Try.isAgg70 Try.sizeOf70 (by repeat (first | exact List.Mem.head _ | apply List.Mem.tail)) (rep_len (p := ⟨p.fr, q.to, p.a, []⟩) hp1 hq2)) (.keep (.drop (.drop .nil))) ⟨ob2, c2, rfl, rfl, rfl⟩
end Go.Proofs.Ytflpiaeffnoepaa

namespace Go.Proofs.Ytflpiaeffnoepaa
open Go.PK

theorem tmodAm (a b : Nat) : (a : Int).tmod (b : Int) = ((a % b : Nat) : Int) := by rw [Int.tmod_eq_emod_of_nonneg (by omega)]; simp
def amongN (x : Int) (n : Nat) : Nat := (IntKind.u64.wrap x).toNat % n
theorem amongN_lt {x : Int} {n : Nat} (h : 0 < n) : amongN x n < n := Nat.mod_lt _ h
theorem u64_nonneg (x : Int) : 0 ≤ IntKind.u64.wrap x := by simp [IntKind.wrap, IntKind.bits, IntKind.signed]; omega

theorem among_any (x : Int) (n : Nat) (h0 : 0 < n) (hn : n ≤ 1000000000) : Spc Try.prog 36 #[.int .i64 x, .int .i64 (n : Int)] [] [] (Is (.int .i64 (amongN x n : Int))) := by
  have hw : IntKind.u64.wrap (n : Int) = (n : Int) := by simp [IntKind.wrap, IntKind.bits, IntKind.signed]; omega
  have hlt := amongN_lt (x := x) h0
  refine Spc.enter Try.func36 rfl rfl rfl (fun w0 hw0 => ?_)
  refine CW.seq ?_
  refine CW.region (ef := []) (bk := []) ?_
  refine RL.assign rfl rfl rfl rfl ?_
  refine RL.nil ?_
  refine NQ.seq ?_
  refine CW.seq ?_
  refine CW.seq ?_
  refine CW.region (ef := []) (bk := []) ?_
  refine RL.move rfl rfl rfl rfl ?_
  refine RL.bin rfl rfl rfl rfl rfl rfl ?_
  refine RL.nil ?_
  refine NQ.seq ?_
  -- STOP: if; todo top: ["code", ["cond", ["t", 6], ["seq", ["region", 2, [{"d": 4, "op": ["assign", ["c", ["int", "Go.IntKind.i64", 0]]], "ty": 3, "pos": "base.go:7", "after": [], "guard": null}], false], ["ret"]], ["skip"]
  refine CW.condF rfl ((by simp; omega)) ?_
  refine CW.skip ?_
  refine NQ.seq ?_
  refine CW.seq ?_
  refine CW.region (ef := []) (bk := []) ?_
  refine RL.move rfl rfl rfl rfl ?_
  refine RL.conv Try.runUnderlying3 Try.runUnderlying30 rfl rfl rfl rfl ?_
  refine RL.move rfl rfl rfl rfl ?_
  refine RL.conv Try.runUnderlying3 Try.runUnderlying30 rfl rfl rfl rfl ?_
  -- STOP: op; op 4: d=11 ["binOp", "Go.BinOp.rem", 30, ["t", 8], ["t", 10], 30] guard=None (base.go:9)
  rw [hw]
  refine RL.remX (v' := .int .u64 (amongN x n : Int)) rfl rfl rfl rfl rfl (by omega) (by rw [← Int.toNat_of_nonneg (u64_nonneg x), tmodAm]; rfl) ?_
  refine RL.conv Try.runUnderlying30 Try.runUnderlying3 rfl rfl rfl rfl ?_
  refine RL.assign rfl rfl rfl rfl ?_
  refine RL.nil ?_
  refine NQ.seq ?_
  refine CW.only (.cons (k := 4) rfl .nil) ?_
  refine CW.ret ?_
  -- STOP: ret; end
  exact RQ.post (res1 rfl rfl) (Split.none _) ⟨by rw [IntWalk.i64_in _ (by omega)], rfl, rfl⟩


end Go.Proofs.Ytflpiaeffnoepaa

namespace Go.Proofs.Ytflpiaeffnoepaa
open Go.PK

theorem min_len (n : Nat) : min (n : Int) 40 = ((min n 40 : Nat) : Int) := by omega
theorem slice_all {p : Option Addr} {c : Nat} : (if c = 0 then p else p.map (·.add (0 * 4))) = p := by
  split
  · rfl
  · cases p <;> rfl
theorem came_ok (L : List Ent) (i : Nat) : ∀ x ∈ came L i, x.ok = true := by
  unfold came
  have h : ∀ (l a : List Ent), (∀ x ∈ a, x.ok = true) → ∀ x ∈ l.foldl esA a, x.ok = true := by
    intro l
    induction l with
    | nil => intro a ha; exact ha
    | cons y l ih =>
      intro a ha
      refine ih _ (fun x hx => ?_)
      unfold esA at hx
      split at hx
      · rcases List.mem_append.1 hx with h | h
        · exact ha x h
        · rw [List.mem_singleton.1 h]; assumption
      · exact ha x hx
  exact h _ _ (by simp)
theorem head_from {es : List Ent} {q : Nat} : headOf es = (es.drop q).foldl nextD (headOf (es.take q)) := by
  unfold headOf; rw [← List.foldl_append, List.take_append_drop]
/-- Reports of recorders hold. -/
theorem repOf_holds {es : List Ent} {q : Nat} (hq : q ≤ es.length) (ho : ∀ x ∈ es, x.ok = true) : holdsE (repOf es q) = 0 := by
  have h : leadsD (repOf es q).fr (repOf es q).L = some (repOf es q).to := by
    show leadsD (headOf (es.take (es.length - q))) (es.drop (es.length - q)) = some (headOf es)
    rw [leadsD_snoc _ _ (fun x hx => ho x (List.mem_of_mem_drop hx)), ← head_from]
  rw [holdsE, if_pos ⟨h, by show (0 : Int) ≤ ((es.length - q : Nat) : Int); omega⟩]
theorem repV_holds {m : Nat} {es : List Ent} {z : Int} (hz : 0 ≤ z) (ho : ∀ x ∈ es, x.ok = true) : holdsE (repV m es z) = 0 := by
  rw [repV, if_neg (by omega)]
  exact repOf_holds (by omega) ho
theorem ent_rdsN {I : List It} {a : Addr} {n i : Nat} {l : List Ent} {x : Ent} (hm : sls (some a) 4 n (entsV l) ∈ I) (hx : l[i]? = some x) : RdsN I (a.add (i * 4)) 4 x.cells :=
  ⟨fun _ => (Rds.sls hm).part (fun q u hu => by
    have hlt : q < 4 := (List.getElem?_eq_some_iff.1 hu).1
    rw [get_flat (ent_len l) hx hlt]; exact hu), rfl⟩
theorem Lend.ownI {I F J : List It} {ob : Option Nat} {cap sz nn : Nat} {e : TypeId} {xs : List Value} (hm : own ob cap e sz nn xs ∈ I) (h : Lend I F J) : Lend I F (sls (ob.map fun b => ⟨b, 0, none⟩) sz nn xs :: J) :=
  .of (fun _ hw => own_sls (hw.i _ hm)) (fun c hc => .inl (mem_bss.2 ⟨_, hm, by by_cases hn : nn = 0 <;> cases ob <;> simp_all [sls, own]⟩)) h
theorem CW.genI {P : Program} {Q : Exit → Act → World → Prop} {N : Nat} {E : Env} {w0 : World} {S : List Nat} {I H : List It} {cc : Code} (h : ∀ J, (∀ x ∈ I, x ∈ J) → CW P cc Q N E w0 S J H) : CW P cc Q N E w0 S I H := h I (fun _ h => h)
theorem fold_ok : ∀ (l a : List Ent), l.foldl esA a = a ++ l.filter (·.ok)
  | [], a => by simp
  | x :: l, a => by
    rw [List.foldl_cons, fold_ok l, esA]
    by_cases h : x.ok <;> simp [h]
theorem came_later {L : List Ent} {j n : Nat} (h : j ≤ n) : ∃ D, came L n = came L j ++ D ∧ ∀ x ∈ D, x.ok = true := by
  refine ⟨((L.drop j).take (n - j)).filter (·.ok), ?_, fun x hx => (List.mem_filter.1 hx).2⟩
  rw [came, came, fold_ok, fold_ok, List.nil_append, List.nil_append, ← List.filter_append]
  congr 1
  rw [← List.take_add]; congr 1; omega
theorem holds_of {p : Rep} (ho : ∀ x ∈ p.L, x.ok = true) (ht : p.L.foldl nextD p.fr = p.to) (ha : 0 ≤ p.a) : holdsE p = 0 := by
  rw [holdsE, if_pos ⟨by rw [leadsD_snoc _ _ ho, ht], ha⟩]
/-- A report and all that came since are joined. -/
theorem joined_later {m : Nat} {es D : List Ent} (h1 : ∀ x ∈ es, x.ok = true) (h2 : ∀ x ∈ D, x.ok = true) (hb : es.length + D.length ≤ 1000) :
    (repV m (es ++ D) D.length).L.length ≤ D.length ∧ (D.length ≤ (repV m (es ++ D) D.length).L.length → joinC (repV m es 1000) (repV m (es ++ D) D.length) ∧
      holdsE (joinP (repV m es 1000) (repV m (es ++ D) D.length)) = 0 ∧ (joinP (repV m es 1000) (repV m (es ++ D) D.length)).L.length = (repV m es 1000).L.length + D.length) := by
  have g1 : repV m es 1000 = repOf es (min 1000 (min es.length m)) := by rw [repV, if_neg (by decide)]; rfl
  have g2 : repV m (es ++ D) D.length = repOf (es ++ D) (min D.length (min (es ++ D).length m)) := by rw [repV, if_neg (by omega)]; rfl
  have hl : (es ++ D).length = es.length + D.length := List.length_append
  generalize hq1 : min 1000 (min es.length m) = q1 at g1
  generalize hq2 : min D.length (min (es ++ D).length m) = q2 at g2
  have k1 : q1 ≤ es.length := by omega
  have k2 : q2 ≤ D.length := by omega
  have n1 : (repOf es q1).L.length = q1 := by show (es.drop (es.length - q1)).length = q1; rw [List.length_drop]; omega
  have n2 : (repOf (es ++ D) q2).L.length = q2 := by show ((es ++ D).drop ((es ++ D).length - q2)).length = q2; rw [List.length_drop]; omega
  have hall : ∀ x ∈ es ++ D, x.ok = true := fun x hx => (List.mem_append.1 hx).elim (h1 x) (h2 x)
  rw [g1, g2, n2]
  refine ⟨k2, fun hd => ?_⟩
  have hqd : q2 = D.length := by omega
  subst hqd
  have ed : (es ++ D).length - D.length = es.length := by omega
  have ef : (repOf (es ++ D) D.length).fr = headOf es := by
    show headOf ((es ++ D).take ((es ++ D).length - D.length)) = _
    rw [ed, List.take_left']; rfl
  have el : (repOf (es ++ D) D.length).L = D := by
    show (es ++ D).drop ((es ++ D).length - D.length) = D
    rw [ed, List.drop_left']; rfl
  refine ⟨⟨repOf_holds k1 h1, repOf_holds (by omega) hall, ef.symm, ?_⟩, ?_, ?_⟩
  · show IntKind.i64.wrap ((((es ++ D).length - D.length : Nat) : Int) - (repOf es q1).L.length) = ((es.length - q1 : Nat) : Int)
    rw [ed, n1, IntWalk.i64_in _ (by omega)]; omega
  · refine holds_of (fun x hx => ?_) ?_ (by show (0 : Int) ≤ ((es.length - q1 : Nat) : Int); omega)
    · rcases List.mem_append.1 hx with h | h
      · exact h1 x (List.mem_of_mem_drop h)
      · rw [el] at h; exact h2 x h
    · show ((es.drop (es.length - q1)) ++ (repOf (es ++ D) D.length).L).foldl nextD (headOf (es.take (es.length - q1))) = headOf (es ++ D)
      rw [el, List.foldl_append, ← head_from, headOf, headOf, List.foldl_append]
  · show ((repOf es q1).L ++ (repOf (es ++ D) D.length).L).length = _
    rw [List.length_append, n2]
theorem tlholds (z at_ : Int) (p : Option Addr) (c : Nat) (L : List Ent) (hc : L.length ≤ c) : Spc Try.prog 8 #[.int .i64 z, .slice p L.length c, .int .i64 at_] [sls p 4 L.length (entsV L)] [] (Is (.bool true)) := by
  have hm0 := amongN_lt (x := z) (n := 60) (by decide)
  have hj0 := amongN_lt (x := at_) (n := min L.length 40 + 1) (by omega)
  have hm1 : 0 < 1 + amongN z 60 := by omega
  have hm2 : 1 + amongN z 60 ≤ 60 := by omega
  refine Spc.enter Try.func8 rfl rfl rfl (fun w0 hw0 => ?_)
  refine CW.seq ?_
  refine CW.region (ef := []) (bk := []) ?_
  refine RL.assign rfl rfl rfl rfl ?_
  refine RL.nil ?_
  refine NQ.seq ?_
  refine CW.seq ?_
  refine CW.seq ?_
  refine CW.region (ef := []) (bk := []) ?_
  refine RL.callv (works36) Try.call35 rfl rfl rfl rfl (by repeat (first | exact Lend.nil | (refine Lend.inI ?_ ?_; (solve | (repeat (first | exact List.Mem.head _ | apply List.Mem.tail)))) | (refine Lend.inH ?_ ?_; (solve | (repeat (first | exact List.Mem.head _ | apply List.Mem.tail)))))) ?_
  refine RL.not rfl rfl rfl rfl ?_
  refine RL.nil ?_
  refine NQ.seq ?_
  -- STOP: if; todo top: ["code", ["cond", ["t", 22], ["seq", ["region", 2, [{"d": 6, "op": ["assign", ["c", ["bool", false]]], "ty": 4, "pos": "law.go:110", "after": [], "guard": null}], false], ["ret"]], ["skip"]]]
  refine CW.condF rfl ((by simp)) ?_
  refine CW.skip ?_
  refine NQ.seq ?_
  refine CW.seq ?_
  refine CW.region (ef := [3]) (bk := []) ?_
  refine RL.move rfl rfl rfl rfl ?_
  refine RL.callv (among_any z 60 (by omega) (by omega)) Try.call36 rfl rfl rfl rfl (by repeat (first | exact Lend.nil | (refine Lend.inI ?_ ?_; (solve | (repeat (first | exact List.Mem.head _ | apply List.Mem.tail)))) | (refine Lend.inH ?_ ?_; (solve | (repeat (first | exact List.Mem.head _ | apply List.Mem.tail)))))) ?_
  refine RL.binX rfl rfl rfl rfl rfl rfl (wrapV_i64 (by omega) (by omega)) ?_
  refine RL.call (tnew_yes (1 + amongN z 60) hm1 (by omega)) Try.call26 rfl rfl rfl rfl rfl (by repeat (first | exact Pick.nil | apply Pick.take | apply Pick.leave)) (by repeat (first | exact Lend.nil | (refine Lend.inI ?_ ?_; (solve | (repeat (first | exact List.Mem.head _ | apply List.Mem.tail)))) | (refine Lend.inH ?_ ?_; (solve | (repeat (first | exact List.Mem.head _ | apply List.Mem.tail)))))) (.inl rfl) ?_
  -- STOP: called; op 4: d=23 ["move", ["t", 27]] guard=None (law.go:112)
  rintro _ _ _ ⟨r, lb, rfl, rfl, rg, hi, rfl⟩
  generalize 1 + amongN z 60 = m at *
  refine RL.move rfl rfl rfl rfl ?_
  refine RL.extract rfl rfl rfl rfl rfl ?_
  refine RL.extract rfl rfl rfl rfl rfl ?_
  refine RL.assign rfl rfl rfl rfl ?_
  refine RL.assign rfl rfl rfl rfl ?_
  refine RL.nil ?_
  refine NQ.seq ?_
  refine CW.only (.cons (k := 1) rfl (.cons (k := 2) rfl (.cons (k := 7) rfl .nil))) ?_
  refine CW.seq ?_
  refine CW.region (ef := [1, 2]) (bk := [2]) ?_
  refine RL.buildS _ Try.zeroValue70 pl_70 rfl rfl rfl rfl rfl ?_
  refine RL.alloc Try.zeroValue70 rfl rfl rfl rfl rfl ?_
  intro b1
  refine RL.storeW Try.sizeOf70 rfl rfl rfl rfl rfl rfl rfl (by first | rfl | exact ones_map one8 _ | exact ones_map (fun _ => rfl) _) (by repeat (first | exact Upd.here | apply Upd.there)) (by first | rfl | assumption | (simp only [List.length_map]; assumption) | (simp only [List.length_map, List.length_replicate]; done) | (simp; done)) (by first | rfl | assumption | (simp only [List.length_map]; assumption) | (simp only [List.length_map, List.length_replicate]; done) | (simp; done)) ?_
  refine RL.assign rfl rfl rfl rfl ?_
  refine RL.nil ?_
  refine NQ.seq ?_
  refine CW.seq ?_
  refine CW.region (ef := []) (bk := []) ?_
  refine RL.move rfl rfl rfl rfl ?_
  refine RL.move rfl rfl rfl rfl ?_
  refine RL.lenS Try.runUnderlying49 rfl rfl rfl rfl ?_
  refine RL.min rfl rfl rfl rfl rfl ?_
  -- STOP: op; op 4: d=35 ["slice", 49, ["t", 31], null, ["t", 34], null] guard=None (law.go:114)
  rw [min_len]
  refine RL.slice (lo := 0) (hi := min L.length 40) Try.runUnderlying49 Try.sizeOf57 rfl rfl rfl rfl rfl rfl (by omega) (by omega) ?_
  refine RL.assign rfl rfl rfl rfl ?_
  refine RL.nil ?_
  refine NQ.seq ?_
  refine CW.only (.cons (k := 1) rfl (.cons (k := 2) rfl (.cons (k := 7) rfl (.cons (k := 9) rfl (.cons (k := 10) rfl .nil))))) ?_
  refine CW.seq ?_
  refine CW.region (ef := []) (bk := []) ?_
  refine RL.move rfl rfl rfl rfl ?_
  refine RL.move rfl rfl rfl rfl ?_
  refine RL.lenS Try.runUnderlying49 rfl rfl rfl rfl ?_
  refine RL.binX rfl rfl rfl rfl rfl rfl (wrapV_i64 (by omega) (by omega)) ?_
  refine RL.callv (among_any at_ (min L.length 40 + 1) (by omega) (by omega)) Try.call36 rfl rfl rfl rfl (by repeat (first | exact Lend.nil | (refine Lend.inI ?_ ?_; (solve | (repeat (first | exact List.Mem.head _ | apply List.Mem.tail)))) | (refine Lend.inH ?_ ?_; (solve | (repeat (first | exact List.Mem.head _ | apply List.Mem.tail)))))) ?_
  refine RL.assign rfl rfl rfl rfl ?_
  refine RL.nil ?_
  refine NQ.seq ?_
  refine CW.seq ?_
  refine CW.seq ?_
  refine CW.region (ef := []) (bk := []) ?_
  refine RL.assign rfl rfl rfl rfl ?_
  refine RL.nil ?_
  refine NQ.seq ?_
  refine CW.block ?_
  -- STOP: loop; todo top: ["code", ["loop", ["seq", ["seq", ["region", 8, [{"d": 41, "op": ["move", ["t", 11]], "ty": 3, "pos": "law.go:116", "after": [], "guard": null}, {"d": 42, "op": ["move", ["t", 1]], "ty": 49, "pos": "l
  rw [slice_all, Nat.sub_zero, Nat.sub_zero]
  -- STOP: loop; todo top: ["code", ["loop", ["seq", ["seq", ["region", 8, [{"d": 41, "op": ["move", ["t", 11]], "ty": 3, "pos": "law.go:116", "after": [], "guard": null}, {"d": 42, "op": ["move", ["t", 1]], "ty": 49, "pos": "l
  generalize hn : min L.length 40 = n at *
  generalize hj : amongN at_ (n + 1) = j at *
  refine CW.ownNone (e := 57) 4 ?_
  refine CW.loop (γ := Nat × List Ent × Option Nat × Nat × Rep × Nat) (fun g => g.1 ≤ n + 1 ∧ RecInv m (came L (min g.1 n)) g.2.1 ∧ g.2.2.2.2.1.fr.length = 32 ∧ g.2.2.2.2.1.to.length = 32 ∧ (j < g.1 → g.2.2.2.2.1 = repV m (came L j) 1000 ∧ g.2.2.2.2.2 = (came L j).length))
    (fun g => [(1, .slice p n c), (2, .int .i64 (j : Int)), (7, .pointer (some ⟨r, 0, none⟩)), (9, .pointer (some ⟨b1, 0, none⟩)), (10, .int .i64 (g.2.2.2.2.2 : Int)), (11, .int .i64 (g.1 : Int))]) (fun _ => [sls p 4 L.length (entsV L)])
    (fun g => cel b1 (g.2.2.2.2.1.cells (slO g.2.2.1 g.2.2.2.2.1.L.length g.2.2.2.1)) 70 :: own g.2.2.1 g.2.2.2.1 57 4 g.2.2.2.2.1.L.length (entsV g.2.2.2.2.1.L) :: RecH r lb m (came L (min g.1 n)) g.2.1) (fun g => n + 1 - g.1) (0, rg, none, 0, rep0, 0)
    ⟨by omega, by rw [Nat.zero_min]; exact hi, rfl, rfl, fun h => absurd h (by omega)⟩ (.cons rfl (.cons rfl (.cons rfl (.cons rfl (.cons rfl (.cons rfl .nil)))))) (fun w h => by simp only [Nat.zero_min]; exact h.rea (fun _ h => by simpa using h) (by repeat (first | exact Rea.nil | (apply Rea.cons; (solve | (repeat (first | exact Del.here | apply Del.there))))))) ?_
  rintro ⟨i, rg, of, cf, F, K⟩ ⟨hi1, hinv, hF1, hF2, hFK⟩
  dsimp only at hi1 hinv hF1 hF2 hFK ⊢
  have hce := came_le L (min i n)
  have hcj := came_le L j
  refine CW.fact (p := p = none → L.length = 0) (fun w hC e => sls_nil (hC.s.i (sls p 4 L.length (entsV L)) (by repeat (first | exact List.Mem.head _ | apply List.Mem.tail))) e) (fun hpa => ?_)
  refine CW.seq ?_
  refine CW.seq ?_
  refine CW.region (ef := []) (bk := []) ?_
  refine RL.move rfl rfl rfl rfl ?_
  refine RL.move rfl rfl rfl rfl ?_
  refine RL.lenS Try.runUnderlying49 rfl rfl rfl rfl ?_
  refine RL.bin rfl rfl rfl rfl rfl rfl ?_
  refine RL.nil ?_
  refine NQ.seq ?_
  -- STOP: if; todo top: ["code", ["cond", ["t", 44], ["skip"], ["exit", 0]]]
  refine CW.cond rfl (fun hlt => ?_) (fun hlt => ?_)
  ·
    have hlt : i ≤ n := by simp at hlt; omega
    have e1 := repV_fr m (came L (min i n)) 1000
    have e2 := repV_to m (came L (min i n)) 1000
    have e3 := repV_len m (came L (min i n)) 1000
    have e4 : holdsE (repV m (came L (min i n)) 1000) = 0 := repV_holds (by decide) (came_ok L _)
    have e5 : (repV m (came L (min i n)) 1000).to = headOf (came L (min i n)) := rfl
    have e6 : i = j → repV m (came L j) 1000 = repV m (came L (min i n)) 1000 := by rintro rfl; rw [Nat.min_eq_left hlt]
    have hrep := report_any r lb m (came L (min i n)) rg 1000 hm1 (by omega) (by omega) hinv
    generalize repV m (came L (min i n)) 1000 = P at e1 e2 e3 e4 e5 e6 hrep
    refine CW.skip ?_
    refine NQ.seq ?_
    refine CW.seq ?_
    refine CW.block ?_
    refine CW.seq ?_
    refine CW.seq ?_
    refine CW.region (ef := []) (bk := []) ?_
    refine RL.move rfl rfl rfl rfl ?_
    refine RL.move rfl rfl rfl rfl ?_
    refine RL.bin rfl rfl rfl rfl rfl rfl ?_
    refine RL.nil ?_
    refine NQ.seq ?_
    refine CW.only (.cons (k := 1) rfl (.cons (k := 2) rfl (.cons (k := 7) rfl (.cons (k := 9) rfl (.cons (k := 10) rfl (.cons (k := 11) rfl (.cons (k := 49) rfl .nil))))))) ?_
    -- STOP: if; todo top: ["code", ["cond", ["t", 49], ["seq", ["region", 11, [{"d": 51, "op": ["move", ["t", 7]], "ty": 50, "pos": "law.go:118", "after": [], "guard": null}, {"d": 52, "op": ["call", ["f", 32], [["t", 51], ["c
    refine CW.cond rfl (fun he => ?_) (fun he => ?_)
    ·
      refine CW.seq ?_
      refine CW.region (ef := [1, 5, 6]) (bk := [6]) ?_
      refine RL.move rfl rfl rfl rfl ?_
      refine RL.call (hrep) Try.call32 rfl rfl rfl rfl rfl (by repeat (first | exact Pick.nil | apply Pick.take | apply Pick.leave)) (by repeat (first | exact Lend.nil | (refine Lend.inI ?_ ?_; (solve | (repeat (first | exact List.Mem.head _ | apply List.Mem.tail)))) | (refine Lend.inH ?_ ?_; (solve | (repeat (first | exact List.Mem.head _ | apply List.Mem.tail)))))) (.inl rfl) ?_
      -- STOP: called; op 2: d=50 ["move", ["t", 52]] guard=None (law.go:118)
      have he : i = j := by simp at he; omega
      rintro _ _ _ ⟨oa, ca, rfl, rfl, rfl⟩
      refine RL.move rfl rfl rfl rfl ?_
      refine RL.extract rfl rfl rfl rfl rfl ?_
      refine RL.extract rfl rfl rfl rfl rfl ?_
      refine RL.alloc Try.zeroValue70 rfl rfl rfl rfl rfl ?_
      intro b2
      -- STOP: op; op 6: d=None ["store", 70, ["t", 12], ["t", 53]] guard=None (law.go:118)
      refine RL.storeW Try.sizeOf70 rfl rfl rfl rfl rfl rfl rfl (ones_rep _ rfl) (by repeat (first | exact Upd.here | apply Upd.there)) (rep_len e1 e2) rfl ?_
      refine RL.assign rfl rfl rfl rfl ?_
      refine RL.nil ?_
      refine NQ.seq ?_
      refine CW.only (.cons (k := 1) rfl (.cons (k := 2) rfl (.cons (k := 7) rfl (.cons (k := 9) rfl (.cons (k := 11) rfl (.cons (k := 12) rfl (.cons (k := 13) rfl .nil))))))) ?_
      refine CW.seq ?_
      refine CW.region (ef := [1, 5, 6]) (bk := [6]) ?_
      refine RL.move rfl rfl rfl rfl ?_
      refine RL.call (hrep) Try.call32 rfl rfl rfl rfl rfl (by repeat (first | exact Pick.nil | apply Pick.take | apply Pick.leave)) (by repeat (first | exact Lend.nil | (refine Lend.inI ?_ ?_; (solve | (repeat (first | exact List.Mem.head _ | apply List.Mem.tail)))) | (refine Lend.inH ?_ ?_; (solve | (repeat (first | exact List.Mem.head _ | apply List.Mem.tail)))))) (.inl rfl) ?_
      -- STOP: called; op 2: d=55 ["move", ["t", 57]] guard=None (law.go:119)
      rintro _ _ _ ⟨ob, cb, rfl, rfl, rfl⟩
      refine RL.move rfl rfl rfl rfl ?_
      refine RL.extract rfl rfl rfl rfl rfl ?_
      refine RL.extract rfl rfl rfl rfl rfl ?_
      refine RL.alloc Try.zeroValue70 rfl rfl rfl rfl rfl ?_
      intro b3
      -- STOP: op; op 6: d=None ["store", 70, ["t", 14], ["t", 58]] guard=None (law.go:119)
      refine RL.storeW Try.sizeOf70 rfl rfl rfl rfl rfl rfl rfl (ones_rep _ rfl) (by repeat (first | exact Upd.here | apply Upd.there)) (rep_len e1 e2) rfl ?_
      refine RL.assign rfl rfl rfl rfl ?_
      refine RL.nil ?_
      refine NQ.seq ?_
      refine CW.seq ?_
      refine CW.seq ?_
      -- STOP: region; todo top: ["code", ["region", 13, [{"d": 60, "op": ["move", ["t", 13]], "ty": 35, "pos": "law.go:120", "after": [], "guard": null}, {"d": 61, "op": ["binOp", "Go.BinOp.neq", 35, ["t", 60], ["c", ["int", "Go.Int
      refine CW.freezeP (A := [_, _]) (B := [_, _, _, _, _, _]) (.take (.leave (.take (.leave (.leave (.leave (.leave (.leave .nil)))))))) rfl ?_
      simp only [List.cons_append, List.nil_append]
      generalize hJ : ([cel b3 (P.cells (slO ob P.L.length cb)) 70, cel b2 (P.cells (slO oa P.L.length ca)) 70, sls p 4 L.length (entsV L)] : List It) = J
      have m1 : cel b2 (P.cells (slO oa P.L.length ca)) 70 ∈ J := by rw [← hJ]; exact (by repeat (first | exact List.Mem.head _ | apply List.Mem.tail))
      have m2 : cel b3 (P.cells (slO ob P.L.length cb)) 70 ∈ J := by rw [← hJ]; exact (by repeat (first | exact List.Mem.head _ | apply List.Mem.tail))
      have m3 : sls p 4 L.length (entsV L) ∈ J := by rw [← hJ]; exact (by repeat (first | exact List.Mem.head _ | apply List.Mem.tail))
      have w1 : RdsN J ⟨b2, 0, none⟩ 66 (P.cells (slO oa P.L.length ca)) := RdsN.told m1 (fun j u h => by rw [Nat.zero_add]; exact h) (rep_len e1 e2)
      have f3 : RdsN J ⟨b2, 0 + 32, none⟩ 32 (bytes P.to) := RdsN.told m1 (rep_to e1) (lenD e2)
      have f4 : RdsN J ⟨b3, 0 + 32, none⟩ 32 (bytes P.to) := RdsN.told m2 (rep_to e1) (lenD e2)
      have f7 : RdI J ⟨b2, 0 + 65, none⟩ (slO oa P.L.length ca) := RdI.told m1 (rep_sl e1 e2)
      have f8 : RdI J ⟨b3, 0 + 65, none⟩ (slO ob P.L.length cb) := RdI.told m2 (rep_sl e1 e2)
      have hhl := headOf_length (came L (min i n))
      have hpl := rep_len (sl := slO oa P.L.length ca) e1 e2
      refine CW.regionD (Sq.of [0, 1, 2, 3, 4, 5, 6, 7, 8, 9, 10, 11, 12, 13, 14, 15, 16, 17, 18, 19, 20, 21, 22, 23, 24, 25, 26, 27, 28, 29, 30, 31, 32, 33]) [] [] [0, 1, 2, 3, 4, 5, 6, 7, 9, 10, 11, 12, 13, 14, 15, 16, 17, 18, 19, 20, 21, 22, 23, 24, 25, 26, 27, 28, 29, 30, 32, 33] mixed (by kernel_rfl) ?_
      refine RL.move rfl rfl rfl rfl ?_
      refine RL.bin rfl rfl rfl rfl rfl rfl ?_
      refine RL.move rfl rfl rfl rfl ?_
      apply RL.orB (d := 62) (dp := 65) (l' := (Sq.of [6, 7, 8, 9, 10, 11, 12, 13, 14, 15, 16, 17, 18, 19, 20, 21, 22, 23, 24, 25, 26, 27, 28, 29, 30, 31, 32, 33])) rfl (.cons (k := 1) rfl (.cons (k := 2) rfl (.cons (k := 7) rfl (.cons (k := 9) rfl (.cons (k := 11) rfl (.cons (k := 12) rfl (.cons (k := 14) rfl .nil)))))))
      ·
        intro hb3 K3
        refine RL.move rfl rfl rfl rfl ?_
        refine RL.bin rfl rfl rfl rfl rfl rfl ?_
        refine RL.pickF rfl rfl rfl rfl rfl ?_
        exact K3 _ (.cons rfl (.cons (k := 1) rfl (.cons (k := 2) rfl (.cons (k := 7) rfl (.cons (k := 9) rfl (.cons (k := 11) rfl (.cons (k := 12) rfl (.cons (k := 14) rfl .nil))))))))
      ·
        intro hb3 K3
        refine RL.skip rfl rfl rfl rfl ?_
        refine RL.skip rfl rfl rfl rfl ?_
        refine RL.pickT rfl rfl rfl rfl rfl ?_
        exact K3 _ (.cons rfl (.cons (k := 1) rfl (.cons (k := 2) rfl (.cons (k := 7) rfl (.cons (k := 9) rfl (.cons (k := 11) rfl (.cons (k := 12) rfl (.cons (k := 14) rfl .nil))))))))
      refine RL.move rfl rfl rfl rfl ?_
      apply RL.orB (d := 66) (dp := 70) (l' := (Sq.of [11, 12, 13, 14, 15, 16, 17, 18, 19, 20, 21, 22, 23, 24, 25, 26, 27, 28, 29, 30, 31, 32, 33])) rfl (.cons (k := 1) rfl (.cons (k := 2) rfl (.cons (k := 7) rfl (.cons (k := 9) rfl (.cons (k := 11) rfl (.cons (k := 12) rfl (.cons (k := 14) rfl .nil)))))))
      ·
        intro hb7 K7
        first | refine RL.loadMT Try.isAgg70 Try.sizeOf70 rfl rfl rfl rfl (by assumption) ?_ | refine RL.loadAT Try.isAgg70 Try.sizeOf70 rfl rfl rfl rfl (by first | assumption | (apply RdsI.rds; assumption)) (by first | rfl | assumption | (simp only [List.length_map]; assumption) | (simp only [List.length_map, List.length_replicate]; done) | (simp; done)) ?_
        refine RL.callv (tholds_any P oa ca P.L.length e1 e2 rfl (by omega)) Try.call37 rfl rfl rfl rfl (Lend.own (by repeat (first | exact List.Mem.head _ | apply List.Mem.tail)) .nil) ?_
        refine RL.bin rfl rfl rfl rfl rfl rfl ?_
        refine RL.pickF rfl rfl rfl rfl rfl ?_
        exact K7 _ (.cons rfl (.cons (k := 1) rfl (.cons (k := 2) rfl (.cons (k := 7) rfl (.cons (k := 9) rfl (.cons (k := 11) rfl (.cons (k := 12) rfl (.cons (k := 14) rfl .nil))))))))
      ·
        intro hb7 K7
        refine RL.skip rfl rfl rfl rfl ?_
        refine RL.skip rfl rfl rfl rfl ?_
        refine RL.skip rfl rfl rfl rfl ?_
        refine RL.pickT rfl rfl rfl rfl rfl ?_
        exact K7 _ (.cons rfl (.cons (k := 1) rfl (.cons (k := 2) rfl (.cons (k := 7) rfl (.cons (k := 9) rfl (.cons (k := 11) rfl (.cons (k := 12) rfl (.cons (k := 14) rfl .nil))))))))
      refine RL.move rfl rfl rfl rfl ?_
      apply RL.orB (d := 71) (dp := 77) (l' := (Sq.of [18, 19, 20, 21, 22, 23, 24, 25, 26, 27, 28, 29, 30, 31, 32, 33])) rfl (.cons (k := 1) rfl (.cons (k := 2) rfl (.cons (k := 7) rfl (.cons (k := 9) rfl (.cons (k := 11) rfl (.cons (k := 12) rfl (.cons (k := 14) rfl .nil)))))))
      ·
        intro hb12 K12
        refine RL.fieldAddr fa_70_1 rfl rfl rfl rfl ?_
        first | refine RL.loadMT Try.isAgg61 Try.sizeOf61 rfl rfl rfl rfl (by assumption) ?_ | refine RL.loadAT Try.isAgg61 Try.sizeOf61 rfl rfl rfl rfl (by first | assumption | (apply RdsI.rds; assumption)) (by first | rfl | assumption | (simp only [List.length_map]; assumption) | (simp only [List.length_map, List.length_replicate]; done) | (simp; done)) ?_
        refine RL.fieldAddr fa_70_1 rfl rfl rfl rfl ?_
        first | refine RL.loadMT Try.isAgg61 Try.sizeOf61 rfl rfl rfl rfl (by assumption) ?_ | refine RL.loadAT Try.isAgg61 Try.sizeOf61 rfl rfl rfl rfl (by first | assumption | (apply RdsI.rds; assumption)) (by first | rfl | assumption | (simp only [List.length_map]; assumption) | (simp only [List.length_map, List.length_replicate]; done) | (simp; done)) ?_
        refine RL.cmp rfl rfl rfl rfl rfl (dig_ne _ _ (by first | rfl | assumption | (simp only [List.length_map]; assumption) | (simp only [List.length_map, List.length_replicate]; done) | (simp; done)) (by first | rfl | assumption | (simp only [List.length_map]; assumption) | (simp only [List.length_map, List.length_replicate]; done) | (simp; done)) _ _) ?_
        refine RL.pickF rfl rfl rfl rfl rfl ?_
        exact K12 _ (.cons rfl (.cons (k := 1) rfl (.cons (k := 2) rfl (.cons (k := 7) rfl (.cons (k := 9) rfl (.cons (k := 11) rfl (.cons (k := 12) rfl (.cons (k := 14) rfl .nil))))))))
      ·
        intro hb12 K12
        refine RL.skip rfl rfl rfl rfl ?_
        refine RL.skip rfl rfl rfl rfl ?_
        refine RL.skip rfl rfl rfl rfl ?_
        refine RL.skip rfl rfl rfl rfl ?_
        refine RL.skip rfl rfl rfl rfl ?_
        refine RL.pickT rfl rfl rfl rfl rfl ?_
        exact K12 _ (.cons rfl (.cons (k := 1) rfl (.cons (k := 2) rfl (.cons (k := 7) rfl (.cons (k := 9) rfl (.cons (k := 11) rfl (.cons (k := 12) rfl (.cons (k := 14) rfl .nil))))))))
      refine RL.move rfl rfl rfl rfl ?_
      apply RL.orB (d := 78) (dp := 86) (l' := (Sq.of [27, 28, 29, 30, 31, 32, 33])) rfl (.cons (k := 1) rfl (.cons (k := 2) rfl (.cons (k := 7) rfl (.cons (k := 9) rfl (.cons (k := 11) rfl (.cons (k := 12) rfl .nil))))))
      ·
        intro hb19 K19
        refine RL.fieldAddr fa_70_3 rfl rfl rfl rfl ?_
        refine RL.loadT Try.isAgg49 rfl rfl rfl rfl (by first | assumption | (apply RdI.rd; assumption) | (apply Rd.get; (solve | (repeat (first | exact List.Mem.head _ | apply List.Mem.tail))); assumption) | (apply Rd.getS; (solve | (repeat (first | exact List.Mem.head _ | apply List.Mem.tail))); assumption) | (apply Rd.getO; (solve | (repeat (first | exact List.Mem.head _ | apply List.Mem.tail))); assumption) | (apply Rd.getI; (solve | (repeat (first | exact List.Mem.head _ | apply List.Mem.tail))); assumption) | (apply Rd.cel; (solve | (repeat (first | exact List.Mem.head _ | apply List.Mem.tail))); exact rfl) | (apply Rd.celI; (solve | (repeat (first | exact List.Mem.head _ | apply List.Mem.tail))); exact rfl)) ?_
        refine RL.lenS Try.runUnderlying49 rfl rfl rfl rfl ?_
        refine RL.fieldAddr fa_70_3 rfl rfl rfl rfl ?_
        refine RL.loadT Try.isAgg49 rfl rfl rfl rfl (by first | assumption | (apply RdI.rd; assumption) | (apply Rd.get; (solve | (repeat (first | exact List.Mem.head _ | apply List.Mem.tail))); assumption) | (apply Rd.getS; (solve | (repeat (first | exact List.Mem.head _ | apply List.Mem.tail))); assumption) | (apply Rd.getO; (solve | (repeat (first | exact List.Mem.head _ | apply List.Mem.tail))); assumption) | (apply Rd.getI; (solve | (repeat (first | exact List.Mem.head _ | apply List.Mem.tail))); assumption) | (apply Rd.cel; (solve | (repeat (first | exact List.Mem.head _ | apply List.Mem.tail))); exact rfl) | (apply Rd.celI; (solve | (repeat (first | exact List.Mem.head _ | apply List.Mem.tail))); exact rfl)) ?_
        refine RL.lenS Try.runUnderlying49 rfl rfl rfl rfl ?_
        refine RL.bin rfl rfl rfl rfl rfl rfl ?_
        refine RL.pickF rfl rfl rfl rfl rfl ?_
        exact K19 _ (.cons rfl (.cons (k := 1) rfl (.cons (k := 2) rfl (.cons (k := 7) rfl (.cons (k := 9) rfl (.cons (k := 11) rfl (.cons (k := 12) rfl .nil)))))))
      ·
        intro hb19 K19
        refine RL.skip rfl rfl rfl rfl ?_
        refine RL.skip rfl rfl rfl rfl ?_
        refine RL.skip rfl rfl rfl rfl ?_
        refine RL.skip rfl rfl rfl rfl ?_
        refine RL.skip rfl rfl rfl rfl ?_
        refine RL.skip rfl rfl rfl rfl ?_
        refine RL.skip rfl rfl rfl rfl ?_
        refine RL.pickT rfl rfl rfl rfl rfl ?_
        exact K19 _ (.cons rfl (.cons (k := 1) rfl (.cons (k := 2) rfl (.cons (k := 7) rfl (.cons (k := 9) rfl (.cons (k := 11) rfl (.cons (k := 12) rfl .nil)))))))
      refine RL.move rfl rfl rfl rfl ?_
      apply RL.orB (d := 87) (dp := 93) (l' := (Sq.of [])) rfl (.cons (k := 1) rfl (.cons (k := 2) rfl (.cons (k := 7) rfl (.cons (k := 9) rfl (.cons (k := 11) rfl (.cons (k := 12) rfl .nil))))))
      ·
        intro hb28 K28
        refine RL.fieldAddr fa_70_1 rfl rfl rfl rfl ?_
        first | refine RL.loadMT Try.isAgg61 Try.sizeOf61 rfl rfl rfl rfl (by assumption) ?_ | refine RL.loadAT Try.isAgg61 Try.sizeOf61 rfl rfl rfl rfl (by first | assumption | (apply RdsI.rds; assumption)) (by first | rfl | assumption | (simp only [List.length_map]; assumption) | (simp only [List.length_map, List.length_replicate]; done) | (simp; done)) ?_
        refine RL.move rfl rfl rfl rfl ?_
        refine RL.callv (head_any r lb m _ _ _ _ _ hm1 (headOf_length _) (headOf_length _)) Try.call30 rfl rfl rfl rfl (by repeat (first | exact Lend.nil | (refine Lend.inI ?_ ?_; (solve | (repeat (first | exact List.Mem.head _ | apply List.Mem.tail)))) | (refine Lend.inH ?_ ?_; (solve | (repeat (first | exact List.Mem.head _ | apply List.Mem.tail)))))) ?_
        refine RL.cmp rfl rfl rfl rfl rfl (dig_ne _ _ (by first | rfl | assumption | (simp only [List.length_map]; assumption) | (simp only [List.length_map, List.length_replicate]; done) | (simp; done)) (by first | rfl | assumption | (simp only [List.length_map]; assumption) | (simp only [List.length_map, List.length_replicate]; done) | (simp; done)) _ _) ?_
        refine RL.pickF rfl rfl rfl rfl rfl ?_
        exact K28 _ (.cons rfl (.cons (k := 1) rfl (.cons (k := 2) rfl (.cons (k := 7) rfl (.cons (k := 9) rfl (.cons (k := 11) rfl (.cons (k := 12) rfl .nil)))))))
      ·
        intro hb28 K28
        refine RL.skip rfl rfl rfl rfl ?_
        refine RL.skip rfl rfl rfl rfl ?_
        refine RL.skip rfl rfl rfl rfl ?_
        refine RL.skip rfl rfl rfl rfl ?_
        refine RL.skip rfl rfl rfl rfl ?_
        refine RL.pickT rfl rfl rfl rfl rfl ?_
        exact K28 _ (.cons rfl (.cons (k := 1) rfl (.cons (k := 2) rfl (.cons (k := 7) rfl (.cons (k := 9) rfl (.cons (k := 11) rfl (.cons (k := 12) rfl .nil)))))))
      refine RL.nil ?_
      refine NQ.seq ?_
      -- STOP: if; todo top: ["code", ["cond", ["t", 93], ["seq", ["region", 14, [{"d": 6, "op": ["assign", ["c", ["bool", false]]], "ty": 4, "pos": "law.go:121", "after": [], "guard": null}], false], ["ret"]], ["skip"]]]
      refine CW.condF rfl ((by simp [e4, e5])) ?_
      refine CW.skip ?_
      refine NQ.seq ?_
      refine CW.regionD (Sq.of [0, 1, 2, 3, 4]) [3] [3] [0, 1, 4] mixed (by kernel_rfl) ?_
      first | refine RL.loadMT Try.isAgg70 Try.sizeOf70 rfl rfl rfl rfl (by assumption) ?_ | refine RL.loadAT Try.isAgg70 Try.sizeOf70 rfl rfl rfl rfl (by first | assumption | (apply RdsI.rds; assumption)) (by first | rfl | assumption | (simp only [List.length_map]; assumption) | (simp only [List.length_map, List.length_replicate]; done) | (simp; done)) ?_
      refine RL.move rfl rfl rfl rfl ?_
      refine RL.callv (count_any r lb m _ _ _ _ _ hm1 (headOf_length _) (headOf_length _)) Try.call31 rfl rfl rfl rfl (by repeat (first | exact Lend.nil | (refine Lend.inI ?_ ?_; (solve | (repeat (first | exact List.Mem.head _ | apply List.Mem.tail)))) | (refine Lend.inH ?_ ?_; (solve | (repeat (first | exact List.Mem.head _ | apply List.Mem.tail)))))) ?_
      -- STOP: op; op 3: d=None ["store", 70, ["t", 9], ["t", 94]] guard=None (law.go:123)
      refine RL.storeW Try.sizeOf70 rfl rfl rfl rfl rfl rfl rfl (ones_rep _ rfl) (by repeat (first | exact Upd.here | apply Upd.there)) (rep_len e1 e2) (rep_len hF1 hF2) ?_
      refine RL.assign rfl rfl rfl rfl ?_
      refine RL.nil ?_
      refine NQ.seq ?_
      refine CW.seq ?_
      refine CW.region (ef := []) (bk := []) ?_
      refine RL.move rfl rfl rfl rfl ?_
      refine RL.move rfl rfl rfl rfl ?_
      refine RL.lenS Try.runUnderlying49 rfl rfl rfl rfl ?_
      refine RL.bin rfl rfl rfl rfl rfl rfl ?_
      refine RL.nil ?_
      refine NQ.seq ?_
      refine CW.only (.cons (k := 1) rfl (.cons (k := 2) rfl (.cons (k := 7) rfl (.cons (k := 9) rfl (.cons (k := 10) rfl (.cons (k := 11) rfl (.cons (k := 100) rfl .nil))))))) ?_
      -- STOP: if; todo top: ["code", ["cond", ["t", 100], ["region", 17, [{"d": 101, "op": ["move", ["t", 7]], "ty": 50, "pos": "law.go:126", "after": [], "guard": null}, {"d": 102, "op": ["move", ["t", 1]], "ty": 49, "pos": "la
      refine CW.cond rfl (fun hi2 => ?_) (fun hi2 => ?_)
      ·
        have hi2 : i < n := by simp at hi2; omega
        cases p with
        | none => exact absurd (hpa rfl) (by omega)
        | some a =>
        have hx := List.getElem?_eq_getElem (show i < L.length by omega)
        generalize L[i] = x at hx
        have w9 : RdsN J (a.add (i * 4)) 4 x.cells := ent_rdsN m3 hx
        rw [Nat.min_eq_left (by omega)] at hinv e5 hce ⊢
        refine CW.region (ef := [5]) (bk := [5]) ?_
        refine RL.move rfl rfl rfl rfl ?_
        refine RL.move rfl rfl rfl rfl ?_
        refine RL.move rfl rfl rfl rfl ?_
        first | refine RL.idxAt (j := i) Try.runUnderlying49 Try.sizeOf57 rfl rfl rfl rfl rfl rfl (hi2) ?_ | refine RL.idx (j := i) Try.runUnderlying49 Try.sizeOf57 rfl rfl rfl rfl rfl rfl (hi2) ?_
        first | refine RL.loadM Try.isAgg57 Try.sizeOf57 rfl rfl rfl rfl (by assumption) ?_ | refine RL.loadA Try.isAgg57 Try.sizeOf57 rfl rfl rfl rfl (by first | assumption | (apply RdsI.rds; assumption)) (by first | rfl | assumption | (simp only [List.length_map]; assumption) | (simp only [List.length_map, List.length_replicate]; done) | (simp; done)) ?_
        refine RL.call (add_any r lb m (came L i) rg x hm1 (by omega) (by omega) hinv) Try.call28 rfl rfl rfl rfl rfl (by repeat (first | exact Pick.nil | apply Pick.take | apply Pick.leave)) (by repeat (first | exact Lend.nil | (refine Lend.inI ?_ ?_; (solve | (repeat (first | exact List.Mem.head _ | apply List.Mem.tail)))) | (refine Lend.inH ?_ ?_; (solve | (repeat (first | exact List.Mem.head _ | apply List.Mem.tail)))))) (.inr rfl) ?_
        -- STOP: called; todo top: ["code", ["region", 17, [{"d": 101, "op": ["move", ["t", 7]], "ty": 50, "pos": "law.go:126", "after": [], "guard": null}, {"d": 102, "op": ["move", ["t", 1]], "ty": 49, "pos": "law.go:126", "after": [
        rintro _ _ _ ⟨rfl, rfl, rg2, hinv2, rfl⟩
        rw [came_succ hx] at hinv2 ⊢
        refine RL.nil ?_
        refine NQ.block ?_
        refine NQ.seq ?_
        refine CW.only (.cons (k := 1) rfl (.cons (k := 2) rfl (.cons (k := 7) rfl (.cons (k := 9) rfl (.cons (k := 10) rfl (.cons (k := 11) rfl .nil)))))) ?_
        refine CW.region (ef := []) (bk := []) ?_
        refine RL.move rfl rfl rfl rfl ?_
        refine RL.binX rfl rfl rfl rfl rfl rfl (wrapV_i64 (by omega) (by omega)) ?_
        refine RL.assign rfl rfl rfl rfl ?_
        refine RL.nil ?_
        -- STOP: round; todo top: ["N"]
        refine NQ.round (g := (i, rg, of, cf, F, K)) (i + 1, rg2, oa, ca, P, (came L i).length) ⟨by show i + 1 ≤ n + 1; omega, by show RecInv m (came L (min (i + 1) n)) rg2; rw [Nat.min_eq_left (by omega)]; exact hinv2, e1, e2, fun _ => ⟨(e6 he).symm, by rw [he]⟩⟩ (by show n + 1 - (i + 1) < n + 1 - i; omega) (.cons rfl (.cons rfl (.cons rfl (.cons rfl (.cons rfl (.cons rfl .nil)))))) (fun w h => by simp only [Nat.min_eq_left (show i + 1 ≤ n by omega)]; exact h.rea (fun _ h => by rw [List.mem_singleton.1 h]; exact m3) (by repeat (first | exact Rea.nil | (apply Rea.cons; (solve | (repeat (first | exact Del.here | apply Del.there)))))))
      ·
        have hi2 : i = n := by simp at hi2; omega
        rw [Nat.min_eq_right (by omega)] at hinv hce e5 ⊢
        refine CW.skip ?_
        refine NQ.block ?_
        refine NQ.seq ?_
        refine CW.region (ef := []) (bk := []) ?_
        refine RL.move rfl rfl rfl rfl ?_
        refine RL.binX rfl rfl rfl rfl rfl rfl (wrapV_i64 (by omega) (by omega)) ?_
        refine RL.assign rfl rfl rfl rfl ?_
        refine RL.nil ?_
        -- STOP: round; todo top: ["N"]
        refine NQ.round (g := (i, rg, of, cf, F, K)) (i + 1, rg, oa, ca, P, (came L n).length) ⟨by show i + 1 ≤ n + 1; omega, by show RecInv m (came L (min (i + 1) n)) rg; rw [Nat.min_eq_right (by omega)]; exact hinv, e1, e2, fun _ => ⟨(e6 he).symm, by rw [← he, hi2]⟩⟩ (by show n + 1 - (i + 1) < n + 1 - i; omega) (.cons rfl (.cons rfl (.cons rfl (.cons rfl (.cons rfl (.cons rfl .nil)))))) (fun w h => by simp only [Nat.min_eq_right (show n ≤ i + 1 by omega)]; exact h.rea (fun _ h => by rw [List.mem_singleton.1 h]; exact m3) (by repeat (first | exact Rea.nil | (apply Rea.cons; (solve | (repeat (first | exact Del.here | apply Del.there)))))))
    ·
      refine CW.skip ?_
      refine NQ.seq ?_
      refine CW.seq ?_
      refine CW.region (ef := []) (bk := []) ?_
      refine RL.move rfl rfl rfl rfl ?_
      refine RL.move rfl rfl rfl rfl ?_
      refine RL.lenS Try.runUnderlying49 rfl rfl rfl rfl ?_
      refine RL.bin rfl rfl rfl rfl rfl rfl ?_
      refine RL.nil ?_
      refine NQ.seq ?_
      -- STOP: if; todo top: ["code", ["cond", ["t", 100], ["region", 17, [{"d": 101, "op": ["move", ["t", 7]], "ty": 50, "pos": "law.go:126", "after": [], "guard": null}, {"d": 102, "op": ["move", ["t", 1]], "ty": 49, "pos": "la
      refine CW.cond rfl (fun hi2 => ?_) (fun hi2 => ?_)
      ·
        have hi2 : i < n := by simp at hi2; omega
        cases p with
        | none => exact absurd (hpa rfl) (by omega)
        | some a =>
        have hx := List.getElem?_eq_getElem (show i < L.length by omega)
        generalize L[i] = x at hx
        have w9 : RdsN [sls (some a) 4 L.length (entsV L)] (a.add (i * 4)) 4 x.cells := ent_rdsN (List.Mem.head _) hx
        rw [Nat.min_eq_left (by omega)] at hinv hce ⊢
        refine CW.region (ef := [5]) (bk := [5]) ?_
        refine RL.move rfl rfl rfl rfl ?_
        refine RL.move rfl rfl rfl rfl ?_
        refine RL.move rfl rfl rfl rfl ?_
        first | refine RL.idxAt (j := i) Try.runUnderlying49 Try.sizeOf57 rfl rfl rfl rfl rfl rfl (hi2) ?_ | refine RL.idx (j := i) Try.runUnderlying49 Try.sizeOf57 rfl rfl rfl rfl rfl rfl (hi2) ?_
        first | refine RL.loadM Try.isAgg57 Try.sizeOf57 rfl rfl rfl rfl (by assumption) ?_ | refine RL.loadA Try.isAgg57 Try.sizeOf57 rfl rfl rfl rfl (by first | assumption | (apply RdsI.rds; assumption)) (by first | rfl | assumption | (simp only [List.length_map]; assumption) | (simp only [List.length_map, List.length_replicate]; done) | (simp; done)) ?_
        refine RL.call (add_any r lb m (came L i) rg x hm1 (by omega) (by omega) hinv) Try.call28 rfl rfl rfl rfl rfl (by repeat (first | exact Pick.nil | apply Pick.take | apply Pick.leave)) (by repeat (first | exact Lend.nil | (refine Lend.inI ?_ ?_; (solve | (repeat (first | exact List.Mem.head _ | apply List.Mem.tail)))) | (refine Lend.inH ?_ ?_; (solve | (repeat (first | exact List.Mem.head _ | apply List.Mem.tail)))))) (.inr rfl) ?_
        -- STOP: called; todo top: ["code", ["region", 17, [{"d": 101, "op": ["move", ["t", 7]], "ty": 50, "pos": "law.go:126", "after": [], "guard": null}, {"d": 102, "op": ["move", ["t", 1]], "ty": 49, "pos": "law.go:126", "after": [
        rintro _ _ _ ⟨rfl, rfl, rg2, hinv2, rfl⟩
        rw [came_succ hx] at hinv2 ⊢
        refine RL.nil ?_
        refine NQ.block ?_
        refine NQ.seq ?_
        refine CW.only (.cons (k := 1) rfl (.cons (k := 2) rfl (.cons (k := 7) rfl (.cons (k := 9) rfl (.cons (k := 10) rfl (.cons (k := 11) rfl .nil)))))) ?_
        refine CW.region (ef := []) (bk := []) ?_
        refine RL.move rfl rfl rfl rfl ?_
        refine RL.binX rfl rfl rfl rfl rfl rfl (wrapV_i64 (by omega) (by omega)) ?_
        refine RL.assign rfl rfl rfl rfl ?_
        refine RL.nil ?_
        -- STOP: round; todo top: ["N"]
        refine NQ.round (g := (i, rg, of, cf, F, K)) (i + 1, rg2, of, cf, F, K) ⟨by show i + 1 ≤ n + 1; omega, by show RecInv m (came L (min (i + 1) n)) rg2; rw [Nat.min_eq_left (by omega)]; exact hinv2, hF1, hF2, fun h => hFK (by simp at he; omega)⟩ (by show n + 1 - (i + 1) < n + 1 - i; omega) (.cons rfl (.cons rfl (.cons rfl (.cons rfl (.cons rfl (.cons rfl .nil)))))) (fun w h => by simp only [Nat.min_eq_left (show i + 1 ≤ n by omega)]; exact h.rea (fun _ h => by simpa using h) (by repeat (first | exact Rea.nil | (apply Rea.cons; (solve | (repeat (first | exact Del.here | apply Del.there)))))))
      ·
        have hi2 : i = n := by simp at hi2; omega
        rw [Nat.min_eq_right (by omega)] at hinv hce ⊢
        refine CW.skip ?_
        refine NQ.block ?_
        refine NQ.seq ?_
        refine CW.region (ef := []) (bk := []) ?_
        refine RL.move rfl rfl rfl rfl ?_
        refine RL.binX rfl rfl rfl rfl rfl rfl (wrapV_i64 (by omega) (by omega)) ?_
        refine RL.assign rfl rfl rfl rfl ?_
        refine RL.nil ?_
        -- STOP: round; todo top: ["N"]
        refine NQ.round (g := (i, rg, of, cf, F, K)) (i + 1, rg, of, cf, F, K) ⟨by show i + 1 ≤ n + 1; omega, by show RecInv m (came L (min (i + 1) n)) rg; rw [Nat.min_eq_right (by omega)]; exact hinv, hF1, hF2, fun h => hFK (by simp at he; omega)⟩ (by show n + 1 - (i + 1) < n + 1 - i; omega) (.cons rfl (.cons rfl (.cons rfl (.cons rfl (.cons rfl (.cons rfl .nil)))))) (fun w h => by simp only [Nat.min_eq_right (show n ≤ i + 1 by omega)]; exact h.rea (fun _ h => by simpa using h) (by repeat (first | exact Rea.nil | (apply Rea.cons; (solve | (repeat (first | exact Del.here | apply Del.there)))))))
  ·
    have hi : i = n + 1 := by simp at hlt; omega
    subst hi
    rw [Nat.min_eq_right (by omega)] at hinv hce ⊢
    obtain ⟨hF, hK⟩ := hFK (by omega)
    obtain ⟨D, hD, hD2⟩ := came_later (L := L) (j := j) (n := n) (by omega)
    have hD3 : (came L n).length = (came L j).length + D.length := by rw [hD, List.length_append]
    obtain ⟨z1, z2⟩ := joined_later (m := m) (came_ok L j) hD2 (by omega)
    rw [← hD] at z1
    rw [← hD, ← hF] at z2
    have e0 := repV_len m (came L j) 1000
    rw [← hF] at e0
    have e1 := repV_fr m (came L n) (D.length : Int)
    have e2 := repV_to m (came L n) (D.length : Int)
    have e4 : holdsE (repV m (came L n) (D.length : Int)) = 0 := repV_holds (by omega) (came_ok L _)
    have e5 : (repV m (came L n) (D.length : Int)).to = headOf (came L n) := by rw [repV, if_neg (by omega)]; rfl
    have hrep := report_any r lb m (came L n) rg (D.length : Int) hm1 (by omega) (by omega) hinv
    rw [if_neg (by omega)] at hrep
    generalize repV m (came L n) (D.length : Int) = P at e1 e2 e4 e5 z1 z2 hrep
    have hhl := headOf_length (came L n)
    subst hK
    refine CW.exit ?_
    refine XQ.seq ?_
    refine XQ.seq ?_
    refine XQ.hit ?_
    refine NQ.seq ?_
    refine CW.only (.cons (k := 7) rfl (.cons (k := 9) rfl (.cons (k := 10) rfl .nil))) ?_
    refine CW.seq ?_
    refine CW.region (ef := []) (bk := []) ?_
    refine RL.move rfl rfl rfl rfl ?_
    refine RL.callv (count_any r lb m _ _ _ _ _ hm1 (headOf_length _) (headOf_length _)) Try.call31 rfl rfl rfl rfl (by repeat (first | exact Lend.nil | (refine Lend.inI ?_ ?_; (solve | (repeat (first | exact List.Mem.head _ | apply List.Mem.tail)))) | (refine Lend.inH ?_ ?_; (solve | (repeat (first | exact List.Mem.head _ | apply List.Mem.tail)))))) ?_
    refine RL.move rfl rfl rfl rfl ?_
    refine RL.binX rfl rfl rfl rfl rfl rfl (wrapV_i64 (by omega) (by omega)) ?_
    refine RL.assign rfl rfl rfl rfl ?_
    refine RL.nil ?_
    refine NQ.seq ?_
    refine CW.seq ?_
    -- STOP: region; todo top: ["code", ["region", 19, [{"d": 112, "op": ["move", ["t", 7]], "ty": 50, "pos": "law.go:131", "after": [], "guard": null}, {"d": 113, "op": ["move", ["t", 16]], "ty": 3, "pos": "law.go:131", "after": [
    rw [show ((came L n).length : Int) - ((came L j).length : Int) = (D.length : Int) by omega]
    refine CW.region (ef := [2, 6, 7]) (bk := [7]) ?_
    refine RL.move rfl rfl rfl rfl ?_
    refine RL.move rfl rfl rfl rfl ?_
    refine RL.call (hrep) Try.call32 rfl rfl rfl rfl rfl (by repeat (first | exact Pick.nil | apply Pick.take | apply Pick.leave)) (by repeat (first | exact Lend.nil | (refine Lend.inI ?_ ?_; (solve | (repeat (first | exact List.Mem.head _ | apply List.Mem.tail)))) | (refine Lend.inH ?_ ?_; (solve | (repeat (first | exact List.Mem.head _ | apply List.Mem.tail)))))) (.inl rfl) ?_
    -- STOP: called; op 3: d=111 ["move", ["t", 114]] guard=None (law.go:131)
    rintro _ _ _ ⟨ob, cb, rfl, rfl, rfl⟩
    refine RL.move rfl rfl rfl rfl ?_
    refine RL.extract rfl rfl rfl rfl rfl ?_
    refine RL.extract rfl rfl rfl rfl rfl ?_
    refine RL.alloc Try.zeroValue70 rfl rfl rfl rfl rfl ?_
    intro b2
    -- STOP: op; op 7: d=None ["store", 70, ["t", 17], ["t", 115]] guard=None (law.go:131)
    refine RL.storeW Try.sizeOf70 rfl rfl rfl rfl rfl rfl rfl (ones_rep _ rfl) (by repeat (first | exact Upd.here | apply Upd.there)) (rep_len e1 e2) rfl ?_
    refine RL.assign rfl rfl rfl rfl ?_
    refine RL.nil ?_
    refine NQ.seq ?_
    refine CW.only (.cons (k := 7) rfl (.cons (k := 9) rfl (.cons (k := 16) rfl (.cons (k := 17) rfl (.cons (k := 18) rfl .nil))))) ?_
    refine CW.seq ?_
    refine CW.seq ?_
    -- STOP: region; todo top: ["code", ["region", 20, [{"d": 117, "op": ["move", ["t", 18]], "ty": 35, "pos": "law.go:132", "after": [], "guard": null}, {"d": 118, "op": ["binOp", "Go.BinOp.neq", 35, ["t", 117], ["c", ["int", "Go.
    refine CW.freezeAll rfl ?_
    simp only [List.cons_append, List.nil_append]
    refine CW.genI (fun J hJ => ?_)
    have m1 : cel b1 (F.cells (slO of F.L.length cf)) 70 ∈ J := hJ _ (by repeat (first | exact List.Mem.head _ | apply List.Mem.tail))
    have m2 : cel b2 (P.cells (slO ob P.L.length cb)) 70 ∈ J := hJ _ (by repeat (first | exact List.Mem.head _ | apply List.Mem.tail))
    have m3 : own of cf 57 4 F.L.length (entsV F.L) ∈ J := hJ _ (by repeat (first | exact List.Mem.head _ | apply List.Mem.tail))
    have m4 : own ob cb 57 4 P.L.length (entsV P.L) ∈ J := hJ _ (by repeat (first | exact List.Mem.head _ | apply List.Mem.tail))
    have m5 : recIt r lb m (((came L n).length - min (came L n).length m) % m) (min (came L n).length m) (headOf ((came L n).take ((came L n).length - min (came L n).length m))) (headOf (came L n)) (came L n).length ∈ J := hJ _ (by repeat (first | exact List.Mem.head _ | apply List.Mem.tail))
    clear hJ
    have w1 : RdsN J ⟨b1, 0, none⟩ 66 (F.cells (slO of F.L.length cf)) := RdsN.told m1 (fun j u h => by rw [Nat.zero_add]; exact h) (rep_len hF1 hF2)
    have w2 : RdsN J ⟨b2, 0, none⟩ 66 (P.cells (slO ob P.L.length cb)) := RdsN.told m2 (fun j u h => by rw [Nat.zero_add]; exact h) (rep_len e1 e2)
    have f7 : RdI J ⟨b1, 0 + 65, none⟩ (slO of F.L.length cf) := RdI.told m1 (rep_sl hF1 hF2)
    have f8 : RdI J ⟨b2, 0 + 65, none⟩ (slO ob P.L.length cb) := RdI.told m2 (rep_sl e1 e2)
    have l1 := rep_len (sl := slO of F.L.length cf) hF1 hF2
    have l2 := rep_len (sl := slO ob P.L.length cb) e1 e2
    refine CW.region (ef := []) (bk := []) ?_
    refine RL.move rfl rfl rfl rfl ?_
    refine RL.bin rfl rfl rfl rfl rfl rfl ?_
    refine RL.move rfl rfl rfl rfl ?_
    apply RL.orB (d := 119) (dp := 123) (l' := (Sq.of [])) rfl (.cons (k := 7) rfl (.cons (k := 9) rfl (.cons (k := 16) rfl (.cons (k := 17) rfl .nil))))
    ·
      intro hb3 K3
      first | refine RL.loadM Try.isAgg70 Try.sizeOf70 rfl rfl rfl rfl (by assumption) ?_ | refine RL.loadA Try.isAgg70 Try.sizeOf70 rfl rfl rfl rfl (by first | assumption | (apply RdsI.rds; assumption)) (by first | rfl | assumption | (simp only [List.length_map]; assumption) | (simp only [List.length_map, List.length_replicate]; done) | (simp; done)) ?_
      refine RL.callv (tholds_any P ob cb P.L.length e1 e2 rfl (by omega)) Try.call37 rfl rfl rfl rfl (Lend.ownI m4 .nil) ?_
      refine RL.bin rfl rfl rfl rfl rfl rfl ?_
      refine RL.pickF rfl rfl rfl rfl rfl ?_
      exact K3 _ (.cons rfl (.cons (k := 7) rfl (.cons (k := 9) rfl (.cons (k := 16) rfl (.cons (k := 17) rfl .nil)))))
    ·
      intro hb3 K3
      refine RL.skip rfl rfl rfl rfl ?_
      refine RL.skip rfl rfl rfl rfl ?_
      refine RL.skip rfl rfl rfl rfl ?_
      refine RL.pickT rfl rfl rfl rfl rfl ?_
      exact K3 _ (.cons rfl (.cons (k := 7) rfl (.cons (k := 9) rfl (.cons (k := 16) rfl (.cons (k := 17) rfl .nil)))))
    refine RL.nil ?_
    refine NQ.seq ?_
    -- STOP: if; todo top: ["code", ["cond", ["t", 123], ["seq", ["region", 21, [{"d": 6, "op": ["assign", ["c", ["bool", false]]], "ty": 4, "pos": "law.go:133", "after": [], "guard": null}], false], ["ret"]], ["skip"]]]
    refine CW.condF rfl ((by simp [e4])) ?_
    refine CW.skip ?_
    refine NQ.seq ?_
    refine CW.seq ?_
    refine CW.seq ?_
    refine CW.region (ef := []) (bk := []) ?_
    first | refine RL.fieldAddr fa_70_3 rfl rfl rfl rfl ?_ | refine RL.fieldAddrG fa_70_3 rfl rfl rfl rfl ?_
    refine RL.load Try.isAgg49 rfl rfl rfl rfl (by first | assumption | (apply RdI.rd; assumption) | (apply Rd.get; (solve | (repeat (first | exact List.Mem.head _ | apply List.Mem.tail))); assumption) | (apply Rd.getS; (solve | (repeat (first | exact List.Mem.head _ | apply List.Mem.tail))); assumption) | (apply Rd.getO; (solve | (repeat (first | exact List.Mem.head _ | apply List.Mem.tail))); assumption) | (apply Rd.getI; (solve | (repeat (first | exact List.Mem.head _ | apply List.Mem.tail))); assumption) | (apply Rd.cel; (solve | (repeat (first | exact List.Mem.head _ | apply List.Mem.tail))); exact rfl) | (apply Rd.celI; (solve | (repeat (first | exact List.Mem.head _ | apply List.Mem.tail))); exact rfl)) ?_
    refine RL.lenS Try.runUnderlying49 rfl rfl rfl rfl ?_
    refine RL.move rfl rfl rfl rfl ?_
    refine RL.bin rfl rfl rfl rfl rfl rfl ?_
    refine RL.nil ?_
    refine NQ.seq ?_
    -- STOP: if; todo top: ["code", ["cond", ["t", 128], ["seq", ["region", 23, [{"d": 6, "op": ["assign", ["c", ["bool", true]]], "ty": 4, "pos": "law.go:136", "after": [], "guard": null}], false], ["ret"]], ["skip"]]]
    refine CW.cond rfl (fun hs => ?_) (fun hs => ?_)
    ·
      refine CW.seq ?_
      refine CW.region (ef := []) (bk := []) ?_
      refine RL.assign rfl rfl rfl rfl ?_
      refine RL.nil ?_
      refine NQ.seq ?_
      refine CW.only (.cons (k := 6) rfl (.cons (k := 7) rfl (.cons (k := 9) rfl (.cons (k := 16) rfl (.cons (k := 17) rfl .nil))))) ?_
      refine CW.ret ?_
      refine RQ.seq ?_
      -- STOP: ret; end
      exact RQ.post (res1 rfl rfl) (Split.none _) ⟨rfl, rfl, rfl⟩
    ·
      have hs : D.length ≤ P.L.length := by simp at hs; omega
      obtain ⟨y1, y2, y3⟩ := z2 hs
      have hjoin := join_any F P of ob cf cb F.L.length P.L.length hF1 hF2 e1 e2 rfl rfl (by omega) (by omega)
      obtain ⟨y4, y5⟩ := join_yes y1
      rw [y4, y5] at hjoin
      have y6 : (joinP F P).fr.length = 32 := hF1
      have y7 : (joinP F P).to.length = 32 := e2
      have y8 : (joinP F P).to = headOf (came L n) := e5
      generalize joinP F P = G at hjoin y2 y3 y6 y7 y8
      refine CW.skip ?_
      refine NQ.seq ?_
      refine CW.only (.cons (k := 7) rfl (.cons (k := 9) rfl (.cons (k := 16) rfl (.cons (k := 17) rfl .nil)))) ?_
      refine CW.seq ?_
      refine CW.region (ef := [2, 6, 7]) (bk := [7]) ?_
      first | refine RL.loadM Try.isAgg70 Try.sizeOf70 rfl rfl rfl rfl (by assumption) ?_ | refine RL.loadA Try.isAgg70 Try.sizeOf70 rfl rfl rfl rfl (by first | assumption | (apply RdsI.rds; assumption)) (by first | rfl | assumption | (simp only [List.length_map]; assumption) | (simp only [List.length_map, List.length_replicate]; done) | (simp; done)) ?_
      first | refine RL.loadM Try.isAgg70 Try.sizeOf70 rfl rfl rfl rfl (by assumption) ?_ | refine RL.loadA Try.isAgg70 Try.sizeOf70 rfl rfl rfl rfl (by first | assumption | (apply RdsI.rds; assumption)) (by first | rfl | assumption | (simp only [List.length_map]; assumption) | (simp only [List.length_map, List.length_replicate]; done) | (simp; done)) ?_
      refine RL.call (hjoin) Try.call38 rfl rfl rfl rfl rfl (by repeat (first | exact Pick.nil | apply Pick.take | apply Pick.leave)) (Lend.ownI m3 (Lend.ownI m4 .nil)) (.inl rfl) ?_
      -- STOP: called; op 3: d=129 ["move", ["t", 132]] guard=None (law.go:138)
      rintro _ _ _ ⟨oj, cj, rfl, rfl, rfl⟩
      refine RL.move rfl rfl rfl rfl ?_
      refine RL.extract rfl rfl rfl rfl rfl ?_
      refine RL.extract rfl rfl rfl rfl rfl ?_
      refine RL.alloc Try.zeroValue70 rfl rfl rfl rfl rfl ?_
      intro b3
      -- STOP: op; op 7: d=None ["store", 70, ["t", 19], ["t", 133]] guard=None (law.go:138)
      refine RL.storeW Try.sizeOf70 rfl rfl rfl rfl rfl rfl rfl (ones_rep _ rfl) (by repeat (first | exact Upd.here | apply Upd.there)) (rep_len y6 y7) rfl ?_
      refine RL.assign rfl rfl rfl rfl ?_
      refine RL.nil ?_
      refine NQ.seq ?_
      refine CW.only (.cons (k := 7) rfl (.cons (k := 9) rfl (.cons (k := 16) rfl (.cons (k := 19) rfl (.cons (k := 20) rfl .nil))))) ?_
      refine CW.seq ?_
      -- STOP: region; todo top: ["code", ["region", 25, [{"d": 135, "op": ["move", ["t", 20]], "ty": 35, "pos": "law.go:139", "after": [], "guard": null}, {"d": 136, "op": ["binOp", "Go.BinOp.eql", 35, ["t", 135], ["c", ["int", "Go.
      refine CW.freezeAll rfl ?_
      simp only [List.cons_append, List.nil_append]
      refine CW.genI (fun J2 hJ => ?_)
      have n1 : cel b1 (F.cells (slO of F.L.length cf)) 70 ∈ J2 := hJ _ (by simp [m1])
      have n2 : cel b3 (G.cells (slO oj G.L.length cj)) 70 ∈ J2 := hJ _ (by simp)
      have n4 : own oj cj 57 4 G.L.length (entsV G.L) ∈ J2 := hJ _ (by simp)
      have n5 : recIt r lb m (((came L n).length - min (came L n).length m) % m) (min (came L n).length m) (headOf ((came L n).take ((came L n).length - min (came L n).length m))) (headOf (came L n)) (came L n).length ∈ J2 := hJ _ (by simp [m5])
      clear hJ
      have v2 : RdsN J2 ⟨b3, 0, none⟩ 66 (G.cells (slO oj G.L.length cj)) := RdsN.told n2 (fun j u h => by rw [Nat.zero_add]; exact h) (rep_len y6 y7)
      have g7 : RdI J2 ⟨b1, 0 + 65, none⟩ (slO of F.L.length cf) := RdI.told n1 (rep_sl hF1 hF2)
      have g8 : RdI J2 ⟨b3, 0 + 65, none⟩ (slO oj G.L.length cj) := RdI.told n2 (rep_sl y6 y7)
      have g3 : RdsN J2 ⟨b3, 0 + 32, none⟩ 32 (bytes G.to) := RdsN.told n2 (rep_to y6) (lenD y7)
      have l3 := rep_len (sl := slO oj G.L.length cj) y6 y7
      clear w1 w2 f7 f8 l1 l2
      refine CW.regionD (Sq.of [0, 1, 2, 3, 4, 5, 6, 7, 8, 9, 10, 11, 12, 13, 14, 15, 16, 17, 18, 19, 20, 21, 22, 23, 24, 25]) [] [] [0, 1, 2, 3, 4, 5, 6, 7, 8, 9, 10, 11, 12, 13, 14, 15, 16, 17, 18, 19, 20, 21, 22, 23, 24, 25] mixed (by kernel_rfl) ?_
      refine RL.move rfl rfl rfl rfl ?_
      refine RL.bin rfl rfl rfl rfl rfl rfl ?_
      refine RL.move rfl rfl rfl rfl ?_
      apply RL.andB (d := 137) (dp := 141) (l' := (Sq.of [7, 8, 9, 10, 11, 12, 13, 14, 15, 16, 17, 18, 19, 20, 21, 22, 23, 24, 25])) rfl (.cons (k := 7) rfl (.cons (k := 9) rfl (.cons (k := 16) rfl (.cons (k := 19) rfl .nil))))
      ·
        intro hb3 K3
        first | refine RL.loadMT Try.isAgg70 Try.sizeOf70 rfl rfl rfl rfl (by assumption) ?_ | refine RL.loadAT Try.isAgg70 Try.sizeOf70 rfl rfl rfl rfl (by first | assumption | (apply RdsI.rds; assumption)) (by first | rfl | assumption | (simp only [List.length_map]; assumption) | (simp only [List.length_map, List.length_replicate]; done) | (simp; done)) ?_
        refine RL.callvT (tholds_any G oj cj G.L.length y6 y7 rfl (by omega)) Try.call37 rfl rfl rfl rfl (Lend.ownI n4 .nil) ?_
        refine RL.bin rfl rfl rfl rfl rfl rfl ?_
        refine RL.pickT rfl rfl rfl rfl rfl ?_
        exact K3 _ (.cons rfl (.cons (k := 7) rfl (.cons (k := 9) rfl (.cons (k := 16) rfl (.cons (k := 19) rfl .nil)))))
      ·
        intro hb3 K3
        refine RL.skip rfl rfl rfl rfl ?_
        refine RL.skip rfl rfl rfl rfl ?_
        refine RL.skip rfl rfl rfl rfl ?_
        refine RL.pickF rfl rfl rfl rfl rfl ?_
        exact K3 _ (.cons rfl (.cons (k := 7) rfl (.cons (k := 9) rfl (.cons (k := 16) rfl (.cons (k := 19) rfl .nil)))))
      refine RL.move rfl rfl rfl rfl ?_
      apply RL.andB (d := 142) (dp := 152) (l' := (Sq.of [18, 19, 20, 21, 22, 23, 24, 25])) rfl (.cons (k := 7) rfl (.cons (k := 19) rfl .nil))
      ·
        intro hb8 K8
        first | refine RL.fieldAddr fa_70_3 rfl rfl rfl rfl ?_ | refine RL.fieldAddrG fa_70_3 rfl rfl rfl rfl ?_
        refine RL.loadT Try.isAgg49 rfl rfl rfl rfl (by first | assumption | (apply RdI.rd; assumption) | (apply Rd.get; (solve | (repeat (first | exact List.Mem.head _ | apply List.Mem.tail))); assumption) | (apply Rd.getS; (solve | (repeat (first | exact List.Mem.head _ | apply List.Mem.tail))); assumption) | (apply Rd.getO; (solve | (repeat (first | exact List.Mem.head _ | apply List.Mem.tail))); assumption) | (apply Rd.getI; (solve | (repeat (first | exact List.Mem.head _ | apply List.Mem.tail))); assumption) | (apply Rd.cel; (solve | (repeat (first | exact List.Mem.head _ | apply List.Mem.tail))); exact rfl) | (apply Rd.celI; (solve | (repeat (first | exact List.Mem.head _ | apply List.Mem.tail))); exact rfl)) ?_
        refine RL.lenS Try.runUnderlying49 rfl rfl rfl rfl ?_
        first | refine RL.fieldAddr fa_70_3 rfl rfl rfl rfl ?_ | refine RL.fieldAddrG fa_70_3 rfl rfl rfl rfl ?_
        refine RL.loadT Try.isAgg49 rfl rfl rfl rfl (by first | assumption | (apply RdI.rd; assumption) | (apply Rd.get; (solve | (repeat (first | exact List.Mem.head _ | apply List.Mem.tail))); assumption) | (apply Rd.getS; (solve | (repeat (first | exact List.Mem.head _ | apply List.Mem.tail))); assumption) | (apply Rd.getO; (solve | (repeat (first | exact List.Mem.head _ | apply List.Mem.tail))); assumption) | (apply Rd.getI; (solve | (repeat (first | exact List.Mem.head _ | apply List.Mem.tail))); assumption) | (apply Rd.cel; (solve | (repeat (first | exact List.Mem.head _ | apply List.Mem.tail))); exact rfl) | (apply Rd.celI; (solve | (repeat (first | exact List.Mem.head _ | apply List.Mem.tail))); exact rfl)) ?_
        refine RL.lenS Try.runUnderlying49 rfl rfl rfl rfl ?_
        refine RL.move rfl rfl rfl rfl ?_
        refine RL.binX rfl rfl rfl rfl rfl rfl (wrapV_i64 (by omega) (by omega)) ?_
        refine RL.bin rfl rfl rfl rfl rfl rfl ?_
        refine RL.pickT rfl rfl rfl rfl rfl ?_
        exact K8 _ (.cons rfl (.cons (k := 7) rfl (.cons (k := 19) rfl .nil)))
      ·
        intro hb8 K8
        refine RL.skip rfl rfl rfl rfl ?_
        refine RL.skip rfl rfl rfl rfl ?_
        refine RL.skip rfl rfl rfl rfl ?_
        refine RL.skip rfl rfl rfl rfl ?_
        refine RL.skip rfl rfl rfl rfl ?_
        refine RL.skip rfl rfl rfl rfl ?_
        refine RL.skip rfl rfl rfl rfl ?_
        refine RL.skip rfl rfl rfl rfl ?_
        refine RL.skip rfl rfl rfl rfl ?_
        refine RL.pickF rfl rfl rfl rfl rfl ?_
        exact K8 _ (.cons rfl (.cons (k := 7) rfl (.cons (k := 19) rfl .nil)))
      refine RL.move rfl rfl rfl rfl ?_
      apply RL.andB (d := 153) (dp := 159) (l' := (Sq.of [25])) rfl .nil
      ·
        intro hb19 K19
        first | refine RL.fieldAddr fa_70_1 rfl rfl rfl rfl ?_ | refine RL.fieldAddrG fa_70_1 rfl rfl rfl rfl ?_
        first | refine RL.loadMT Try.isAgg61 Try.sizeOf61 rfl rfl rfl rfl (by assumption) ?_ | refine RL.loadAT Try.isAgg61 Try.sizeOf61 rfl rfl rfl rfl (by first | assumption | (apply RdsI.rds; assumption)) (by first | rfl | assumption | (simp only [List.length_map]; assumption) | (simp only [List.length_map, List.length_replicate]; done) | (simp; done)) ?_
        refine RL.move rfl rfl rfl rfl ?_
        refine RL.callvT (head_any r lb m _ _ _ _ _ hm1 (headOf_length _) (headOf_length _)) Try.call30 rfl rfl rfl rfl (.inI n5 .nil) ?_
        refine RL.cmp rfl rfl rfl rfl rfl (dig_eq _ _ (by first | rfl | assumption | (simp only [List.length_map]; assumption) | (simp only [List.length_map, List.length_replicate]; done) | (simp; done)) (by first | rfl | assumption | (simp only [List.length_map]; assumption) | (simp only [List.length_map, List.length_replicate]; done) | (simp; done)) _ _) ?_
        refine RL.pickT rfl rfl rfl rfl rfl ?_
        exact K19 _ (.cons rfl .nil)
      ·
        intro hb19 K19
        refine RL.skip rfl rfl rfl rfl ?_
        refine RL.skip rfl rfl rfl rfl ?_
        refine RL.skip rfl rfl rfl rfl ?_
        refine RL.skip rfl rfl rfl rfl ?_
        refine RL.skip rfl rfl rfl rfl ?_
        refine RL.pickF rfl rfl rfl rfl rfl ?_
        exact K19 _ (.cons rfl .nil)
      refine RL.assign rfl rfl rfl rfl ?_
      refine RL.nil ?_
      refine NQ.seq ?_
      refine CW.ret ?_
      -- STOP: ret; end
      exact RQ.post (res1 rfl rfl) (Split.none _) ⟨by simp [y2, y3, y8], rfl, rfl⟩
end Go.Proofs.Ytflpiaeffnoepaa

namespace Go.Proofs.Ytflpiaeffnoepaa
open Go.PK
theorem traceHolds_call (W : World) (z : Int) (x : Sl Ent) (at_ : Int) (_ : rInt.ok z) (hx : rEnts.ok x) (_ : rInt.ok at_) (_ : ∀ y ∈ rInt.its z, y.A W) (tx : ∀ y ∈ rEnts.its x, y.A W) (_ : ∀ y ∈ rInt.its at_, y.A W) :
    Calls Try.prog 8 #[rInt.val z, rEnts.val x, rInt.val at_] W (fun e w' => e = .returned (.bool true) ∧ RowKit.Below W.heap.size W w') := by
  have ht : ∀ y ∈ [sls x.p 4 x.l.length (entsV x.l)], y.A W := fun y hy => by rw [List.mem_singleton.1 hy]; exact tx _ (List.Mem.head _)
  exact (tlholds z at_ x.p x.c x.l hx.1).lawI ht
end Go.Proofs.Ytflpiaeffnoepaa
