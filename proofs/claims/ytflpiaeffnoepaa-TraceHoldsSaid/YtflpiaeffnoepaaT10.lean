import Derived.Test.YtflpiaeffnoepaaT9
import Derived.Test.YtflpiaeffnoepaaTFacts
namespace Go.Proofs.Ytflpiaeffnoepaa
open Go.PK

/-- Where entries lead, if all of them may be. -/
def leadsD (h : List B8) : List Ent → Option (List B8)
  | [] => some h
  | x :: r => if x.ok then leadsD (nextD h x) r else none
open Classical in
noncomputable def holdsE (p : Rep) : Int := if leadsD p.fr p.L = some p.to ∧ 0 ≤ p.a then 0 else 360
theorem leadsD_snoc : ∀ (l : List Ent) (h : List B8), (∀ x ∈ l, x.ok = true) → leadsD h l = some (l.foldl nextD h)
  | [], _, _ => rfl
  | x :: l, h, hl => by rw [leadsD, if_pos (hl x (by simp)), leadsD_snoc l _ (fun y hy => hl y (by simp [hy]))]; rfl
theorem leads_len : ∀ (l : List Ent) (h h' : List B8), h.length = 32 → leadsD h l = some h' → h'.length = 32
  | [], h, h', hl, he => by cases he; exact hl
  | x :: l, h, h', hl, he => by
    rw [leadsD] at he
    split at he
    · exact leads_len l _ h' (nextD_length _ _) he
    · cases he
theorem ent_rds {I H : List It} {b n i : Nat} {l : List Ent} {x : Ent} (hm : sls (some ⟨b, 0, none⟩) 4 n (entsV l) ∈ I) (hx : l[i]? = some x) : Rds I H ⟨b, 0 + i * 4, none⟩ x.cells := by
  have h := Rds.part (H := H) (j := i * 4) (vs := x.cells) (Rds.sls hm) (fun q u hu => by
    have hlt : q < 4 := (List.getElem?_eq_some_iff.1 hu).1
    rw [get_flat (ent_len l) hx hlt]; exact hu)
  rwa [add_none] at h

theorem tholds_any (p : Rep) (oa : Option Nat) (ca n : Nat) (h1 : p.fr.length = 32) (h2 : p.to.length = 32) (hn : p.L.length = n) (hl : n ≤ 1000000) :
    Spc Try.prog 37 #[.agg (p.cells (slO oa n ca)).toArray] [sls (oa.map fun b => ⟨b, 0, none⟩) 4 n (entsV p.L)] [] (Is (.int .i64 (holdsE p))) := by
  subst hn
  refine Spc.enter Try.func37 rfl rfl rfl (fun w0 hw0 => ?_)
  refine CW.seq ?_
  refine CW.region (ef := [0]) (bk := []) ?_
  refine RL.box rfl rfl rfl rfl rfl rfl ?_
  intro b1
  refine RL.assign rfl rfl rfl rfl ?_
  refine RL.nil ?_
  refine NQ.seq ?_
  refine CW.seq ?_
  -- STOP: region; todo top: ["code", ["region", 1, [{"d": 7, "op": ["fieldAddr", 70, ["t", 1], 0], "ty": 0, "pos": "trace.go:157", "after": [], "guard": null}, {"d": 8, "op": ["load", 61, ["t", 7]], "ty": 61, "pos": "trace.go:15
  refine CW.freezeAll rfl ?_
  simp only [List.cons_append, List.nil_append]
  refine CW.region (ef := [2, 3]) (bk := [3]) ?_
  refine RL.fieldAddr fa_70_0 rfl rfl rfl rfl ?_
  -- STOP: op; op 1: d=8 ["load", 61, ["t", 7]] guard=None (trace.go:157)
  refine RL.loadA Try.isAgg61 Try.sizeOf61 rfl rfl rfl rfl (vs := bytes p.fr) (Rds.celI (by repeat (first | exact List.Mem.head _ | apply List.Mem.tail)) (rep_fr h1)) (by rw [List.length_map, h1]) ?_
  refine RL.alloc (cs := List.replicate 32 (U8 0#8)) Try.zeroValue61 rfl rfl rfl rfl rfl ?_
  intro b2
  refine RL.storeW Try.sizeOf61 rfl rfl rfl rfl rfl rfl rfl (by first | rfl | exact ones_map one8 _ | exact ones_map (fun _ => rfl) _) (by repeat (first | exact Upd.here | apply Upd.there)) (by first | rfl | assumption | (simp only [List.length_map]; assumption) | (simp only [List.length_map, List.length_replicate, h1]; done) | (simp; done)) (by first | rfl | assumption | (simp only [List.length_map]; assumption) | (simp only [List.length_map, List.length_replicate, h1]; done) | (simp; done)) ?_
  refine RL.nil ?_
  refine NQ.seq ?_
  refine CW.seq ?_
  refine CW.seq ?_
  refine CW.region (ef := []) (bk := []) ?_
  refine RL.fieldAddr fa_70_3 rfl rfl rfl rfl ?_
  -- STOP: op; op 1: d=10 ["load", 49, ["t", 9]] guard=None (trace.go:158)
  refine RL.load Try.isAgg49 rfl rfl rfl rfl (Rd.getI (by repeat (first | exact List.Mem.head _ | apply List.Mem.tail)) (rep_sl h1 h2)) ?_
  refine RL.lenS Try.runUnderlying49 rfl rfl rfl rfl ?_
  refine RL.move rfl rfl rfl rfl ?_
  refine RL.nil ?_
  refine NQ.seq ?_
  refine CW.block ?_
  -- STOP: loop; todo top: ["code", ["loop", ["seq", ["region", 3, [{"d": 13, "op": ["binOp", "Go.BinOp.lss", 3, ["t", 12], ["t", 11], 3], "ty": 0, "pos": "trace.go:158", "after": [], "guard": null}], false], ["seq", ["cond", [
  refine CW.loop (γ := Nat × List B8) (fun g => g.1 ≤ p.L.length ∧ g.2.length = 32 ∧ leadsD p.fr p.L = leadsD g.2 (p.L.drop g.1)) (fun g => [(1, .pointer (some ⟨b1, 0, none⟩)), (3, .pointer (some ⟨b2, 0, none⟩)), (10, slO oa p.L.length ca), (11, .int .i64 (p.L.length : Int)), (12, .int .i64 (g.1 : Int))])
    (fun _ => [cel b1 (p.cells (slO oa p.L.length ca)) 70, sls (oa.map fun b => ⟨b, 0, none⟩) 4 p.L.length (entsV p.L)]) (fun g => [cel b2 (bytes g.2) 61]) (fun g => p.L.length - g.1) (0, p.fr) ⟨by simp, h1, by simp⟩ (.cons rfl (.cons rfl (.cons rfl (.cons rfl (.cons rfl .nil))))) (fun w h => h) ?_
  rintro ⟨i, h⟩ ⟨hi, hh, he⟩
  dsimp only at hi hh he ⊢
  refine CW.fact (p := oa = none → p.L.length = 0) (fun w hC e => sls_nil (hC.s.i (sls (oa.map fun b => ⟨b, 0, none⟩) 4 p.L.length (entsV p.L)) (by repeat (first | exact List.Mem.head _ | apply List.Mem.tail))) (by rw [e]; rfl)) (fun hpa => ?_)
  refine CW.seq ?_
  refine CW.region (ef := []) (bk := []) ?_
  refine RL.bin rfl rfl rfl rfl rfl rfl ?_
  refine RL.nil ?_
  refine NQ.seq ?_
  refine CW.seq ?_
  -- STOP: if; todo top: ["code", ["cond", ["t", 13], ["skip"], ["exit", 0]]]
  refine CW.cond rfl (fun hlt => ?_) (fun hlt => ?_)
  ·
    have hlt : i < p.L.length := by simp at hlt; omega
    cases oa with
    | none => exact absurd (hpa rfl) (by omega)
    | some ba =>
    have hx := List.getElem?_eq_getElem hlt
    have hd : p.L.drop i = p.L[i] :: p.L.drop (i + 1) := List.drop_eq_getElem_cons hlt
    generalize p.L[i] = x at hx hd
    rw [hd, leadsD] at he
    refine CW.skip ?_
    refine NQ.seq ?_
    refine CW.seq ?_
    refine CW.block ?_
    refine CW.seq ?_
    refine CW.region (ef := [2, 3]) (bk := [3]) ?_
    refine RL.idxAt (j := i) Try.runUnderlying49 Try.sizeOf57 rfl rfl rfl rfl rfl rfl (hlt) ?_
    -- STOP: op; op 1: d=15 ["load", 57, ["t", 14]] guard=None (trace.go:158)
    refine RL.loadN (vs := x.cells) Try.isAgg57 Try.sizeOf57 rfl rfl rfl rfl (ent_rds (by repeat (first | exact List.Mem.head _ | apply List.Mem.tail)) hx) ?_
    refine RL.alloc Try.zeroValue57 rfl rfl rfl rfl rfl ?_
    intro b3
    refine RL.store (vs := [_, _, _, _]) Try.sizeOf57 rfl rfl rfl rfl rfl rfl rfl rfl rfl (by repeat (first | exact Upd.here | apply Upd.there)) ?_
    refine RL.nil ?_
    refine NQ.seq ?_
    refine CW.seq ?_
    refine CW.region (ef := []) (bk := []) ?_
    refine RL.assign rfl rfl rfl rfl ?_
    refine RL.nil ?_
    refine NQ.seq ?_
    refine CW.seq ?_
    refine CW.region (ef := [2, 6]) (bk := [6]) ?_
    refine RL.loadW Try.isAgg61 Try.sizeOf61 rfl rfl rfl rfl (by repeat (first | exact List.Mem.head _ | apply List.Mem.tail)) (by first | rfl | assumption | (simp only [List.length_map]; assumption) | (simp only [List.length_map, List.length_replicate, h1]; done) | (simp; done)) ?_
    -- STOP: op; op 1: d=18 ["load", 57, ["t", 5]] guard=None (trace.go:160)
    refine RL.loadN (vs := x.cells) Try.isAgg57 Try.sizeOf57 rfl rfl rfl rfl (Rds.all (by repeat (first | exact List.Mem.head _ | apply List.Mem.tail))) ?_
    refine RL.callv (next_any h hh x) Try.call41 rfl rfl rfl rfl (by repeat (first | exact Lend.nil | (refine Lend.inI ?_ ?_; (solve | (repeat (first | exact List.Mem.head _ | apply List.Mem.tail)))) | (refine Lend.inH ?_ ?_; (solve | (repeat (first | exact List.Mem.head _ | apply List.Mem.tail)))))) ?_
    refine RL.move rfl rfl rfl rfl ?_
    -- STOP: op; op 4: d=20 ["extract", ["t", 16], 0] guard=None (trace.go:160)
    cases hxo : x.ok with
    | false =>
      rw [next_no hxo]
      rw [if_neg (by simp [hxo])] at he
      refine RL.extract rfl rfl rfl rfl rfl ?_
      refine RL.extract rfl rfl rfl rfl rfl ?_
      refine RL.storeW Try.sizeOf61 rfl rfl rfl rfl rfl rfl rfl (by first | rfl | exact ones_map one8 _ | exact ones_map (fun _ => rfl) _) (by repeat (first | exact Upd.here | apply Upd.there)) (by first | rfl | assumption | (simp only [List.length_map]; assumption) | (simp only [List.length_map, List.length_replicate, zeros32, hh]; done) | (simp; done)) (by first | rfl | assumption | (simp only [List.length_map]; assumption) | (simp only [List.length_map, List.length_replicate, zeros32, hh]; done) | (simp; done)) ?_
      refine RL.assign rfl rfl rfl rfl ?_
      refine RL.nil ?_
      refine NQ.seq ?_
      refine CW.only (.cons (k := 1) rfl (.cons (k := 3) rfl (.cons (k := 6) rfl (.cons (k := 10) rfl (.cons (k := 11) rfl (.cons (k := 12) rfl .nil)))))) ?_
      refine CW.seq ?_
      refine CW.region (ef := []) (bk := []) ?_
      refine RL.move rfl rfl rfl rfl ?_
      refine RL.bin rfl rfl rfl rfl rfl rfl ?_
      refine RL.nil ?_
      refine NQ.seq ?_
      -- STOP: if; todo top: ["code", ["cond", ["t", 23], ["seq", ["region", 8, [{"d": 2, "op": ["assign", ["c", ["int", "Go.IntKind.i64", 360]]], "ty": 35, "pos": "trace.go:161", "after": [], "guard": null}], false], ["ret"]], [
      refine CW.condT rfl (rfl) ?_
      refine CW.seq ?_
      refine CW.region (ef := []) (bk := []) ?_
      refine RL.assign rfl rfl rfl rfl ?_
      refine RL.nil ?_
      refine NQ.seq ?_
      refine CW.ret ?_
      refine RQ.block ?_
      refine RQ.seq ?_
      refine RQ.seq ?_
      refine RQ.block ?_
      refine RQ.seq ?_
      -- STOP: ret; end
      exact RQ.post (res1 rfl rfl) (Split.none _) ⟨by rw [holdsE, he, if_neg (by simp)], rfl, rfl⟩
    | true =>
      rw [next_yes hxo]
      rw [if_pos hxo] at he
      refine RL.extract rfl rfl rfl rfl rfl ?_
      refine RL.extract rfl rfl rfl rfl rfl ?_
      refine RL.storeW Try.sizeOf61 rfl rfl rfl rfl rfl rfl rfl (by first | rfl | exact ones_map one8 _ | exact ones_map (fun _ => rfl) _) (by repeat (first | exact Upd.here | apply Upd.there)) (by first | rfl | assumption | (simp only [List.length_map]; assumption) | (simp only [List.length_map, List.length_replicate, nextD_length, hh]; done) | (simp; done)) (by first | rfl | assumption | (simp only [List.length_map]; assumption) | (simp only [List.length_map, List.length_replicate, nextD_length, hh]; done) | (simp; done)) ?_
      refine RL.assign rfl rfl rfl rfl ?_
      refine RL.nil ?_
      refine NQ.seq ?_
      refine CW.only (.cons (k := 1) rfl (.cons (k := 3) rfl (.cons (k := 6) rfl (.cons (k := 10) rfl (.cons (k := 11) rfl (.cons (k := 12) rfl .nil)))))) ?_
      refine CW.seq ?_
      refine CW.region (ef := []) (bk := []) ?_
      refine RL.move rfl rfl rfl rfl ?_
      refine RL.bin rfl rfl rfl rfl rfl rfl ?_
      refine RL.nil ?_
      refine NQ.seq ?_
      -- STOP: if; todo top: ["code", ["cond", ["t", 23], ["seq", ["region", 8, [{"d": 2, "op": ["assign", ["c", ["int", "Go.IntKind.i64", 360]]], "ty": 35, "pos": "trace.go:161", "after": [], "guard": null}], false], ["ret"]], [
      refine CW.condF rfl (rfl) ?_
      refine CW.skip ?_
      refine NQ.block ?_
      refine NQ.seq ?_
      refine CW.region (ef := []) (bk := []) ?_
      refine RL.binX rfl rfl rfl rfl rfl rfl (wrapV_i64 (by omega) (by omega)) ?_
      refine RL.move rfl rfl rfl rfl ?_
      refine RL.nil ?_
      -- STOP: round; todo top: ["N"]
      refine NQ.round (g := (i, h)) (i + 1, nextD h x) ⟨hlt, nextD_length h x, he⟩ (by show p.L.length - (i + 1) < p.L.length - i; omega) (.cons rfl (.cons rfl (.cons rfl (.cons rfl (.cons rfl .nil))))) (fun w h => h.rea (fun _ h => by simpa using h) (by repeat (first | exact Rea.nil | (apply Rea.cons; (solve | (repeat (first | exact Del.here | apply Del.there)))))))
  ·
    have hin : i = p.L.length := by simp at hlt; omega
    subst hin
    rw [List.drop_length, leadsD] at he
    refine CW.exit ?_
    refine XQ.seq ?_
    refine XQ.seq ?_
    refine XQ.hit ?_
    refine NQ.seq ?_
    refine CW.seq ?_
    refine CW.seq ?_
    refine CW.region (ef := []) (bk := []) ?_
    refine RL.fieldAddr fa_70_2 rfl rfl rfl rfl ?_
    -- STOP: op; op 1: d=26 ["load", 3, ["t", 25]] guard=None (trace.go:164)
    refine RL.load Try.isAgg3 rfl rfl rfl rfl (Rd.getI (by repeat (first | exact List.Mem.head _ | apply List.Mem.tail)) (rep_a h1 h2)) ?_
    refine RL.bin rfl rfl rfl rfl rfl rfl ?_
    refine RL.move rfl rfl rfl rfl ?_
    -- STOP: part 28; op 4: d=29 ["load", 61, ["t", 3]] guard=[3, False] (trace.go:164)
    refine RL.part (d := 28) rfl (fun ha => ?_) (fun ha => ?_)
    ·
      refine RL.skip rfl rfl rfl rfl ?_
      refine RL.skip rfl rfl rfl rfl ?_
      refine RL.skip rfl rfl rfl rfl ?_
      refine RL.skip rfl rfl rfl rfl ?_
      refine RL.pickT rfl rfl rfl rfl rfl ?_
      refine RL.nil ?_
      refine NQ.seq ?_
      refine CW.only (.cons (k := 33) rfl .nil) ?_
      refine CW.condT rfl rfl ?_
      refine CW.seq ?_
      refine CW.region (ef := []) (bk := []) ?_
      refine RL.assign rfl rfl rfl rfl ?_
      refine RL.nil ?_
      refine NQ.seq ?_
      refine CW.ret ?_
      refine RQ.seq ?_
      -- STOP: ret; end
      exact RQ.post (res1 rfl rfl) (Split.none _) ⟨by rw [holdsE, if_neg (by simp at ha; omega)], rfl, rfl⟩
    ·
      -- STOP: op; op 4: d=29 ["load", 61, ["t", 3]] guard=[3, False] (trace.go:164)
      refine RL.loadW Try.isAgg61 Try.sizeOf61 rfl rfl rfl rfl (by repeat (first | exact List.Mem.head _ | apply List.Mem.tail)) (by rw [List.length_map, hh]) ?_
      refine RL.fieldAddr fa_70_1 rfl rfl rfl rfl ?_
      -- STOP: op; op 6: d=31 ["load", 61, ["t", 30]] guard=[3, False] (trace.go:164)
      refine RL.loadA Try.isAgg61 Try.sizeOf61 rfl rfl rfl rfl (vs := bytes p.to) (Rds.celI (by repeat (first | exact List.Mem.head _ | apply List.Mem.tail)) (rep_to h1)) (by rw [List.length_map, h2]) ?_
      -- STOP: op; op 7: d=32 ["binOp", "Go.BinOp.neq", 61, ["t", 29], ["t", 31], 61] guard=[3, False] (trace.go:164)
      refine RL.cmp rfl rfl rfl rfl rfl (dig_ne h p.to hh h2 _ _) ?_
      refine RL.pickF rfl rfl rfl rfl rfl ?_
      refine RL.nil ?_
      refine NQ.seq ?_
      refine CW.only (.cons (k := 33) rfl .nil) ?_
      -- STOP: if; todo top: ["code", ["cond", ["t", 33], ["seq", ["region", 11, [{"d": 2, "op": ["assign", ["c", ["int", "Go.IntKind.i64", 360]]], "ty": 35, "pos": "trace.go:165", "after": [], "guard": null}], false], ["ret"]], 
      refine CW.cond rfl (fun hne => ?_) (fun hne => ?_)
      ·
        refine CW.seq ?_
        refine CW.region (ef := []) (bk := []) ?_
        refine RL.assign rfl rfl rfl rfl ?_
        refine RL.nil ?_
        refine NQ.seq ?_
        refine CW.ret ?_
        refine RQ.seq ?_
        -- STOP: ret; end
        have hne : h ≠ p.to := by simpa using hne
        exact RQ.post (res1 rfl rfl) (Split.none _) ⟨by rw [holdsE, he, if_neg (fun e => hne (Option.some.inj e.1))], rfl, rfl⟩
      ·
        refine CW.skip ?_
        refine NQ.seq ?_
        refine CW.seq ?_
        refine CW.region (ef := []) (bk := []) ?_
        refine RL.assign rfl rfl rfl rfl ?_
        refine RL.nil ?_
        refine NQ.seq ?_
        refine CW.ret ?_
        -- STOP: ret; end
        have hne : h = p.to := by simpa using hne
        exact RQ.post (res1 rfl rfl) (Split.none _) ⟨by rw [holdsE, he, hne, if_pos ⟨rfl, by simp at ha; omega⟩], rfl, rfl⟩
end Go.Proofs.Ytflpiaeffnoepaa
