import Derived.Test.YtkkfdoippibfkaaAB
import Derived.Test.YtkkfdoippibfkaaKF
import Derived.Test.YtkkfdoippibfkaaKRd16
namespace Go.Proofs.Ytkkfdoippibfkaa
open Go.PK

/-! ### The chapter's example -/
def key7 : List B8 := 7#8 :: List.replicate 31 0#8
def f19z : Fr := ⟨2, 1, 1, 4, [], List.replicate 16 0#8⟩
def f19 : Fr := f19z.sign key7
theorem f19z_ok : f19z.Ok := ⟨by decide, by decide, rfl⟩
theorem f19_ok : f19.Ok := Fr.sign_ok f19z_ok _
def l0 : List Lk := List.replicate 8 ⟨0, 0, 0⟩
structure Ex19 (g : GSt) (b : Nat) : Prop where
  t : g.T = [⟨1, key7, 1, -1, b⟩]
  l : g.l = l0
  y : g.Y 1 2 = true
theorem ex19_put (b : Nat) : putT [] 1 key7 b = [⟨1, key7, 1, -1, b⟩] ∧ putE [] 1 = 0 := by simp [putT, putE, mayB, atO]
theorem ex19_src (b : Nat) : srcT g0 1 key7 [2] b = [⟨1, key7, 1, -1, b⟩] ∧ srcE g0 1 [2] = 0 ∧ srcY g0 1 [2] = addY g0.Y 1 [2] := by
  have h : ¬ (([2] : List Int) = [] ∨ ([2] : List Int).any oddG = true) := by simp [oddG]
  have e : srcE g0 1 [2] = 0 := by rw [srcE, if_neg h]; exact (ex19_put 0).2
  exact ⟨by rw [srcT, if_neg h]; exact (ex19_put b).1, e, by rw [srcY, if_pos e]⟩
theorem ex19_tok (b : Nat) : TOk [⟨1, key7, 1, -1, b⟩] := ⟨by simp [key7], by simp, by simp, by simp, by simp, by simp⟩
theorem ex19_key {g : GSt} {b : Nat} (h : Ex19 g b) : keyM g.T 1 1 0 = (deriveK key7 epochL 1, 0) := by
  rw [keyM, if_pos (by decide), h.t]
  simp [atO, goesB, hasE]
theorem ex19_may : kmay l0 1 0 = 0 := by decide
theorem ex19_good : goodL l0 1 = l0 := by rfl
theorem ex19_look {g : GSt} {b : Nat} (h : Ex19 g b) {f : Fr} (h1 : f.sr = 1) (h2 : f.kd = 2) (h3 : f.ep = 1) : lookB g f 0 = true ∧ (tagE g f 0 = if f.tag = macTag (deriveK key7 epochL 1) f.signed then 0 else 190) ∧
    lookE g f 0 = if f.tag = macTag (deriveK key7 epochL 1) f.signed then mmay g.M 1 (fmark f) else 190 := by
  have hB : lookB g f 0 = true := by rw [lookB, h1, h2, h.y, h.l, ex19_may]; decide
  have hT : tagE g f 0 = if f.tag = macTag (deriveK key7 epochL 1) f.signed then 0 else 190 := by
    rw [tagE, tagOk, h1, h3, ex19_key h]
    simp
  refine ⟨hB, hT, ?_⟩
  rw [lookE, if_pos (by decide), h1, h2, if_pos h.y, h.l, if_pos ex19_may, hT]
  by_cases hc : f.tag = macTag (deriveK key7 epochL 1) f.signed
  · rw [if_pos hc, if_pos rfl, if_pos hc]
  · rw [if_neg hc, if_neg (by decide), if_neg hc]
theorem f19_tag : f19.tag = macTag (deriveK key7 epochL 1) f19.signed := rfl
theorem ex19_one {g : GSt} {b : Nat} (h : Ex19 g b) (B : GB) (hM : mmay g.M 1 (1, 4) = 0 ∨ mmay g.M 1 (1, 4) = 170) : lookE g f19 0 = mmay g.M 1 (1, 4) ∧ lookL B g f19 0 = l0 ∧ lookM g f19 0 = takeM g.M 1 (1, 4) := by
  obtain ⟨hB, hT, hE⟩ := ex19_look h (f := f19) rfl rfl rfl
  rw [if_pos f19_tag] at hT hE
  refine ⟨hE, ?_, by rw [lookM, if_pos hB, if_pos hT]; rfl⟩
  rw [lookL, if_pos hB, if_pos hT]
  have e : mmay g.M f19.sr (fmark f19) = mmay g.M 1 (1, 4) := rfl
  rw [e]
  rcases hM with hM | hM
  · rw [if_pos hM, h.l]; exact ex19_good
  · rw [if_neg (by rw [hM]; decide), h.l]
theorem turned {l : List B8} (h : l.length = 16) : ∃ x r, l = x :: r ∧ (x + 1#8) :: r ≠ l := by
  match l, h with
  | x :: r, _ => exact ⟨x, r, rfl, fun e => by
      have := (List.cons.inj e).1
      have h2 : x + 1#8 ≠ x := by
        intro h
        have h1 := congrArg BitVec.toNat h
        rw [BitVec.toNat_add] at h1
        have h3 := x.isLt
        simp at h1
        omega
      exact h2 this⟩
end Go.Proofs.Ytkkfdoippibfkaa

namespace Go.Proofs.Ytkkfdoippibfkaa
open Go.PK

theorem Lend.nilS' {I F J : List It} {sz : Nat} (h : Lend I F J) : Lend I F (PK.sls none sz 0 [] :: J) := .of (fun _ _ => ⟨by simp, rfl⟩) (fun c hc => by simp [PK.sls] at hc) h
theorem fill_f19 : fillL (#[(0, 1), (1, 1), (2, 1), (3, 1), (4, 1), (5, 16)][·]?) (.int .i64 0 :: .int .i64 0 :: .int .u32 0 :: .int .u64 0 :: .slice none 0 0 :: bytes (List.replicate 16 0#8)) [(0, .int .i64 2), (1, .int .i64 1), (2, .int .u32 1), (3, .int .u64 4)] = some (f19z.cells (.slice none 0 0)) := rfl
theorem works19 : Spc Try.prog 44 #[] [] [] (Is (.bool true)) := by
  have hl := fr_len f19_ok.tag (.slice none 0 0)
  refine Spc.enter Try.func44 rfl rfl rfl (fun w0 hw0 => ?_)
  refine CW.seq ?_
  refine CW.region (ef := []) (bk := []) ?_
  refine RL.assign rfl rfl rfl rfl ?_
  refine RL.nil ?_
  refine NQ.seq ?_
  refine CW.seq ?_
  refine CW.region (ef := [0]) (bk := []) ?_
  refine RL.call (gnew_yes 3 10 (by decide) (by decide) (by decide) (by decide)) Try.call103 rfl rfl rfl rfl rfl (by repeat (first | exact Pick.nil | apply Pick.take | apply Pick.leave)) (by repeat (first | exact Lend.nil | (refine Lend.inI ?_ ?_; (solve | (repeat (first | exact List.Mem.head _ | apply List.Mem.tail)))) | (refine Lend.inH ?_ ?_; (solve | (repeat (first | exact List.Mem.head _ | apply List.Mem.tail)))))) (.inl rfl) ?_
  -- STOP: called; op 1: d=7 ["move", ["t", 8]] guard=None (law.go:16)
  rintro _ _ _ ⟨B, hmo', hti', rfl, rfl, rfl⟩
  have hmo : B.mo ≠ 0 := by rw [hmo']; decide
  refine RL.move rfl rfl rfl rfl ?_
  refine RL.extract rfl rfl rfl rfl rfl ?_
  refine RL.extract rfl rfl rfl rfl rfl ?_
  refine RL.assign rfl rfl rfl rfl ?_
  refine RL.assign rfl rfl rfl rfl ?_
  refine RL.nil ?_
  refine NQ.seq ?_
  refine CW.only (.cons (k := 1) rfl .nil) ?_
  refine CW.seq ?_
  refine CW.seq ?_
  refine CW.region (ef := []) (bk := []) ?_
  refine RL.move rfl rfl rfl rfl ?_
  refine RL.cmp rfl rfl rfl rfl rfl (eql_ptr Try.runUnderlying117 _) ?_
  refine RL.nil ?_
  refine NQ.seq ?_
  -- STOP: if; todo top: ["code", ["cond", ["t", 12], ["seq", ["region", 3, [{"d": 0, "op": ["assign", ["c", ["bool", false]]], "ty": 4, "pos": "law.go:18", "after": [], "guard": null}], false], ["ret"]], ["skip"]]]
  refine CW.condF rfl (rfl) ?_
  refine CW.skip ?_
  refine NQ.seq ?_
  refine CW.seq ?_
  refine CW.region (ef := [2, 3]) (bk := [3]) ?_
  refine RL.move rfl rfl rfl rfl ?_
  -- STOP: op; op 1: d=14 ["build", 35, [[0, ["c", ["int", "Go.IntKind.u8", 7]]]]] guard=None (law.go:20)
  refine RL.buildA (bytes key7) Try.zeroValue35 Try.runUnderlying35 Try.sizeOf5 rfl rfl rfl rfl rfl ?_
  refine RL.buildSlice [_] Try.runUnderlying43 Try.sizeOf3 Try.zeroValue3 rfl rfl (by decide) (by decide) rfl rfl rfl rfl rfl rfl ?_
  intro b1
  refine RL.call (gsource_any B g0 1 key7 (some ⟨b1, 0, none⟩) 1 1 [2] g0_ok rfl rfl (by decide)) Try.call54 rfl rfl rfl rfl rfl (by repeat (first | exact Pick.nil | apply Pick.take | apply Pick.leave)) (Lend.all (by repeat (first | exact List.Mem.head _ | apply List.Mem.tail)) rfl .nil) (.inr rfl) ?_
  -- STOP: called; op 4: d=3 ["assign", ["t", 16]] guard=None (law.go:20)
  rintro _ _ _ ⟨rfl, rfl, bk, c1', cy1, hk1, hy1, rfl⟩
  rw [(ex19_src bk).1] at hk1 ⊢
  rw [(ex19_src bk).2.2] at hy1 ⊢
  rw [(ex19_src bk).2.1]
  generalize hG1 : ({ g0 with T := [⟨1, key7, 1, -1, bk⟩], c := c1', Y := addY g0.Y 1 [2], cy := cy1 } : GSt) = g1
  have x1 : Ex19 g1 bk := by subst hG1; exact ⟨rfl, rfl, rfl⟩
  have o1 : GOk g1 := by subst hG1; exact ⟨ex19_tok bk, hk1, rfl, fun _ => rfl, hy1, fun _ => rfl⟩
  have hM1 : g1.M = fun _ => none := by subst hG1; rfl
  have hD1 : g1.D = fun _ => 0 := by subst hG1; rfl
  have e1 : lookE g1 f19 0 = 0 ∧ lookL B g1 f19 0 = l0 ∧ lookM g1 f19 0 = takeM g1.M 1 (1, 4) := by
    have hz : mmay g1.M 1 (1, 4) = 0 := by rw [hM1]; rfl
    have := ex19_one x1 B (.inl hz)
    rw [hz] at this; exact this
  have hT1 : takeM g1.M 1 (1, 4) 1 = some (1, 4) := by rw [hM1]; rfl
  have y1 := x1.t
  refine RL.assign rfl rfl rfl rfl ?_
  refine RL.nil ?_
  refine NQ.seq ?_
  refine CW.only (.cons (k := 1) rfl (.cons (k := 3) rfl .nil)) ?_
  refine CW.seq ?_
  refine CW.region (ef := [3, 4]) (bk := [4]) ?_
  -- STOP: op; op 0: d=17 ["build", 35, [[0, ["c", ["int", "Go.IntKind.u8", 7]]]]] guard=None (law.go:21)
  refine RL.buildA (bytes key7) Try.zeroValue35 Try.runUnderlying35 Try.sizeOf5 rfl rfl rfl rfl rfl ?_
  -- STOP: op; op 1: d=18 ["build", 99, [[0, ["c", ["int", "Go.IntKind.i64", 2]]], [1, ["c", ["int", "Go.IntKind.i64", 1]]], [2, ["c", ["int", "Go.IntKind.u32", 1]]], [3, ["c", ["int", "Go.IntKind.u64", 4]]]]] guard=None (law.go:21)
  refine RL.buildS (f19z.cells (.slice none 0 0)) Try.zeroValue99 pl_99 rfl rfl rfl rfl rfl ?_
  refine RL.callv (sign_any f19z key7 none 0 0 rfl f19z_ok rfl (by decide)) Try.call42 rfl rfl rfl rfl (Lend.nilS' .nil) ?_
  refine RL.alloc Try.zeroValue99 rfl rfl rfl rfl rfl ?_
  intro b2
  -- STOP: op; op 4: d=None ["store", 99, ["t", 4], ["t", 19]] guard=None (law.go:21)
  refine RL.storeW (vs := f19.cells (.slice none 0 0)) Try.sizeOf99 rfl rfl rfl rfl rfl rfl rfl (ones_fr _ rfl) (by repeat (first | exact Upd.here | apply Upd.there)) hl rfl ?_
  refine RL.nil ?_
  refine NQ.seq ?_
  refine CW.seq ?_
  refine CW.regionD (.cons 0 (.cons 1 (.cons 3 (.fork [2, 4] (fun k => (bif Nat.beq k 2 then (Sq.of [4, 5, 6, 7]) else (Sq.of [2, 5, 6, 7]))))))) [2, 5] [2, 5] [0, 3, 6, 7] mixed (by kernel_rfl) ?_
  refine RL.move rfl rfl rfl rfl ?_
  first | refine RL.loadM Try.isAgg99 Try.sizeOf99 rfl rfl rfl rfl (by assumption) ?_ | refine RL.loadA Try.isAgg99 Try.sizeOf99 rfl rfl rfl rfl (by first | assumption | (apply RdsI.rds; assumption)) (by first | rfl | assumption | (simp only [List.length_map]; assumption) | (simp only [List.length_map, List.length_replicate, hl]; done) | (simp; done)) ?_ | refine RL.loadW Try.isAgg99 Try.sizeOf99 rfl rfl rfl rfl (by (solve | (repeat (first | exact List.Mem.head _ | apply List.Mem.tail)))) (by first | rfl | assumption | (simp only [List.length_map]; assumption) | (simp only [List.length_map, List.length_replicate, hl]; done) | (simp; done)) ?_
  refine RL.move rfl rfl rfl rfl ?_
  -- STOP: fork; todo top: ["code", ["region", 6, [{"d": 20, "op": ["move", ["t", 1]], "ty": 117, "pos": "law.go:22", "after": [], "guard": null}, {"d": 21, "op": ["load", 99, ["t", 4]], "ty": 99, "pos": "law.go:22", "after": [
  obtain ⟨x, r, hxr, hne⟩ := turned f19_ok.tag
  have hr : ((x + 1#8) :: r).length = 16 := by have := f19_ok.tag; rw [hxr] at this; exact this
  have gq : (f19.cells (.slice none 0 0))[0 + 5 + 0 * 1]? = some (U8 x) := by
    show (bytes f19.tag)[0]? = _
    rw [hxr]; rfl
  have hst : spl (f19.cells (.slice none 0 0)) (0 + 5 + 0 * 1) [U8 (x + 1#8)] = ({ f19 with tag := (x + 1#8) :: r } : Fr).cells (.slice none 0 0) := by
    have e : f19.cells (.slice none 0 0) = [.int .i64 2, .int .i64 1, .int .u32 1, .int .u64 4, .slice none 0 0] ++ bytes f19.tag := rfl
    rw [e, hxr, spl_set (by simp)]; rfl
  generalize hF3 : ({ f19 with tag := (x + 1#8) :: r } : Fr) = f3 at hst
  have o3f : f3.Ok := by subst hF3; exact ⟨f19_ok.ep, f19_ok.ct, hr⟩
  have hl3 := fr_len o3f.tag (.slice none 0 0)
  have ht3 : ¬ f3.tag = macTag (deriveK key7 epochL 1) f3.signed := by
    subst hF3
    intro e
    apply hne
    exact e
  refine RL.fork ⟨?_, ?_, trivial⟩
  ·
    refine RL.call (gcheck_any B g1 f19 none 0 0 0 hmo o1 f19_ok rfl (by decide)) Try.call53 rfl rfl rfl rfl rfl (by repeat (first | exact Pick.nil | apply Pick.take | apply Pick.leave)) (Lend.nilS' .nil) (.inr rfl) ?_
    -- STOP: called; op 4: d=24 ["load", 99, ["t", 4]] guard=None (law.go:22)
    rintro _ _ _ ⟨rfl, rfl, cm2, ct2, hcm2, hct2, rfl⟩
    rw [e1.1] at hct2 ⊢
    rw [e1.2.2] at hcm2 ⊢
    rw [e1.2.1]
    generalize hG2 : ({ g1 with l := l0, M := takeM g1.M 1 (1, 4), cm := cm2, D := chkD g1.D 0, ct := ct2 } : GSt) = g2
    have x2 : Ex19 g2 bk := by subst hG2; exact ⟨x1.t, rfl, x1.y⟩
    have o2 : GOk g2 := by subst hG2; exact ⟨o1.t, o1.k, rfl, hcm2, o1.y, hct2⟩
    have hM2 : g2.M = takeM g1.M 1 (1, 4) := by subst hG2; rfl
    have hD2 : g2.D = chkD g1.D 0 := by subst hG2; rfl
    have e2 : lookE g2 f19 0 = 170 ∧ lookL B g2 f19 0 = l0 ∧ lookM g2 f19 0 = g2.M := by
      have hz : mmay g2.M 1 (1, 4) = 170 := by rw [hM2, mmay, if_pos (by decide), hT1]; rfl
      have := ex19_one x2 B (.inr hz)
      rw [hz] at this
      refine ⟨this.1, this.2.1, ?_⟩
      rw [this.2.2, takeM, if_neg (by rw [hz]; decide)]
    first | refine RL.loadM Try.isAgg99 Try.sizeOf99 rfl rfl rfl rfl (by assumption) ?_ | refine RL.loadA Try.isAgg99 Try.sizeOf99 rfl rfl rfl rfl (by first | assumption | (apply RdsI.rds; assumption)) (by first | rfl | assumption | (simp only [List.length_map]; assumption) | (simp only [List.length_map, List.length_replicate, hl]; done) | (simp; done)) ?_ | refine RL.loadW Try.isAgg99 Try.sizeOf99 rfl rfl rfl rfl (by (solve | (repeat (first | exact List.Mem.head _ | apply List.Mem.tail)))) (by first | rfl | assumption | (simp only [List.length_map]; assumption) | (simp only [List.length_map, List.length_replicate, hl]; done) | (simp; done)) ?_
    refine RL.call (gcheck_any B g2 f19 none 0 0 0 hmo o2 f19_ok rfl (by decide)) Try.call53 rfl rfl rfl rfl rfl (by repeat (first | exact Pick.nil | apply Pick.take | apply Pick.leave)) (Lend.nilS' .nil) (.inr rfl) ?_
    -- STOP: called; op 6: d=5 ["assign", ["t", 22]] guard=None (law.go:22)
    rintro _ _ _ ⟨rfl, rfl, cm3, ct3, hcm3, hct3, rfl⟩
    rw [e2.1] at hct3 ⊢
    rw [e2.2.2] at hcm3 ⊢
    rw [e2.2.1]
    generalize hG3 : ({ g2 with l := l0, M := g2.M, cm := cm3, D := chkD g2.D 170, ct := ct3 } : GSt) = g3
    have x3 : Ex19 g3 bk := by subst hG3; exact ⟨x2.t, rfl, x2.y⟩
    have o3 : GOk g3 := by subst hG3; exact ⟨o2.t, o2.k, rfl, hcm3, o2.y, hct3⟩
    have hD3 : g3.D = chkD g2.D 170 := by subst hG3; rfl
    have e3 : lookE g3 f3 0 = 190 := by
      obtain ⟨-, -, hE⟩ := ex19_look x3 (f := f3) (by subst hF3; rfl) (by subst hF3; rfl) (by subst hF3; rfl)
      rw [hE, if_neg ht3]
    refine RL.assign rfl rfl rfl rfl ?_
    refine RL.assign rfl rfl rfl rfl ?_
    refine RL.nil ?_
    refine NQ.seq ?_
    refine CW.only (.cons (k := 1) rfl (.cons (k := 3) rfl (.cons (k := 4) rfl (.cons (k := 5) rfl (.cons (k := 6) rfl .nil))))) ?_
    refine CW.seq ?_
    refine CW.region (ef := [6]) (bk := [6]) ?_
    refine RL.fieldAddr fa_99_5 rfl rfl rfl rfl ?_
    refine RL.idxAAt (j := 0) Try.runUnderlying97 Try.sizeOf5 rfl rfl rfl rfl rfl rfl (by decide) ?_
    refine RL.load Try.isAgg5 rfl rfl rfl rfl (by first | assumption | (apply RdI.rd; assumption) | (apply Rd.get; (solve | (repeat (first | exact List.Mem.head _ | apply List.Mem.tail))); assumption) | (apply Rd.getS; (solve | (repeat (first | exact List.Mem.head _ | apply List.Mem.tail))); assumption) | (apply Rd.getO; (solve | (repeat (first | exact List.Mem.head _ | apply List.Mem.tail))); assumption) | (apply Rd.getI; (solve | (repeat (first | exact List.Mem.head _ | apply List.Mem.tail))); assumption) | (apply Rd.cel; (solve | (repeat (first | exact List.Mem.head _ | apply List.Mem.tail))); exact rfl) | (apply Rd.celI; (solve | (repeat (first | exact List.Mem.head _ | apply List.Mem.tail))); exact rfl)) ?_
    refine RL.bv8 (a := _) (b := 1#8) add8 rfl rfl rfl rfl rfl ?_
    refine RL.fieldAddr fa_99_5 rfl rfl rfl rfl ?_
    refine RL.idxAAt (j := 0) Try.runUnderlying97 Try.sizeOf5 rfl rfl rfl rfl rfl rfl (by decide) ?_
    -- STOP: op; op 6: d=None ["store", 5, ["t", 31], ["t", 29]] guard=None (law.go:23)
    refine RL.storeX (cs' := f3.cells (.slice none 0 0)) (vs := [_]) hst Try.sizeOf5 rfl rfl rfl rfl rfl rfl rfl rfl (by repeat (first | exact Upd.here | apply Upd.there)) (by rw [hl]; simp) ?_
    refine RL.nil ?_
    refine NQ.seq ?_
    refine CW.only (.cons (k := 1) rfl (.cons (k := 3) rfl (.cons (k := 4) rfl (.cons (k := 5) rfl (.cons (k := 6) rfl .nil))))) ?_
    refine CW.seq ?_
    refine CW.region (ef := [13, 18]) (bk := [13]) ?_
    refine RL.move rfl rfl rfl rfl ?_
    refine RL.bin rfl rfl rfl rfl rfl rfl ?_
    refine RL.move rfl rfl rfl rfl ?_
    apply RL.andB (d := 34) (dp := 37) (l' := (Sq.of [6, 7, 8, 9, 10, 11, 12, 13, 14, 15, 16, 17, 18, 19, 20, 21])) rfl (.cons (k := 1) rfl (.cons (k := 4) rfl (.cons (k := 6) rfl .nil)))
    ·
      intro hb3 K3
      refine RL.move rfl rfl rfl rfl ?_
      refine RL.bin rfl rfl rfl rfl rfl rfl ?_
      refine RL.pickT rfl rfl rfl rfl rfl ?_
      exact K3 _ (.cons rfl (.cons (k := 1) rfl (.cons (k := 4) rfl (.cons (k := 6) rfl .nil))))
    ·
      intro hb3 K3
      refine RL.skip rfl rfl rfl rfl ?_
      refine RL.skip rfl rfl rfl rfl ?_
      refine RL.pickF rfl rfl rfl rfl rfl ?_
      exact K3 _ (.cons rfl (.cons (k := 1) rfl (.cons (k := 4) rfl (.cons (k := 6) rfl .nil))))
    refine RL.move rfl rfl rfl rfl ?_
    apply RL.andB (d := 38) (dp := 41) (l' := (Sq.of [10, 11, 12, 13, 14, 15, 16, 17, 18, 19, 20, 21])) rfl (.cons (k := 1) rfl (.cons (k := 4) rfl .nil))
    ·
      intro hb7 K7
      refine RL.move rfl rfl rfl rfl ?_
      refine RL.bin rfl rfl rfl rfl rfl rfl ?_
      refine RL.pickT rfl rfl rfl rfl rfl ?_
      exact K7 _ (.cons rfl (.cons (k := 1) rfl (.cons (k := 4) rfl .nil)))
    ·
      intro hb7 K7
      refine RL.skip rfl rfl rfl rfl ?_
      refine RL.skip rfl rfl rfl rfl ?_
      refine RL.pickF rfl rfl rfl rfl rfl ?_
      exact K7 _ (.cons rfl (.cons (k := 1) rfl (.cons (k := 4) rfl .nil)))
    refine RL.move rfl rfl rfl rfl ?_
    -- STOP: part 42; op 11: d=43 ["move", ["t", 1]] guard=[10, True] (law.go:24)
    refine RL.cast (d := 42) (v' := .bool true) rfl (rfl) ?_
    refine RL.move rfl rfl rfl rfl ?_
    first | refine RL.loadM Try.isAgg99 Try.sizeOf99 rfl rfl rfl rfl (by assumption) ?_ | refine RL.loadA Try.isAgg99 Try.sizeOf99 rfl rfl rfl rfl (by first | assumption | (apply RdsI.rds; assumption)) (by first | rfl | assumption | (simp only [List.length_map]; assumption) | (simp only [List.length_map, List.length_replicate, hl3]; done) | (simp; done)) ?_ | refine RL.loadW Try.isAgg99 Try.sizeOf99 rfl rfl rfl rfl (by (solve | (repeat (first | exact List.Mem.head _ | apply List.Mem.tail)))) (by first | rfl | assumption | (simp only [List.length_map]; assumption) | (simp only [List.length_map, List.length_replicate, hl3]; done) | (simp; done)) ?_
    refine RL.call (gcheck_any B g3 f3 none 0 0 0 hmo o3 o3f (by subst hF3; rfl) (by decide)) Try.call53 rfl rfl rfl rfl rfl (by repeat (first | exact Pick.nil | apply Pick.take | apply Pick.leave)) (by rw [show bytes f3.b = [] by subst hF3; rfl]; exact Lend.nilS' .nil) (.inr rfl) ?_
    -- STOP: called; op 14: d=46 ["binOp", "Go.BinOp.eql", 32, ["t", 45], ["c", ["int", "Go.IntKind.i64", 190]], 32] guard=[10, True] (law.go:24)
    rintro _ _ _ ⟨rfl, rfl, cm4, ct4, -, hct4, rfl⟩
    rw [e3] at hct4 ⊢
    refine RL.bin rfl rfl rfl rfl rfl rfl ?_
    refine RL.pickT rfl rfl rfl rfl rfl ?_
    refine RL.move rfl rfl rfl rfl ?_
    apply RL.andB (d := 48) (dp := 52) (l' := (Sq.of [21])) rfl .nil
    ·
      intro hb17 K17
      refine RL.move rfl rfl rfl rfl ?_
      refine RL.callv (gcount_any B ct4 (chkD g3.D 190) 0 hct4) Try.call58 rfl rfl rfl rfl (by repeat (first | exact Lend.nil | (refine Lend.inI ?_ ?_; (solve | (repeat (first | exact List.Mem.head _ | apply List.Mem.tail)))) | (refine Lend.inH ?_ ?_; (solve | (repeat (first | exact List.Mem.head _ | apply List.Mem.tail)))))) ?_
      refine RL.bin rfl rfl rfl rfl rfl rfl ?_
      refine RL.pickT rfl rfl rfl rfl rfl ?_
      exact K17 _ (.cons rfl .nil)
    ·
      intro hb17 K17
      refine RL.skip rfl rfl rfl rfl ?_
      refine RL.skip rfl rfl rfl rfl ?_
      refine RL.skip rfl rfl rfl rfl ?_
      refine RL.pickF rfl rfl rfl rfl rfl ?_
      exact K17 _ (.cons rfl .nil)
    refine RL.assign rfl rfl rfl rfl ?_
    refine RL.nil ?_
    refine NQ.seq ?_
    refine CW.ret ?_
    -- STOP: ret; end
    exact RQ.post (res1 rfl rfl) (Split.none _) ⟨by rw [hD3, hD2, hD1]; rfl, rfl, rfl⟩
  ·
    first | refine RL.loadM Try.isAgg99 Try.sizeOf99 rfl rfl rfl rfl (by assumption) ?_ | refine RL.loadA Try.isAgg99 Try.sizeOf99 rfl rfl rfl rfl (by first | assumption | (apply RdsI.rds; assumption)) (by first | rfl | assumption | (simp only [List.length_map]; assumption) | (simp only [List.length_map, List.length_replicate, hl3]; done) | (simp; done)) ?_ | refine RL.loadW Try.isAgg99 Try.sizeOf99 rfl rfl rfl rfl (by (solve | (repeat (first | exact List.Mem.head _ | apply List.Mem.tail)))) (by first | rfl | assumption | (simp only [List.length_map]; assumption) | (simp only [List.length_map, List.length_replicate, hl3]; done) | (simp; done)) ?_
    refine RL.call (gcheck_any B g1 f19 none 0 0 0 hmo o1 f19_ok rfl (by decide)) Try.call53 rfl rfl rfl rfl rfl (by repeat (first | exact Pick.nil | apply Pick.take | apply Pick.leave)) (Lend.nilS' .nil) (.inr rfl) ?_
    -- STOP: called; op 5: d=25 ["call", ["f", 53], [["t", 23], ["c", ["int", "Go.IntKind.i64", 0]], ["t", 24]], [117, 3, 99]] guard=None (law.go:22)
    rintro _ _ _ ⟨rfl, rfl, cm2, ct2, hcm2, hct2, rfl⟩
    rw [e1.1] at hct2 ⊢
    rw [e1.2.2] at hcm2 ⊢
    rw [e1.2.1]
    generalize hG2 : ({ g1 with l := l0, M := takeM g1.M 1 (1, 4), cm := cm2, D := chkD g1.D 0, ct := ct2 } : GSt) = g2
    have x2 : Ex19 g2 bk := by subst hG2; exact ⟨x1.t, rfl, x1.y⟩
    have o2 : GOk g2 := by subst hG2; exact ⟨o1.t, o1.k, rfl, hcm2, o1.y, hct2⟩
    have hM2 : g2.M = takeM g1.M 1 (1, 4) := by subst hG2; rfl
    have hD2 : g2.D = chkD g1.D 0 := by subst hG2; rfl
    have e2 : lookE g2 f19 0 = 170 ∧ lookL B g2 f19 0 = l0 ∧ lookM g2 f19 0 = g2.M := by
      have hz : mmay g2.M 1 (1, 4) = 170 := by rw [hM2, mmay, if_pos (by decide), hT1]; rfl
      have := ex19_one x2 B (.inr hz)
      rw [hz] at this
      refine ⟨this.1, this.2.1, ?_⟩
      rw [this.2.2, takeM, if_neg (by rw [hz]; decide)]
    refine RL.call (gcheck_any B g2 f19 none 0 0 0 hmo o2 f19_ok rfl (by decide)) Try.call53 rfl rfl rfl rfl rfl (by repeat (first | exact Pick.nil | apply Pick.take | apply Pick.leave)) (Lend.nilS' .nil) (.inr rfl) ?_
    -- STOP: called; op 6: d=5 ["assign", ["t", 22]] guard=None (law.go:22)
    rintro _ _ _ ⟨rfl, rfl, cm3, ct3, hcm3, hct3, rfl⟩
    rw [e2.1] at hct3 ⊢
    rw [e2.2.2] at hcm3 ⊢
    rw [e2.2.1]
    generalize hG3 : ({ g2 with l := l0, M := g2.M, cm := cm3, D := chkD g2.D 170, ct := ct3 } : GSt) = g3
    have x3 : Ex19 g3 bk := by subst hG3; exact ⟨x2.t, rfl, x2.y⟩
    have o3 : GOk g3 := by subst hG3; exact ⟨o2.t, o2.k, rfl, hcm3, o2.y, hct3⟩
    have hD3 : g3.D = chkD g2.D 170 := by subst hG3; rfl
    have e3 : lookE g3 f3 0 = 190 := by
      obtain ⟨-, -, hE⟩ := ex19_look x3 (f := f3) (by subst hF3; rfl) (by subst hF3; rfl) (by subst hF3; rfl)
      rw [hE, if_neg ht3]
    refine RL.assign rfl rfl rfl rfl ?_
    refine RL.assign rfl rfl rfl rfl ?_
    refine RL.nil ?_
    refine NQ.seq ?_
    refine CW.only (.cons (k := 1) rfl (.cons (k := 3) rfl (.cons (k := 4) rfl (.cons (k := 5) rfl (.cons (k := 6) rfl .nil))))) ?_
    refine CW.seq ?_
    refine CW.region (ef := [6]) (bk := [6]) ?_
    refine RL.fieldAddr fa_99_5 rfl rfl rfl rfl ?_
    refine RL.idxAAt (j := 0) Try.runUnderlying97 Try.sizeOf5 rfl rfl rfl rfl rfl rfl (by decide) ?_
    refine RL.load Try.isAgg5 rfl rfl rfl rfl (by first | assumption | (apply RdI.rd; assumption) | (apply Rd.get; (solve | (repeat (first | exact List.Mem.head _ | apply List.Mem.tail))); assumption) | (apply Rd.getS; (solve | (repeat (first | exact List.Mem.head _ | apply List.Mem.tail))); assumption) | (apply Rd.getO; (solve | (repeat (first | exact List.Mem.head _ | apply List.Mem.tail))); assumption) | (apply Rd.getI; (solve | (repeat (first | exact List.Mem.head _ | apply List.Mem.tail))); assumption) | (apply Rd.cel; (solve | (repeat (first | exact List.Mem.head _ | apply List.Mem.tail))); exact rfl) | (apply Rd.celI; (solve | (repeat (first | exact List.Mem.head _ | apply List.Mem.tail))); exact rfl)) ?_
    refine RL.bv8 (a := _) (b := 1#8) add8 rfl rfl rfl rfl rfl ?_
    refine RL.fieldAddr fa_99_5 rfl rfl rfl rfl ?_
    refine RL.idxAAt (j := 0) Try.runUnderlying97 Try.sizeOf5 rfl rfl rfl rfl rfl rfl (by decide) ?_
    -- STOP: op; op 6: d=None ["store", 5, ["t", 31], ["t", 29]] guard=None (law.go:23)
    refine RL.storeX (cs' := f3.cells (.slice none 0 0)) (vs := [_]) hst Try.sizeOf5 rfl rfl rfl rfl rfl rfl rfl rfl (by repeat (first | exact Upd.here | apply Upd.there)) (by rw [hl]; simp) ?_
    refine RL.nil ?_
    refine NQ.seq ?_
    refine CW.only (.cons (k := 1) rfl (.cons (k := 3) rfl (.cons (k := 4) rfl (.cons (k := 5) rfl (.cons (k := 6) rfl .nil))))) ?_
    refine CW.seq ?_
    refine CW.region (ef := [13]) (bk := [13]) ?_
    refine RL.move rfl rfl rfl rfl ?_
    refine RL.bin rfl rfl rfl rfl rfl rfl ?_
    refine RL.move rfl rfl rfl rfl ?_
    apply RL.andB (d := 34) (dp := 37) (l' := (Sq.of [6, 7, 8, 9, 10, 11, 12, 13, 14, 15, 16, 17, 18, 19, 20, 21])) rfl (.cons (k := 1) rfl (.cons (k := 4) rfl (.cons (k := 6) rfl .nil)))
    ·
      intro hb3 K3
      refine RL.move rfl rfl rfl rfl ?_
      refine RL.bin rfl rfl rfl rfl rfl rfl ?_
      refine RL.pickT rfl rfl rfl rfl rfl ?_
      exact K3 _ (.cons rfl (.cons (k := 1) rfl (.cons (k := 4) rfl (.cons (k := 6) rfl .nil))))
    ·
      intro hb3 K3
      refine RL.skip rfl rfl rfl rfl ?_
      refine RL.skip rfl rfl rfl rfl ?_
      refine RL.pickF rfl rfl rfl rfl rfl ?_
      exact K3 _ (.cons rfl (.cons (k := 1) rfl (.cons (k := 4) rfl (.cons (k := 6) rfl .nil))))
    refine RL.move rfl rfl rfl rfl ?_
    apply RL.andB (d := 38) (dp := 41) (l' := (Sq.of [10, 11, 12, 13, 14, 15, 16, 17, 18, 19, 20, 21])) rfl (.cons (k := 1) rfl (.cons (k := 4) rfl .nil))
    ·
      intro hb7 K7
      refine RL.move rfl rfl rfl rfl ?_
      refine RL.bin rfl rfl rfl rfl rfl rfl ?_
      refine RL.pickT rfl rfl rfl rfl rfl ?_
      exact K7 _ (.cons rfl (.cons (k := 1) rfl (.cons (k := 4) rfl .nil)))
    ·
      intro hb7 K7
      refine RL.skip rfl rfl rfl rfl ?_
      refine RL.skip rfl rfl rfl rfl ?_
      refine RL.pickF rfl rfl rfl rfl rfl ?_
      exact K7 _ (.cons rfl (.cons (k := 1) rfl (.cons (k := 4) rfl .nil)))
    refine RL.move rfl rfl rfl rfl ?_
    -- STOP: part 42; op 11: d=43 ["move", ["t", 1]] guard=[10, True] (law.go:24)
    refine RL.cast (d := 42) (v' := .bool true) rfl (rfl) ?_
    refine RL.move rfl rfl rfl rfl ?_
    first | refine RL.loadM Try.isAgg99 Try.sizeOf99 rfl rfl rfl rfl (by assumption) ?_ | refine RL.loadA Try.isAgg99 Try.sizeOf99 rfl rfl rfl rfl (by first | assumption | (apply RdsI.rds; assumption)) (by first | rfl | assumption | (simp only [List.length_map]; assumption) | (simp only [List.length_map, List.length_replicate, hl3]; done) | (simp; done)) ?_ | refine RL.loadW Try.isAgg99 Try.sizeOf99 rfl rfl rfl rfl (by (solve | (repeat (first | exact List.Mem.head _ | apply List.Mem.tail)))) (by first | rfl | assumption | (simp only [List.length_map]; assumption) | (simp only [List.length_map, List.length_replicate, hl3]; done) | (simp; done)) ?_
    refine RL.call (gcheck_any B g3 f3 none 0 0 0 hmo o3 o3f (by subst hF3; rfl) (by decide)) Try.call53 rfl rfl rfl rfl rfl (by repeat (first | exact Pick.nil | apply Pick.take | apply Pick.leave)) (by rw [show bytes f3.b = [] by subst hF3; rfl]; exact Lend.nilS' .nil) (.inr rfl) ?_
    -- STOP: called; op 14: d=46 ["binOp", "Go.BinOp.eql", 32, ["t", 45], ["c", ["int", "Go.IntKind.i64", 190]], 32] guard=[10, True] (law.go:24)
    rintro _ _ _ ⟨rfl, rfl, cm4, ct4, -, hct4, rfl⟩
    rw [e3] at hct4 ⊢
    refine RL.bin rfl rfl rfl rfl rfl rfl ?_
    refine RL.pickT rfl rfl rfl rfl rfl ?_
    refine RL.move rfl rfl rfl rfl ?_
    apply RL.andB (d := 48) (dp := 52) (l' := (Sq.of [21])) rfl .nil
    ·
      intro hb17 K17
      refine RL.move rfl rfl rfl rfl ?_
      refine RL.callv (gcount_any B ct4 (chkD g3.D 190) 0 hct4) Try.call58 rfl rfl rfl rfl (by repeat (first | exact Lend.nil | (refine Lend.inI ?_ ?_; (solve | (repeat (first | exact List.Mem.head _ | apply List.Mem.tail)))) | (refine Lend.inH ?_ ?_; (solve | (repeat (first | exact List.Mem.head _ | apply List.Mem.tail)))))) ?_
      refine RL.bin rfl rfl rfl rfl rfl rfl ?_
      refine RL.pickT rfl rfl rfl rfl rfl ?_
      exact K17 _ (.cons rfl .nil)
    ·
      intro hb17 K17
      refine RL.skip rfl rfl rfl rfl ?_
      refine RL.skip rfl rfl rfl rfl ?_
      refine RL.skip rfl rfl rfl rfl ?_
      refine RL.pickF rfl rfl rfl rfl rfl ?_
      exact K17 _ (.cons rfl .nil)
    refine RL.assign rfl rfl rfl rfl ?_
    refine RL.nil ?_
    refine NQ.seq ?_
    refine CW.ret ?_
    -- STOP: ret; end
    exact RQ.post (res1 rfl rfl) (Split.none _) ⟨by rw [hD3, hD2, hD1]; rfl, rfl, rfl⟩
theorem asigns (f : Fr) (k : List B8) (p : Option Addr) (c n : Nat) (hk : k.length = 32) (hf : f.Ok) (hn : f.b.length = n) (hc : n ≤ c) (hb : n ≤ maxLen) : Spc Try.prog 6 #[.agg (bytes k).toArray, .agg (f.cells (.slice p n c)).toArray] [sls p 1 n (bytes f.b)] [] (Is (.bool true)) := by
  have hl := fr_len hf.tag (.slice p n c)
  refine Spc.enter Try.func6 rfl rfl rfl (fun w0 hw0 => ?_)
  refine CW.seq ?_
  refine CW.region (ef := [0, 1]) (bk := []) ?_
  refine RL.box rfl rfl rfl rfl rfl rfl ?_
  intro b1
  refine RL.box rfl rfl rfl rfl rfl rfl ?_
  intro b2
  refine RL.assign rfl rfl rfl rfl ?_
  refine RL.nil ?_
  refine NQ.seq ?_
  refine CW.seq ?_
  -- STOP: region; todo top: ["code", ["region", 1, [{"d": 5, "op": ["load", 99, ["t", 3]], "ty": 99, "pos": "law.go:110", "after": [], "guard": null}, {"d": 6, "op": ["call", ["f", 40], [["t", 5]], [99]], "ty": 99, "pos": "law.g
  refine CW.region (ef := [1, 2]) (bk := [2]) ?_
  first | refine RL.loadM Try.isAgg99 Try.sizeOf99 rfl rfl rfl rfl (by assumption) ?_ | refine RL.loadA Try.isAgg99 Try.sizeOf99 rfl rfl rfl rfl (by first | assumption | (apply RdsI.rds; assumption)) (by first | rfl | assumption | (simp only [List.length_map]; assumption) | (simp only [List.length_map, List.length_replicate, hk, hl]; done) | (simp; done)) ?_ | refine RL.loadW Try.isAgg99 Try.sizeOf99 rfl rfl rfl rfl (by (solve | (repeat (first | exact List.Mem.head _ | apply List.Mem.tail)))) (by first | rfl | assumption | (simp only [List.length_map]; assumption) | (simp only [List.length_map, List.length_replicate, hk, hl]; done) | (simp; done)) ?_
  refine RL.call (few19_any f p c n hf hn hc hb) Try.call40 rfl rfl rfl rfl rfl (by repeat (first | exact Pick.nil | apply Pick.take | apply Pick.leave)) (by repeat (first | exact Lend.nil | (refine Lend.inI ?_ ?_; (solve | (repeat (first | exact List.Mem.head _ | apply List.Mem.tail)))) | (refine Lend.inH ?_ ?_; (solve | (repeat (first | exact List.Mem.head _ | apply List.Mem.tail)))))) (.inl rfl) ?_
  rintro _ _ _ ⟨ob1, cap1, rfl, rfl, rfl, ho1⟩
  -- STOP: op; op 2: d=None ["store", 99, ["t", 3], ["t", 6]] guard=None (law.go:110)
  have hf2 : (f.few 60).Ok := ⟨hf.ep, hf.ct, hf.tag⟩
  have hn2 : (f.few 60).b.length = min n 60 := by show (f.b.take 60).length = _; rw [List.length_take, hn]; omega
  have hl2 := fr_len hf2.tag (slO ob1 (min n 60) cap1)
  refine RL.storeW (vs := (f.few 60).cells (slO ob1 (min n 60) cap1)) Try.sizeOf99 rfl rfl rfl rfl rfl rfl rfl (ones_fr _ rfl) (by repeat (first | exact Upd.here | apply Upd.there)) hl2 hl ?_
  refine RL.nil ?_
  refine NQ.seq ?_
  refine CW.seq ?_
  -- STOP: region; todo top: ["code", ["region", 2, [{"d": 7, "op": ["load", 35, ["t", 2]], "ty": 35, "pos": "law.go:111", "after": [], "guard": null}, {"d": 8, "op": ["load", 99, ["t", 3]], "ty": 99, "pos": "law.go:111", "after"
  refine CW.fact (p := min n 60 ≤ cap1) (fun w hC => own_cap (hC.s.h (own ob1 cap1 5 1 (min n 60) (bytes (f.few 60).b)) (by repeat (first | exact List.Mem.head _ | apply List.Mem.tail)))) (fun hcl => ?_)
  have hff : (f.few 60).few 60 = f.few 60 := by simp [Fr.few, List.take_take]
  have hmm : min (min n 60) 60 = min n 60 := by omega
  have hm60 : min n 60 ≤ 60 := by omega
  generalize f.few 60 = f2 at *
  generalize min n 60 = m at *
  have hfw := few19_any f2 (ob1.map fun b => ⟨b, 0, none⟩) cap1 m hf2 hn2 hcl (by unfold maxLen; omega)
  rw [hff, hmm] at hfw
  have hs := Fr.sign_ok hf2 k
  refine CW.regionD (Sq.of [0, 1, 4, 5, 2, 3, 6, 7, 8, 9, 10, 11]) [2] [] [8, 10, 11] mixed (by kernel_rfl) ?_
  first | refine RL.loadM Try.isAgg35 Try.sizeOf35 rfl rfl rfl rfl (by assumption) ?_ | refine RL.loadA Try.isAgg35 Try.sizeOf35 rfl rfl rfl rfl (by first | assumption | (apply RdsI.rds; assumption)) (by first | rfl | assumption | (simp only [List.length_map]; assumption) | (simp only [List.length_map, List.length_replicate, hk, hl2]; done) | (simp; done)) ?_ | refine RL.loadW Try.isAgg35 Try.sizeOf35 rfl rfl rfl rfl (by (solve | (repeat (first | exact List.Mem.head _ | apply List.Mem.tail)))) (by first | rfl | assumption | (simp only [List.length_map]; assumption) | (simp only [List.length_map, List.length_replicate, hk, hl2]; done) | (simp; done)) ?_
  first | refine RL.loadM Try.isAgg99 Try.sizeOf99 rfl rfl rfl rfl (by assumption) ?_ | refine RL.loadA Try.isAgg99 Try.sizeOf99 rfl rfl rfl rfl (by first | assumption | (apply RdsI.rds; assumption)) (by first | rfl | assumption | (simp only [List.length_map]; assumption) | (simp only [List.length_map, List.length_replicate, hk, hl2]; done) | (simp; done)) ?_ | refine RL.loadW Try.isAgg99 Try.sizeOf99 rfl rfl rfl rfl (by (solve | (repeat (first | exact List.Mem.head _ | apply List.Mem.tail)))) (by first | rfl | assumption | (simp only [List.length_map]; assumption) | (simp only [List.length_map, List.length_replicate, hk, hl2]; done) | (simp; done)) ?_
  first | refine RL.loadM Try.isAgg35 Try.sizeOf35 rfl rfl rfl rfl (by assumption) ?_ | refine RL.loadA Try.isAgg35 Try.sizeOf35 rfl rfl rfl rfl (by first | assumption | (apply RdsI.rds; assumption)) (by first | rfl | assumption | (simp only [List.length_map]; assumption) | (simp only [List.length_map, List.length_replicate, hk, hl2]; done) | (simp; done)) ?_ | refine RL.loadW Try.isAgg35 Try.sizeOf35 rfl rfl rfl rfl (by (solve | (repeat (first | exact List.Mem.head _ | apply List.Mem.tail)))) (by first | rfl | assumption | (simp only [List.length_map]; assumption) | (simp only [List.length_map, List.length_replicate, hk, hl2]; done) | (simp; done)) ?_
  first | refine RL.loadM Try.isAgg99 Try.sizeOf99 rfl rfl rfl rfl (by assumption) ?_ | refine RL.loadA Try.isAgg99 Try.sizeOf99 rfl rfl rfl rfl (by first | assumption | (apply RdsI.rds; assumption)) (by first | rfl | assumption | (simp only [List.length_map]; assumption) | (simp only [List.length_map, List.length_replicate, hk, hl2]; done) | (simp; done)) ?_ | refine RL.loadW Try.isAgg99 Try.sizeOf99 rfl rfl rfl rfl (by (solve | (repeat (first | exact List.Mem.head _ | apply List.Mem.tail)))) (by first | rfl | assumption | (simp only [List.length_map]; assumption) | (simp only [List.length_map, List.length_replicate, hk, hl2]; done) | (simp; done)) ?_
  refine RL.call (hfw) Try.call40 rfl rfl rfl rfl rfl (by repeat (first | exact Pick.nil | apply Pick.take | apply Pick.leave)) (Lend.own (by repeat (first | exact List.Mem.head _ | apply List.Mem.tail)) .nil) (.inl rfl) ?_
  rintro _ _ _ ⟨ob2, cap2, rfl, rfl, rfl, ho2⟩
  refine RL.callv (sign_any f2 k (ob2.map fun b => ⟨b, 0, none⟩) cap2 m hk hf2 hn2 (by omega)) Try.call42 rfl rfl rfl rfl (Lend.own (by repeat (first | exact List.Mem.head _ | apply List.Mem.tail)) .nil) ?_
  refine RL.callv (rsign_any f2 k (ob1.map fun b => ⟨b, 0, none⟩) cap1 m hk hf2 hn2 (by omega)) Try.call43 rfl rfl rfl rfl (Lend.own (by repeat (first | exact List.Mem.head _ | apply List.Mem.tail)) .nil) ?_
  refine RL.callv (frsame_refl (f2.sign k) (ob2.map fun b => ⟨b, 0, none⟩) (ob1.map fun b => ⟨b, 0, none⟩) m m cap2 cap1 hs) Try.call41 rfl rfl rfl rfl (Lend.own (by repeat (first | exact List.Mem.head _ | apply List.Mem.tail)) (Lend.own (by repeat (first | exact List.Mem.head _ | apply List.Mem.tail)) .nil)) ?_
  refine RL.move rfl rfl rfl rfl ?_
  apply RL.andB (d := 15) (dp := 17) (l' := (Sq.of [11])) rfl (.cons (k := 4) rfl .nil)
  ·
    intro hb9 K9
    refine RL.callv (works19) Try.call44 rfl rfl rfl rfl (by repeat (first | exact Lend.nil | (refine Lend.inI ?_ ?_; (solve | (repeat (first | exact List.Mem.head _ | apply List.Mem.tail)))) | (refine Lend.inH ?_ ?_; (solve | (repeat (first | exact List.Mem.head _ | apply List.Mem.tail)))))) ?_
    refine RL.pickT rfl rfl rfl rfl rfl ?_
    exact K9 _ (.cons rfl (.cons (k := 4) rfl .nil))
  ·
    intro hb9 K9
    refine RL.skip rfl rfl rfl rfl ?_
    refine RL.pickF rfl rfl rfl rfl rfl ?_
    exact K9 _ (.cons rfl (.cons (k := 4) rfl .nil))
  refine RL.assign rfl rfl rfl rfl ?_
  refine RL.nil ?_
  refine NQ.seq ?_
  refine CW.ret ?_
  -- STOP: ret; end
  exact RQ.post (res1 rfl rfl) (Split.none _) ⟨rfl, rfl, rfl⟩
end Go.Proofs.Ytkkfdoippibfkaa

/- Readers of frames. -/
namespace Go.Proofs.Ytkkfdoippibfkaa
open Go.PK
noncomputable def rU64 : Rdr Try.prog 50 Int := Rdr.int .u64 (by kernel_rfl) (by kernel_rfl)
noncomputable def rBytes : Rdr Try.prog 95 (Sl B8) := rU8.slice 1 (by kernel_rfl) (by kernel_rfl) (by kernel_rfl) (by decide) (List.map U8) (flat_one U8)
noncomputable def rTag : Rdr Try.prog 97 (List B8) := rU8.array 16 1 (by kernel_rfl) (by kernel_rfl) (by kernel_rfl) (List.map U8) (flat_one U8)
/-- A frame that came in. -/
structure FrA where
  f : Fr
  p : Option Addr
  c : Nat
abbrev FrA.sl (x : FrA) : Value := .slice x.p x.f.b.length x.c
structure FrA.Ok (x : FrA) : Prop where
  f : x.f.Ok
  c : x.f.b.length ≤ x.c
  b : x.f.b.length ≤ maxLen
set_option maxRecDepth 100000
noncomputable def rFr : Rdr Try.prog 99 FrA :=
  Rdr.struct (fs := [Field.mk "Kind" 3 0 false "" "" 0, Field.mk "Source" 3 1 false "" "" 8, Field.mk "Epoch" 31 2 false "" "" 16, Field.mk "Counter" 50 3 false "" "" 24, Field.mk "Body" 95 4 false "" "" 32, Field.mk "Tag" 97 5 false "" "" 56].toArray) (tot := 21) (α := Int × Int × Int × Int × Sl B8 × List B8 × Unit)
    (by kernel_rfl) (by kernel_rfl)
    (.cons (k := 1) rInt rfl (by kernel_rfl) (by decide) (.cons (k := 1) rInt rfl (by kernel_rfl) (by decide) (.cons (k := 1) rU32 rfl (by kernel_rfl) (by decide) (.cons (k := 1) rU64 rfl (by kernel_rfl) (by decide) (.cons (k := 1) rBytes rfl (by kernel_rfl) (by decide) (.cons (k := 16) rTag rfl (by kernel_rfl) (by decide) .nil))))))
    (fun x => x.f.cells x.sl) (fun x => [sls x.p 1 x.f.b.length (bytes x.f.b)]) FrA.Ok
    (fun ⟨kd, sr, ep, ct, s, tg, _⟩ h => by
      obtain ⟨h1, h2, h3, h4, h5, h6, -⟩ := h
      obtain ⟨h6, h6'⟩ := h6
      obtain ⟨h5, h5', -⟩ := h5
      have h5 : s.l.length ≤ s.c := h5
      have h5' : s.c ≤ maxLen := h5'
      have hb := wfk_bounds h3
      have hb : 0 ≤ ep ∧ ep ≤ 4294967295 := hb
      have hc := wfk_bounds h4
      have hc : 0 ≤ ct ∧ ct ≤ 18446744073709551615 := hc
      refine ⟨⟨⟨kd, sr, ep.toNat, ct.toNat, s.l, tg⟩, s.p, s.c⟩, ?_, ⟨⟨by show ep.toNat < _; omega, by show ct.toNat < _; omega, h6⟩, h5, Nat.le_trans h5 h5'⟩, ?_⟩
      · show _ = [Value.int .i64 kd] ++ ([Value.int .i64 sr] ++ ([Value.int .u32 ep] ++ ([Value.int .u64 ct] ++ ([Value.slice s.p s.l.length s.c] ++ (bytes tg ++ [])))))
        simp [Fr.cells, Int.toNat_of_nonneg hb.1, Int.toNat_of_nonneg hc.1]
      · intro y hy
        rw [List.mem_singleton.1 hy]
        simp [Flds.cons, rBytes, Rdr.slice])
    (fun x h => fr_len h.f.tag _)
end Go.Proofs.Ytkkfdoippibfkaa

namespace Go.Proofs.Ytkkfdoippibfkaa
open Go.PK
theorem authSigns_call (W : World) (k : List B8) (x : FrA) (hk : rKey.ok k) (hx : rFr.ok x) (_ : ∀ y ∈ rKey.its k, y.A W) (tx : ∀ y ∈ rFr.its x, y.A W) :
    Calls Try.prog 6 #[rKey.val k, rFr.val x] W (fun e w' => e = .returned (.bool true) ∧ RowKit.Below W.heap.size W w') :=
  (asigns x.f k x.p x.c x.f.b.length hk.1 hx.f rfl hx.c hx.b).lawI tx
end Go.Proofs.Ytkkfdoippibfkaa
