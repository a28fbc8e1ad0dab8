import Derived.Test.YtkkfdoippibfkaaAA
import Derived.Test.YtkkfdoippibfkaaKA
import Derived.Test.YtkkfdoippibfkaaAH
namespace Go.Proofs.Ytkkfdoippibfkaa
open Go.PK

/-- A frame's tag is looked at. -/
def tagOk (g : GSt) (f : Fr) (t : Int) : Bool := f.tag == macTag (keyM g.T f.sr f.ep t).1 f.signed
def tagE (g : GSt) (f : Fr) (t : Int) : Int := if (keyM g.T f.sr f.ep t).2 = 0 then (if tagOk g f t = true then 0 else 190) else (keyM g.T f.sr f.ep t).2
def tagG (B : GB) (g : GSt) (f : Fr) (t : Int) : GSt := if (keyM g.T f.sr f.ep t).2 = 0 then (if tagOk g f t = true then g else { g with l := failL B.mo B.ti g.l f.sr t }) else g
def GR (B : GB) (g : GSt) (x : Int) : Value → List It → List It → Prop := fun v I' H' => v = .int .i64 x ∧ I' = [] ∧ H' = GI B g
theorem joined_one (p : Option Addr) (c : Nat) (m : List B8) : joined [⟨p, c, m⟩] = m := by simp [joined]
theorem gtag_any (B : GB) (g : GSt) (f : Fr) (p : Option Addr) (c n : Nat) (t : Int) (hmo : B.mo ≠ 0) (hg : GOk g) (hf : f.Ok) (hn : f.b.length = n) (hb : n ≤ 900000) :
    Spc Try.prog 158 #[.pointer (some ⟨B.gb, 0, none⟩), .int .i64 t, .agg (f.cells (.slice p n c)).toArray] [sls p 1 n (bytes f.b)] (GI B g) (GR B (tagG B g f t) (tagE g f t)) := by
  have hl := fr_len hf.tag (.slice p n c)
  have hk := keyM_len g.T f.sr f.ep t
  have hsl := signed_len f
  refine Spc.enter Try.func158 rfl rfl rfl (fun w0 hw0 => ?_)
  refine CW.seq ?_
  refine CW.region (ef := [0]) (bk := []) ?_
  refine RL.box rfl rfl rfl rfl rfl rfl ?_
  intro b1
  refine RL.assign rfl rfl rfl rfl ?_
  refine RL.nil ?_
  refine NQ.seq ?_
  refine CW.seq ?_
  refine CW.regionD (Sq.of [0, 1, 2, 3, 4, 5, 6, 7, 8, 9, 10, 11, 12, 13, 14, 15]) [13, 14] [14] [0, 1, 2, 4, 6, 8, 10, 11, 12, 15] mixed (by kernel_rfl) ?_
  refine RL.move rfl rfl rfl rfl ?_
  refine RL.nilCheck rfl rfl rfl rfl ?_
  refine RL.fieldAddr fa_123_0 rfl rfl rfl rfl ?_
  refine RL.load Try.isAgg24 rfl rfl rfl rfl (by first | assumption | (apply RdI.rd; assumption) | (apply Rd.get; (solve | (repeat (first | exact List.Mem.head _ | apply List.Mem.tail))); assumption) | (apply Rd.getS; (solve | (repeat (first | exact List.Mem.head _ | apply List.Mem.tail))); assumption) | (apply Rd.getO; (solve | (repeat (first | exact List.Mem.head _ | apply List.Mem.tail))); assumption) | (apply Rd.getI; (solve | (repeat (first | exact List.Mem.head _ | apply List.Mem.tail))); assumption) | (apply Rd.cel; (solve | (repeat (first | exact List.Mem.head _ | apply List.Mem.tail))); exact rfl) | (apply Rd.celI; (solve | (repeat (first | exact List.Mem.head _ | apply List.Mem.tail))); exact rfl)) ?_
  refine RL.fieldAddr fa_99_1 rfl rfl rfl rfl ?_
  refine RL.load Try.isAgg3 rfl rfl rfl rfl (by first | assumption | (apply RdI.rd; assumption) | (apply Rd.get; (solve | (repeat (first | exact List.Mem.head _ | apply List.Mem.tail))); assumption) | (apply Rd.getS; (solve | (repeat (first | exact List.Mem.head _ | apply List.Mem.tail))); assumption) | (apply Rd.getO; (solve | (repeat (first | exact List.Mem.head _ | apply List.Mem.tail))); assumption) | (apply Rd.getI; (solve | (repeat (first | exact List.Mem.head _ | apply List.Mem.tail))); assumption) | (apply Rd.cel; (solve | (repeat (first | exact List.Mem.head _ | apply List.Mem.tail))); exact rfl) | (apply Rd.celI; (solve | (repeat (first | exact List.Mem.head _ | apply List.Mem.tail))); exact rfl)) ?_
  refine RL.fieldAddr fa_99_2 rfl rfl rfl rfl ?_
  refine RL.load Try.isAgg31 rfl rfl rfl rfl (by first | assumption | (apply RdI.rd; assumption) | (apply Rd.get; (solve | (repeat (first | exact List.Mem.head _ | apply List.Mem.tail))); assumption) | (apply Rd.getS; (solve | (repeat (first | exact List.Mem.head _ | apply List.Mem.tail))); assumption) | (apply Rd.getO; (solve | (repeat (first | exact List.Mem.head _ | apply List.Mem.tail))); assumption) | (apply Rd.getI; (solve | (repeat (first | exact List.Mem.head _ | apply List.Mem.tail))); assumption) | (apply Rd.cel; (solve | (repeat (first | exact List.Mem.head _ | apply List.Mem.tail))); exact rfl) | (apply Rd.celI; (solve | (repeat (first | exact List.Mem.head _ | apply List.Mem.tail))); exact rfl)) ?_
  refine RL.move rfl rfl rfl rfl ?_
  refine RL.callv (key_any B.r B.m1 B.m2 g.T g.c f.sr f.ep t hg.t hg.k hf.ep) Try.call18 rfl rfl rfl rfl (by repeat (first | exact Lend.nil | (refine Lend.inI ?_ ?_; (solve | (repeat (first | exact List.Mem.head _ | apply List.Mem.tail)))) | (refine Lend.inH ?_ ?_; (solve | (repeat (first | exact List.Mem.head _ | apply List.Mem.tail)))))) ?_
  refine RL.move rfl rfl rfl rfl ?_
  refine RL.extract rfl rfl rfl rfl rfl ?_
  refine RL.extract rfl rfl rfl rfl rfl ?_
  refine RL.alloc (cs := List.replicate 32 (U8 0#8)) Try.zeroValue35 rfl rfl rfl rfl rfl ?_
  intro b2
  refine RL.storeW Try.sizeOf35 rfl rfl rfl rfl rfl rfl rfl (by first | rfl | exact ones_map one8 _ | exact ones_map (fun _ => rfl) _) (by repeat (first | exact Upd.here | apply Upd.there)) (by first | rfl | assumption | (simp only [List.length_map]; assumption) | (simp only [List.length_map, List.length_replicate, hl, hk]; done) | (simp; done)) (by first | rfl | assumption | (simp only [List.length_map]; assumption) | (simp only [List.length_map, List.length_replicate, hl, hk]; done) | (simp; done)) ?_
  refine RL.assign rfl rfl rfl rfl ?_
  refine RL.nil ?_
  refine NQ.seq ?_
  refine CW.only (.cons (k := 0) rfl (.cons (k := 1) rfl (.cons (k := 5) rfl (.cons (k := 7) rfl (.cons (k := 8) rfl .nil))))) ?_
  refine CW.seq ?_
  refine CW.seq ?_
  refine CW.region (ef := []) (bk := []) ?_
  refine RL.move rfl rfl rfl rfl ?_
  refine RL.bin rfl rfl rfl rfl rfl rfl ?_
  refine RL.nil ?_
  refine NQ.seq ?_
  -- STOP: if; todo top: ["code", ["cond", ["t", 23], ["seq", ["region", 3, [{"d": 24, "op": ["move", ["t", 8]], "ty": 32, "pos": "auth.go:68", "after": [], "guard": null}, {"d": 6, "op": ["assign", ["t", 24]], "ty": 32, "pos
  refine CW.cond rfl (fun h => ?_) (fun h => ?_)
  ·
    refine CW.seq ?_
    refine CW.region (ef := []) (bk := []) ?_
    refine RL.move rfl rfl rfl rfl ?_
    refine RL.assign rfl rfl rfl rfl ?_
    refine RL.nil ?_
    refine NQ.seq ?_
    refine CW.ret ?_
    refine RQ.seq ?_
    -- STOP: ret; end
    have h : ¬ (keyM g.T f.sr f.ep t).2 = 0 := by simpa using h
    have e : tagG B g f t = g := by rw [tagG, if_neg h]
    rw [e]
    refine RQ.rea (fun _ h => h) (H' := GI B (g)) (by repeat (first | exact Rea.nil | (apply Rea.cons; (solve | (repeat (first | exact Del.here | apply Del.there)))))) ?_
    exact RQ.post (res1 rfl rfl) (.keep (.keep (.keep (.keep (.keep (.keep (.keep .nil))))))) ⟨by rw [tagE, if_neg h]; rfl, rfl, rfl⟩
  ·
    have h : (keyM g.T f.sr f.ep t).2 = 0 := by simpa using h
    refine CW.skip ?_
    refine NQ.seq ?_
    refine CW.seq ?_
    refine CW.seq ?_
    refine CW.regionD (Sq.of [0, 1, 2, 3, 4, 5, 6, 7]) [4, 5] [] [1, 7] mixed (by kernel_rfl) ?_
    first | refine RL.loadM Try.isAgg35 Try.sizeOf35 rfl rfl rfl rfl (by assumption) ?_ | refine RL.loadA Try.isAgg35 Try.sizeOf35 rfl rfl rfl rfl (by first | assumption | (apply RdsI.rds; assumption)) (by first | rfl | assumption | (simp only [List.length_map]; assumption) | (simp only [List.length_map, List.length_replicate, hl, hk]; done) | (simp; done)) ?_ | refine RL.loadW Try.isAgg35 Try.sizeOf35 rfl rfl rfl rfl (by (solve | (repeat (first | exact List.Mem.head _ | apply List.Mem.tail)))) (by first | rfl | assumption | (simp only [List.length_map]; assumption) | (simp only [List.length_map, List.length_replicate, hl, hk]; done) | (simp; done)) ?_
    refine RL.fieldAddr fa_99_5 rfl rfl rfl rfl ?_
    refine RL.loadA Try.isAgg97 Try.sizeOf97 rfl rfl rfl rfl (vs := bytes f.tag) (Rds.cel (by repeat (first | exact List.Mem.head _ | apply List.Mem.tail)) (fr_tag f _)) (by rw [List.length_map, hf.tag]) ?_
    first | refine RL.loadM Try.isAgg99 Try.sizeOf99 rfl rfl rfl rfl (by assumption) ?_ | refine RL.loadA Try.isAgg99 Try.sizeOf99 rfl rfl rfl rfl (by first | assumption | (apply RdsI.rds; assumption)) (by first | rfl | assumption | (simp only [List.length_map]; assumption) | (simp only [List.length_map, List.length_replicate, hl, hk]; done) | (simp; done)) ?_ | refine RL.loadW Try.isAgg99 Try.sizeOf99 rfl rfl rfl rfl (by (solve | (repeat (first | exact List.Mem.head _ | apply List.Mem.tail)))) (by first | rfl | assumption | (simp only [List.length_map]; assumption) | (simp only [List.length_map, List.length_replicate, hl, hk]; done) | (simp; done)) ?_
    refine RL.call (signed_any f p c n hf hn hb) Try.call99 rfl rfl rfl rfl rfl (by repeat (first | exact Pick.nil | apply Pick.take | apply Pick.leave)) (by repeat (first | exact Lend.nil | (refine Lend.inI ?_ ?_; (solve | (repeat (first | exact List.Mem.head _ | apply List.Mem.tail)))) | (refine Lend.inH ?_ ?_; (solve | (repeat (first | exact List.Mem.head _ | apply List.Mem.tail)))))) (.inl rfl) ?_
    rintro _ _ _ ⟨ob1, cap1, rfl, rfl, rfl, ho1⟩
    refine RL.buildSlice [_] Try.runUnderlying281 Try.sizeOf95 Try.zeroValue95 rfl rfl (by decide) (by decide) rfl rfl rfl rfl rfl rfl ?_
    intro b3
    refine RL.callv (right_any (keyM g.T f.sr f.ep t).1 hk f.tag hf.tag (some ⟨b3, 0, none⟩) 1 1 [⟨ob1.map fun b => ⟨b, 0, none⟩, cap1, f.signed⟩] rfl (by decide) (by simp [joined]; omega)) Try.call206 rfl rfl rfl rfl (Lend.allX (by repeat (first | exact List.Mem.head _ | apply List.Mem.tail)) rfl rfl (Lend.own (by repeat (first | exact List.Mem.head _ | apply List.Mem.tail)) .nil)) ?_
    refine RL.not rfl rfl rfl rfl ?_
    refine RL.nil ?_
    refine NQ.seq ?_
    refine CW.only (.cons (k := 0) rfl (.cons (k := 1) rfl (.cons (k := 5) rfl (.cons (k := 8) rfl (.cons (k := 32) rfl .nil))))) ?_
    -- STOP: if; todo top: ["code", ["cond", ["t", 32], ["seq", ["region", 5, [{"d": 33, "op": ["move", ["t", 0]], "ty": 117, "pos": "auth.go:71", "after": [], "guard": null}, {"d": 34, "op": ["nilCheck", ["t", 33]], "ty": 0, "
    rw [joined_one]
    refine CW.cond rfl (fun hr => ?_) (fun hr => ?_)
    ·
      refine CW.seq ?_
      refine CW.regionD (Sq.of [0, 1, 2, 3, 4, 5, 6, 7]) [7] [7] [0, 1, 2, 4, 6] mixed (by kernel_rfl) ?_
      refine RL.move rfl rfl rfl rfl ?_
      refine RL.nilCheck rfl rfl rfl rfl ?_
      refine RL.fieldAddr fa_123_1 rfl rfl rfl rfl ?_
      refine RL.load Try.isAgg118 rfl rfl rfl rfl (by first | assumption | (apply RdI.rd; assumption) | (apply Rd.get; (solve | (repeat (first | exact List.Mem.head _ | apply List.Mem.tail))); assumption) | (apply Rd.getS; (solve | (repeat (first | exact List.Mem.head _ | apply List.Mem.tail))); assumption) | (apply Rd.getO; (solve | (repeat (first | exact List.Mem.head _ | apply List.Mem.tail))); assumption) | (apply Rd.getI; (solve | (repeat (first | exact List.Mem.head _ | apply List.Mem.tail))); assumption) | (apply Rd.cel; (solve | (repeat (first | exact List.Mem.head _ | apply List.Mem.tail))); exact rfl) | (apply Rd.celI; (solve | (repeat (first | exact List.Mem.head _ | apply List.Mem.tail))); exact rfl)) ?_
      refine RL.fieldAddr fa_99_1 rfl rfl rfl rfl ?_
      refine RL.load Try.isAgg3 rfl rfl rfl rfl (by first | assumption | (apply RdI.rd; assumption) | (apply Rd.get; (solve | (repeat (first | exact List.Mem.head _ | apply List.Mem.tail))); assumption) | (apply Rd.getS; (solve | (repeat (first | exact List.Mem.head _ | apply List.Mem.tail))); assumption) | (apply Rd.getO; (solve | (repeat (first | exact List.Mem.head _ | apply List.Mem.tail))); assumption) | (apply Rd.getI; (solve | (repeat (first | exact List.Mem.head _ | apply List.Mem.tail))); assumption) | (apply Rd.cel; (solve | (repeat (first | exact List.Mem.head _ | apply List.Mem.tail))); exact rfl) | (apply Rd.celI; (solve | (repeat (first | exact List.Mem.head _ | apply List.Mem.tail))); exact rfl)) ?_
      refine RL.move rfl rfl rfl rfl ?_
      refine RL.call (lfail_any B.kb B.mo B.ti g.l f.sr t hmo hg.l) Try.call207 rfl rfl rfl rfl rfl (by repeat (first | exact Pick.nil | apply Pick.take | apply Pick.leave)) (by repeat (first | exact Lend.nil | (refine Lend.inI ?_ ?_; (solve | (repeat (first | exact List.Mem.head _ | apply List.Mem.tail)))) | (refine Lend.inH ?_ ?_; (solve | (repeat (first | exact List.Mem.head _ | apply List.Mem.tail)))))) (.inr rfl) ?_
      -- STOP: called; todo top: ["code", ["region", 5, [{"d": 33, "op": ["move", ["t", 0]], "ty": 117, "pos": "auth.go:71", "after": [], "guard": null}, {"d": 34, "op": ["nilCheck", ["t", 33]], "ty": 0, "pos": "auth.go:71", "after":
      have hr : ¬ tagOk g f t = true := by simpa [tagOk] using hr
      rintro _ _ _ ⟨rfl, rfl, rfl⟩
      refine RL.nil ?_
      refine NQ.seq ?_
      refine CW.only (.cons (k := 8) rfl .nil) ?_
      refine CW.seq ?_
      refine CW.region (ef := []) (bk := []) ?_
      refine RL.assign rfl rfl rfl rfl ?_
      refine RL.nil ?_
      refine NQ.seq ?_
      refine CW.ret ?_
      refine RQ.seq ?_
      -- STOP: ret; end
      have e : tagG B g f t = { g with l := failL B.mo B.ti g.l f.sr t } := by rw [tagG, if_pos h, if_neg hr]
      rw [e]
      refine RQ.rea (fun _ h => h) (H' := GI B ({ g with l := failL B.mo B.ti g.l f.sr t })) (by repeat (first | exact Rea.nil | (apply Rea.cons; (solve | (repeat (first | exact Del.here | apply Del.there)))))) ?_
      exact RQ.post (res1 rfl rfl) (.keep (.keep (.keep (.keep (.keep (.keep (.keep .nil))))))) ⟨by rw [tagE, if_pos h, if_neg hr], rfl, rfl⟩
    ·
      refine CW.skip ?_
      refine NQ.seq ?_
      refine CW.seq ?_
      refine CW.region (ef := []) (bk := []) ?_
      refine RL.move rfl rfl rfl rfl ?_
      refine RL.assign rfl rfl rfl rfl ?_
      refine RL.nil ?_
      refine NQ.seq ?_
      refine CW.only (.cons (k := 6) rfl .nil) ?_
      refine CW.ret ?_
      -- STOP: ret; end
      have hr : tagOk g f t = true := by simpa [tagOk] using hr
      have e : tagG B g f t = g := by rw [tagG, if_pos h, if_pos hr]
      rw [e]
      refine RQ.rea (fun _ h => h) (H' := GI B (g)) (by repeat (first | exact Rea.nil | (apply Rea.cons; (solve | (repeat (first | exact Del.here | apply Del.there)))))) ?_
      exact RQ.post (res1 rfl rfl) (.keep (.keep (.keep (.keep (.keep (.keep (.keep .nil))))))) ⟨by rw [tagE, if_pos h, if_pos hr, h]; rfl, rfl, rfl⟩
end Go.Proofs.Ytkkfdoippibfkaa

namespace Go.Proofs.Ytkkfdoippibfkaa
open Go.PK

theorem tag_zero {B : GB} {g : GSt} {f : Fr} {t : Int} (h : tagE g f t = 0) : tagG B g f t = g := by
  unfold tagE at h
  by_cases h1 : (keyM g.T f.sr f.ep t).2 = 0
  · rw [if_pos h1] at h
    by_cases h2 : tagOk g f t = true
    · rw [tagG, if_pos h1, if_pos h2]
    · rw [if_neg h2] at h; cases h
  · rw [if_neg h1] at h; exact absurd h h1
theorem tagG_l (B : GB) (g : GSt) (f : Fr) (t : Int) : tagG B g f t = { g with l := (tagG B g f t).l } := by
  unfold tagG
  split
  · split <;> rfl
  · rfl
theorem tagG_len (B : GB) (g : GSt) (f : Fr) (t : Int) : (tagG B g f t).l.length = g.l.length := by
  unfold tagG
  split
  · split
    · rfl
    · exact failL_len _ _ _ _ _
  · rfl
/-- A frame is looked at. -/
def fmark (f : Fr) : Nat × Nat := (f.ep, f.ct)
def lookE (g : GSt) (f : Fr) (t : Int) : Int := if tickB t = true then (if g.Y f.sr f.kd = true then (if kmay g.l f.sr t = 0 then (if tagE g f t = 0 then mmay g.M f.sr (fmark f) else tagE g f t) else kmay g.l f.sr t) else 191) else 2
def lookB (g : GSt) (f : Fr) (t : Int) : Bool := tickB t && g.Y f.sr f.kd && decide (kmay g.l f.sr t = 0)
def lookL (B : GB) (g : GSt) (f : Fr) (t : Int) : List Lk := if lookB g f t = true then (if tagE g f t = 0 then (if mmay g.M f.sr (fmark f) = 0 then goodL g.l f.sr else g.l) else (tagG B g f t).l) else g.l
def lookM (g : GSt) (f : Fr) (t : Int) : Marks := if lookB g f t = true then (if tagE g f t = 0 then takeM g.M f.sr (fmark f) else g.M) else g.M
theorem lookL_len (B : GB) (g : GSt) (f : Fr) (t : Int) : (lookL B g f t).length = g.l.length := by
  unfold lookL
  split
  · split
    · split
      · exact goodL_len _ _
      · rfl
    · exact tagG_len _ _ _ _
  · rfl
def LookR (B : GB) (g : GSt) (f : Fr) (t : Int) : Value → List It → List It → Prop := fun v I' H' => v = .int .i64 (lookE g f t) ∧ I' = [] ∧ ∃ cm, MRel cm (lookM g f t) ∧ H' = GI B { g with l := lookL B g f t, M := lookM g f t, cm := cm }
theorem glook_any (B : GB) (g : GSt) (f : Fr) (p : Option Addr) (c n : Nat) (t : Int) (hmo : B.mo ≠ 0) (hg : GOk g) (hf : f.Ok) (hn : f.b.length = n) (hb : n ≤ 900000) :
    Spc Try.prog 111 #[.pointer (some ⟨B.gb, 0, none⟩), .int .i64 t, .agg (f.cells (.slice p n c)).toArray] [sls p 1 n (bytes f.b)] (GI B g) (LookR B g f t) := by
  have hl := fr_len hf.tag (.slice p n c)
  refine Spc.enter Try.func111 rfl rfl rfl (fun w0 hw0 => ?_)
  refine CW.seq ?_
  refine CW.region (ef := [0]) (bk := []) ?_
  refine RL.box rfl rfl rfl rfl rfl rfl ?_
  intro b1
  refine RL.assign rfl rfl rfl rfl ?_
  refine RL.nil ?_
  refine NQ.seq ?_
  refine CW.seq ?_
  refine CW.seq ?_
  refine CW.region (ef := []) (bk := []) ?_
  refine RL.move rfl rfl rfl rfl ?_
  refine RL.bin rfl rfl rfl rfl rfl rfl ?_
  refine RL.move rfl rfl rfl rfl ?_
  apply RL.orB (d := 12) (dp := 15) (l' := (Sq.of [])) rfl (.cons (k := 0) rfl (.cons (k := 1) rfl (.cons (k := 5) rfl (.cons (k := 6) rfl .nil))))
  ·
    intro hb3 K3
    refine RL.move rfl rfl rfl rfl ?_
    refine RL.bin rfl rfl rfl rfl rfl rfl ?_
    refine RL.pickF rfl rfl rfl rfl rfl ?_
    exact K3 _ (.cons rfl (.cons (k := 0) rfl (.cons (k := 1) rfl (.cons (k := 5) rfl (.cons (k := 6) rfl .nil)))))
  ·
    intro hb3 K3
    refine RL.skip rfl rfl rfl rfl ?_
    refine RL.skip rfl rfl rfl rfl ?_
    refine RL.pickT rfl rfl rfl rfl rfl ?_
    exact K3 _ (.cons rfl (.cons (k := 0) rfl (.cons (k := 1) rfl (.cons (k := 5) rfl (.cons (k := 6) rfl .nil)))))
  refine RL.nil ?_
  refine NQ.seq ?_
  -- STOP: if; todo top: ["code", ["cond", ["t", 15], ["seq", ["region", 2, [{"d": 6, "op": ["assign", ["c", ["int", "Go.IntKind.i64", 2]]], "ty": 32, "pos": "auth.go:80", "after": [], "guard": null}], false], ["ret"]], ["ski
  refine CW.cond rfl (fun ht => ?_) (fun ht => ?_)
  ·
    refine CW.seq ?_
    refine CW.region (ef := []) (bk := []) ?_
    refine RL.assign rfl rfl rfl rfl ?_
    refine RL.nil ?_
    refine NQ.seq ?_
    refine CW.ret ?_
    refine RQ.seq ?_
    -- STOP: ret; end
    have ht : ¬ tickB t = true := by simp at ht; simp [tickB]; omega
    have hB : ¬ lookB g f t = true := by simp [lookB, ht]
    have hM : lookM g f t = g.M := by rw [lookM, if_neg hB]
    have hL : lookL B g f t = g.l := by rw [lookL, if_neg hB]
    refine RQ.rea (fun _ h => h) (H' := GI B (g)) (by repeat (first | exact Rea.nil | (apply Rea.cons; (solve | (repeat (first | exact Del.here | apply Del.there)))))) ?_
    exact RQ.post (res1 rfl rfl) (.keep (.keep (.keep (.keep (.keep (.keep (.keep .nil))))))) ⟨by rw [lookE, if_neg ht], rfl, g.cm, by rw [hM]; exact hg.m, by rw [hL, hM]⟩
  ·
    refine CW.skip ?_
    refine NQ.seq ?_
    refine CW.seq ?_
    refine CW.seq ?_
    refine CW.regionD (Sq.of [0, 1, 2, 3, 4, 5, 6, 7, 8, 9, 10]) [] [] [0, 1, 2, 4, 6, 8, 10] mixed (by kernel_rfl) ?_
    refine RL.move rfl rfl rfl rfl ?_
    refine RL.nilCheck rfl rfl rfl rfl ?_
    refine RL.fieldAddr fa_123_3 rfl rfl rfl rfl ?_
    refine RL.load Try.isAgg120 rfl rfl rfl rfl (by first | assumption | (apply RdI.rd; assumption) | (apply Rd.get; (solve | (repeat (first | exact List.Mem.head _ | apply List.Mem.tail))); assumption) | (apply Rd.getS; (solve | (repeat (first | exact List.Mem.head _ | apply List.Mem.tail))); assumption) | (apply Rd.getO; (solve | (repeat (first | exact List.Mem.head _ | apply List.Mem.tail))); assumption) | (apply Rd.getI; (solve | (repeat (first | exact List.Mem.head _ | apply List.Mem.tail))); assumption) | (apply Rd.cel; (solve | (repeat (first | exact List.Mem.head _ | apply List.Mem.tail))); exact rfl) | (apply Rd.celI; (solve | (repeat (first | exact List.Mem.head _ | apply List.Mem.tail))); exact rfl)) ?_
    refine RL.fieldAddr fa_99_1 rfl rfl rfl rfl ?_
    refine RL.load Try.isAgg3 rfl rfl rfl rfl (by first | assumption | (apply RdI.rd; assumption) | (apply Rd.get; (solve | (repeat (first | exact List.Mem.head _ | apply List.Mem.tail))); assumption) | (apply Rd.getS; (solve | (repeat (first | exact List.Mem.head _ | apply List.Mem.tail))); assumption) | (apply Rd.getO; (solve | (repeat (first | exact List.Mem.head _ | apply List.Mem.tail))); assumption) | (apply Rd.getI; (solve | (repeat (first | exact List.Mem.head _ | apply List.Mem.tail))); assumption) | (apply Rd.cel; (solve | (repeat (first | exact List.Mem.head _ | apply List.Mem.tail))); exact rfl) | (apply Rd.celI; (solve | (repeat (first | exact List.Mem.head _ | apply List.Mem.tail))); exact rfl)) ?_
    refine RL.fieldAddr fa_99_0 rfl rfl rfl rfl ?_
    refine RL.load Try.isAgg3 rfl rfl rfl rfl (by first | assumption | (apply RdI.rd; assumption) | (apply Rd.get; (solve | (repeat (first | exact List.Mem.head _ | apply List.Mem.tail))); assumption) | (apply Rd.getS; (solve | (repeat (first | exact List.Mem.head _ | apply List.Mem.tail))); assumption) | (apply Rd.getO; (solve | (repeat (first | exact List.Mem.head _ | apply List.Mem.tail))); assumption) | (apply Rd.getI; (solve | (repeat (first | exact List.Mem.head _ | apply List.Mem.tail))); assumption) | (apply Rd.cel; (solve | (repeat (first | exact List.Mem.head _ | apply List.Mem.tail))); exact rfl) | (apply Rd.celI; (solve | (repeat (first | exact List.Mem.head _ | apply List.Mem.tail))); exact rfl)) ?_
    refine RL.buildS [_, _] Try.zeroValue213 pl_213 rfl rfl rfl rfl rfl ?_
    -- STOP: op; op 9: d=25 ["lookup", 120, ["t", 19], ["t", 24], false] guard=None (auth.go:82)
    have ht : tickB t = true := by simp at ht; simp [tickB]; omega
    refine RL.lookup keyR Try.runUnderlying120 Try.zeroValue4 rfl rfl rfl rfl rfl ⟨f.sr, f.kd, rfl⟩ (MapAt.own (by repeat (first | exact List.Mem.head _ | apply List.Mem.tail))) ?_
    rw [show lookV (.agg #[.int .i64 f.sr, .int .i64 f.kd]) g.cy = _ from hg.y f.sr f.kd]
    cases hY : g.Y f.sr f.kd with
    | false =>
      refine RL.not rfl rfl rfl rfl ?_
      refine RL.nil ?_
      refine NQ.seq ?_
      refine CW.only (.cons (k := 0) rfl (.cons (k := 1) rfl (.cons (k := 5) rfl (.cons (k := 6) rfl (.cons (k := 26) rfl .nil))))) ?_
      -- STOP: if; todo top: ["code", ["cond", ["t", 26], ["seq", ["region", 4, [{"d": 6, "op": ["assign", ["c", ["int", "Go.IntKind.i64", 191]]], "ty": 32, "pos": "auth.go:83", "after": [], "guard": null}], false], ["ret"]], ["s
      refine CW.condT rfl (rfl) ?_
      refine CW.seq ?_
      refine CW.region (ef := []) (bk := []) ?_
      refine RL.assign rfl rfl rfl rfl ?_
      refine RL.nil ?_
      refine NQ.seq ?_
      refine CW.ret ?_
      refine RQ.seq ?_
      -- STOP: ret; end
      have hB : ¬ lookB g f t = true := by simp [lookB, hY]
      have hM : lookM g f t = g.M := by rw [lookM, if_neg hB]
      have hL : lookL B g f t = g.l := by rw [lookL, if_neg hB]
      refine RQ.rea (fun _ h => h) (H' := GI B (g)) (by repeat (first | exact Rea.nil | (apply Rea.cons; (solve | (repeat (first | exact Del.here | apply Del.there)))))) ?_
      exact RQ.post (res1 rfl rfl) (.keep (.keep (.keep (.keep (.keep (.keep (.keep .nil))))))) ⟨by rw [lookE, if_pos ht, hY]; rfl, rfl, g.cm, by rw [hM]; exact hg.m, by rw [hL, hM]⟩
    | true =>
      refine RL.not rfl rfl rfl rfl ?_
      refine RL.nil ?_
      refine NQ.seq ?_
      refine CW.only (.cons (k := 0) rfl (.cons (k := 1) rfl (.cons (k := 5) rfl (.cons (k := 6) rfl (.cons (k := 26) rfl .nil))))) ?_
      -- STOP: if; todo top: ["code", ["cond", ["t", 26], ["seq", ["region", 4, [{"d": 6, "op": ["assign", ["c", ["int", "Go.IntKind.i64", 191]]], "ty": 32, "pos": "auth.go:83", "after": [], "guard": null}], false], ["ret"]], ["s
      refine CW.condF rfl (rfl) ?_
      refine CW.skip ?_
      refine NQ.seq ?_
      refine CW.seq ?_
      refine CW.seq ?_
      refine CW.regionD (Sq.of [0, 1, 2, 3, 4, 5, 6, 7, 8]) [] [] [0, 1, 2, 4, 6, 8] mixed (by kernel_rfl) ?_
      refine RL.move rfl rfl rfl rfl ?_
      refine RL.nilCheck rfl rfl rfl rfl ?_
      refine RL.fieldAddr fa_123_1 rfl rfl rfl rfl ?_
      refine RL.load Try.isAgg118 rfl rfl rfl rfl (by first | assumption | (apply RdI.rd; assumption) | (apply Rd.get; (solve | (repeat (first | exact List.Mem.head _ | apply List.Mem.tail))); assumption) | (apply Rd.getS; (solve | (repeat (first | exact List.Mem.head _ | apply List.Mem.tail))); assumption) | (apply Rd.getO; (solve | (repeat (first | exact List.Mem.head _ | apply List.Mem.tail))); assumption) | (apply Rd.getI; (solve | (repeat (first | exact List.Mem.head _ | apply List.Mem.tail))); assumption) | (apply Rd.cel; (solve | (repeat (first | exact List.Mem.head _ | apply List.Mem.tail))); exact rfl) | (apply Rd.celI; (solve | (repeat (first | exact List.Mem.head _ | apply List.Mem.tail))); exact rfl)) ?_
      refine RL.fieldAddr fa_99_1 rfl rfl rfl rfl ?_
      refine RL.load Try.isAgg3 rfl rfl rfl rfl (by first | assumption | (apply RdI.rd; assumption) | (apply Rd.get; (solve | (repeat (first | exact List.Mem.head _ | apply List.Mem.tail))); assumption) | (apply Rd.getS; (solve | (repeat (first | exact List.Mem.head _ | apply List.Mem.tail))); assumption) | (apply Rd.getO; (solve | (repeat (first | exact List.Mem.head _ | apply List.Mem.tail))); assumption) | (apply Rd.getI; (solve | (repeat (first | exact List.Mem.head _ | apply List.Mem.tail))); assumption) | (apply Rd.cel; (solve | (repeat (first | exact List.Mem.head _ | apply List.Mem.tail))); exact rfl) | (apply Rd.celI; (solve | (repeat (first | exact List.Mem.head _ | apply List.Mem.tail))); exact rfl)) ?_
      refine RL.move rfl rfl rfl rfl ?_
      refine RL.callv (lmay_any B.kb B.mo B.ti g.l f.sr t hmo hg.l) Try.call157 rfl rfl rfl rfl (by repeat (first | exact Lend.nil | (refine Lend.inI ?_ ?_; (solve | (repeat (first | exact List.Mem.head _ | apply List.Mem.tail)))) | (refine Lend.inH ?_ ?_; (solve | (repeat (first | exact List.Mem.head _ | apply List.Mem.tail)))))) ?_
      refine RL.assign rfl rfl rfl rfl ?_
      refine RL.nil ?_
      refine NQ.seq ?_
      refine CW.only (.cons (k := 0) rfl (.cons (k := 1) rfl (.cons (k := 5) rfl (.cons (k := 6) rfl (.cons (k := 7) rfl .nil))))) ?_
      refine CW.seq ?_
      refine CW.region (ef := []) (bk := []) ?_
      refine RL.move rfl rfl rfl rfl ?_
      refine RL.bin rfl rfl rfl rfl rfl rfl ?_
      refine RL.nil ?_
      refine NQ.seq ?_
      -- STOP: if; todo top: ["code", ["cond", ["t", 36], ["seq", ["region", 7, [{"d": 37, "op": ["move", ["t", 7]], "ty": 32, "pos": "auth.go:86", "after": [], "guard": null}, {"d": 6, "op": ["assign", ["t", 37]], "ty": 32, "pos
      refine CW.cond rfl (fun hk => ?_) (fun hk => ?_)
      ·
        refine CW.seq ?_
        refine CW.region (ef := []) (bk := []) ?_
        refine RL.move rfl rfl rfl rfl ?_
        refine RL.assign rfl rfl rfl rfl ?_
        refine RL.nil ?_
        refine NQ.seq ?_
        refine CW.ret ?_
        refine RQ.seq ?_
        -- STOP: ret; end
        have hk : ¬ kmay g.l f.sr t = 0 := by simpa using hk
        have hB : ¬ lookB g f t = true := by simp [lookB, hk]
        have hM : lookM g f t = g.M := by rw [lookM, if_neg hB]
        have hL : lookL B g f t = g.l := by rw [lookL, if_neg hB]
        refine RQ.rea (fun _ h => h) (H' := GI B (g)) (by repeat (first | exact Rea.nil | (apply Rea.cons; (solve | (repeat (first | exact Del.here | apply Del.there)))))) ?_
        exact RQ.post (res1 rfl rfl) (.keep (.keep (.keep (.keep (.keep (.keep (.keep .nil))))))) ⟨by rw [lookE, if_pos ht, if_pos hY, if_neg hk], rfl, g.cm, by rw [hM]; exact hg.m, by rw [hL, hM]⟩
      ·
        refine CW.skip ?_
        refine NQ.seq ?_
        refine CW.seq ?_
        refine CW.seq ?_
        refine CW.region (ef := [3]) (bk := [3]) ?_
        refine RL.move rfl rfl rfl rfl ?_
        refine RL.move rfl rfl rfl rfl ?_
        first | refine RL.loadM Try.isAgg99 Try.sizeOf99 rfl rfl rfl rfl (by assumption) ?_ | refine RL.loadA Try.isAgg99 Try.sizeOf99 rfl rfl rfl rfl (by first | assumption | (apply RdsI.rds; assumption)) (by first | rfl | assumption | (simp only [List.length_map]; assumption) | (simp only [List.length_map, List.length_replicate, hl]; done) | (simp; done)) ?_ | refine RL.loadW Try.isAgg99 Try.sizeOf99 rfl rfl rfl rfl (by (solve | (repeat (first | exact List.Mem.head _ | apply List.Mem.tail)))) (by first | rfl | assumption | (simp only [List.length_map]; assumption) | (simp only [List.length_map, List.length_replicate, hl]; done) | (simp; done)) ?_
        refine RL.call (gtag_any B g f p c n t hmo hg hf hn hb) Try.call158 rfl rfl rfl rfl rfl (by repeat (first | exact Pick.nil | apply Pick.take | apply Pick.leave)) (by repeat (first | exact Lend.nil | (refine Lend.inI ?_ ?_; (solve | (repeat (first | exact List.Mem.head _ | apply List.Mem.tail)))) | (refine Lend.inH ?_ ?_; (solve | (repeat (first | exact List.Mem.head _ | apply List.Mem.tail)))))) (.inr rfl) ?_
        -- STOP: called; op 4: d=8 ["assign", ["t", 41]] guard=None (auth.go:88)
        have hk : kmay g.l f.sr t = 0 := by simpa using hk
        have hB : lookB g f t = true := by simp [lookB, ht, hY, hk]
        rintro _ _ _ ⟨rfl, rfl, rfl⟩
        refine RL.assign rfl rfl rfl rfl ?_
        refine RL.nil ?_
        refine NQ.seq ?_
        refine CW.only (.cons (k := 0) rfl (.cons (k := 5) rfl (.cons (k := 6) rfl (.cons (k := 8) rfl .nil)))) ?_
        refine CW.seq ?_
        refine CW.region (ef := []) (bk := []) ?_
        refine RL.move rfl rfl rfl rfl ?_
        refine RL.bin rfl rfl rfl rfl rfl rfl ?_
        refine RL.nil ?_
        refine NQ.seq ?_
        -- STOP: if; todo top: ["code", ["cond", ["t", 43], ["seq", ["region", 10, [{"d": 44, "op": ["move", ["t", 8]], "ty": 32, "pos": "auth.go:89", "after": [], "guard": null}, {"d": 6, "op": ["assign", ["t", 44]], "ty": 32, "po
        refine CW.cond rfl (fun he => ?_) (fun he => ?_)
        ·
          refine CW.seq ?_
          refine CW.region (ef := []) (bk := []) ?_
          refine RL.move rfl rfl rfl rfl ?_
          refine RL.assign rfl rfl rfl rfl ?_
          refine RL.nil ?_
          refine NQ.seq ?_
          refine CW.ret ?_
          refine RQ.seq ?_
          -- STOP: ret; end
          have he : ¬ tagE g f t = 0 := by simpa using he
          have hM : lookM g f t = g.M := by rw [lookM, if_pos hB, if_neg he]
          have hL : lookL B g f t = (tagG B g f t).l := by rw [lookL, if_pos hB, if_neg he]
          refine RQ.rea (fun _ h => h) (H' := GI B (tagG B g f t)) (by repeat (first | exact Rea.nil | (apply Rea.cons; (solve | (repeat (first | exact Del.here | apply Del.there)))))) ?_
          exact RQ.post (res1 rfl rfl) (.keep (.keep (.keep (.keep (.keep (.keep (.keep .nil))))))) ⟨by rw [lookE, if_pos ht, if_pos hY, if_pos hk, if_neg he], rfl, g.cm, by rw [hM]; exact hg.m, by rw [hL, hM, tagG_l]⟩
        ·
          have he : tagE g f t = 0 := by simpa using he
          rw [tag_zero he]
          have hM : lookM g f t = takeM g.M f.sr (fmark f) := by rw [lookM, if_pos hB, if_pos he]
          refine CW.skip ?_
          refine NQ.seq ?_
          refine CW.seq ?_
          refine CW.seq ?_
          refine CW.regionD (Sq.of [0, 1, 2, 3, 4, 5, 6, 7, 8, 9, 10, 11, 12]) [11] [11] [0, 1, 2, 4, 6, 8, 10, 12] mixed (by kernel_rfl) ?_
          refine RL.move rfl rfl rfl rfl ?_
          refine RL.nilCheck rfl rfl rfl rfl ?_
          refine RL.fieldAddr fa_123_2 rfl rfl rfl rfl ?_
          refine RL.load Try.isAgg119 rfl rfl rfl rfl (by first | assumption | (apply RdI.rd; assumption) | (apply Rd.get; (solve | (repeat (first | exact List.Mem.head _ | apply List.Mem.tail))); assumption) | (apply Rd.getS; (solve | (repeat (first | exact List.Mem.head _ | apply List.Mem.tail))); assumption) | (apply Rd.getO; (solve | (repeat (first | exact List.Mem.head _ | apply List.Mem.tail))); assumption) | (apply Rd.getI; (solve | (repeat (first | exact List.Mem.head _ | apply List.Mem.tail))); assumption) | (apply Rd.cel; (solve | (repeat (first | exact List.Mem.head _ | apply List.Mem.tail))); exact rfl) | (apply Rd.celI; (solve | (repeat (first | exact List.Mem.head _ | apply List.Mem.tail))); exact rfl)) ?_
          refine RL.fieldAddr fa_99_1 rfl rfl rfl rfl ?_
          refine RL.load Try.isAgg3 rfl rfl rfl rfl (by first | assumption | (apply RdI.rd; assumption) | (apply Rd.get; (solve | (repeat (first | exact List.Mem.head _ | apply List.Mem.tail))); assumption) | (apply Rd.getS; (solve | (repeat (first | exact List.Mem.head _ | apply List.Mem.tail))); assumption) | (apply Rd.getO; (solve | (repeat (first | exact List.Mem.head _ | apply List.Mem.tail))); assumption) | (apply Rd.getI; (solve | (repeat (first | exact List.Mem.head _ | apply List.Mem.tail))); assumption) | (apply Rd.cel; (solve | (repeat (first | exact List.Mem.head _ | apply List.Mem.tail))); exact rfl) | (apply Rd.celI; (solve | (repeat (first | exact List.Mem.head _ | apply List.Mem.tail))); exact rfl)) ?_
          refine RL.fieldAddr fa_99_2 rfl rfl rfl rfl ?_
          refine RL.load Try.isAgg31 rfl rfl rfl rfl (by first | assumption | (apply RdI.rd; assumption) | (apply Rd.get; (solve | (repeat (first | exact List.Mem.head _ | apply List.Mem.tail))); assumption) | (apply Rd.getS; (solve | (repeat (first | exact List.Mem.head _ | apply List.Mem.tail))); assumption) | (apply Rd.getO; (solve | (repeat (first | exact List.Mem.head _ | apply List.Mem.tail))); assumption) | (apply Rd.getI; (solve | (repeat (first | exact List.Mem.head _ | apply List.Mem.tail))); assumption) | (apply Rd.cel; (solve | (repeat (first | exact List.Mem.head _ | apply List.Mem.tail))); exact rfl) | (apply Rd.celI; (solve | (repeat (first | exact List.Mem.head _ | apply List.Mem.tail))); exact rfl)) ?_
          refine RL.fieldAddr fa_99_3 rfl rfl rfl rfl ?_
          refine RL.load Try.isAgg50 rfl rfl rfl rfl (by first | assumption | (apply RdI.rd; assumption) | (apply Rd.get; (solve | (repeat (first | exact List.Mem.head _ | apply List.Mem.tail))); assumption) | (apply Rd.getS; (solve | (repeat (first | exact List.Mem.head _ | apply List.Mem.tail))); assumption) | (apply Rd.getO; (solve | (repeat (first | exact List.Mem.head _ | apply List.Mem.tail))); assumption) | (apply Rd.getI; (solve | (repeat (first | exact List.Mem.head _ | apply List.Mem.tail))); assumption) | (apply Rd.cel; (solve | (repeat (first | exact List.Mem.head _ | apply List.Mem.tail))); exact rfl) | (apply Rd.celI; (solve | (repeat (first | exact List.Mem.head _ | apply List.Mem.tail))); exact rfl)) ?_
          refine RL.buildS [_, _] Try.zeroValue114 pl_114 rfl rfl rfl rfl rfl ?_
          refine RL.call (take_any B.tb B.mt g.cm g.M f.sr (fmark f) hg.m) Try.call159 rfl rfl rfl rfl rfl (by repeat (first | exact Pick.nil | apply Pick.take | apply Pick.leave)) (by repeat (first | exact Lend.nil | (refine Lend.inI ?_ ?_; (solve | (repeat (first | exact List.Mem.head _ | apply List.Mem.tail)))) | (refine Lend.inH ?_ ?_; (solve | (repeat (first | exact List.Mem.head _ | apply List.Mem.tail)))))) (.inr rfl) ?_
          -- STOP: called; op 12: d=9 ["assign", ["t", 56]] guard=None (auth.go:91)
          rintro _ _ _ ⟨rfl, rfl, cm', hcm, rfl⟩
          refine RL.assign rfl rfl rfl rfl ?_
          refine RL.nil ?_
          refine NQ.seq ?_
          refine CW.only (.cons (k := 0) rfl (.cons (k := 5) rfl (.cons (k := 6) rfl (.cons (k := 9) rfl .nil)))) ?_
          refine CW.seq ?_
          refine CW.region (ef := []) (bk := []) ?_
          refine RL.move rfl rfl rfl rfl ?_
          refine RL.bin rfl rfl rfl rfl rfl rfl ?_
          refine RL.nil ?_
          refine NQ.seq ?_
          -- STOP: if; todo top: ["code", ["cond", ["t", 58], ["seq", ["region", 13, [{"d": 59, "op": ["move", ["t", 9]], "ty": 32, "pos": "auth.go:92", "after": [], "guard": null}, {"d": 6, "op": ["assign", ["t", 59]], "ty": 32, "po
          refine CW.cond rfl (fun hx => ?_) (fun hx => ?_)
          ·
            refine CW.seq ?_
            refine CW.region (ef := []) (bk := []) ?_
            refine RL.move rfl rfl rfl rfl ?_
            refine RL.assign rfl rfl rfl rfl ?_
            refine RL.nil ?_
            refine NQ.seq ?_
            refine CW.ret ?_
            refine RQ.seq ?_
            -- STOP: ret; end
            have hx : ¬ mmay g.M f.sr (fmark f) = 0 := by simpa using hx
            have hL : lookL B g f t = g.l := by rw [lookL, if_pos hB, if_pos he, if_neg hx]
            refine RQ.rea (fun _ h => h) (H' := GI B ({ g with M := takeM g.M f.sr (fmark f), cm := cm' })) (by repeat (first | exact Rea.nil | (apply Rea.cons; (solve | (repeat (first | exact Del.here | apply Del.there)))))) ?_
            exact RQ.post (res1 rfl rfl) (.keep (.keep (.keep (.keep (.keep (.keep (.keep .nil))))))) ⟨by rw [lookE, if_pos ht, if_pos hY, if_pos hk, if_pos he], rfl, cm', by rw [hM]; exact hcm, by rw [hL, hM]⟩
          ·
            refine CW.skip ?_
            refine NQ.seq ?_
            refine CW.seq ?_
            refine CW.regionD (Sq.of [0, 1, 2, 3, 4, 5, 6, 7]) [6] [6] [0, 1, 2, 4, 7] mixed (by kernel_rfl) ?_
            refine RL.move rfl rfl rfl rfl ?_
            refine RL.nilCheck rfl rfl rfl rfl ?_
            refine RL.fieldAddr fa_123_1 rfl rfl rfl rfl ?_
            refine RL.load Try.isAgg118 rfl rfl rfl rfl (by first | assumption | (apply RdI.rd; assumption) | (apply Rd.get; (solve | (repeat (first | exact List.Mem.head _ | apply List.Mem.tail))); assumption) | (apply Rd.getS; (solve | (repeat (first | exact List.Mem.head _ | apply List.Mem.tail))); assumption) | (apply Rd.getO; (solve | (repeat (first | exact List.Mem.head _ | apply List.Mem.tail))); assumption) | (apply Rd.getI; (solve | (repeat (first | exact List.Mem.head _ | apply List.Mem.tail))); assumption) | (apply Rd.cel; (solve | (repeat (first | exact List.Mem.head _ | apply List.Mem.tail))); exact rfl) | (apply Rd.celI; (solve | (repeat (first | exact List.Mem.head _ | apply List.Mem.tail))); exact rfl)) ?_
            refine RL.fieldAddr fa_99_1 rfl rfl rfl rfl ?_
            refine RL.load Try.isAgg3 rfl rfl rfl rfl (by first | assumption | (apply RdI.rd; assumption) | (apply Rd.get; (solve | (repeat (first | exact List.Mem.head _ | apply List.Mem.tail))); assumption) | (apply Rd.getS; (solve | (repeat (first | exact List.Mem.head _ | apply List.Mem.tail))); assumption) | (apply Rd.getO; (solve | (repeat (first | exact List.Mem.head _ | apply List.Mem.tail))); assumption) | (apply Rd.getI; (solve | (repeat (first | exact List.Mem.head _ | apply List.Mem.tail))); assumption) | (apply Rd.cel; (solve | (repeat (first | exact List.Mem.head _ | apply List.Mem.tail))); exact rfl) | (apply Rd.celI; (solve | (repeat (first | exact List.Mem.head _ | apply List.Mem.tail))); exact rfl)) ?_
            refine RL.call (lgood_any B.kb B.mo B.ti g.l f.sr hmo hg.l) Try.call160 rfl rfl rfl rfl rfl (by repeat (first | exact Pick.nil | apply Pick.take | apply Pick.leave)) (by repeat (first | exact Lend.nil | (refine Lend.inI ?_ ?_; (solve | (repeat (first | exact List.Mem.head _ | apply List.Mem.tail)))) | (refine Lend.inH ?_ ?_; (solve | (repeat (first | exact List.Mem.head _ | apply List.Mem.tail)))))) (.inr rfl) ?_
            -- STOP: called; op 7: d=6 ["assign", ["t", 66]] guard=None (auth.go:94)
            have hx : mmay g.M f.sr (fmark f) = 0 := by simpa using hx
            have hms : mayB f.sr = true := (kmay_zero hk).1
            have hL : lookL B g f t = goodL g.l f.sr := by rw [lookL, if_pos hB, if_pos he, if_pos hx]
            rintro _ _ _ ⟨rfl, rfl, rfl⟩
            refine RL.assign rfl rfl rfl rfl ?_
            refine RL.nil ?_
            refine NQ.seq ?_
            refine CW.only (.cons (k := 6) rfl .nil) ?_
            refine CW.ret ?_
            -- STOP: ret; end
            rw [if_pos hms]
            refine RQ.rea (fun _ h => h) (H' := GI B ({ g with l := goodL g.l f.sr, M := takeM g.M f.sr (fmark f), cm := cm' })) (by repeat (first | exact Rea.nil | (apply Rea.cons; (solve | (repeat (first | exact Del.here | apply Del.there)))))) ?_
            exact RQ.post (res1 rfl rfl) (.keep (.keep (.keep (.keep (.keep (.keep (.keep .nil))))))) ⟨by rw [lookE, if_pos ht, if_pos hY, if_pos hk, if_pos he, hx], rfl, cm', by rw [hM]; exact hcm, by rw [hL, hM]⟩
end Go.Proofs.Ytkkfdoippibfkaa

namespace Go.Proofs.Ytkkfdoippibfkaa
open Go.PK

def chkD (D : Int → Int) (e : Int) : Int → Int := fun e' => if e' = e then IntKind.i64.wrap (D e + 1) else D e'
def CheckR (B : GB) (g : GSt) (f : Fr) (t : Int) : Value → List It → List It → Prop := fun v I' H' => v = .int .i64 (lookE g f t) ∧ I' = [] ∧ ∃ cm ct, MRel cm (lookM g f t) ∧ DRel ct (chkD g.D (lookE g f t)) ∧ H' = GI B { g with l := lookL B g f t, M := lookM g f t, cm := cm, D := chkD g.D (lookE g f t), ct := ct }
theorem gcheck_any (B : GB) (g : GSt) (f : Fr) (p : Option Addr) (c n : Nat) (t : Int) (hmo : B.mo ≠ 0) (hg : GOk g) (hf : f.Ok) (hn : f.b.length = n) (hb : n ≤ 900000) :
    Spc Try.prog 53 #[.pointer (some ⟨B.gb, 0, none⟩), .int .i64 t, .agg (f.cells (.slice p n c)).toArray] [sls p 1 n (bytes f.b)] (GI B g) (CheckR B g f t) := by
  have hl := fr_len hf.tag (.slice p n c)
  refine Spc.enter Try.func53 rfl rfl rfl (fun w0 hw0 => ?_)
  refine CW.seq ?_
  refine CW.region (ef := [0]) (bk := []) ?_
  refine RL.box rfl rfl rfl rfl rfl rfl ?_
  intro b1
  refine RL.assign rfl rfl rfl rfl ?_
  refine RL.nil ?_
  refine NQ.seq ?_
  refine CW.seq ?_
  refine CW.seq ?_
  refine CW.region (ef := []) (bk := []) ?_
  refine RL.move rfl rfl rfl rfl ?_
  refine RL.callv (gis_any B) Try.call106 rfl rfl rfl rfl (by repeat (first | exact Lend.nil | (refine Lend.inI ?_ ?_; (solve | (repeat (first | exact List.Mem.head _ | apply List.Mem.tail)))) | (refine Lend.inH ?_ ?_; (solve | (repeat (first | exact List.Mem.head _ | apply List.Mem.tail)))))) ?_
  refine RL.not rfl rfl rfl rfl ?_
  refine RL.nil ?_
  refine NQ.seq ?_
  -- STOP: if; todo top: ["code", ["cond", ["t", 10], ["seq", ["region", 2, [{"d": 6, "op": ["assign", ["c", ["int", "Go.IntKind.i64", 1]]], "ty": 32, "pos": "auth.go:100", "after": [], "guard": null}], false], ["ret"]], ["sk
  refine CW.condF rfl (rfl) ?_
  refine CW.skip ?_
  refine NQ.seq ?_
  refine CW.seq ?_
  refine CW.region (ef := [3]) (bk := [3]) ?_
  refine RL.move rfl rfl rfl rfl ?_
  refine RL.move rfl rfl rfl rfl ?_
  first | refine RL.loadM Try.isAgg99 Try.sizeOf99 rfl rfl rfl rfl (by assumption) ?_ | refine RL.loadA Try.isAgg99 Try.sizeOf99 rfl rfl rfl rfl (by first | assumption | (apply RdsI.rds; assumption)) (by first | rfl | assumption | (simp only [List.length_map]; assumption) | (simp only [List.length_map, List.length_replicate, hl]; done) | (simp; done)) ?_ | refine RL.loadW Try.isAgg99 Try.sizeOf99 rfl rfl rfl rfl (by (solve | (repeat (first | exact List.Mem.head _ | apply List.Mem.tail)))) (by first | rfl | assumption | (simp only [List.length_map]; assumption) | (simp only [List.length_map, List.length_replicate, hl]; done) | (simp; done)) ?_
  refine RL.call (glook_any B g f p c n t hmo hg hf hn hb) Try.call111 rfl rfl rfl rfl rfl (by repeat (first | exact Pick.nil | apply Pick.take | apply Pick.leave)) (by repeat (first | exact Lend.nil | (refine Lend.inI ?_ ?_; (solve | (repeat (first | exact List.Mem.head _ | apply List.Mem.tail)))) | (refine Lend.inH ?_ ?_; (solve | (repeat (first | exact List.Mem.head _ | apply List.Mem.tail)))))) (.inr rfl) ?_
  -- STOP: called; op 4: d=7 ["assign", ["t", 14]] guard=None (auth.go:102)
  rintro _ _ _ ⟨rfl, rfl, cm', hcm, rfl⟩
  refine RL.assign rfl rfl rfl rfl ?_
  refine RL.nil ?_
  refine NQ.seq ?_
  refine CW.only (.cons (k := 0) rfl (.cons (k := 7) rfl .nil)) ?_
  refine CW.seq ?_
  refine CW.region (ef := [7]) (bk := [7]) ?_
  refine RL.move rfl rfl rfl rfl ?_
  refine RL.nilCheck rfl rfl rfl rfl ?_
  refine RL.fieldAddr fa_123_4 rfl rfl rfl rfl ?_
  refine RL.load Try.isAgg121 rfl rfl rfl rfl (by first | assumption | (apply RdI.rd; assumption) | (apply Rd.get; (solve | (repeat (first | exact List.Mem.head _ | apply List.Mem.tail))); assumption) | (apply Rd.getS; (solve | (repeat (first | exact List.Mem.head _ | apply List.Mem.tail))); assumption) | (apply Rd.getO; (solve | (repeat (first | exact List.Mem.head _ | apply List.Mem.tail))); assumption) | (apply Rd.getI; (solve | (repeat (first | exact List.Mem.head _ | apply List.Mem.tail))); assumption) | (apply Rd.cel; (solve | (repeat (first | exact List.Mem.head _ | apply List.Mem.tail))); exact rfl) | (apply Rd.celI; (solve | (repeat (first | exact List.Mem.head _ | apply List.Mem.tail))); exact rfl)) ?_
  refine RL.move rfl rfl rfl rfl ?_
  -- STOP: op; op 5: d=20 ["lookup", 121, ["t", 18], ["t", 19], false] guard=None (auth.go:103)
  refine RL.lookup keyE' Try.runUnderlying121 Try.zeroValue3 rfl rfl rfl rfl rfl ⟨lookE g f t, rfl⟩ (MapAt.own (by repeat (first | exact List.Mem.head _ | apply List.Mem.tail))) ?_
  rw [hg.d (lookE g f t)]
  refine RL.bin rfl rfl rfl rfl rfl rfl ?_
  -- STOP: op; op 7: d=None ["mapUpdate", 121, ["t", 18], ["t", 19], ["t", 21]] guard=None (auth.go:103)
  refine RL.mapUpdate keyE' Try.runUnderlying121 rfl rfl rfl rfl rfl rfl rfl ⟨lookE g f t, rfl⟩ (by repeat (first | exact Upd.here | apply Upd.there)) ?_
  refine RL.nil ?_
  refine NQ.seq ?_
  refine CW.only (.cons (k := 7) rfl .nil) ?_
  refine CW.seq ?_
  refine CW.region (ef := []) (bk := []) ?_
  refine RL.move rfl rfl rfl rfl ?_
  refine RL.assign rfl rfl rfl rfl ?_
  refine RL.nil ?_
  refine NQ.seq ?_
  refine CW.ret ?_
  -- STOP: ret; end
  refine RQ.rea (fun _ h => h) (H' := GI B ({ g with l := lookL B g f t, M := lookM g f t, cm := cm', D := chkD g.D (lookE g f t), ct := setV (.int .i64 (lookE g f t)) (.int .i64 (IntKind.i64.wrap (g.D (lookE g f t) + 1))) g.ct })) (by repeat (first | exact Rea.nil | (apply Rea.cons; (solve | (repeat (first | exact Del.here | apply Del.there)))))) ?_
  exact RQ.post (res1 rfl rfl) (.keep (.keep (.keep (.keep (.keep (.keep (.keep .nil))))))) ⟨rfl, rfl, cm', _, hcm, hg.d.set _ _, rfl⟩
/-- A source is let in. -/
def srcE (g : GSt) (s : Int) (ks : List Int) : Int := if ks = [] ∨ ks.any oddG = true then 2 else putE g.T s
def addY (Y : Int → Int → Bool) (s : Int) (ks : List Int) : Int → Int → Bool := fun a b => (a == s && ks.contains b) || Y a b
def srcT (g : GSt) (s : Int) (k : List B8) (ks : List Int) (b : Nat) : List One := if ks = [] ∨ ks.any oddG = true then g.T else putT g.T s k b
def srcY (g : GSt) (s : Int) (ks : List Int) : Int → Int → Bool := if srcE g s ks = 0 then addY g.Y s ks else g.Y
def SrcGR (B : GB) (g : GSt) (s : Int) (k : List B8) (ks : List Int) : Value → List It → List It → Prop := fun v I' H' => v = .int .i64 (srcE g s ks) ∧ I' = [] ∧ ∃ b c' cy, KOk (srcT g s k ks b) c' ∧ YRel cy (srcY g s ks) ∧ H' = GI B { g with T := srcT g s k ks b, c := c', Y := srcY g s ks, cy := cy }
theorem addY_snoc {Y : Int → Int → Bool} {s : Int} {ks : List Int} {x : Int} : (fun a b => (a == s && b == x) || addY Y s ks a b) = addY Y s (ks ++ [x]) := by
  funext a b
  simp only [addY, List.contains_eq_mem, List.mem_append, List.mem_singleton]
  by_cases h1 : a = s
  · subst h1; by_cases h2 : b = x <;> simp [h2]
  · have : (a == s) = false := by simpa using h1
    simp [this]
theorem addY_nil {Y : Int → Int → Bool} {s : Int} : addY Y s [] = Y := by funext a b; simp [addY]
theorem gsource_any (B : GB) (g : GSt) (s : Int) (k : List B8) (kp : Option Addr) (c n : Nat) (ks : List Int) (hg : GOk g) (hk : k.length = 32) (hn : ks.length = n) (hb : n ≤ 1000000) :
    Spc Try.prog 54 #[.pointer (some ⟨B.gb, 0, none⟩), .int .i64 s, .agg (bytes k).toArray, .slice kp n c] [sls kp 1 n (ints ks)] (GI B g) (SrcGR B g s k ks) := by
  subst hn
  refine Spc.enter Try.func54 rfl rfl rfl (fun w0 hw0 => ?_)
  refine CW.seq ?_
  refine CW.region (ef := [0]) (bk := []) ?_
  refine RL.box rfl rfl rfl rfl rfl rfl ?_
  intro b1
  refine RL.assign rfl rfl rfl rfl ?_
  refine RL.nil ?_
  refine NQ.seq ?_
  refine CW.seq ?_
  refine CW.region (ef := []) (bk := []) ?_
  refine RL.assign rfl rfl rfl rfl ?_
  refine RL.nil ?_
  refine NQ.seq ?_
  refine CW.seq ?_
  refine CW.block ?_
  refine CW.seq ?_
  refine CW.region (ef := []) (bk := []) ?_
  refine RL.move rfl rfl rfl rfl ?_
  refine RL.callv (gis_any B) Try.call106 rfl rfl rfl rfl (by repeat (first | exact Lend.nil | (refine Lend.inI ?_ ?_; (solve | (repeat (first | exact List.Mem.head _ | apply List.Mem.tail)))) | (refine Lend.inH ?_ ?_; (solve | (repeat (first | exact List.Mem.head _ | apply List.Mem.tail)))))) ?_
  refine RL.not rfl rfl rfl rfl ?_
  refine RL.assign rfl rfl rfl rfl ?_
  refine RL.nil ?_
  refine NQ.seq ?_
  -- STOP: if; todo top: ["code", ["cond", ["t", 13], ["seq", ["region", 3, [{"d": 8, "op": ["assign", ["c", ["int", "Go.IntKind.i64", 1]]], "ty": 32, "pos": "auth.go:50", "after": [], "guard": null}], false], ["ret"]], ["seq
  refine CW.condF rfl (rfl) ?_
  refine CW.seq ?_
  refine CW.region (ef := []) (bk := []) ?_
  refine RL.move rfl rfl rfl rfl ?_
  refine RL.lenS Try.runUnderlying43 rfl rfl rfl rfl ?_
  refine RL.bin rfl rfl rfl rfl rfl rfl ?_
  refine RL.move rfl rfl rfl rfl ?_
  apply RL.orB (d := 21) (dp := 25) (l' := (Sq.of [8])) rfl (.cons (k := 0) rfl (.cons (k := 1) rfl (.cons (k := 3) rfl (.cons (k := 6) rfl (.cons (k := 8) rfl .nil)))))
  ·
    intro hb4 K4
    refine RL.move rfl rfl rfl rfl ?_
    refine RL.move rfl rfl rfl rfl ?_
    refine RL.callv (oddGHas_walk kp ks.length c ks rfl (by omega)) Try.call113 rfl rfl rfl rfl (by repeat (first | exact Lend.nil | (refine Lend.inI ?_ ?_; (solve | (repeat (first | exact List.Mem.head _ | apply List.Mem.tail)))) | (refine Lend.inH ?_ ?_; (solve | (repeat (first | exact List.Mem.head _ | apply List.Mem.tail)))))) ?_
    refine RL.pickF rfl rfl rfl rfl rfl ?_
    exact K4 _ (.cons rfl (.cons (k := 0) rfl (.cons (k := 1) rfl (.cons (k := 3) rfl (.cons (k := 6) rfl (.cons (k := 8) rfl .nil))))))
  ·
    intro hb4 K4
    refine RL.skip rfl rfl rfl rfl ?_
    refine RL.skip rfl rfl rfl rfl ?_
    refine RL.skip rfl rfl rfl rfl ?_
    refine RL.pickT rfl rfl rfl rfl rfl ?_
    exact K4 _ (.cons rfl (.cons (k := 0) rfl (.cons (k := 1) rfl (.cons (k := 3) rfl (.cons (k := 6) rfl (.cons (k := 8) rfl .nil))))))
  refine RL.assign rfl rfl rfl rfl ?_
  refine RL.nil ?_
  refine NQ.seq ?_
  -- STOP: if; todo top: ["code", ["cond", ["t", 17], ["seq", ["region", 5, [{"d": 8, "op": ["assign", ["c", ["int", "Go.IntKind.i64", 2]]], "ty": 32, "pos": "auth.go:52", "after": [], "guard": null}], false], ["ret"]], ["ski
  refine CW.cond rfl (fun h => ?_) (fun h => ?_)
  ·
    refine CW.seq ?_
    refine CW.region (ef := []) (bk := []) ?_
    refine RL.assign rfl rfl rfl rfl ?_
    refine RL.nil ?_
    refine NQ.seq ?_
    refine CW.ret ?_
    refine RQ.block ?_
    refine RQ.seq ?_
    -- STOP: ret; end
    have hO : ks = [] ∨ ks.any oddG = true := by simp at h; simpa using h
    have hE : srcE g s ks = 2 := by rw [srcE, if_pos hO]
    have hT : ∀ b, srcT g s k ks b = g.T := fun b => by rw [srcT, if_pos hO]
    have hY : srcY g s ks = g.Y := by rw [srcY, hE]; rfl
    refine RQ.rea (fun _ h => h) (H' := GI B (g)) (by repeat (first | exact Rea.nil | (apply Rea.cons; (solve | (repeat (first | exact Del.here | apply Del.there)))))) ?_
    exact RQ.post (res1 rfl rfl) (.keep (.keep (.keep (.keep (.keep (.keep (.keep .nil))))))) ⟨by rw [hE], rfl, 0, g.c, g.cy, by rw [hT]; exact hg.k, by rw [hY]; exact hg.y, by rw [hT, hY]⟩
  ·
    refine CW.skip ?_
    refine NQ.block ?_
    refine NQ.seq ?_
    refine CW.seq ?_
    refine CW.regionD (Sq.of [0, 1, 2, 3, 4, 5, 6, 7]) [6] [6] [0, 1, 2, 4, 7] mixed (by kernel_rfl) ?_
    refine RL.move rfl rfl rfl rfl ?_
    refine RL.nilCheck rfl rfl rfl rfl ?_
    refine RL.fieldAddr fa_123_0 rfl rfl rfl rfl ?_
    refine RL.load Try.isAgg24 rfl rfl rfl rfl (by first | assumption | (apply RdI.rd; assumption) | (apply Rd.get; (solve | (repeat (first | exact List.Mem.head _ | apply List.Mem.tail))); assumption) | (apply Rd.getS; (solve | (repeat (first | exact List.Mem.head _ | apply List.Mem.tail))); assumption) | (apply Rd.getO; (solve | (repeat (first | exact List.Mem.head _ | apply List.Mem.tail))); assumption) | (apply Rd.getI; (solve | (repeat (first | exact List.Mem.head _ | apply List.Mem.tail))); assumption) | (apply Rd.cel; (solve | (repeat (first | exact List.Mem.head _ | apply List.Mem.tail))); exact rfl) | (apply Rd.celI; (solve | (repeat (first | exact List.Mem.head _ | apply List.Mem.tail))); exact rfl)) ?_
    refine RL.move rfl rfl rfl rfl ?_
    first | refine RL.loadM Try.isAgg35 Try.sizeOf35 rfl rfl rfl rfl (by assumption) ?_ | refine RL.loadA Try.isAgg35 Try.sizeOf35 rfl rfl rfl rfl (by first | assumption | (apply RdsI.rds; assumption)) (by first | rfl | assumption | (simp only [List.length_map]; assumption) | (simp only [List.length_map, List.length_replicate, hk]; done) | (simp; done)) ?_ | refine RL.loadW Try.isAgg35 Try.sizeOf35 rfl rfl rfl rfl (by (solve | (repeat (first | exact List.Mem.head _ | apply List.Mem.tail)))) (by first | rfl | assumption | (simp only [List.length_map]; assumption) | (simp only [List.length_map, List.length_replicate, hk]; done) | (simp; done)) ?_
    refine RL.call (put_any B.r B.m1 B.m2 g.T g.c s k hk hg.t hg.k) Try.call14 rfl rfl rfl rfl rfl (by repeat (first | exact Pick.nil | apply Pick.take | apply Pick.leave)) (by repeat (first | exact Lend.nil | (refine Lend.inI ?_ ?_; (solve | (repeat (first | exact List.Mem.head _ | apply List.Mem.tail)))) | (refine Lend.inH ?_ ?_; (solve | (repeat (first | exact List.Mem.head _ | apply List.Mem.tail)))))) (.inr rfl) ?_
    -- STOP: called; op 7: d=10 ["assign", ["t", 32]] guard=None (auth.go:54)
    have hO : ¬ (ks = [] ∨ ks.any oddG = true) := by simp at h; simpa using h
    have hE : srcE g s ks = putE g.T s := by rw [srcE, if_neg hO]
    have hT : ∀ b, srcT g s k ks b = putT g.T s k b := fun b => by rw [srcT, if_neg hO]
    rintro _ _ _ ⟨rfl, rfl, b, c', hc', rfl⟩
    refine RL.assign rfl rfl rfl rfl ?_
    refine RL.nil ?_
    refine NQ.seq ?_
    refine CW.only (.cons (k := 0) rfl (.cons (k := 1) rfl (.cons (k := 3) rfl (.cons (k := 10) rfl .nil)))) ?_
    refine CW.seq ?_
    refine CW.seq ?_
    refine CW.region (ef := []) (bk := []) ?_
    refine RL.move rfl rfl rfl rfl ?_
    refine RL.bin rfl rfl rfl rfl rfl rfl ?_
    refine RL.nil ?_
    refine NQ.seq ?_
    -- STOP: if; todo top: ["code", ["cond", ["t", 34], ["seq", ["region", 8, [{"d": 35, "op": ["move", ["t", 10]], "ty": 32, "pos": "auth.go:56", "after": [], "guard": null}, {"d": 8, "op": ["assign", ["t", 35]], "ty": 32, "po
    refine CW.cond rfl (fun he => ?_) (fun he => ?_)
    ·
      refine CW.seq ?_
      refine CW.region (ef := []) (bk := []) ?_
      refine RL.move rfl rfl rfl rfl ?_
      refine RL.assign rfl rfl rfl rfl ?_
      refine RL.nil ?_
      refine NQ.seq ?_
      refine CW.ret ?_
      refine RQ.seq ?_
      -- STOP: ret; end
      have he : ¬ putE g.T s = 0 := by simpa using he
      have hY : srcY g s ks = g.Y := by rw [srcY, hE, if_neg he]
      refine RQ.rea (fun _ h => h) (H' := GI B ({ g with T := putT g.T s k b, c := c' })) (by repeat (first | exact Rea.nil | (apply Rea.cons; (solve | (repeat (first | exact Del.here | apply Del.there)))))) ?_
      exact RQ.post (res1 rfl rfl) (.keep (.keep (.keep (.keep (.keep (.keep (.keep .nil))))))) ⟨by rw [hE], rfl, b, c', g.cy, by rw [hT]; exact hc', by rw [hY]; exact hg.y, by rw [hT, hY]⟩
    ·
      refine CW.skip ?_
      refine NQ.seq ?_
      refine CW.seq ?_
      refine CW.seq ?_
      refine CW.region (ef := []) (bk := []) ?_
      refine RL.move rfl rfl rfl rfl ?_
      refine RL.lenS Try.runUnderlying43 rfl rfl rfl rfl ?_
      refine RL.move rfl rfl rfl rfl ?_
      refine RL.nil ?_
      refine NQ.seq ?_
      refine CW.block ?_
      -- STOP: loop; todo top: ["code", ["loop", ["seq", ["region", 10, [{"d": 39, "op": ["binOp", "Go.BinOp.lss", 3, ["t", 38], ["t", 37], 3], "ty": 0, "pos": "auth.go:58", "after": [], "guard": null}], false], ["seq", ["cond", ["
      have he : putE g.T s = 0 := by simpa using he
      have hY : srcY g s ks = addY g.Y s ks := by rw [srcY, hE, if_pos he]
      refine CW.loop (γ := Nat × List (Value × Value)) (fun z => z.1 ≤ ks.length ∧ YRel z.2 (addY g.Y s (ks.take z.1))) (fun z => [(0, .pointer (some ⟨B.gb, 0, none⟩)), (1, .int .i64 s), (10, .int .i64 (putE g.T s)), (36, .slice kp ks.length c), (37, .int .i64 (ks.length : Int)), (38, .int .i64 (z.1 : Int))]) (fun _ => [sls kp 1 ks.length (ints ks)])
        (fun z => GI B { g with T := putT g.T s k b, c := c', cy := z.2 }) (fun z => ks.length - z.1) (0, g.cy) ⟨by omega, by rw [List.take_zero, addY_nil]; exact hg.y⟩ (.cons rfl (.cons rfl (.cons rfl (.cons rfl (.cons rfl (.cons rfl .nil)))))) (fun w h => h.rea (fun _ h => by simpa using h) (by repeat (first | exact Rea.nil | (apply Rea.cons; (solve | (repeat (first | exact Del.here | apply Del.there))))))) ?_
      rintro ⟨i, cy⟩ ⟨hi, hcy⟩
      dsimp only at hi hcy ⊢
      refine CW.fact (p := kp = none → ks.length = 0) (fun w hC e => sls_nil (hC.s.i _ (List.Mem.head _)) e) (fun hpp => ?_)
      refine CW.seq ?_
      refine CW.region (ef := []) (bk := []) ?_
      refine RL.bin rfl rfl rfl rfl rfl rfl ?_
      refine RL.nil ?_
      refine NQ.seq ?_
      refine CW.seq ?_
      -- STOP: if; todo top: ["code", ["cond", ["t", 39], ["skip"], ["exit", 1]]]
      refine CW.cond rfl (fun hlt => ?_) (fun hlt => ?_)
      ·
        have hlt : i < ks.length := by simp at hlt; omega
        cases kp with
        | none => exact absurd (hpp rfl) (by omega)
        | some a =>
        have f1 := RdI.sls (I := [sls (some a) 1 ks.length (ints ks)]) (List.Mem.head _) (List.getElem?_eq_getElem hlt)
        have htk := List.take_succ_eq_append_getElem hlt
        generalize ks[i] = x at f1 htk
        refine CW.skip ?_
        refine NQ.seq ?_
        refine CW.seq ?_
        refine CW.block ?_
        refine CW.seq ?_
        refine CW.region (ef := []) (bk := []) ?_
        first | refine RL.idxAt (j := i) Try.runUnderlying43 Try.sizeOf3 rfl rfl rfl rfl rfl rfl (hlt) ?_ | refine RL.idx (j := i) Try.runUnderlying43 Try.sizeOf3 rfl rfl rfl rfl rfl rfl (hlt) ?_
        refine RL.load Try.isAgg3 rfl rfl rfl rfl (by first | assumption | (apply RdI.rd; assumption) | (apply Rd.get; (solve | (repeat (first | exact List.Mem.head _ | apply List.Mem.tail))); assumption) | (apply Rd.getS; (solve | (repeat (first | exact List.Mem.head _ | apply List.Mem.tail))); assumption) | (apply Rd.getO; (solve | (repeat (first | exact List.Mem.head _ | apply List.Mem.tail))); assumption) | (apply Rd.getI; (solve | (repeat (first | exact List.Mem.head _ | apply List.Mem.tail))); assumption) | (apply Rd.cel; (solve | (repeat (first | exact List.Mem.head _ | apply List.Mem.tail))); exact rfl) | (apply Rd.celI; (solve | (repeat (first | exact List.Mem.head _ | apply List.Mem.tail))); exact rfl)) ?_
        refine RL.assign rfl rfl rfl rfl ?_
        refine RL.nil ?_
        refine NQ.seq ?_
        refine CW.region (ef := [7]) (bk := [7]) ?_
        refine RL.move rfl rfl rfl rfl ?_
        refine RL.nilCheck rfl rfl rfl rfl ?_
        first | refine RL.fieldAddr fa_123_3 rfl rfl rfl rfl ?_ | refine RL.fieldAddrG fa_123_3 rfl rfl rfl rfl ?_
        refine RL.load Try.isAgg120 rfl rfl rfl rfl (by first | assumption | (apply RdI.rd; assumption) | (apply Rd.get; (solve | (repeat (first | exact List.Mem.head _ | apply List.Mem.tail))); assumption) | (apply Rd.getS; (solve | (repeat (first | exact List.Mem.head _ | apply List.Mem.tail))); assumption) | (apply Rd.getO; (solve | (repeat (first | exact List.Mem.head _ | apply List.Mem.tail))); assumption) | (apply Rd.getI; (solve | (repeat (first | exact List.Mem.head _ | apply List.Mem.tail))); assumption) | (apply Rd.cel; (solve | (repeat (first | exact List.Mem.head _ | apply List.Mem.tail))); exact rfl) | (apply Rd.celI; (solve | (repeat (first | exact List.Mem.head _ | apply List.Mem.tail))); exact rfl)) ?_
        refine RL.move rfl rfl rfl rfl ?_
        refine RL.move rfl rfl rfl rfl ?_
        refine RL.buildS [_, _] Try.zeroValue213 pl_213 rfl rfl rfl rfl rfl ?_
        -- STOP: op; op 7: d=None ["mapUpdate", 120, ["t", 45], ["t", 48], ["c", ["bool", true]]] guard=None (auth.go:59)
        refine RL.mapUpdate keyR Try.runUnderlying120 rfl rfl rfl rfl rfl rfl rfl ⟨s, x, rfl⟩ (by repeat (first | exact Upd.here | apply Upd.there)) ?_
        refine RL.nil ?_
        refine NQ.block ?_
        refine NQ.seq ?_
        refine CW.only (.cons (k := 0) rfl (.cons (k := 1) rfl (.cons (k := 10) rfl (.cons (k := 36) rfl (.cons (k := 37) rfl (.cons (k := 38) rfl .nil)))))) ?_
        refine CW.region (ef := []) (bk := []) ?_
        refine RL.binX rfl rfl rfl rfl rfl rfl (wrapV_i64 (by omega) (by omega)) ?_
        refine RL.move rfl rfl rfl rfl ?_
        refine RL.nil ?_
        -- STOP: round; todo top: ["N"]
        refine NQ.round (g := (i, cy)) (i + 1, setV (rt s x) (.bool true) cy) ⟨hlt, by show YRel (setV (rt s x) (.bool true) cy) (addY g.Y s (ks.take (i + 1))); rw [htk, ← addY_snoc]; exact hcy.set s x⟩ (by show ks.length - (i + 1) < ks.length - i; omega) (.cons rfl (.cons rfl (.cons rfl (.cons rfl (.cons rfl (.cons rfl .nil)))))) (fun w h => h)
      ·
        refine CW.exit ?_
        refine XQ.seq ?_
        refine XQ.seq ?_
        refine XQ.hit ?_
        refine NQ.seq ?_
        refine CW.only (.cons (k := 10) rfl .nil) ?_
        refine CW.seq ?_
        refine CW.region (ef := []) (bk := []) ?_
        refine RL.move rfl rfl rfl rfl ?_
        refine RL.assign rfl rfl rfl rfl ?_
        refine RL.nil ?_
        refine NQ.seq ?_
        refine CW.ret ?_
        -- STOP: ret; end
        have hin : i = ks.length := by simp at hlt; omega
        subst hin
        rw [List.take_length] at hcy
        exact RQ.post (res1 rfl rfl) (.keep (.keep (.keep (.keep (.keep (.keep (.keep .nil))))))) ⟨by rw [hE], rfl, b, c', cy, by rw [hT]; exact hc', by rw [hY]; exact hcy, by rw [hT, hY]⟩
end Go.Proofs.Ytkkfdoippibfkaa
