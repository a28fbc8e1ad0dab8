import Derived.Test.YtkkfdoippibfkaaGreatAA
import Derived.Test.YtkkfdoippibfkaaGreatKA
import Derived.Test.YtkkfdoippibfkaaGreatAH
namespace Go.Proofs.YtkkfdoippibfkaaGreat
open Go.PK

/-- A frame's tag is looked at. -/
def tagOk (g : GSt) (f : Fr) (t : Int) : Bool := f.tag == macTag (keyM g.T f.sr f.ep t).1 f.signed
def tagE (g : GSt) (f : Fr) (t : Int) : Int := if (keyM g.T f.sr f.ep t).2 = 0 then (if tagOk g f t = true then 0 else 190) else (keyM g.T f.sr f.ep t).2
def tagG (B : GB) (g : GSt) (f : Fr) (t : Int) : GSt := if (keyM g.T f.sr f.ep t).2 = 0 then (if tagOk g f t = true then g else { g with l := failL B.mo B.ti g.l f.sr t }) else g
def GR (B : GB) (g : GSt) (x : Int) : Value → List It → List It → Prop := fun v I' H' => v = .int .i64 x ∧ I' = [] ∧ H' = GI B g
theorem joined_one (p : Option Addr) (c : Nat) (m : List B8) : joined [⟨p, c, m⟩] = m := by simp [joined]
theorem gtag_any (B : GB) (g : GSt) (f : Fr) (p : Option Addr) (c n : Nat) (t : Int) (hmo : B.mo ≠ 0) (hg : GOk g) (hf : f.Ok) (hn : f.b.length = n) (hb : n ≤ 900000) :
    Spc Tryz.prog 68 #[.pointer (some ⟨B.gb, 0, none⟩), .int .i64 t, .agg (f.cells (.slice p n c)).toArray] [sls p 1 n (bytes f.b)] (GI B g) (GR B (tagG B g f t) (tagE g f t)) := by
  have hl := fr_len hf.tag (.slice p n c)
  have hk := keyM_len g.T f.sr f.ep t
  have hsl := signed_len f
  refine Spc.enter Tryz.func68 rfl rfl rfl (fun w0 hw0 => ?_)
  refine CW.seq ?_
  refine CW.region (ef := [0]) (bk := []) ?_
  refine RL.box rfl rfl rfl rfl rfl rfl ?_
  intro b1
  refine RL.assign rfl rfl rfl rfl ?_
  refine RL.nil ?_
  refine NQ.seq ?_
  refine CW.seq ?_
  refine CW.regionD (Sq.of [0, 1, 2, 3, 4, 5, 6, 7, 8, 9, 10, 11, 12, 13, 14, 15]) [13, 14] [14] [0, 1, 2, 4, 6, 8, 10, 11, 12, 15] mixed (by kernel_rfl) ?_
  refine RL.move rfl rfl rfl rfl ?_
  refine RL.nilCheck rfl rfl rfl rfl ?_
  refine RL.fieldAddr fa_76_0 rfl rfl rfl rfl ?_
  refine RL.loadq Tryz.isAgg69 rfl rfl rfl rfl ?_
  refine RL.fieldAddr fa_38_1 rfl rfl rfl rfl ?_
  refine RL.loadq Tryz.isAgg3 rfl rfl rfl rfl ?_
  refine RL.fieldAddr fa_38_2 rfl rfl rfl rfl ?_
  refine RL.loadq Tryz.isAgg32 rfl rfl rfl rfl ?_
  refine RL.move rfl rfl rfl rfl ?_
  refine RL.callvq (key_any B.r B.m1 B.m2 g.T g.c f.sr f.ep t hg.t hg.k hf.ep) Tryz.call89 rfl rfl rfl rfl ?_
  refine RL.move rfl rfl rfl rfl ?_
  refine RL.extract rfl rfl rfl rfl rfl ?_
  refine RL.extract rfl rfl rfl rfl rfl ?_
  refine RL.alloc (cs := List.replicate 32 (U8 0#8)) Tryz.zeroValue56 rfl rfl rfl rfl rfl ?_
  intro b2
  refine RL.storeW Tryz.sizeOf56 rfl rfl rfl rfl rfl rfl rfl (by first | rfl | exact ones_map one8 _ | exact ones_map (fun _ => rfl) _) (by repeat (first | exact Upd.here | apply Upd.there)) (by first | rfl | assumption | (simp only [List.length_map]; assumption) | (simp only [List.length_map, List.length_replicate, hl, hk]; done) | (simp; done)) (by first | rfl | assumption | (simp only [List.length_map]; assumption) | (simp only [List.length_map, List.length_replicate, hl, hk]; done) | (simp; done)) ?_
  refine RL.assign rfl rfl rfl rfl ?_
  refine RL.nil ?_
  refine NQ.seq ?_
  refine CW.only (.cons (k := 0) rfl (.cons (k := 1) rfl (.cons (k := 5) rfl (.cons (k := 7) rfl (.cons (k := 8) rfl .nil))))) ?_
  refine CW.seq ?_
  refine CW.seq ?_
  refine CW.region (ef := []) (bk := []) ?_
  refine RL.move rfl rfl rfl rfl ?_
  refine RL.bin rfl rfl rfl rfl rfl rfl ?_
  refine RL.nil ?_
  refine NQ.seq ?_
  refine CW.cond rfl (fun h => ?_) (fun h => ?_)
  ·
    refine CW.seq ?_
    refine CW.region (ef := []) (bk := []) ?_
    refine RL.move rfl rfl rfl rfl ?_
    refine RL.assign rfl rfl rfl rfl ?_
    refine RL.nil ?_
    refine NQ.seq ?_
    refine CW.ret ?_
    refine RQ.seq ?_
    have h : ¬ (keyM g.T f.sr f.ep t).2 = 0 := by simpa using h
    have e : tagG B g f t = g := by rw [tagG, if_neg h]
    rw [e]
    refine RQ.rea (fun _ h => h) (H' := GI B (g)) (by repeat (first | exact Rea.nil | (apply Rea.cons; (solve | (repeat (first | exact Del.here | apply Del.there)))))) ?_
    exact RQ.post (res1 rfl rfl) (.keep (.keep (.keep (.keep (.keep (.keep (.keep .nil))))))) ⟨by rw [tagE, if_neg h]; rfl, rfl, rfl⟩
  ·
    have h : (keyM g.T f.sr f.ep t).2 = 0 := by simpa using h
    refine CW.skip ?_
    refine NQ.seq ?_
    refine CW.seq ?_
    refine CW.seq ?_
    refine CW.regionD (Sq.of [0, 1, 2, 3, 4, 5, 6, 7]) [4, 5] [] [1, 7] mixed (by kernel_rfl) ?_
    first | refine RL.loadM Tryz.isAgg56 Tryz.sizeOf56 rfl rfl rfl rfl (by assumption) ?_ | refine RL.loadA Tryz.isAgg56 Tryz.sizeOf56 rfl rfl rfl rfl (by first | assumption | (apply RdsI.rds; assumption)) (by first | rfl | assumption | (simp only [List.length_map]; assumption) | (simp only [List.length_map, List.length_replicate, hl, hk]; done) | (simp; done)) ?_ | refine RL.loadW Tryz.isAgg56 Tryz.sizeOf56 rfl rfl rfl rfl (by (solve | (repeat (first | exact List.Mem.head _ | apply List.Mem.tail)))) (by first | rfl | assumption | (simp only [List.length_map]; assumption) | (simp only [List.length_map, List.length_replicate, hl, hk]; done) | (simp; done)) ?_
    refine RL.fieldAddr fa_38_5 rfl rfl rfl rfl ?_
    refine RL.loadA Tryz.isAgg36 Tryz.sizeOf36 rfl rfl rfl rfl (vs := bytes f.tag) (Rds.cel (by repeat (first | exact List.Mem.head _ | apply List.Mem.tail)) (fr_tag f _)) (by rw [List.length_map, hf.tag]) ?_
    first | refine RL.loadM Tryz.isAgg38 Tryz.sizeOf38 rfl rfl rfl rfl (by assumption) ?_ | refine RL.loadA Tryz.isAgg38 Tryz.sizeOf38 rfl rfl rfl rfl (by first | assumption | (apply RdsI.rds; assumption)) (by first | rfl | assumption | (simp only [List.length_map]; assumption) | (simp only [List.length_map, List.length_replicate, hl, hk]; done) | (simp; done)) ?_ | refine RL.loadW Tryz.isAgg38 Tryz.sizeOf38 rfl rfl rfl rfl (by (solve | (repeat (first | exact List.Mem.head _ | apply List.Mem.tail)))) (by first | rfl | assumption | (simp only [List.length_map]; assumption) | (simp only [List.length_map, List.length_replicate, hl, hk]; done) | (simp; done)) ?_
    refine RL.callq (signed_any f p c n hf hn hb) Tryz.call46 rfl rfl rfl rfl rfl (.inl rfl) ?_
    rintro _ _ _ ⟨ob1, cap1, rfl, rfl, rfl, ho1⟩
    refine RL.buildSlice [_] Tryz.runUnderlying143 Tryz.sizeOf34 Tryz.zeroValue34 rfl rfl (by decide) (by decide) rfl rfl rfl rfl rfl rfl ?_
    intro b3
    refine RL.callv (right_any (keyM g.T f.sr f.ep t).1 hk f.tag hf.tag (some ⟨b3, 0, none⟩) 1 1 [⟨ob1.map fun b => ⟨b, 0, none⟩, cap1, f.signed⟩] rfl (by decide) (by simp [joined]; omega)) Tryz.call90 rfl rfl rfl rfl (Lend.allX (by repeat (first | exact List.Mem.head _ | apply List.Mem.tail)) rfl rfl (Lend.own (by repeat (first | exact List.Mem.head _ | apply List.Mem.tail)) .nil)) ?_
    refine RL.not rfl rfl rfl rfl ?_
    refine RL.nil ?_
    refine NQ.seq ?_
    refine CW.only (.cons (k := 0) rfl (.cons (k := 1) rfl (.cons (k := 5) rfl (.cons (k := 8) rfl (.cons (k := 32) rfl .nil))))) ?_
    rw [joined_one]
    refine CW.cond rfl (fun hr => ?_) (fun hr => ?_)
    ·
      refine CW.seq ?_
      refine CW.regionD (Sq.of [0, 1, 2, 3, 4, 5, 6, 7]) [7] [7] [0, 1, 2, 4, 6] mixed (by kernel_rfl) ?_
      refine RL.move rfl rfl rfl rfl ?_
      refine RL.nilCheck rfl rfl rfl rfl ?_
      refine RL.fieldAddr fa_76_1 rfl rfl rfl rfl ?_
      refine RL.loadq Tryz.isAgg66 rfl rfl rfl rfl ?_
      refine RL.fieldAddr fa_38_1 rfl rfl rfl rfl ?_
      refine RL.loadq Tryz.isAgg3 rfl rfl rfl rfl ?_
      refine RL.move rfl rfl rfl rfl ?_
      refine RL.callq (lfail_any B.kb B.mo B.ti g.l f.sr t hmo hg.l) Tryz.call91 rfl rfl rfl rfl rfl (.inr rfl) ?_
      have hr : ¬ tagOk g f t = true := by simpa [tagOk] using hr
      rintro _ _ _ ⟨rfl, rfl, rfl⟩
      refine RL.nil ?_
      refine NQ.seq ?_
      refine CW.only (.cons (k := 8) rfl .nil) ?_
      refine CW.seq ?_
      refine CW.region (ef := []) (bk := []) ?_
      refine RL.assign rfl rfl rfl rfl ?_
      refine RL.nil ?_
      refine NQ.seq ?_
      refine CW.ret ?_
      refine RQ.seq ?_
      have e : tagG B g f t = { g with l := failL B.mo B.ti g.l f.sr t } := by rw [tagG, if_pos h, if_neg hr]
      rw [e]
      refine RQ.rea (fun _ h => h) (H' := GI B ({ g with l := failL B.mo B.ti g.l f.sr t })) (by repeat (first | exact Rea.nil | (apply Rea.cons; (solve | (repeat (first | exact Del.here | apply Del.there)))))) ?_
      exact RQ.post (res1 rfl rfl) (.keep (.keep (.keep (.keep (.keep (.keep (.keep .nil))))))) ⟨by rw [tagE, if_pos h, if_neg hr], rfl, rfl⟩
    ·
      refine CW.skip ?_
      refine NQ.seq ?_
      refine CW.seq ?_
      refine CW.region (ef := []) (bk := []) ?_
      refine RL.move rfl rfl rfl rfl ?_
      refine RL.assign rfl rfl rfl rfl ?_
      refine RL.nil ?_
      refine NQ.seq ?_
      refine CW.only (.cons (k := 6) rfl .nil) ?_
      refine CW.ret ?_
      have hr : tagOk g f t = true := by simpa [tagOk] using hr
      have e : tagG B g f t = g := by rw [tagG, if_pos h, if_pos hr]
      rw [e]
      refine RQ.rea (fun _ h => h) (H' := GI B (g)) (by repeat (first | exact Rea.nil | (apply Rea.cons; (solve | (repeat (first | exact Del.here | apply Del.there)))))) ?_
      exact RQ.post (res1 rfl rfl) (.keep (.keep (.keep (.keep (.keep (.keep (.keep .nil))))))) ⟨by rw [tagE, if_pos h, if_pos hr, h]; rfl, rfl, rfl⟩
end Go.Proofs.YtkkfdoippibfkaaGreat

namespace Go.Proofs.YtkkfdoippibfkaaGreat
open Go.PK

theorem tag_zero {B : GB} {g : GSt} {f : Fr} {t : Int} (h : tagE g f t = 0) : tagG B g f t = g := by
  unfold tagE at h
  by_cases h1 : (keyM g.T f.sr f.ep t).2 = 0
  · rw [if_pos h1] at h
    by_cases h2 : tagOk g f t = true
    · rw [tagG, if_pos h1, if_pos h2]
    · rw [if_neg h2] at h; cases h
  · rw [if_neg h1] at h; exact absurd h h1
theorem tagG_l (B : GB) (g : GSt) (f : Fr) (t : Int) : tagG B g f t = { g with l := (tagG B g f t).l } := by
  unfold tagG
  split
  · split <;> rfl
  · rfl
theorem tagG_len (B : GB) (g : GSt) (f : Fr) (t : Int) : (tagG B g f t).l.length = g.l.length := by
  unfold tagG
  split
  · split
    · rfl
    · exact failL_len _ _ _ _ _
  · rfl
/-- A frame is looked at. -/
def fmark (f : Fr) : Nat × Nat := (f.ep, f.ct)
def lookE (g : GSt) (f : Fr) (t : Int) : Int := if tickB t = true then (if g.Y f.sr f.kd = true then (if kmay g.l f.sr t = 0 then (if tagE g f t = 0 then mmay g.M f.sr (fmark f) else tagE g f t) else kmay g.l f.sr t) else 191) else 2
def lookB (g : GSt) (f : Fr) (t : Int) : Bool := tickB t && g.Y f.sr f.kd && decide (kmay g.l f.sr t = 0)
def lookL (B : GB) (g : GSt) (f : Fr) (t : Int) : List Lk := if lookB g f t = true then (if tagE g f t = 0 then (if mmay g.M f.sr (fmark f) = 0 then goodL g.l f.sr else g.l) else (tagG B g f t).l) else g.l
def lookM (g : GSt) (f : Fr) (t : Int) : Marks := if lookB g f t = true then (if tagE g f t = 0 then takeM g.M f.sr (fmark f) else g.M) else g.M
theorem lookL_len (B : GB) (g : GSt) (f : Fr) (t : Int) : (lookL B g f t).length = g.l.length := by
  unfold lookL
  split
  · split
    · split
      · exact goodL_len _ _
      · rfl
    · exact tagG_len _ _ _ _
  · rfl
def LookR (B : GB) (g : GSt) (f : Fr) (t : Int) : Value → List It → List It → Prop := fun v I' H' => v = .int .i64 (lookE g f t) ∧ I' = [] ∧ ∃ cm, MRel cm (lookM g f t) ∧ H' = GI B { g with l := lookL B g f t, M := lookM g f t, cm := cm }
theorem glook_any (B : GB) (g : GSt) (f : Fr) (p : Option Addr) (c n : Nat) (t : Int) (hmo : B.mo ≠ 0) (hg : GOk g) (hf : f.Ok) (hn : f.b.length = n) (hb : n ≤ 900000) :
    Spc Tryz.prog 38 #[.pointer (some ⟨B.gb, 0, none⟩), .int .i64 t, .agg (f.cells (.slice p n c)).toArray] [sls p 1 n (bytes f.b)] (GI B g) (LookR B g f t) := by
  have hl := fr_len hf.tag (.slice p n c)
  refine Spc.enter Tryz.func38 rfl rfl rfl (fun w0 hw0 => ?_)
  refine CW.seq ?_
  refine CW.region (ef := [0]) (bk := []) ?_
  refine RL.box rfl rfl rfl rfl rfl rfl ?_
  intro b1
  refine RL.assign rfl rfl rfl rfl ?_
  refine RL.nil ?_
  refine NQ.seq ?_
  refine CW.seq ?_
  refine CW.seq ?_
  refine CW.region (ef := []) (bk := []) ?_
  refine RL.move rfl rfl rfl rfl ?_
  refine RL.bin rfl rfl rfl rfl rfl rfl ?_
  refine RL.move rfl rfl rfl rfl ?_
  apply RL.orB (d := 12) (dp := 15) (l' := (Sq.of [])) rfl (.cons (k := 0) rfl (.cons (k := 1) rfl (.cons (k := 5) rfl (.cons (k := 6) rfl .nil))))
  ·
    intro hb3 K3
    refine RL.move rfl rfl rfl rfl ?_
    refine RL.bin rfl rfl rfl rfl rfl rfl ?_
    refine RL.pickF rfl rfl rfl rfl rfl ?_
    exact K3 _ (.cons rfl (.cons (k := 0) rfl (.cons (k := 1) rfl (.cons (k := 5) rfl (.cons (k := 6) rfl .nil)))))
  ·
    intro hb3 K3
    refine RL.skip rfl rfl rfl rfl ?_
    refine RL.skip rfl rfl rfl rfl ?_
    refine RL.pickT rfl rfl rfl rfl rfl ?_
    exact K3 _ (.cons rfl (.cons (k := 0) rfl (.cons (k := 1) rfl (.cons (k := 5) rfl (.cons (k := 6) rfl .nil)))))
  refine RL.nil ?_
  refine NQ.seq ?_
  refine CW.cond rfl (fun ht => ?_) (fun ht => ?_)
  ·
    refine CW.seq ?_
    refine CW.region (ef := []) (bk := []) ?_
    refine RL.assign rfl rfl rfl rfl ?_
    refine RL.nil ?_
    refine NQ.seq ?_
    refine CW.ret ?_
    refine RQ.seq ?_
    have ht : ¬ tickB t = true := by simp at ht; simp [tickB]; omega
    have hB : ¬ lookB g f t = true := by simp [lookB, ht]
    have hM : lookM g f t = g.M := by rw [lookM, if_neg hB]
    have hL : lookL B g f t = g.l := by rw [lookL, if_neg hB]
    refine RQ.rea (fun _ h => h) (H' := GI B (g)) (by repeat (first | exact Rea.nil | (apply Rea.cons; (solve | (repeat (first | exact Del.here | apply Del.there)))))) ?_
    exact RQ.post (res1 rfl rfl) (.keep (.keep (.keep (.keep (.keep (.keep (.keep .nil))))))) ⟨by rw [lookE, if_neg ht], rfl, g.cm, by rw [hM]; exact hg.m, by rw [hL, hM]⟩
  ·
    refine CW.skip ?_
    refine NQ.seq ?_
    refine CW.seq ?_
    refine CW.seq ?_
    refine CW.regionD (Sq.of [0, 1, 2, 3, 4, 5, 6, 7, 8, 9, 10]) [] [] [0, 1, 2, 4, 6, 8, 10] mixed (by kernel_rfl) ?_
    refine RL.move rfl rfl rfl rfl ?_
    refine RL.nilCheck rfl rfl rfl rfl ?_
    refine RL.fieldAddr fa_76_3 rfl rfl rfl rfl ?_
    refine RL.loadq Tryz.isAgg73 rfl rfl rfl rfl ?_
    refine RL.fieldAddr fa_38_1 rfl rfl rfl rfl ?_
    refine RL.loadq Tryz.isAgg3 rfl rfl rfl rfl ?_
    refine RL.fieldAddr fa_38_0 rfl rfl rfl rfl ?_
    refine RL.loadq Tryz.isAgg3 rfl rfl rfl rfl ?_
    refine RL.buildS [_, _] Tryz.zeroValue101 pl_101 rfl rfl rfl rfl rfl ?_
    have ht : tickB t = true := by simp at ht; simp [tickB]; omega
    refine RL.lookup keyR Tryz.runUnderlying73 Tryz.zeroValue4 rfl rfl rfl rfl rfl ⟨f.sr, f.kd, rfl⟩ (MapAt.own (by repeat (first | exact List.Mem.head _ | apply List.Mem.tail))) ?_
    rw [show lookV (.agg #[.int .i64 f.sr, .int .i64 f.kd]) g.cy = _ from hg.y f.sr f.kd]
    cases hY : g.Y f.sr f.kd with
    | false =>
      refine RL.not rfl rfl rfl rfl ?_
      refine RL.nil ?_
      refine NQ.seq ?_
      refine CW.only (.cons (k := 0) rfl (.cons (k := 1) rfl (.cons (k := 5) rfl (.cons (k := 6) rfl (.cons (k := 26) rfl .nil))))) ?_
      refine CW.condT rfl (rfl) ?_
      refine CW.seq ?_
      refine CW.region (ef := []) (bk := []) ?_
      refine RL.assign rfl rfl rfl rfl ?_
      refine RL.nil ?_
      refine NQ.seq ?_
      refine CW.ret ?_
      refine RQ.seq ?_
      have hB : ¬ lookB g f t = true := by simp [lookB, hY]
      have hM : lookM g f t = g.M := by rw [lookM, if_neg hB]
      have hL : lookL B g f t = g.l := by rw [lookL, if_neg hB]
      refine RQ.rea (fun _ h => h) (H' := GI B (g)) (by repeat (first | exact Rea.nil | (apply Rea.cons; (solve | (repeat (first | exact Del.here | apply Del.there)))))) ?_
      exact RQ.post (res1 rfl rfl) (.keep (.keep (.keep (.keep (.keep (.keep (.keep .nil))))))) ⟨by rw [lookE, if_pos ht, hY]; rfl, rfl, g.cm, by rw [hM]; exact hg.m, by rw [hL, hM]⟩
    | true =>
      refine RL.not rfl rfl rfl rfl ?_
      refine RL.nil ?_
      refine NQ.seq ?_
      refine CW.only (.cons (k := 0) rfl (.cons (k := 1) rfl (.cons (k := 5) rfl (.cons (k := 6) rfl (.cons (k := 26) rfl .nil))))) ?_
      refine CW.condF rfl (rfl) ?_
      refine CW.skip ?_
      refine NQ.seq ?_
      refine CW.seq ?_
      refine CW.seq ?_
      refine CW.regionD (Sq.of [0, 1, 2, 3, 4, 5, 6, 7, 8]) [] [] [0, 1, 2, 4, 6, 8] mixed (by kernel_rfl) ?_
      refine RL.move rfl rfl rfl rfl ?_
      refine RL.nilCheck rfl rfl rfl rfl ?_
      refine RL.fieldAddr fa_76_1 rfl rfl rfl rfl ?_
      refine RL.loadq Tryz.isAgg66 rfl rfl rfl rfl ?_
      refine RL.fieldAddr fa_38_1 rfl rfl rfl rfl ?_
      refine RL.loadq Tryz.isAgg3 rfl rfl rfl rfl ?_
      refine RL.move rfl rfl rfl rfl ?_
      refine RL.callvq (lmay_any B.kb B.mo B.ti g.l f.sr t hmo hg.l) Tryz.call67 rfl rfl rfl rfl ?_
      refine RL.assign rfl rfl rfl rfl ?_
      refine RL.nil ?_
      refine NQ.seq ?_
      refine CW.only (.cons (k := 0) rfl (.cons (k := 1) rfl (.cons (k := 5) rfl (.cons (k := 6) rfl (.cons (k := 7) rfl .nil))))) ?_
      refine CW.seq ?_
      refine CW.region (ef := []) (bk := []) ?_
      refine RL.move rfl rfl rfl rfl ?_
      refine RL.bin rfl rfl rfl rfl rfl rfl ?_
      refine RL.nil ?_
      refine NQ.seq ?_
      refine CW.cond rfl (fun hk => ?_) (fun hk => ?_)
      ·
        refine CW.seq ?_
        refine CW.region (ef := []) (bk := []) ?_
        refine RL.move rfl rfl rfl rfl ?_
        refine RL.assign rfl rfl rfl rfl ?_
        refine RL.nil ?_
        refine NQ.seq ?_
        refine CW.ret ?_
        refine RQ.seq ?_
        have hk : ¬ kmay g.l f.sr t = 0 := by simpa using hk
        have hB : ¬ lookB g f t = true := by simp [lookB, hk]
        have hM : lookM g f t = g.M := by rw [lookM, if_neg hB]
        have hL : lookL B g f t = g.l := by rw [lookL, if_neg hB]
        refine RQ.rea (fun _ h => h) (H' := GI B (g)) (by repeat (first | exact Rea.nil | (apply Rea.cons; (solve | (repeat (first | exact Del.here | apply Del.there)))))) ?_
        exact RQ.post (res1 rfl rfl) (.keep (.keep (.keep (.keep (.keep (.keep (.keep .nil))))))) ⟨by rw [lookE, if_pos ht, if_pos hY, if_neg hk], rfl, g.cm, by rw [hM]; exact hg.m, by rw [hL, hM]⟩
      ·
        refine CW.skip ?_
        refine NQ.seq ?_
        refine CW.seq ?_
        refine CW.seq ?_
        refine CW.region (ef := [3]) (bk := [3]) ?_
        refine RL.move rfl rfl rfl rfl ?_
        refine RL.move rfl rfl rfl rfl ?_
        first | refine RL.loadM Tryz.isAgg38 Tryz.sizeOf38 rfl rfl rfl rfl (by assumption) ?_ | refine RL.loadA Tryz.isAgg38 Tryz.sizeOf38 rfl rfl rfl rfl (by first | assumption | (apply RdsI.rds; assumption)) (by first | rfl | assumption | (simp only [List.length_map]; assumption) | (simp only [List.length_map, List.length_replicate, hl]; done) | (simp; done)) ?_ | refine RL.loadW Tryz.isAgg38 Tryz.sizeOf38 rfl rfl rfl rfl (by (solve | (repeat (first | exact List.Mem.head _ | apply List.Mem.tail)))) (by first | rfl | assumption | (simp only [List.length_map]; assumption) | (simp only [List.length_map, List.length_replicate, hl]; done) | (simp; done)) ?_
        refine RL.callq (gtag_any B g f p c n t hmo hg hf hn hb) Tryz.call68 rfl rfl rfl rfl rfl (.inr rfl) ?_
        have hk : kmay g.l f.sr t = 0 := by simpa using hk
        have hB : lookB g f t = true := by simp [lookB, ht, hY, hk]
        rintro _ _ _ ⟨rfl, rfl, rfl⟩
        refine RL.assign rfl rfl rfl rfl ?_
        refine RL.nil ?_
        refine NQ.seq ?_
        refine CW.only (.cons (k := 0) rfl (.cons (k := 5) rfl (.cons (k := 6) rfl (.cons (k := 8) rfl .nil)))) ?_
        refine CW.seq ?_
        refine CW.region (ef := []) (bk := []) ?_
        refine RL.move rfl rfl rfl rfl ?_
        refine RL.bin rfl rfl rfl rfl rfl rfl ?_
        refine RL.nil ?_
        refine NQ.seq ?_
        refine CW.cond rfl (fun he => ?_) (fun he => ?_)
        ·
          refine CW.seq ?_
          refine CW.region (ef := []) (bk := []) ?_
          refine RL.move rfl rfl rfl rfl ?_
          refine RL.assign rfl rfl rfl rfl ?_
          refine RL.nil ?_
          refine NQ.seq ?_
          refine CW.ret ?_
          refine RQ.seq ?_
          have he : ¬ tagE g f t = 0 := by simpa using he
          have hM : lookM g f t = g.M := by rw [lookM, if_pos hB, if_neg he]
          have hL : lookL B g f t = (tagG B g f t).l := by rw [lookL, if_pos hB, if_neg he]
          refine RQ.rea (fun _ h => h) (H' := GI B (tagG B g f t)) (by repeat (first | exact Rea.nil | (apply Rea.cons; (solve | (repeat (first | exact Del.here | apply Del.there)))))) ?_
          exact RQ.post (res1 rfl rfl) (.keep (.keep (.keep (.keep (.keep (.keep (.keep .nil))))))) ⟨by rw [lookE, if_pos ht, if_pos hY, if_pos hk, if_neg he], rfl, g.cm, by rw [hM]; exact hg.m, by rw [hL, hM, tagG_l]⟩
        ·
          have he : tagE g f t = 0 := by simpa using he
          rw [tag_zero he]
          have hM : lookM g f t = takeM g.M f.sr (fmark f) := by rw [lookM, if_pos hB, if_pos he]
          refine CW.skip ?_
          refine NQ.seq ?_
          refine CW.seq ?_
          refine CW.seq ?_
          refine CW.regionD (Sq.of [0, 1, 2, 3, 4, 5, 6, 7, 8, 9, 10, 11, 12]) [11] [11] [0, 1, 2, 4, 6, 8, 10, 12] mixed (by kernel_rfl) ?_
          refine RL.move rfl rfl rfl rfl ?_
          refine RL.nilCheck rfl rfl rfl rfl ?_
          refine RL.fieldAddr fa_76_2 rfl rfl rfl rfl ?_
          refine RL.loadq Tryz.isAgg71 rfl rfl rfl rfl ?_
          refine RL.fieldAddr fa_38_1 rfl rfl rfl rfl ?_
          refine RL.loadq Tryz.isAgg3 rfl rfl rfl rfl ?_
          refine RL.fieldAddr fa_38_2 rfl rfl rfl rfl ?_
          refine RL.loadq Tryz.isAgg32 rfl rfl rfl rfl ?_
          refine RL.fieldAddr fa_38_3 rfl rfl rfl rfl ?_
          refine RL.loadq Tryz.isAgg33 rfl rfl rfl rfl ?_
          refine RL.buildS [_, _] Tryz.zeroValue40 pl_40 rfl rfl rfl rfl rfl ?_
          refine RL.callq (take_any B.tb B.mt g.cm g.M f.sr (fmark f) hg.m) Tryz.call69 rfl rfl rfl rfl rfl (.inr rfl) ?_
          rintro _ _ _ ⟨rfl, rfl, cm', hcm, rfl⟩
          refine RL.assign rfl rfl rfl rfl ?_
          refine RL.nil ?_
          refine NQ.seq ?_
          refine CW.only (.cons (k := 0) rfl (.cons (k := 5) rfl (.cons (k := 6) rfl (.cons (k := 9) rfl .nil)))) ?_
          refine CW.seq ?_
          refine CW.region (ef := []) (bk := []) ?_
          refine RL.move rfl rfl rfl rfl ?_
          refine RL.bin rfl rfl rfl rfl rfl rfl ?_
          refine RL.nil ?_
          refine NQ.seq ?_
          refine CW.cond rfl (fun hx => ?_) (fun hx => ?_)
          ·
            refine CW.seq ?_
            refine CW.region (ef := []) (bk := []) ?_
            refine RL.move rfl rfl rfl rfl ?_
            refine RL.assign rfl rfl rfl rfl ?_
            refine RL.nil ?_
            refine NQ.seq ?_
            refine CW.ret ?_
            refine RQ.seq ?_
            have hx : ¬ mmay g.M f.sr (fmark f) = 0 := by simpa using hx
            have hL : lookL B g f t = g.l := by rw [lookL, if_pos hB, if_pos he, if_neg hx]
            refine RQ.rea (fun _ h => h) (H' := GI B ({ g with M := takeM g.M f.sr (fmark f), cm := cm' })) (by repeat (first | exact Rea.nil | (apply Rea.cons; (solve | (repeat (first | exact Del.here | apply Del.there)))))) ?_
            exact RQ.post (res1 rfl rfl) (.keep (.keep (.keep (.keep (.keep (.keep (.keep .nil))))))) ⟨by rw [lookE, if_pos ht, if_pos hY, if_pos hk, if_pos he], rfl, cm', by rw [hM]; exact hcm, by rw [hL, hM]⟩
          ·
            refine CW.skip ?_
            refine NQ.seq ?_
            refine CW.seq ?_
            refine CW.regionD (Sq.of [0, 1, 2, 3, 4, 5, 6, 7]) [6] [6] [0, 1, 2, 4, 7] mixed (by kernel_rfl) ?_
            refine RL.move rfl rfl rfl rfl ?_
            refine RL.nilCheck rfl rfl rfl rfl ?_
            refine RL.fieldAddr fa_76_1 rfl rfl rfl rfl ?_
            refine RL.loadq Tryz.isAgg66 rfl rfl rfl rfl ?_
            refine RL.fieldAddr fa_38_1 rfl rfl rfl rfl ?_
            refine RL.loadq Tryz.isAgg3 rfl rfl rfl rfl ?_
            refine RL.callq (lgood_any B.kb B.mo B.ti g.l f.sr hmo hg.l) Tryz.call70 rfl rfl rfl rfl rfl (.inr rfl) ?_
            have hx : mmay g.M f.sr (fmark f) = 0 := by simpa using hx
            have hms : mayB f.sr = true := (kmay_zero hk).1
            have hL : lookL B g f t = goodL g.l f.sr := by rw [lookL, if_pos hB, if_pos he, if_pos hx]
            rintro _ _ _ ⟨rfl, rfl, rfl⟩
            refine RL.assign rfl rfl rfl rfl ?_
            refine RL.nil ?_
            refine NQ.seq ?_
            refine CW.only (.cons (k := 6) rfl .nil) ?_
            refine CW.ret ?_
            rw [if_pos hms]
            refine RQ.rea (fun _ h => h) (H' := GI B ({ g with l := goodL g.l f.sr, M := takeM g.M f.sr (fmark f), cm := cm' })) (by repeat (first | exact Rea.nil | (apply Rea.cons; (solve | (repeat (first | exact Del.here | apply Del.there)))))) ?_
            exact RQ.post (res1 rfl rfl) (.keep (.keep (.keep (.keep (.keep (.keep (.keep .nil))))))) ⟨by rw [lookE, if_pos ht, if_pos hY, if_pos hk, if_pos he, hx], rfl, cm', by rw [hM]; exact hcm, by rw [hL, hM]⟩
end Go.Proofs.YtkkfdoippibfkaaGreat

namespace Go.Proofs.YtkkfdoippibfkaaGreat
open Go.PK

def chkD (D : Int → Int) (e : Int) : Int → Int := fun e' => if e' = e then IntKind.i64.wrap (D e + 1) else D e'
def CheckR (B : GB) (g : GSt) (f : Fr) (t : Int) : Value → List It → List It → Prop := fun v I' H' => v = .int .i64 (lookE g f t) ∧ I' = [] ∧ ∃ cm ct, MRel cm (lookM g f t) ∧ DRel ct (chkD g.D (lookE g f t)) ∧ H' = GI B { g with l := lookL B g f t, M := lookM g f t, cm := cm, D := chkD g.D (lookE g f t), ct := ct }
theorem gcheck_any (B : GB) (g : GSt) (f : Fr) (p : Option Addr) (c n : Nat) (t : Int) (hmo : B.mo ≠ 0) (hg : GOk g) (hf : f.Ok) (hn : f.b.length = n) (hb : n ≤ 900000) :
    Spc Tryz.prog 14 #[.pointer (some ⟨B.gb, 0, none⟩), .int .i64 t, .agg (f.cells (.slice p n c)).toArray] [sls p 1 n (bytes f.b)] (GI B g) (CheckR B g f t) := by
  have hl := fr_len hf.tag (.slice p n c)
  refine Spc.enter Tryz.func14 rfl rfl rfl (fun w0 hw0 => ?_)
  refine CW.seq ?_
  refine CW.region (ef := [0]) (bk := []) ?_
  refine RL.box rfl rfl rfl rfl rfl rfl ?_
  intro b1
  refine RL.assign rfl rfl rfl rfl ?_
  refine RL.nil ?_
  refine NQ.seq ?_
  refine CW.seq ?_
  refine CW.seq ?_
  refine CW.region (ef := []) (bk := []) ?_
  refine RL.move rfl rfl rfl rfl ?_
  refine RL.callvq (gis_any B) Tryz.call34 rfl rfl rfl rfl ?_
  refine RL.not rfl rfl rfl rfl ?_
  refine RL.nil ?_
  refine NQ.seq ?_
  refine CW.condF rfl (rfl) ?_
  refine CW.skip ?_
  refine NQ.seq ?_
  refine CW.seq ?_
  refine CW.region (ef := [3]) (bk := [3]) ?_
  refine RL.move rfl rfl rfl rfl ?_
  refine RL.move rfl rfl rfl rfl ?_
  first | refine RL.loadM Tryz.isAgg38 Tryz.sizeOf38 rfl rfl rfl rfl (by assumption) ?_ | refine RL.loadA Tryz.isAgg38 Tryz.sizeOf38 rfl rfl rfl rfl (by first | assumption | (apply RdsI.rds; assumption)) (by first | rfl | assumption | (simp only [List.length_map]; assumption) | (simp only [List.length_map, List.length_replicate, hl]; done) | (simp; done)) ?_ | refine RL.loadW Tryz.isAgg38 Tryz.sizeOf38 rfl rfl rfl rfl (by (solve | (repeat (first | exact List.Mem.head _ | apply List.Mem.tail)))) (by first | rfl | assumption | (simp only [List.length_map]; assumption) | (simp only [List.length_map, List.length_replicate, hl]; done) | (simp; done)) ?_
  refine RL.callq (glook_any B g f p c n t hmo hg hf hn hb) Tryz.call38 rfl rfl rfl rfl rfl (.inr rfl) ?_
  rintro _ _ _ ⟨rfl, rfl, cm', hcm, rfl⟩
  refine RL.assign rfl rfl rfl rfl ?_
  refine RL.nil ?_
  refine NQ.seq ?_
  refine CW.only (.cons (k := 0) rfl (.cons (k := 7) rfl .nil)) ?_
  refine CW.seq ?_
  refine CW.region (ef := [7]) (bk := [7]) ?_
  refine RL.move rfl rfl rfl rfl ?_
  refine RL.nilCheck rfl rfl rfl rfl ?_
  refine RL.fieldAddr fa_76_4 rfl rfl rfl rfl ?_
  refine RL.loadq Tryz.isAgg74 rfl rfl rfl rfl ?_
  refine RL.move rfl rfl rfl rfl ?_
  refine RL.lookup keyE' Tryz.runUnderlying74 Tryz.zeroValue3 rfl rfl rfl rfl rfl ⟨lookE g f t, rfl⟩ (MapAt.own (by repeat (first | exact List.Mem.head _ | apply List.Mem.tail))) ?_
  rw [hg.d (lookE g f t)]
  refine RL.bin rfl rfl rfl rfl rfl rfl ?_
  refine RL.mapUpdate keyE' Tryz.runUnderlying74 rfl rfl rfl rfl rfl rfl rfl ⟨lookE g f t, rfl⟩ (by repeat (first | exact Upd.here | apply Upd.there)) ?_
  refine RL.nil ?_
  refine NQ.seq ?_
  refine CW.only (.cons (k := 7) rfl .nil) ?_
  refine CW.seq ?_
  refine CW.region (ef := []) (bk := []) ?_
  refine RL.move rfl rfl rfl rfl ?_
  refine RL.assign rfl rfl rfl rfl ?_
  refine RL.nil ?_
  refine NQ.seq ?_
  refine CW.ret ?_
  refine RQ.rea (fun _ h => h) (H' := GI B ({ g with l := lookL B g f t, M := lookM g f t, cm := cm', D := chkD g.D (lookE g f t), ct := setV (.int .i64 (lookE g f t)) (.int .i64 (IntKind.i64.wrap (g.D (lookE g f t) + 1))) g.ct })) (by repeat (first | exact Rea.nil | (apply Rea.cons; (solve | (repeat (first | exact Del.here | apply Del.there)))))) ?_
  exact RQ.post (res1 rfl rfl) (.keep (.keep (.keep (.keep (.keep (.keep (.keep .nil))))))) ⟨rfl, rfl, cm', _, hcm, hg.d.set _ _, rfl⟩
/-- A source is let in. -/
def srcE (g : GSt) (s : Int) (ks : List Int) : Int := if ks = [] ∨ ks.any oddG = true then 2 else putE g.T s
def addY (Y : Int → Int → Bool) (s : Int) (ks : List Int) : Int → Int → Bool := fun a b => (a == s && ks.contains b) || Y a b
def srcT (g : GSt) (s : Int) (k : List B8) (ks : List Int) (b : Nat) : List One := if ks = [] ∨ ks.any oddG = true then g.T else putT g.T s k b
def srcY (g : GSt) (s : Int) (ks : List Int) : Int → Int → Bool := if srcE g s ks = 0 then addY g.Y s ks else g.Y
def SrcGR (B : GB) (g : GSt) (s : Int) (k : List B8) (ks : List Int) : Value → List It → List It → Prop := fun v I' H' => v = .int .i64 (srcE g s ks) ∧ I' = [] ∧ ∃ b c' cy, KOk (srcT g s k ks b) c' ∧ YRel cy (srcY g s ks) ∧ H' = GI B { g with T := srcT g s k ks b, c := c', Y := srcY g s ks, cy := cy }
theorem addY_snoc {Y : Int → Int → Bool} {s : Int} {ks : List Int} {x : Int} : (fun a b => (a == s && b == x) || addY Y s ks a b) = addY Y s (ks ++ [x]) := by
  funext a b
  simp only [addY, List.contains_eq_mem, List.mem_append, List.mem_singleton]
  by_cases h1 : a = s
  · subst h1; by_cases h2 : b = x <;> simp [h2]
  · have : (a == s) = false := by simpa using h1
    simp [this]
theorem addY_nil {Y : Int → Int → Bool} {s : Int} : addY Y s [] = Y := by funext a b; simp [addY]
theorem gsource_any (B : GB) (g : GSt) (s : Int) (k : List B8) (kp : Option Addr) (c n : Nat) (ks : List Int) (hg : GOk g) (hk : k.length = 32) (hn : ks.length = n) (hb : n ≤ 1000000) :
    Spc Tryz.prog 16 #[.pointer (some ⟨B.gb, 0, none⟩), .int .i64 s, .agg (bytes k).toArray, .slice kp n c] [sls kp 1 n (ints ks)] (GI B g) (SrcGR B g s k ks) := by
  subst hn
  refine Spc.enter Tryz.func16 rfl rfl rfl (fun w0 hw0 => ?_)
  refine CW.seq ?_
  refine CW.region (ef := [0]) (bk := []) ?_
  refine RL.box rfl rfl rfl rfl rfl rfl ?_
  intro b1
  refine RL.assign rfl rfl rfl rfl ?_
  refine RL.nil ?_
  refine NQ.seq ?_
  refine CW.seq ?_
  refine CW.region (ef := []) (bk := []) ?_
  refine RL.assign rfl rfl rfl rfl ?_
  refine RL.nil ?_
  refine NQ.seq ?_
  refine CW.seq ?_
  refine CW.block ?_
  refine CW.seq ?_
  refine CW.region (ef := []) (bk := []) ?_
  refine RL.move rfl rfl rfl rfl ?_
  refine RL.callvq (gis_any B) Tryz.call34 rfl rfl rfl rfl ?_
  refine RL.not rfl rfl rfl rfl ?_
  refine RL.assign rfl rfl rfl rfl ?_
  refine RL.nil ?_
  refine NQ.seq ?_
  refine CW.condF rfl (rfl) ?_
  refine CW.seq ?_
  refine CW.region (ef := []) (bk := []) ?_
  refine RL.move rfl rfl rfl rfl ?_
  refine RL.lenS Tryz.runUnderlying41 rfl rfl rfl rfl ?_
  refine RL.bin rfl rfl rfl rfl rfl rfl ?_
  refine RL.move rfl rfl rfl rfl ?_
  apply RL.orB (d := 21) (dp := 25) (l' := (Sq.of [8])) rfl (.cons (k := 0) rfl (.cons (k := 1) rfl (.cons (k := 3) rfl (.cons (k := 6) rfl (.cons (k := 8) rfl .nil)))))
  ·
    intro hb4 K4
    refine RL.move rfl rfl rfl rfl ?_
    refine RL.move rfl rfl rfl rfl ?_
    refine RL.callvq (oddGHas_walk kp ks.length c ks rfl (by omega)) Tryz.call40 rfl rfl rfl rfl ?_
    refine RL.pickF rfl rfl rfl rfl rfl ?_
    exact K4 _ (.cons rfl (.cons (k := 0) rfl (.cons (k := 1) rfl (.cons (k := 3) rfl (.cons (k := 6) rfl (.cons (k := 8) rfl .nil))))))
  ·
    intro hb4 K4
    refine RL.skip rfl rfl rfl rfl ?_
    refine RL.skip rfl rfl rfl rfl ?_
    refine RL.skip rfl rfl rfl rfl ?_
    refine RL.pickT rfl rfl rfl rfl rfl ?_
    exact K4 _ (.cons rfl (.cons (k := 0) rfl (.cons (k := 1) rfl (.cons (k := 3) rfl (.cons (k := 6) rfl (.cons (k := 8) rfl .nil))))))
  refine RL.assign rfl rfl rfl rfl ?_
  refine RL.nil ?_
  refine NQ.seq ?_
  refine CW.cond rfl (fun h => ?_) (fun h => ?_)
  ·
    refine CW.seq ?_
    refine CW.region (ef := []) (bk := []) ?_
    refine RL.assign rfl rfl rfl rfl ?_
    refine RL.nil ?_
    refine NQ.seq ?_
    refine CW.ret ?_
    refine RQ.block ?_
    refine RQ.seq ?_
    have hO : ks = [] ∨ ks.any oddG = true := by simp at h; simpa using h
    have hE : srcE g s ks = 2 := by rw [srcE, if_pos hO]
    have hT : ∀ b, srcT g s k ks b = g.T := fun b => by rw [srcT, if_pos hO]
    have hY : srcY g s ks = g.Y := by rw [srcY, hE]; rfl
    refine RQ.rea (fun _ h => h) (H' := GI B (g)) (by repeat (first | exact Rea.nil | (apply Rea.cons; (solve | (repeat (first | exact Del.here | apply Del.there)))))) ?_
    exact RQ.post (res1 rfl rfl) (.keep (.keep (.keep (.keep (.keep (.keep (.keep .nil))))))) ⟨by rw [hE], rfl, 0, g.c, g.cy, by rw [hT]; exact hg.k, by rw [hY]; exact hg.y, by rw [hT, hY]⟩
  ·
    refine CW.skip ?_
    refine NQ.block ?_
    refine NQ.seq ?_
    refine CW.seq ?_
    refine CW.regionD (Sq.of [0, 1, 2, 3, 4, 5, 6, 7]) [6] [6] [0, 1, 2, 4, 7] mixed (by kernel_rfl) ?_
    refine RL.move rfl rfl rfl rfl ?_
    refine RL.nilCheck rfl rfl rfl rfl ?_
    refine RL.fieldAddr fa_76_0 rfl rfl rfl rfl ?_
    refine RL.loadq Tryz.isAgg69 rfl rfl rfl rfl ?_
    refine RL.move rfl rfl rfl rfl ?_
    first | refine RL.loadM Tryz.isAgg56 Tryz.sizeOf56 rfl rfl rfl rfl (by assumption) ?_ | refine RL.loadA Tryz.isAgg56 Tryz.sizeOf56 rfl rfl rfl rfl (by first | assumption | (apply RdsI.rds; assumption)) (by first | rfl | assumption | (simp only [List.length_map]; assumption) | (simp only [List.length_map, List.length_replicate, hk]; done) | (simp; done)) ?_ | refine RL.loadW Tryz.isAgg56 Tryz.sizeOf56 rfl rfl rfl rfl (by (solve | (repeat (first | exact List.Mem.head _ | apply List.Mem.tail)))) (by first | rfl | assumption | (simp only [List.length_map]; assumption) | (simp only [List.length_map, List.length_replicate, hk]; done) | (simp; done)) ?_
    refine RL.callq (put_any B.r B.m1 B.m2 g.T g.c s k hk hg.t hg.k) Tryz.call41 rfl rfl rfl rfl rfl (.inr rfl) ?_
    have hO : ¬ (ks = [] ∨ ks.any oddG = true) := by simp at h; simpa using h
    have hE : srcE g s ks = putE g.T s := by rw [srcE, if_neg hO]
    have hT : ∀ b, srcT g s k ks b = putT g.T s k b := fun b => by rw [srcT, if_neg hO]
    rintro _ _ _ ⟨rfl, rfl, b, c', hc', rfl⟩
    refine RL.assign rfl rfl rfl rfl ?_
    refine RL.nil ?_
    refine NQ.seq ?_
    refine CW.only (.cons (k := 0) rfl (.cons (k := 1) rfl (.cons (k := 3) rfl (.cons (k := 10) rfl .nil)))) ?_
    refine CW.seq ?_
    refine CW.seq ?_
    refine CW.region (ef := []) (bk := []) ?_
    refine RL.move rfl rfl rfl rfl ?_
    refine RL.bin rfl rfl rfl rfl rfl rfl ?_
    refine RL.nil ?_
    refine NQ.seq ?_
    refine CW.cond rfl (fun he => ?_) (fun he => ?_)
    ·
      refine CW.seq ?_
      refine CW.region (ef := []) (bk := []) ?_
      refine RL.move rfl rfl rfl rfl ?_
      refine RL.assign rfl rfl rfl rfl ?_
      refine RL.nil ?_
      refine NQ.seq ?_
      refine CW.ret ?_
      refine RQ.seq ?_
      have he : ¬ putE g.T s = 0 := by simpa using he
      have hY : srcY g s ks = g.Y := by rw [srcY, hE, if_neg he]
      refine RQ.rea (fun _ h => h) (H' := GI B ({ g with T := putT g.T s k b, c := c' })) (by repeat (first | exact Rea.nil | (apply Rea.cons; (solve | (repeat (first | exact Del.here | apply Del.there)))))) ?_
      exact RQ.post (res1 rfl rfl) (.keep (.keep (.keep (.keep (.keep (.keep (.keep .nil))))))) ⟨by rw [hE], rfl, b, c', g.cy, by rw [hT]; exact hc', by rw [hY]; exact hg.y, by rw [hT, hY]⟩
    ·
      refine CW.skip ?_
      refine NQ.seq ?_
      refine CW.seq ?_
      refine CW.seq ?_
      refine CW.region (ef := []) (bk := []) ?_
      refine RL.move rfl rfl rfl rfl ?_
      refine RL.lenS Tryz.runUnderlying41 rfl rfl rfl rfl ?_
      refine RL.move rfl rfl rfl rfl ?_
      refine RL.nil ?_
      refine NQ.seq ?_
      refine CW.block ?_
      have he : putE g.T s = 0 := by simpa using he
      have hY : srcY g s ks = addY g.Y s ks := by rw [srcY, hE, if_pos he]
      refine CW.loop (γ := Nat × List (Value × Value)) (fun z => z.1 ≤ ks.length ∧ YRel z.2 (addY g.Y s (ks.take z.1))) (fun z => [(0, .pointer (some ⟨B.gb, 0, none⟩)), (1, .int .i64 s), (10, .int .i64 (putE g.T s)), (36, .slice kp ks.length c), (37, .int .i64 (ks.length : Int)), (38, .int .i64 (z.1 : Int))]) (fun _ => [sls kp 1 ks.length (ints ks)])
        (fun z => GI B { g with T := putT g.T s k b, c := c', cy := z.2 }) (fun z => ks.length - z.1) (0, g.cy) ⟨by omega, by rw [List.take_zero, addY_nil]; exact hg.y⟩ (.cons rfl (.cons rfl (.cons rfl (.cons rfl (.cons rfl (.cons rfl .nil)))))) (fun w h => h.rea (fun _ h => by simpa using h) (by repeat (first | exact Rea.nil | (apply Rea.cons; (solve | (repeat (first | exact Del.here | apply Del.there))))))) ?_
      rintro ⟨i, cy⟩ ⟨hi, hcy⟩
      dsimp only at hi hcy ⊢
      refine CW.fact (p := kp = none → ks.length = 0) (fun w hC e => sls_nil (hC.s.i _ (List.Mem.head _)) e) (fun hpp => ?_)
      refine CW.seq ?_
      refine CW.region (ef := []) (bk := []) ?_
      refine RL.bin rfl rfl rfl rfl rfl rfl ?_
      refine RL.nil ?_
      refine NQ.seq ?_
      refine CW.seq ?_
      refine CW.cond rfl (fun hlt => ?_) (fun hlt => ?_)
      ·
        have hlt : i < ks.length := by simp at hlt; omega
        cases kp with
        | none => exact absurd (hpp rfl) (by omega)
        | some a =>
        have f1 := RdI.sls (I := [sls (some a) 1 ks.length (ints ks)]) (List.Mem.head _) (List.getElem?_eq_getElem hlt)
        have htk := List.take_succ_eq_append_getElem hlt
        generalize ks[i] = x at f1 htk
        refine CW.skip ?_
        refine NQ.seq ?_
        refine CW.seq ?_
        refine CW.block ?_
        refine CW.seq ?_
        refine CW.region (ef := []) (bk := []) ?_
        first | refine RL.idxAt (j := i) Tryz.runUnderlying41 Tryz.sizeOf3 rfl rfl rfl rfl rfl rfl (hlt) ?_ | refine RL.idx (j := i) Tryz.runUnderlying41 Tryz.sizeOf3 rfl rfl rfl rfl rfl rfl (hlt) ?_
        refine RL.loadq Tryz.isAgg3 rfl rfl rfl rfl ?_
        refine RL.assign rfl rfl rfl rfl ?_
        refine RL.nil ?_
        refine NQ.seq ?_
        refine CW.region (ef := [7]) (bk := [7]) ?_
        refine RL.move rfl rfl rfl rfl ?_
        refine RL.nilCheck rfl rfl rfl rfl ?_
        first | refine RL.fieldAddr fa_76_3 rfl rfl rfl rfl ?_ | refine RL.fieldAddrG fa_76_3 rfl rfl rfl rfl ?_
        refine RL.loadq Tryz.isAgg73 rfl rfl rfl rfl ?_
        refine RL.move rfl rfl rfl rfl ?_
        refine RL.move rfl rfl rfl rfl ?_
        refine RL.buildS [_, _] Tryz.zeroValue101 pl_101 rfl rfl rfl rfl rfl ?_
        refine RL.mapUpdate keyR Tryz.runUnderlying73 rfl rfl rfl rfl rfl rfl rfl ⟨s, x, rfl⟩ (by repeat (first | exact Upd.here | apply Upd.there)) ?_
        refine RL.nil ?_
        refine NQ.block ?_
        refine NQ.seq ?_
        refine CW.only (.cons (k := 0) rfl (.cons (k := 1) rfl (.cons (k := 10) rfl (.cons (k := 36) rfl (.cons (k := 37) rfl (.cons (k := 38) rfl .nil)))))) ?_
        refine CW.region (ef := []) (bk := []) ?_
        refine RL.binX rfl rfl rfl rfl rfl rfl (wrapV_i64 (by omega) (by omega)) ?_
        refine RL.move rfl rfl rfl rfl ?_
        refine RL.nil ?_
        refine NQ.round (g := (i, cy)) (i + 1, setV (rt s x) (.bool true) cy) ⟨hlt, by show YRel (setV (rt s x) (.bool true) cy) (addY g.Y s (ks.take (i + 1))); rw [htk, ← addY_snoc]; exact hcy.set s x⟩ (by show ks.length - (i + 1) < ks.length - i; omega) (.cons rfl (.cons rfl (.cons rfl (.cons rfl (.cons rfl (.cons rfl .nil)))))) (fun w h => h)
      ·
        refine CW.exit ?_
        refine XQ.seq ?_
        refine XQ.seq ?_
        refine XQ.hit ?_
        refine NQ.seq ?_
        refine CW.only (.cons (k := 10) rfl .nil) ?_
        refine CW.seq ?_
        refine CW.region (ef := []) (bk := []) ?_
        refine RL.move rfl rfl rfl rfl ?_
        refine RL.assign rfl rfl rfl rfl ?_
        refine RL.nil ?_
        refine NQ.seq ?_
        refine CW.ret ?_
        have hin : i = ks.length := by simp at hlt; omega
        subst hin
        rw [List.take_length] at hcy
        exact RQ.post (res1 rfl rfl) (.keep (.keep (.keep (.keep (.keep (.keep (.keep .nil))))))) ⟨by rw [hE], rfl, b, c', cy, by rw [hT]; exact hc', by rw [hY]; exact hcy, by rw [hT, hY]⟩
end Go.Proofs.YtkkfdoippibfkaaGreat
