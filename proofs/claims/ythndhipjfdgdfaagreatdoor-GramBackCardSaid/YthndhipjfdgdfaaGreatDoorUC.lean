import Derived.Test.YthndhipjfdgdfaaGreatDoorUB
import Derived.Test.YthndhipjfdgdfaaGreatDoorPE
import Derived.Test.YthndhipjfdgdfaaGreatDoorMB
set_option linter.unusedVariables false
set_option linter.unusedSimpArgs false
namespace Go.Proofs.YthndhipjfdgdfaaGreatDoor
open Go.PK
/-! ### Finding a source -/
def zeroS : Sr := ⟨0, 0, List.replicate 32 0, 0, 0, 0, 0, ⟨0, 0, 0, 0, 0, 0, 0, 0, 0, 0⟩⟩
def idxS (p : Sr → Bool) (L : List Sr) : Int := match L.findIdx? p with
  | some i => (i : Int)
  | none => -1
end Go.Proofs.YthndhipjfdgdfaaGreatDoor

namespace Go.Proofs.YthndhipjfdgdfaaGreatDoor
open Go.PK
/-! ### Find, Of -/
end Go.Proofs.YthndhipjfdgdfaaGreatDoor

namespace Go.Proofs.YthndhipjfdgdfaaGreatDoor
open Go.PK
/-! ### A source equals itself -/
theorem part_s {P : Program} {t : TypeId} {cs : List Value} {off : Nat} {v : Value} (hag : ∀ w, (isAgg t).run P w = .ok false w) (h : cs[off]? = some v) (w : World) : (Go.part t cs.toArray off).run P w = .ok v w := by
  simp [Go.part, hag, h]
theorem part_a {P : Program} {t : TypeId} {cs vs : List Value} {off n : Nat} (hag : ∀ w, (isAgg t).run P w = .ok true w) (hs : ∀ w, (sizeOf t).run P w = .ok n w) (h : (cs.drop off).take n = vs) (w : World) : (Go.part t cs.toArray off).run P w = .ok (.agg vs.toArray) w := by
  subst h
  simp [Go.part, hag, hs]
theorem eqF_step {P : Program} {d : Nat} {xs : Array Value} {f : Field} {fs : List Field} {a : Value} {w : World} (hn : f.name ≠ "_") (h1 : (Go.part f.type xs f.offset).run P w = .ok a w) (h3 : (Op.equalIn d f.type a a).run P w = .ok true w) (ih : (Op.eqFields d xs xs fs).run P w = .ok true w) : (Op.eqFields d xs xs (f :: fs)).run P w = .ok true w := by
  simp [Op.eqFields, hn, h1, h3, ih]
theorem eq_i64 {P : Program} {t : TypeId} (hu : ∀ w, (underlying t).run P w = .ok (.int .i64) w) (d : Nat) (n : Int) (w : World) : (Op.equalIn (d + 1) t (.int .i64 n) (.int .i64 n)).run P w = .ok true w := by
  rw [Op.equalIn.eq_2]
  simp [hu]
theorem eq_key (d : Nat) (l : List B8) (h : l.length = 32) (w : World) : (Op.equalIn (d + 2) 29 (.agg (bytes l).toArray) (.agg (bytes l).toArray)).run Tryz.prog w = .ok true w := by
  obtain ⟨ii, hi⟩ : ∃ ii, Tryz.prog.info? 5 = some ii := by
    cases hx : Tryz.prog.info? 5 with
    | some ii => exact ⟨ii, rfl⟩
    | none => exact absurd (congrArg Option.isSome hx) (by rw [show (Tryz.prog.info? 5).isSome = true from by kernel_rfl]; decide)
  rw [run_equalIn_array (P := Tryz.prog) w (d + 1) (n := 32) (e := 5) _ _ (by kernel_rfl) hi, show Tryz.prog.cellsOf 5 = 1 from by kernel_rfl]
  have h8 := run_eqItems8 (P := Tryz.prog) (e := 5) Tryz.isAgg5 Tryz.runUnderlying5 d l l (List.range 32) w (fun i hi => by simp at hi; omega)
  have ha : ((List.range 32).all fun i => l[i]? == l[i]?) = true := by simp
  rw [ha] at h8
  exact h8
theorem eq_gate (d : Nat) (a b c : Int) (w : World) : (Op.equalIn (d + 2) 104 (.agg [Value.int .i64 a, .int .i64 b, .int .i64 c].toArray) (.agg [Value.int .i64 a, .int .i64 b, .int .i64 c].toArray)).run Tryz.prog w = .ok true w := by
  rw [run_equalIn_struct (P := Tryz.prog) w (d + 1) 104 _ _ (by kernel_rfl) (by kernel_rfl)]
  simp only [Program.fieldsOf, Tryz.underlying104]
  refine eqF_step (by decide) (part_s Tryz.isAgg23 rfl w) (eq_i64 Tryz.runUnderlying23 d _ w) ?_
  refine eqF_step (by decide) (part_s Tryz.isAgg23 rfl w) (eq_i64 Tryz.runUnderlying23 d _ w) ?_
  refine eqF_step (by decide) (part_s Tryz.isAgg23 rfl w) (eq_i64 Tryz.runUnderlying23 d _ w) ?_
  rfl
theorem eq_watch (d : Nat) (x : Wt) (w : World) : (Op.equalIn (d + 3) 106 (.agg x.cells.toArray) (.agg x.cells.toArray)).run Tryz.prog w = .ok true w := by
  rw [run_equalIn_struct (P := Tryz.prog) w (d + 2) 106 _ _ (by kernel_rfl) (by kernel_rfl)]
  simp only [Program.fieldsOf, Tryz.underlying106]
  refine eqF_step (by decide) (part_a Tryz.isAgg104 Tryz.sizeOf104 rfl w) (eq_gate d _ _ _ w) ?_
  refine eqF_step (by decide) (part_s Tryz.isAgg23 rfl w) (eq_i64 Tryz.runUnderlying23 (d + 1) _ w) ?_
  refine eqF_step (by decide) (part_s Tryz.isAgg23 rfl w) (eq_i64 Tryz.runUnderlying23 (d + 1) _ w) ?_
  refine eqF_step (by decide) (part_s Tryz.isAgg3 rfl w) (eq_i64 Tryz.runUnderlying3 (d + 1) _ w) ?_
  refine eqF_step (by decide) (part_s Tryz.isAgg23 rfl w) (eq_i64 Tryz.runUnderlying23 (d + 1) _ w) ?_
  refine eqF_step (by decide) (part_s Tryz.isAgg3 rfl w) (eq_i64 Tryz.runUnderlying3 (d + 1) _ w) ?_
  refine eqF_step (by decide) (part_s Tryz.isAgg3 rfl w) (eq_i64 Tryz.runUnderlying3 (d + 1) _ w) ?_
  refine eqF_step (by decide) (part_s Tryz.isAgg3 rfl w) (eq_i64 Tryz.runUnderlying3 (d + 1) _ w) ?_
  rfl
theorem sr_key {s : Sr} (h : s.rt.length = 32) : (s.cells.drop 2).take 32 = bytes s.rt := by
  show (bytes s.rt ++ s.tl).take 32 = bytes s.rt
  rw [List.take_append_of_le_length (by simp [h]), List.take_of_length_le (by simp [h])]
theorem sr_watch {s : Sr} (h : s.rt.length = 32) : (s.cells.drop 38).take 10 = s.wt.cells := by
  show ((bytes s.rt ++ s.tl).drop 36).take 10 = s.wt.cells
  have e : bytes s.rt ++ s.tl = (bytes s.rt ++ [.int .i64 s.w, .int .i64 s.g, .int .i64 s.st, .int .i64 s.hz]) ++ s.wt.cells := by simp [Sr.tl]
  rw [e, List.drop_left' (by simp [h])]
  rfl
theorem eq_src (d : Nat) (s : Sr) (h : s.rt.length = 32) (w : World) : (Op.equalIn (d + 4) 108 (.agg s.cells.toArray) (.agg s.cells.toArray)).run Tryz.prog w = .ok true w := by
  rw [run_equalIn_struct (P := Tryz.prog) w (d + 3) 108 _ _ (by kernel_rfl) (by kernel_rfl)]
  simp only [Program.fieldsOf, Tryz.underlying108]
  have ht : ∀ j, s.cells[34 + j]? = s.tl[j]? := fun j => by have := sr_t h j; rwa [show 0 + 34 + j = 34 + j by omega] at this
  refine eqF_step (by decide) (part_s Tryz.isAgg3 rfl w) (eq_i64 Tryz.runUnderlying3 (d + 2) _ w) ?_
  refine eqF_step (by decide) (part_s Tryz.isAgg3 rfl w) (eq_i64 Tryz.runUnderlying3 (d + 2) _ w) ?_
  refine eqF_step (by decide) (part_a Tryz.isAgg29 Tryz.sizeOf29 (sr_key h) w) (eq_key (d + 1) _ h w) ?_
  refine eqF_step (by decide) (part_s Tryz.isAgg3 (ht 0) w) (eq_i64 Tryz.runUnderlying3 (d + 2) _ w) ?_
  refine eqF_step (by decide) (part_s Tryz.isAgg3 (ht 1) w) (eq_i64 Tryz.runUnderlying3 (d + 2) _ w) ?_
  refine eqF_step (by decide) (part_s Tryz.isAgg23 (ht 2) w) (eq_i64 Tryz.runUnderlying23 (d + 2) _ w) ?_
  refine eqF_step (by decide) (part_s Tryz.isAgg3 (ht 3) w) (eq_i64 Tryz.runUnderlying3 (d + 2) _ w) ?_
  refine eqF_step (by decide) (part_a Tryz.isAgg106 Tryz.sizeOf106 (sr_watch h) w) (eq_watch d _ w) ?_
  rfl
theorem neqs_src (s : Sr) (h : s.rt.length = 32) (x y : Operand) (w : World) : (do eqGuard .neq 108 x y (.agg s.cells.toArray) (.agg s.cells.toArray); binOp .neq 108 (.agg s.cells.toArray) (.agg s.cells.toArray) : Sem Value).run Tryz.prog w = .ok (.bool false) w := by
  simp [run_eqGuard_agg, run_neq_struct, eq_src 9996 s h w]
end Go.Proofs.YthndhipjfdgdfaaGreatDoor

namespace Go.Proofs.YthndhipjfdgdfaaGreatDoor
open Go.PK
/-! ### The law's helpers: source, Plain, Few -/
abbrev zI : Value := .int .i64 0
def ZK : List Value := bytes (List.replicate 32 (0#8))
theorem fill_src {rt : List B8} {a b c d e f : Int} {x : Wt} (h : rt.length = 32) {places : Array (Nat × Nat)} (hp : places = #[(0, 1), (1, 1), (2, 32), (34, 1), (35, 1), (36, 1), (37, 1), (38, 10)]) :
    fillL (places[·]?) zeroS.cells [(0, .int .i64 a), (1, .int .i64 b), (2, .agg (bytes rt).toArray), (3, .int .i64 c), (4, .int .i64 d), (5, .int .i64 e), (6, .int .i64 f), (7, .agg x.cells.toArray)] = some (Sr.cells ⟨a, b, rt, c, d, e, f, x⟩) := by
  subst hp
  have hb : (bytes rt).length = 32 := by rw [List.length_map, h]
  refine fill_seg (vs := [.int .i64 a]) [] [zI] ([zI] ++ (ZK ++ zeroS.tl)) rfl rfl rfl rfl rfl rfl ?_
  refine fill_seg (vs := [.int .i64 b]) [.int .i64 a] [zI] (ZK ++ zeroS.tl) rfl rfl rfl rfl rfl rfl ?_
  refine fill_seg [.int .i64 a, .int .i64 b] ZK zeroS.tl rfl (agg_cells _) rfl rfl rfl hb ?_
  refine fill_seg (vs := [.int .i64 c]) (.int .i64 a :: .int .i64 b :: bytes rt) [zI] (zI :: zI :: zI :: zeroS.wt.cells) rfl rfl rfl (by simp [h]) rfl rfl ?_
  refine fill_seg (vs := [.int .i64 d]) (.int .i64 a :: .int .i64 b :: (bytes rt ++ [.int .i64 c])) [zI] (zI :: zI :: zeroS.wt.cells) rfl rfl (by simp) (by simp [h]) rfl rfl ?_
  refine fill_seg (vs := [.int .i64 e]) (.int .i64 a :: .int .i64 b :: (bytes rt ++ [.int .i64 c, .int .i64 d])) [zI] (zI :: zeroS.wt.cells) rfl rfl (by simp) (by simp [h]) rfl rfl ?_
  refine fill_seg (vs := [.int .i64 f]) (.int .i64 a :: .int .i64 b :: (bytes rt ++ [.int .i64 c, .int .i64 d, .int .i64 e])) [zI] zeroS.wt.cells rfl rfl (by simp) (by simp [h]) rfl rfl ?_
  refine fill_seg (.int .i64 a :: .int .i64 b :: (bytes rt ++ [.int .i64 c, .int .i64 d, .int .i64 e, .int .i64 f])) zeroS.wt.cells [] rfl (agg_cells _) (by simp) (by simp [h]) rfl rfl ?_
  simp [Sr.cells, Sr.tl, fillL]
def zeroC : Cf := ⟨0, 0, 0, 0, ⟨0, 0, 0, 0⟩, List.replicate 32 0, 0, 0, 0, 0, []⟩
theorem fill_cf {cm : List B8} {a b c d e f g i m t r q : Int} (h : cm.length = 32) {places : Array (Nat × Nat)} (hp : places = #[(0, 1), (1, 3), (4, 1), (5, 4), (9, 32), (41, 1), (42, 1), (43, 1), (44, 1)]) :
    fillL (places[·]?) (zeroC.cells (.slice none 0 0)) [(1, .agg #[.int .i64 a, .int .i64 b, .int .i64 c]), (2, .int .i64 d), (3, .agg #[.int .i64 e, .int .i64 f, .int .i64 g, .int .i64 i]), (4, .agg (bytes cm).toArray), (5, .int .i64 m), (6, .int .i64 t), (7, .int .i64 r), (8, .int .u64 q)] = some (Cf.cells ⟨a, b, c, d, ⟨e, f, g, i⟩, cm, m, t, r, q, []⟩ (.slice none 0 0)) := by
  subst hp
  have hb : (bytes cm).length = 32 := by rw [List.length_map, h]
  refine fill_seg (vs := [.int .i64 a, .int .i64 b, .int .i64 c]) [.slice none 0 0] [zI, zI, zI] ([zI] ++ ([zI, zI, zI, zI] ++ (ZK ++ zeroC.tl))) rfl rfl rfl rfl rfl rfl ?_
  refine fill_seg (vs := [.int .i64 d]) [.slice none 0 0, .int .i64 a, .int .i64 b, .int .i64 c] [zI] ([zI, zI, zI, zI] ++ (ZK ++ zeroC.tl)) rfl rfl rfl rfl rfl rfl ?_
  refine fill_seg (vs := [.int .i64 e, .int .i64 f, .int .i64 g, .int .i64 i]) [.slice none 0 0, .int .i64 a, .int .i64 b, .int .i64 c, .int .i64 d] [zI, zI, zI, zI] (ZK ++ zeroC.tl) rfl rfl rfl rfl rfl rfl ?_
  refine fill_seg [.slice none 0 0, .int .i64 a, .int .i64 b, .int .i64 c, .int .i64 d, .int .i64 e, .int .i64 f, .int .i64 g, .int .i64 i] ZK zeroC.tl rfl (agg_cells _) rfl rfl rfl hb ?_
  refine fill_seg (vs := [.int .i64 m]) (.slice none 0 0 :: .int .i64 a :: .int .i64 b :: .int .i64 c :: .int .i64 d :: .int .i64 e :: .int .i64 f :: .int .i64 g :: .int .i64 i :: bytes cm) [zI] [zI, zI, .int .u64 0] rfl rfl rfl (by simp [h]) rfl rfl ?_
  refine fill_seg (vs := [.int .i64 t]) (.slice none 0 0 :: .int .i64 a :: .int .i64 b :: .int .i64 c :: .int .i64 d :: .int .i64 e :: .int .i64 f :: .int .i64 g :: .int .i64 i :: (bytes cm ++ [.int .i64 m])) [zI] [zI, .int .u64 0] rfl rfl (by simp) (by simp [h]) rfl rfl ?_
  refine fill_seg (vs := [.int .i64 r]) (.slice none 0 0 :: .int .i64 a :: .int .i64 b :: .int .i64 c :: .int .i64 d :: .int .i64 e :: .int .i64 f :: .int .i64 g :: .int .i64 i :: (bytes cm ++ [.int .i64 m, .int .i64 t])) [zI] [.int .u64 0] rfl rfl (by simp) (by simp [h]) rfl rfl ?_
  refine fill_seg (vs := [.int .u64 q]) (.slice none 0 0 :: .int .i64 a :: .int .i64 b :: .int .i64 c :: .int .i64 d :: .int .i64 e :: .int .i64 f :: .int .i64 g :: .int .i64 i :: (bytes cm ++ [.int .i64 m, .int .i64 t, .int .i64 r])) [.int .u64 0] [] rfl rfl (by simp) (by simp [h]) rfl rfl ?_
  simp [Cf.cells, Cf.tl, fillL]
theorem cf_ones (c : Cf) {sl : Value} (hs : sl.oneCell' = true) : ones (c.cells sl) = true := by
  have h : ones (bytes c.cm ++ c.tl) = true := ones_app (ones_map one8 _) rfl
  show (sl.oneCell' && _) = true
  rw [hs]; exact h
theorem cf_set {c : Cf} {sl sl' : Value} : spl (c.cells sl) (0 + 0) [sl'] = c.cells sl' := by
  have e : ∀ s, c.cells s = [] ++ ([s] ++ (c.cells sl).tail) := fun s => rfl
  rw [e sl, e sl']; exact seg_spl rfl rfl
theorem lsource (s : Sr) (h : s.rt.length = 32) : Spc Tryz.prog 63 #[.agg s.cells.toArray] [] [] (Is (.agg s.cells.toArray)) := by
  have hsl := sr_len h
  have hb : (bytes s.rt).length = 32 := by rw [List.length_map, h]
  refine Spc.enter Tryz.func63 rfl rfl rfl (fun w0 hw0 => ?_)
  refine CW.seq (CW.region (ef := [0, 1]) (bk := []) (RL.box rfl rfl rfl rfl rfl rfl ?_))
  intro b1
  refine RL.alloc Tryz.zeroValue108 rfl rfl rfl rfl rfl ?_
  intro b2
  refine RL.nil (NQ.seq (CW.seq (CW.freezeP (A := [cel b1 s.cells 98]) (B := [cel b2 zeroS.cells 108]) (by repeat (first | exact Pick.nil | apply Pick.take | apply Pick.leave)) rfl ?_)))
  refine CW.genI (fun J hJ => ?_)
  have mA : cel b1 s.cells 98 ∈ J := hJ _ (List.Mem.head _)
  clear hJ
  have sW : RdsN J ⟨b1, 0 + 38, none⟩ 10 s.wt.cells := RdsN.told mA (fun j u hj => by rw [sr_w h]; exact hj) rfl
  have s0 : RdI J ⟨b1, 0 + 0, none⟩ (.int .i64 s.id) := ⟨fun _ => Rd.celI mA rfl⟩
  have s1 : RdI J ⟨b1, 0 + 1, none⟩ (.int .i64 s.kd) := ⟨fun _ => Rd.celI mA rfl⟩
  have sK : RdsN J ⟨b1, 0 + 2, none⟩ 32 (bytes s.rt) := RdsN.told mA (fun j u hj => by
    show s.cells[0 + 2 + j]? = some u
    rw [show 0 + 2 + j = j + 1 + 1 by omega, Sr.cells]
    simp only [List.getElem?_cons_succ]
    rw [List.getElem?_append_left (List.getElem?_eq_some_iff.1 hj).1]; exact hj) hb
  have s3 : RdI J ⟨b1, 0 + 34, none⟩ (.int .i64 s.w) := ⟨fun _ => Rd.getI mA (sr_t h 0)⟩
  have s4 : RdI J ⟨b1, 0 + 35, none⟩ (.int .i64 s.g) := ⟨fun _ => Rd.getI mA (sr_t h 1)⟩
  have s5 : RdI J ⟨b1, 0 + 36, none⟩ (.int .i64 s.st) := ⟨fun _ => Rd.getI mA (sr_t h 2)⟩
  have s6 : RdI J ⟨b1, 0 + 37, none⟩ (.int .i64 s.hz) := ⟨fun _ => Rd.getI mA (sr_t h 3)⟩
  refine CW.region (ef := [2, 3]) (bk := [3]) (RL.fieldAddr fa_98_7 rfl rfl rfl rfl (RL.loadSq Tryz.isAgg96 Tryz.sizeOf96 rfl rfl rfl rfl ?_))
  refine RL.alloc Tryz.zeroValue96 rfl rfl rfl rfl rfl ?_
  intro b3
  refine RL.store (vs := [_, _, _, _, _, _, _, _, _, _]) Tryz.sizeOf96 rfl rfl rfl rfl rfl rfl rfl rfl rfl (by repeat (first | exact Upd.here | apply Upd.there)) ?_
  refine RL.nil (NQ.seq (CW.seq (CW.freezeP (A := [cel b3 s.wt.cells 96]) (B := [cel b2 zeroS.cells 108]) (by repeat (first | exact Pick.nil | apply Pick.take | apply Pick.leave)) rfl ?_)))
  refine CW.genI (fun J2 hJ => ?_)
  have hJ2 : ∀ x ∈ J, x ∈ J2 := fun x hx => hJ x (by simp [hx])
  have mB := hJ2 _ mA
  have mW : cel b3 s.wt.cells 96 ∈ J2 := hJ _ (List.Mem.head _)
  clear hJ sW s0 s1 sK s3 s4 s5 s6
  have s0 : RdI J2 ⟨b1, 0 + 0, none⟩ (.int .i64 s.id) := ⟨fun _ => Rd.celI mB rfl⟩
  have s1 : RdI J2 ⟨b1, 0 + 1, none⟩ (.int .i64 s.kd) := ⟨fun _ => Rd.celI mB rfl⟩
  have sK : RdsN J2 ⟨b1, 0 + 2, none⟩ 32 (bytes s.rt) := RdsN.told mB (fun j u hj => by
    show s.cells[0 + 2 + j]? = some u
    rw [show 0 + 2 + j = j + 1 + 1 by omega, Sr.cells]
    simp only [List.getElem?_cons_succ]
    rw [List.getElem?_append_left (List.getElem?_eq_some_iff.1 hj).1]; exact hj) hb
  have s3 : RdI J2 ⟨b1, 0 + 34, none⟩ (.int .i64 s.w) := ⟨fun _ => Rd.getI mB (sr_t h 0)⟩
  have s4 : RdI J2 ⟨b1, 0 + 35, none⟩ (.int .i64 s.g) := ⟨fun _ => Rd.getI mB (sr_t h 1)⟩
  have s5 : RdI J2 ⟨b1, 0 + 36, none⟩ (.int .i64 s.st) := ⟨fun _ => Rd.getI mB (sr_t h 2)⟩
  have s6 : RdI J2 ⟨b1, 0 + 37, none⟩ (.int .i64 s.hz) := ⟨fun _ => Rd.getI mB (sr_t h 3)⟩
  have w0' : RdI J2 ⟨b3, 0 + 0 + 0, none⟩ (.int .i64 s.wt.go) := ⟨fun _ => Rd.celI mW rfl⟩
  have w1 : RdI J2 ⟨b3, 0 + 0 + 1, none⟩ (.int .i64 s.wt.gg) := ⟨fun _ => Rd.celI mW rfl⟩
  have w2 : RdI J2 ⟨b3, 0 + 0 + 2, none⟩ (.int .i64 s.wt.gm) := ⟨fun _ => Rd.celI mW rfl⟩
  have w3 : RdI J2 ⟨b3, 0 + 3, none⟩ (.int .i64 s.wt.sl) := ⟨fun _ => Rd.celI mW rfl⟩
  have w4 : RdI J2 ⟨b3, 0 + 4, none⟩ (.int .i64 s.wt.mo) := ⟨fun _ => Rd.celI mW rfl⟩
  have w5 : RdI J2 ⟨b3, 0 + 5, none⟩ (.int .i64 s.wt.sa) := ⟨fun _ => Rd.celI mW rfl⟩
  have w6 : RdI J2 ⟨b3, 0 + 6, none⟩ (.int .i64 s.wt.ra) := ⟨fun _ => Rd.celI mW rfl⟩
  have w7 : RdI J2 ⟨b3, 0 + 7, none⟩ (.int .i64 s.wt.ba) := ⟨fun _ => Rd.celI mW rfl⟩
  have w8 : RdI J2 ⟨b3, 0 + 8, none⟩ (.int .i64 s.wt.ho) := ⟨fun _ => Rd.celI mW rfl⟩
  have w9 : RdI J2 ⟨b3, 0 + 9, none⟩ (.int .i64 s.wt.pr) := ⟨fun _ => Rd.celI mW rfl⟩
  refine CW.region (ef := [40]) (bk := [40]) (RL.fieldAddr fa_98_0 rfl rfl rfl rfl (RL.loadq Tryz.isAgg3 rfl rfl rfl rfl ?_))
  refine RL.fieldAddr fa_98_1 rfl rfl rfl rfl (RL.loadq Tryz.isAgg3 rfl rfl rfl rfl ?_)
  refine RL.fieldAddr fa_98_2 rfl rfl rfl rfl (RL.loadSq Tryz.isAgg29 Tryz.sizeOf29 rfl rfl rfl rfl ?_)
  refine RL.fieldAddr fa_98_3 rfl rfl rfl rfl (RL.loadq Tryz.isAgg3 rfl rfl rfl rfl ?_)
  refine RL.fieldAddr fa_98_4 rfl rfl rfl rfl (RL.loadq Tryz.isAgg3 rfl rfl rfl rfl ?_)
  refine RL.fieldAddr fa_98_5 rfl rfl rfl rfl (RL.loadq Tryz.isAgg23 rfl rfl rfl rfl ?_)
  refine RL.fieldAddr fa_98_6 rfl rfl rfl rfl (RL.loadq Tryz.isAgg3 rfl rfl rfl rfl ?_)
  refine RL.fieldAddr fa_96_0 rfl rfl rfl rfl (RL.fieldAddr fa_94_0 rfl rfl rfl rfl (RL.loadq Tryz.isAgg23 rfl rfl rfl rfl ?_))
  refine RL.fieldAddr fa_96_0 rfl rfl rfl rfl (RL.fieldAddr fa_94_1 rfl rfl rfl rfl (RL.loadq Tryz.isAgg23 rfl rfl rfl rfl ?_))
  refine RL.fieldAddr fa_96_0 rfl rfl rfl rfl (RL.fieldAddr fa_94_2 rfl rfl rfl rfl (RL.loadq Tryz.isAgg23 rfl rfl rfl rfl ?_))
  refine RL.buildS [_, _, _] Tryz.zeroValue104 pl_104 rfl rfl rfl rfl rfl (RL.fieldAddr fa_96_1 rfl rfl rfl rfl (RL.loadq Tryz.isAgg23 rfl rfl rfl rfl ?_))
  refine RL.fieldAddr fa_96_2 rfl rfl rfl rfl (RL.loadq Tryz.isAgg23 rfl rfl rfl rfl ?_)
  refine RL.fieldAddr fa_96_3 rfl rfl rfl rfl (RL.loadq Tryz.isAgg3 rfl rfl rfl rfl ?_)
  refine RL.fieldAddr fa_96_4 rfl rfl rfl rfl (RL.loadq Tryz.isAgg23 rfl rfl rfl rfl ?_)
  refine RL.fieldAddr fa_96_5 rfl rfl rfl rfl (RL.loadq Tryz.isAgg3 rfl rfl rfl rfl ?_)
  refine RL.fieldAddr fa_96_6 rfl rfl rfl rfl (RL.loadq Tryz.isAgg3 rfl rfl rfl rfl ?_)
  refine RL.fieldAddr fa_96_7 rfl rfl rfl rfl (RL.loadq Tryz.isAgg3 rfl rfl rfl rfl ?_)
  refine RL.buildS [_, _, _, _, _, _, _, _, _, _] Tryz.zeroValue106 pl_106 rfl rfl rfl rfl rfl (RL.buildS s.cells Tryz.zeroValue108 pl_108 rfl rfl rfl rfl (fill_src (x := s.wt) h rfl) (RL.storeW Tryz.sizeOf108 rfl rfl rfl rfl rfl rfl rfl (sr_ones s) (by repeat (first | exact Upd.here | apply Upd.there)) hsl rfl ?_))
  refine RL.nil (NQ.seq (CW.ok [2] rfl (CW.ret ?_)))
  exact RQ.post (resW rfl rfl Tryz.isAgg108 Tryz.sizeOf108 (by repeat (first | exact List.Mem.head _ | apply List.Mem.tail)) hsl) (Split.none _) ⟨rfl, rfl, rfl⟩
end Go.Proofs.YthndhipjfdgdfaaGreatDoor

namespace Go.Proofs.YthndhipjfdgdfaaGreatDoor
open Go.PK
theorem srs_len {L : List Sr} (hL : ∀ s ∈ L, s.cells.length = 48) : (L.flatMap Sr.cells).length = L.length * 48 := by
  induction L with
  | nil => rfl
  | cons s L ih =>
    rw [List.flatMap_cons, List.length_append, ih (fun x hx => hL x (by simp [hx])), hL s (by simp), List.length_cons]; omega
theorem srs_cut {L : List Sr} {i : Nat} (hi : i ≤ L.length) (hL : ∀ s ∈ L, s.cells.length = 48) : (L.flatMap Sr.cells).take (i * 48) = (L.take i).flatMap Sr.cells := by
  have hl : ((L.take i).flatMap Sr.cells).length = i * 48 := by rw [srs_len (fun s hs => hL s (List.mem_of_mem_take hs)), List.length_take, Nat.min_eq_left hi]
  have he : L.flatMap Sr.cells = (L.take i).flatMap Sr.cells ++ (L.drop i).flatMap Sr.cells := by rw [← List.flatMap_append, List.take_append_drop]
  rw [he]; exact List.take_left' hl
theorem srs_ones (L : List Sr) : ∀ u ∈ L.flatMap Sr.cells, u.oneCell' = true := fun u hu => by
  obtain ⟨s, -, hs⟩ := List.mem_flatMap.1 hu
  exact ones_spec (sr_ones s) u hs
theorem fill_one48 {cs zs : List Value} (h : cs.length = 48) (hz : zs.length = 48) : fillL (fun j => some (j * 48, 48)) (reps zs 1) [(0, .agg cs.toArray)] = some cs := by
  refine fill_seg [] zs [] rfl (agg_cells _) (by simp [reps]) rfl hz h ?_
  simp [fillL]
/-- A configuration, its sources its own. -/
def CfR (U : TypeId) (c : Cf) : Value → List It → List It → Prop := fun v I' H' => ∃ ob cap, v = .agg (c.cells (slO ob c.L.length cap)).toArray ∧ I' = [] ∧ H' = [own ob cap U 48 c.L.length (c.L.flatMap Sr.cells)]
def Cf.few (c : Cf) : Cf := { c with L := c.L.take 12 }
theorem lfew_any (c : Cf) (pa : Option Addr) (ca n : Nat) (hc : c.cm.length = 32) (hL : ∀ s ∈ c.L, s.cells.length = 48) (hn : c.L.length = n) (hca : n ≤ ca) (hb : n ≤ maxLen) : Spc Tryz.prog 24 #[.agg (c.cells (.slice pa n ca)).toArray] [sls pa 48 n (c.L.flatMap Sr.cells)] [] (CfR 98 c.few) := by
  subst hn
  have hml : (c.L.take 12).length = min c.L.length 12 := by rw [List.length_take]; omega
  have hl45 := fun sl => cf_len hc sl
  have hmin : min ((c.L.length : Nat) : Int) 12 = ((min c.L.length 12 : Nat) : Int) := by omega
  have hsrc : ∀ H, Src [sls pa 48 c.L.length (c.L.flatMap Sr.cells)] H (if ca = 0 then pa else pa.map (·.add (0 * 48))) (min c.L.length 12 - 0) 48 ((c.L.take 12).flatMap Sr.cells) := fun H => by
    have := Src.sub (lo := 0) (hi := min c.L.length 12) (cap := ca) (Src.sls (I := [sls pa 48 c.L.length (c.L.flatMap Sr.cells)]) (H := H) (p := pa) (sz := 48) (nn := c.L.length) (xs := c.L.flatMap Sr.cells) (List.Mem.head _)) (by omega) (by omega) (by omega)
    rw [Nat.zero_mul, List.drop_zero, Nat.sub_zero, srs_cut (by omega) hL, show c.L.take (min c.L.length 12) = c.L.take 12 by rw [Nat.min_comm, ← List.take_take, List.take_length]] at this
    simpa using this
  refine Spc.enter Tryz.func24 rfl rfl rfl (fun w0 hw0 => ?_)
  refine CW.seq (CW.region (ef := [0, 1]) (bk := []) (RL.box rfl rfl rfl rfl rfl rfl ?_))
  intro b1
  refine RL.alloc Tryz.zeroValue32 rfl rfl rfl rfl rfl ?_
  intro b2
  refine RL.nil (NQ.seq (CW.seq (CW.region (ef := [0, 8, 10]) (bk := [8, 10]) (RL.buildOwn [] Tryz.runUnderlying22 Tryz.sizeOf98 Tryz.zeroValue98 rfl rfl (by decide) (by decide) rfl (by decide) rfl rfl rfl rfl rfl rfl ?_))))
  intro oq
  refine RL.fieldAddr fa_32_0 rfl rfl rfl rfl (RL.load Tryz.isAgg22 rfl rfl rfl rfl (Rd.cel (by repeat (first | exact List.Mem.head _ | apply List.Mem.tail)) rfl) ?_)
  refine RL.fieldAddr fa_32_0 rfl rfl rfl rfl (RL.load Tryz.isAgg22 rfl rfl rfl rfl (Rd.cel (by repeat (first | exact List.Mem.head _ | apply List.Mem.tail)) rfl) ?_)
  refine RL.lenS Tryz.runUnderlying22 rfl rfl rfl rfl (RL.min rfl rfl rfl rfl rfl ?_)
  rw [hmin]
  refine RL.slice (lo := 0) (hi := min c.L.length 12) Tryz.runUnderlying22 Tryz.sizeOf98 rfl rfl rfl rfl rfl rfl (by omega) (by omega) ?_
  refine RL.appendA el_22 rfl rfl rfl rfl rfl rfl rfl (by first | exact ⟨(.take (Pick.none _)), rfl⟩ | exact ⟨(.leave (.take (Pick.none _))), rfl⟩ | exact ⟨(.leave (.leave (.take (Pick.none _)))), rfl⟩ | exact ⟨(.leave (.leave (.leave (.take (Pick.none _))))), rfl⟩ | exact ⟨(.leave (.leave (.leave (.leave (.take (Pick.none _)))))), rfl⟩ | exact ⟨(.leave (.leave (.leave (.leave (.leave (.take (Pick.none _))))))), rfl⟩ | exact ⟨(.leave (.leave (.leave (.leave (.leave (.leave (.take (Pick.none _)))))))), rfl⟩ | exact ⟨(.leave (.leave (.leave (.leave (.leave (.leave (.leave (.take (Pick.none _))))))))), rfl⟩ | exact ⟨(.leave (.leave (.leave (.leave (.leave (.leave (.leave (.leave (.take (Pick.none _)))))))))), rfl⟩ | exact ⟨(.leave (.leave (.leave (.leave (.leave (.leave (.leave (.leave (.leave (.take (Pick.none _))))))))))), rfl⟩) (hsrc _) (srs_ones _) (by first | omega | (simp only [maxLen]; omega)) (by first | omega | (simp only [maxLen]; omega)) ?_
  intro ob1 cap1 ho1
  refine RL.fieldAddr fa_32_0 rfl rfl rfl rfl (RL.storeX (vs := [_]) cf_set Tryz.sizeOf22 rfl rfl rfl rfl rfl rfl rfl rfl (by repeat (first | exact Upd.here | apply Upd.there)) (by rw [hl45]; show 0 + 0 + 1 ≤ 45; decide) ?_)
  refine RL.nil (NQ.seq (CW.ok [1, 2] rfl (CW.seq ?_)))
  rw [show 0 + (min c.L.length 12 - 0) = c.few.L.length by show _ = (c.L.take 12).length; omega, List.nil_append]
  refine CW.region (ef := [1]) (bk := [1]) (RL.loadW Tryz.isAgg32 Tryz.sizeOf32 rfl rfl rfl rfl (by repeat (first | exact List.Mem.head _ | apply List.Mem.tail)) (hl45 _) ?_)
  refine RL.storeW Tryz.sizeOf32 rfl rfl rfl rfl rfl rfl rfl (cf_ones _ rfl) (by repeat (first | exact Upd.here | apply Upd.there)) (hl45 _) rfl ?_
  refine RL.nil (NQ.seq (CW.ret (RQ.rea (fun _ h => h) (H' := [own ob1 cap1 98 48 c.few.L.length ((c.L.take 12).flatMap Sr.cells), cel b2 (c.cells (slO ob1 c.few.L.length cap1)) 32]) (by repeat (first | exact Rea.nil | (apply Rea.cons; (solve | (repeat (first | exact Del.here | apply Del.there)))))) ?_)))
  exact RQ.post (resW rfl rfl Tryz.isAgg32 Tryz.sizeOf32 (by repeat (first | exact List.Mem.head _ | apply List.Mem.tail)) (hl45 _)) (.keep (Split.none _)) ⟨ob1, cap1, rfl, rfl, rfl⟩
theorem lplain_any (c : Cf) (oa : Option Nat) (ca n : Nat) (hn : c.L.length = n) (hc : c.cm.length = 32) (hL : ∀ s ∈ c.L, s.rt.length = 32) (hl : n ≤ 12) :
    Spc Tryz.prog 25 #[.agg (c.cells (slO oa n ca)).toArray] [sls (oa.map fun b => ⟨b, 0, none⟩) 48 n (c.L.flatMap Sr.cells)] [] (CfR 108 c) := by
  subst hn
  have hLl : ∀ s ∈ c.L, s.cells.length = 48 := fun s hs => sr_len (hL s hs)
  have hl45 := fun sl => cf_len hc sl
  refine Spc.enter Tryz.func25 rfl rfl rfl (fun w0 hw0 => ?_)
  refine CW.seq (CW.region (ef := [0, 1]) (bk := []) (RL.box rfl rfl rfl rfl rfl rfl ?_))
  intro b1
  refine RL.alloc Tryz.zeroValue40 rfl rfl rfl rfl rfl ?_
  intro b2
  refine RL.nil (NQ.seq (CW.seq (CW.freezeP (A := [cel b1 (c.cells (slO oa c.L.length ca)) 32]) (B := [cel b2 (zeroC.cells (.slice none 0 0)) 40]) (by repeat (first | exact Pick.nil | apply Pick.take | apply Pick.leave)) rfl ?_)))
  simp only [List.cons_append, List.nil_append]
  generalize hJ : ([cel b1 (c.cells (slO oa c.L.length ca)) 32, sls (oa.map fun b => ⟨b, 0, none⟩) 48 c.L.length (c.L.flatMap Sr.cells)] : List It) = J
  have m1 : cel b1 (c.cells (slO oa c.L.length ca)) 32 ∈ J := by rw [← hJ]; exact (by repeat (first | exact List.Mem.head _ | apply List.Mem.tail))
  have m2 : sls (oa.map fun b => ⟨b, 0, none⟩) 48 c.L.length (c.L.flatMap Sr.cells) ∈ J := by rw [← hJ]; exact (by repeat (first | exact List.Mem.head _ | apply List.Mem.tail))
  clear hJ
  have fS : RdI J ⟨b1, 0 + 0, none⟩ (slO oa c.L.length ca) := ⟨fun _ => Rd.celI m1 rfl⟩
  have fG : RdsN J ⟨b1, 0 + 1, none⟩ 3 [.int .i64 c.g0, .int .i64 c.g1, .int .i64 c.g2] := RdsN.told m1 (fun j u hj => by
    match j, hj with
    | 0, hj => exact hj
    | 1, hj => exact hj
    | 2, hj => exact hj
    | j + 3, hj => simp at hj) rfl
  have fD : RdI J ⟨b1, 0 + 4, none⟩ (.int .i64 c.dr) := ⟨fun _ => Rd.celI m1 rfl⟩
  have q0 : RdI J ⟨b1, 0 + 5 + 0, none⟩ (.int .i64 c.sc.st) := ⟨fun _ => Rd.celI m1 rfl⟩
  have q1 : RdI J ⟨b1, 0 + 5 + 1, none⟩ (.int .i64 c.sc.ln) := ⟨fun _ => Rd.celI m1 rfl⟩
  have q2 : RdI J ⟨b1, 0 + 5 + 2, none⟩ (.int .i64 c.sc.lg) := ⟨fun _ => Rd.celI m1 rfl⟩
  have q3 : RdI J ⟨b1, 0 + 5 + 3, none⟩ (.int .i64 c.sc.of) := ⟨fun _ => Rd.celI m1 rfl⟩
  have hb : (bytes c.cm).length = 32 := by rw [List.length_map, hc]
  have qC : RdsN J ⟨b1, 0 + 9, none⟩ 32 (bytes c.cm) := RdsN.told m1 (fun j u hj => by
    rw [show 0 + 9 + j = j + 1 + 1 + 1 + 1 + 1 + 1 + 1 + 1 + 1 by omega, Cf.cells]
    simp only [List.getElem?_cons_succ]
    rw [List.getElem?_append_left (List.getElem?_eq_some_iff.1 hj).1]; exact hj) hb
  have f1 : RdI J ⟨b1, 0 + 41, none⟩ (.int .i64 c.mo) := ⟨fun _ => Rd.getI m1 (cf_t hc _ 0)⟩
  have f2 : RdI J ⟨b1, 0 + 42, none⟩ (.int .i64 c.ti) := ⟨fun _ => Rd.getI m1 (cf_t hc _ 1)⟩
  have f3 : RdI J ⟨b1, 0 + 43, none⟩ (.int .i64 c.gr) := ⟨fun _ => Rd.getI m1 (cf_t hc _ 2)⟩
  have f4 : RdI J ⟨b1, 0 + 44, none⟩ (.int .u64 c.sd) := ⟨fun _ => Rd.getI m1 (cf_t hc _ 3)⟩
  refine CW.region (ef := [28, 29]) (bk := [29]) (RL.fieldAddr fa_32_1 rfl rfl rfl rfl (RL.loadSq Tryz.isAgg25 Tryz.sizeOf25 rfl rfl rfl rfl ?_))
  refine RL.fieldAddr fa_32_2 rfl rfl rfl rfl (RL.loadq Tryz.isAgg23 rfl rfl rfl rfl ?_)
  refine RL.fieldAddr fa_32_3 rfl rfl rfl rfl (RL.fieldAddr fa_27_0 rfl rfl rfl rfl (RL.loadq Tryz.isAgg3 rfl rfl rfl rfl ?_))
  refine RL.fieldAddr fa_32_3 rfl rfl rfl rfl (RL.fieldAddr fa_27_1 rfl rfl rfl rfl (RL.loadq Tryz.isAgg3 rfl rfl rfl rfl ?_))
  refine RL.fieldAddr fa_32_3 rfl rfl rfl rfl (RL.fieldAddr fa_27_2 rfl rfl rfl rfl (RL.loadq Tryz.isAgg3 rfl rfl rfl rfl ?_))
  refine RL.fieldAddr fa_32_3 rfl rfl rfl rfl (RL.fieldAddr fa_27_3 rfl rfl rfl rfl (RL.loadq Tryz.isAgg3 rfl rfl rfl rfl ?_))
  refine RL.buildS [_, _, _, _] Tryz.zeroValue38 pl_38 rfl rfl rfl rfl rfl (RL.fieldAddr fa_32_4 rfl rfl rfl rfl (RL.loadSq Tryz.isAgg29 Tryz.sizeOf29 rfl rfl rfl rfl ?_))
  refine RL.fieldAddr fa_32_5 rfl rfl rfl rfl (RL.loadq Tryz.isAgg3 rfl rfl rfl rfl ?_)
  refine RL.fieldAddr fa_32_6 rfl rfl rfl rfl (RL.loadq Tryz.isAgg3 rfl rfl rfl rfl ?_)
  refine RL.fieldAddr fa_32_7 rfl rfl rfl rfl (RL.loadq Tryz.isAgg3 rfl rfl rfl rfl ?_)
  refine RL.fieldAddr fa_32_8 rfl rfl rfl rfl (RL.loadq Tryz.isAgg30 rfl rfl rfl rfl ?_)
  refine RL.buildS (c.cells (.slice none 0 0)) Tryz.zeroValue40 pl_40 rfl rfl rfl rfl (fill_cf hc rfl) (RL.alloc Tryz.zeroValue40 rfl rfl rfl rfl rfl ?_)
  intro b3
  refine RL.storeW Tryz.sizeOf40 rfl rfl rfl rfl rfl rfl rfl (cf_ones _ rfl) (by repeat (first | exact Upd.here | apply Upd.there)) (hl45 _) rfl ?_
  refine RL.nil (NQ.seq (CW.ok [1, 2, 3] rfl (CW.seq (CW.seq (CW.rg (RL.p rfl (RL.nil (NQ.seq (CW.block (CW.ownNone (e := 108) 48 ?_))))))))))
  refine CW.loop (γ := Nat × Option Nat × Nat) (fun g => g.1 ≤ c.L.length) (fun g => [(1, .pointer (some ⟨b1, 0, none⟩)), (2, .pointer (some ⟨b2, 0, none⟩)), (3, .pointer (some ⟨b3, 0, none⟩)), (4, .int .i64 (g.1 : Int))]) (fun _ => J)
    (fun g => [cel b3 (c.cells (slO g.2.1 g.1 g.2.2)) 40, own g.2.1 g.2.2 108 48 g.1 ((c.L.take g.1).flatMap Sr.cells), cel b2 (zeroC.cells (.slice none 0 0)) 40]) (fun g => c.L.length - g.1) (0, none, 0) (Nat.zero_le _) (.cons rfl (.cons rfl (.cons rfl (.cons rfl .nil)))) (fun w h => h.rea (fun _ h => h) (by repeat (first | exact Rea.nil | (apply Rea.cons; (solve | (repeat (first | exact Del.here | apply Del.there))))))) ?_
  rintro ⟨i, ob, cp⟩ hi
  dsimp only at hi ⊢
  refine CW.fact (p := oa = none → c.L.length = 0) (fun w hC e => sls_nil (hC.s.i _ m2) (by rw [e]; rfl)) (fun hpa => ?_)
  refine CW.seq (CW.seq (CW.rg (RL.p rfl (RL.fieldAddr fa_32_0 rfl rfl rfl rfl (RL.loadq Tryz.isAgg22 rfl rfl rfl rfl ?_)))))
  refine RL.lenS Tryz.runUnderlying22 rfl rfl rfl rfl (RL.p rfl (RL.p rfl ?_))
  apply RL.andB (d := 38) (dp := 41) (l' := (Sq.of [])) rfl (sK [1, 2, 3, 4] rfl)
  ·
    intro hb6 K6
    refine RL.p rfl (RL.p rfl (RL.p rfl ?_))
    exact K6 _ (.cons rfl (sK [1, 2, 3, 4] rfl))
  ·
    intro hb6 K6
    refine RL.p rfl (RL.p rfl (RL.p rfl ?_))
    exact K6 _ (.cons rfl (sK [1, 2, 3, 4] rfl))
  refine RL.nil (NQ.seq ?_)
  refine CW.cond rfl (fun hlt => ?_) (fun hlt => ?_)
  ·
    have hlt : i < c.L.length := by simp at hlt; omega
    cases oa with
    | none => exact absurd (hpa rfl) (by omega)
    | some ba =>
    have hx := List.getElem?_eq_getElem hlt
    have htk : c.L.take (i + 1) = c.L.take i ++ [c.L[i]] := by rw [List.take_add_one, hx]; rfl
    generalize c.L[i] = s at hx htk
    have hs := hL s (List.mem_of_getElem? hx)
    have hsl := hLl s (List.mem_of_getElem? hx)
    have fE : RdsN J ⟨ba, 0 + i * 48, none⟩ 48 s.cells := flat_rdsN (f := Sr.cells) m2 hx hLl
    refine CW.skip (NQ.seq (CW.seq (CW.block (CW.regionD (Sq.of [0, 1, 2, 3, 4, 5, 6, 7, 8, 9, 10, 11]) [8, 9, 11] [9, 11] [0, 2, 3, 4, 5, 6, 7, 10] mixed (by kernel_rfl) ?_))))
    refine RL.fieldAddr fa_40_0 rfl rfl rfl rfl (RL.load Tryz.isAgg37 rfl rfl rfl rfl (Rd.cel (by repeat (first | exact List.Mem.head _ | apply List.Mem.tail)) rfl) ?_)
    refine RL.fieldAddr fa_32_0 rfl rfl rfl rfl (RL.loadTq Tryz.isAgg22 rfl rfl rfl rfl ?_)
    refine RL.p rfl (RL.idxAt (j := i) Tryz.runUnderlying22 Tryz.sizeOf98 rfl rfl rfl rfl rfl rfl (hlt) (RL.loadSTq Tryz.isAgg98 Tryz.sizeOf98 rfl rfl rfl rfl ?_))
    refine RL.callTq (lsource s hs) Tryz.call63 rfl rfl rfl rfl ?_
    refine RL.buildSlice s.cells Tryz.runUnderlying37 Tryz.sizeOf108 Tryz.zeroValue108 rfl rfl (by decide) (by decide) rfl rfl rfl rfl rfl (fill_one48 hsl rfl) ?_
    intro b4
    refine RL.appendA el_37 rfl rfl rfl rfl rfl rfl rfl (by first | exact ⟨(.take (Pick.none _)), rfl⟩ | exact ⟨(.leave (.take (Pick.none _))), rfl⟩ | exact ⟨(.leave (.leave (.take (Pick.none _)))), rfl⟩ | exact ⟨(.leave (.leave (.leave (.take (Pick.none _))))), rfl⟩ | exact ⟨(.leave (.leave (.leave (.leave (.take (Pick.none _)))))), rfl⟩ | exact ⟨(.leave (.leave (.leave (.leave (.leave (.take (Pick.none _))))))), rfl⟩ | exact ⟨(.leave (.leave (.leave (.leave (.leave (.leave (.take (Pick.none _)))))))), rfl⟩ | exact ⟨(.leave (.leave (.leave (.leave (.leave (.leave (.leave (.take (Pick.none _))))))))), rfl⟩ | exact ⟨(.leave (.leave (.leave (.leave (.leave (.leave (.leave (.leave (.take (Pick.none _)))))))))), rfl⟩ | exact ⟨(.leave (.leave (.leave (.leave (.leave (.leave (.leave (.leave (.leave (.take (Pick.none _))))))))))), rfl⟩) (Src.cel (cs := s.cells) (by repeat (first | exact List.Mem.head _ | apply List.Mem.tail)) hsl) (ones_spec (sr_ones s)) (by first | omega | (simp only [maxLen]; omega)) (by first | omega | (simp only [maxLen]; omega)) ?_
    intro ob1 cap1 ho1
    refine RL.fieldAddr fa_40_0 rfl rfl rfl rfl (RL.storeX (vs := [_]) cf_set Tryz.sizeOf37 rfl rfl rfl rfl rfl rfl rfl rfl (by repeat (first | exact Upd.here | apply Upd.there)) (by rw [hl45]; show 0 + 0 + 1 ≤ 45; decide) ?_)
    refine RL.nil (NQ.block (NQ.seq (CW.ok [1, 2, 3, 4] rfl (CW.rg (RL.p rfl (RL.bx rfl (wrapV_i64 (by omega) (by omega)) ?_))))))
    refine RL.p rfl (RL.nil ?_)
    refine NQ.round (g := (i, ob, cp)) (i + 1, ob1, cap1) hlt (by show c.L.length - (i + 1) < c.L.length - i; omega) (.cons rfl (.cons rfl (.cons rfl (.cons rfl .nil)))) (fun w h => h.rea (H' := [cel b3 (c.cells (slO ob1 (i + 1) cap1)) 40, own ob1 cap1 108 48 (i + 1) ((c.L.take (i + 1)).flatMap Sr.cells), cel b2 (zeroC.cells (.slice none 0 0)) 40]) (fun _ h => h) (by rw [htk, List.flatMap_append, List.flatMap_cons, List.flatMap_nil, List.append_nil]; exact (by repeat (first | exact Rea.nil | (apply Rea.cons; (solve | (repeat (first | exact Del.here | apply Del.there))))))))
  ·
    have hin : i = c.L.length := by simp at hlt; omega
    subst hin
    rw [List.take_length]
    refine CW.exit (XQ.seq (XQ.seq (XQ.hit (NQ.seq (CW.seq (CW.region (ef := [1]) (bk := [1]) (RL.loadW Tryz.isAgg40 Tryz.sizeOf40 rfl rfl rfl rfl (by repeat (first | exact List.Mem.head _ | apply List.Mem.tail)) (hl45 _) ?_)))))))
    refine RL.storeW Tryz.sizeOf40 rfl rfl rfl rfl rfl rfl rfl (cf_ones _ rfl) (by repeat (first | exact Upd.here | apply Upd.there)) (hl45 _) rfl ?_
    refine RL.nil (NQ.seq (CW.ret (RQ.rea (fun _ h => h) (H' := [own ob cp 108 48 c.L.length (c.L.flatMap Sr.cells), cel b2 (c.cells (slO ob c.L.length cp)) 40]) (by repeat (first | exact Rea.nil | (apply Rea.cons; (solve | (repeat (first | exact Del.here | apply Del.there)))))) ?_)))
    exact RQ.post (resW rfl rfl Tryz.isAgg40 Tryz.sizeOf40 (by repeat (first | exact List.Mem.head _ | apply List.Mem.tail)) (hl45 _)) (.keep (Split.none _)) ⟨ob, cp, rfl, rfl, rfl⟩
end Go.Proofs.YthndhipjfdgdfaaGreatDoor

namespace Go.Proofs.YthndhipjfdgdfaaGreatDoor
open Go.PK
/-! ### same, Kinds -/
theorem eq_vec (d : Nat) (a b c : Int) (w : World) : (Op.equalIn (d + 2) 25 (.agg #[.int .i64 a, .int .i64 b, .int .i64 c]) (.agg #[.int .i64 a, .int .i64 b, .int .i64 c])).run Tryz.prog w = .ok true w := by
  obtain ⟨ii, hi⟩ : ∃ ii, Tryz.prog.info? 23 = some ii := by
    cases hx : Tryz.prog.info? 23 with
    | some ii => exact ⟨ii, rfl⟩
    | none => exact absurd (congrArg Option.isSome hx) (by rw [show (Tryz.prog.info? 23).isSome = true from by kernel_rfl]; decide)
  rw [run_equalIn_array (P := Tryz.prog) w (d + 1) (n := 3) (e := 23) _ _ (by kernel_rfl) hi, show Tryz.prog.cellsOf 23 = 1 from by kernel_rfl]
  have p : ∀ (j : Nat) (n : Int), ([Value.int .i64 a, .int .i64 b, .int .i64 c] : List Value)[j]? = some (.int .i64 n) → (Go.part 23 #[.int .i64 a, .int .i64 b, .int .i64 c] j).run Tryz.prog w = .ok (.int .i64 n) w := fun j n h => part_s (cs := [Value.int .i64 a, .int .i64 b, .int .i64 c]) Tryz.isAgg23 h w
  have e := fun n => eq_i64 (P := Tryz.prog) Tryz.runUnderlying23 d n w
  simp [Op.eqItems, List.range_succ, p 0 a rfl, p 1 b rfl, p 2 c rfl, e]
theorem neqs_vec (a b c : Int) (x y : Operand) (w : World) : (do eqGuard .neq 25 x y (.agg #[.int .i64 a, .int .i64 b, .int .i64 c]) (.agg #[.int .i64 a, .int .i64 b, .int .i64 c]); binOp .neq 25 (.agg #[.int .i64 a, .int .i64 b, .int .i64 c]) (.agg #[.int .i64 a, .int .i64 b, .int .i64 c]) : Sem Value).run Tryz.prog w = .ok (.bool false) w := by
  simp [run_eqGuard_agg, run_neq_struct, eq_vec 9998 a b c w]
end Go.Proofs.YthndhipjfdgdfaaGreatDoor
