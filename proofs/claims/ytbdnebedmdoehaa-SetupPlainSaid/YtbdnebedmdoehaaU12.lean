import Derived.Test.YtbdnebedmdoehaaU11
import Derived.Test.YtbdnebedmdoehaaPE
namespace Go.Proofs.Ytbdnebedmdoehaa
open Go.PK
/-! ### The law's helpers: source, Plain, Few -/
abbrev zI : Value := .int .i64 0
def ZK : List Value := bytes (List.replicate 32 (0#8))
theorem fill_src {rt : List B8} {a b c d e f : Int} {x : Wt} (h : rt.length = 32) {places : Array (Nat × Nat)} (hp : places = #[(0, 1), (1, 1), (2, 32), (34, 1), (35, 1), (36, 1), (37, 1), (38, 10)]) :
    fillL (places[·]?) zeroS.cells [(0, .int .i64 a), (1, .int .i64 b), (2, .agg (bytes rt).toArray), (3, .int .i64 c), (4, .int .i64 d), (5, .int .i64 e), (6, .int .i64 f), (7, .agg x.cells.toArray)] = some (Sr.cells ⟨a, b, rt, c, d, e, f, x⟩) := by
  subst hp
  have hb : (bytes rt).length = 32 := by rw [List.length_map, h]
  refine fill_seg (vs := [.int .i64 a]) [] [zI] ([zI] ++ (ZK ++ zeroS.tl)) rfl rfl rfl rfl rfl rfl ?_
  refine fill_seg (vs := [.int .i64 b]) [.int .i64 a] [zI] (ZK ++ zeroS.tl) rfl rfl rfl rfl rfl rfl ?_
  refine fill_seg [.int .i64 a, .int .i64 b] ZK zeroS.tl rfl (agg_cells _) rfl rfl rfl hb ?_
  refine fill_seg (vs := [.int .i64 c]) (.int .i64 a :: .int .i64 b :: bytes rt) [zI] (zI :: zI :: zI :: zeroS.wt.cells) rfl rfl rfl (by simp [h]) rfl rfl ?_
  refine fill_seg (vs := [.int .i64 d]) (.int .i64 a :: .int .i64 b :: (bytes rt ++ [.int .i64 c])) [zI] (zI :: zI :: zeroS.wt.cells) rfl rfl (by simp) (by simp [h]) rfl rfl ?_
  refine fill_seg (vs := [.int .i64 e]) (.int .i64 a :: .int .i64 b :: (bytes rt ++ [.int .i64 c, .int .i64 d])) [zI] (zI :: zeroS.wt.cells) rfl rfl (by simp) (by simp [h]) rfl rfl ?_
  refine fill_seg (vs := [.int .i64 f]) (.int .i64 a :: .int .i64 b :: (bytes rt ++ [.int .i64 c, .int .i64 d, .int .i64 e])) [zI] zeroS.wt.cells rfl rfl (by simp) (by simp [h]) rfl rfl ?_
  refine fill_seg (.int .i64 a :: .int .i64 b :: (bytes rt ++ [.int .i64 c, .int .i64 d, .int .i64 e, .int .i64 f])) zeroS.wt.cells [] rfl (agg_cells _) (by simp) (by simp [h]) rfl rfl ?_
  simp [Sr.cells, Sr.tl, fillL]
def zeroC : Cf := ⟨0, 0, 0, 0, ⟨0, 0, 0, 0⟩, List.replicate 32 0, 0, 0, 0, 0, []⟩
theorem fill_cf {cm : List B8} {a b c d e f g i m t r q : Int} (h : cm.length = 32) {places : Array (Nat × Nat)} (hp : places = #[(0, 1), (1, 3), (4, 1), (5, 4), (9, 32), (41, 1), (42, 1), (43, 1), (44, 1)]) :
    fillL (places[·]?) (zeroC.cells (.slice none 0 0)) [(1, .agg #[.int .i64 a, .int .i64 b, .int .i64 c]), (2, .int .i64 d), (3, .agg #[.int .i64 e, .int .i64 f, .int .i64 g, .int .i64 i]), (4, .agg (bytes cm).toArray), (5, .int .i64 m), (6, .int .i64 t), (7, .int .i64 r), (8, .int .u64 q)] = some (Cf.cells ⟨a, b, c, d, ⟨e, f, g, i⟩, cm, m, t, r, q, []⟩ (.slice none 0 0)) := by
  subst hp
  have hb : (bytes cm).length = 32 := by rw [List.length_map, h]
  refine fill_seg (vs := [.int .i64 a, .int .i64 b, .int .i64 c]) [.slice none 0 0] [zI, zI, zI] ([zI] ++ ([zI, zI, zI, zI] ++ (ZK ++ zeroC.tl))) rfl rfl rfl rfl rfl rfl ?_
  refine fill_seg (vs := [.int .i64 d]) [.slice none 0 0, .int .i64 a, .int .i64 b, .int .i64 c] [zI] ([zI, zI, zI, zI] ++ (ZK ++ zeroC.tl)) rfl rfl rfl rfl rfl rfl ?_
  refine fill_seg (vs := [.int .i64 e, .int .i64 f, .int .i64 g, .int .i64 i]) [.slice none 0 0, .int .i64 a, .int .i64 b, .int .i64 c, .int .i64 d] [zI, zI, zI, zI] (ZK ++ zeroC.tl) rfl rfl rfl rfl rfl rfl ?_
  refine fill_seg [.slice none 0 0, .int .i64 a, .int .i64 b, .int .i64 c, .int .i64 d, .int .i64 e, .int .i64 f, .int .i64 g, .int .i64 i] ZK zeroC.tl rfl (agg_cells _) rfl rfl rfl hb ?_
  refine fill_seg (vs := [.int .i64 m]) (.slice none 0 0 :: .int .i64 a :: .int .i64 b :: .int .i64 c :: .int .i64 d :: .int .i64 e :: .int .i64 f :: .int .i64 g :: .int .i64 i :: bytes cm) [zI] [zI, zI, .int .u64 0] rfl rfl rfl (by simp [h]) rfl rfl ?_
  refine fill_seg (vs := [.int .i64 t]) (.slice none 0 0 :: .int .i64 a :: .int .i64 b :: .int .i64 c :: .int .i64 d :: .int .i64 e :: .int .i64 f :: .int .i64 g :: .int .i64 i :: (bytes cm ++ [.int .i64 m])) [zI] [zI, .int .u64 0] rfl rfl (by simp) (by simp [h]) rfl rfl ?_
  refine fill_seg (vs := [.int .i64 r]) (.slice none 0 0 :: .int .i64 a :: .int .i64 b :: .int .i64 c :: .int .i64 d :: .int .i64 e :: .int .i64 f :: .int .i64 g :: .int .i64 i :: (bytes cm ++ [.int .i64 m, .int .i64 t])) [zI] [.int .u64 0] rfl rfl (by simp) (by simp [h]) rfl rfl ?_
  refine fill_seg (vs := [.int .u64 q]) (.slice none 0 0 :: .int .i64 a :: .int .i64 b :: .int .i64 c :: .int .i64 d :: .int .i64 e :: .int .i64 f :: .int .i64 g :: .int .i64 i :: (bytes cm ++ [.int .i64 m, .int .i64 t, .int .i64 r])) [.int .u64 0] [] rfl rfl (by simp) (by simp [h]) rfl rfl ?_
  simp [Cf.cells, Cf.tl, fillL]
theorem cf_ones (c : Cf) {sl : Value} (hs : sl.oneCell' = true) : ones (c.cells sl) = true := by
  have h : ones (bytes c.cm ++ c.tl) = true := ones_app (ones_map one8 _) rfl
  show (sl.oneCell' && _) = true
  rw [hs]; exact h
theorem cf_set {c : Cf} {sl sl' : Value} : spl (c.cells sl) (0 + 0) [sl'] = c.cells sl' := by
  have e : ∀ s, c.cells s = [] ++ ([s] ++ (c.cells sl).tail) := fun s => rfl
  rw [e sl, e sl']; exact seg_spl rfl rfl
theorem lsource (s : Sr) (h : s.rt.length = 32) : Spc Try.prog 21 #[.agg s.cells.toArray] [] [] (Is (.agg s.cells.toArray)) := by
  have hsl := sr_len h
  have hb : (bytes s.rt).length = 32 := by rw [List.length_map, h]
  refine Spc.enter Try.func21 rfl rfl rfl (fun w0 hw0 => ?_)
  refine CW.seq (CW.region (ef := [0, 1]) (bk := []) (RL.box rfl rfl rfl rfl rfl rfl ?_))
  intro b1
  refine RL.alloc Try.zeroValue46 rfl rfl rfl rfl rfl ?_
  intro b2
  refine RL.nil (NQ.seq (CW.seq (CW.freezeP (A := [cel b1 s.cells 57]) (B := [cel b2 zeroS.cells 46]) (by repeat (first | exact Pick.nil | apply Pick.take | apply Pick.leave)) rfl ?_)))
  refine CW.genI (fun J hJ => ?_)
  have mA : cel b1 s.cells 57 ∈ J := hJ _ (List.Mem.head _)
  clear hJ
  have sW : RdsN J ⟨b1, 0 + 38, none⟩ 10 s.wt.cells := RdsN.told mA (fun j u hj => by rw [sr_w h]; exact hj) rfl
  have s0 : RdI J ⟨b1, 0 + 0, none⟩ (.int .i64 s.id) := ⟨fun _ => Rd.celI mA rfl⟩
  have s1 : RdI J ⟨b1, 0 + 1, none⟩ (.int .i64 s.kd) := ⟨fun _ => Rd.celI mA rfl⟩
  have sK : RdsN J ⟨b1, 0 + 2, none⟩ 32 (bytes s.rt) := RdsN.told mA (fun j u hj => by
    show s.cells[0 + 2 + j]? = some u
    rw [show 0 + 2 + j = j + 1 + 1 by omega, Sr.cells]
    simp only [List.getElem?_cons_succ]
    rw [List.getElem?_append_left (List.getElem?_eq_some_iff.1 hj).1]; exact hj) hb
  have s3 : RdI J ⟨b1, 0 + 34, none⟩ (.int .i64 s.w) := ⟨fun _ => Rd.getI mA (sr_t h 0)⟩
  have s4 : RdI J ⟨b1, 0 + 35, none⟩ (.int .i64 s.g) := ⟨fun _ => Rd.getI mA (sr_t h 1)⟩
  have s5 : RdI J ⟨b1, 0 + 36, none⟩ (.int .i64 s.st) := ⟨fun _ => Rd.getI mA (sr_t h 2)⟩
  have s6 : RdI J ⟨b1, 0 + 37, none⟩ (.int .i64 s.hz) := ⟨fun _ => Rd.getI mA (sr_t h 3)⟩
  refine CW.region (ef := [2, 3]) (bk := [3]) (RL.fieldAddr fa_57_7 rfl rfl rfl rfl (RL.loadSq Try.isAgg55 Try.sizeOf55 rfl rfl rfl rfl ?_))
  refine RL.alloc Try.zeroValue55 rfl rfl rfl rfl rfl ?_
  intro b3
  refine RL.store (vs := [_, _, _, _, _, _, _, _, _, _]) Try.sizeOf55 rfl rfl rfl rfl rfl rfl rfl rfl rfl (by repeat (first | exact Upd.here | apply Upd.there)) ?_
  refine RL.nil (NQ.seq (CW.seq (CW.freezeP (A := [cel b3 s.wt.cells 55]) (B := [cel b2 zeroS.cells 46]) (by repeat (first | exact Pick.nil | apply Pick.take | apply Pick.leave)) rfl ?_)))
  refine CW.genI (fun J2 hJ => ?_)
  have hJ2 : ∀ x ∈ J, x ∈ J2 := fun x hx => hJ x (by simp [hx])
  have mB := hJ2 _ mA
  have mW : cel b3 s.wt.cells 55 ∈ J2 := hJ _ (List.Mem.head _)
  clear hJ sW s0 s1 sK s3 s4 s5 s6
  have s0 : RdI J2 ⟨b1, 0 + 0, none⟩ (.int .i64 s.id) := ⟨fun _ => Rd.celI mB rfl⟩
  have s1 : RdI J2 ⟨b1, 0 + 1, none⟩ (.int .i64 s.kd) := ⟨fun _ => Rd.celI mB rfl⟩
  have sK : RdsN J2 ⟨b1, 0 + 2, none⟩ 32 (bytes s.rt) := RdsN.told mB (fun j u hj => by
    show s.cells[0 + 2 + j]? = some u
    rw [show 0 + 2 + j = j + 1 + 1 by omega, Sr.cells]
    simp only [List.getElem?_cons_succ]
    rw [List.getElem?_append_left (List.getElem?_eq_some_iff.1 hj).1]; exact hj) hb
  have s3 : RdI J2 ⟨b1, 0 + 34, none⟩ (.int .i64 s.w) := ⟨fun _ => Rd.getI mB (sr_t h 0)⟩
  have s4 : RdI J2 ⟨b1, 0 + 35, none⟩ (.int .i64 s.g) := ⟨fun _ => Rd.getI mB (sr_t h 1)⟩
  have s5 : RdI J2 ⟨b1, 0 + 36, none⟩ (.int .i64 s.st) := ⟨fun _ => Rd.getI mB (sr_t h 2)⟩
  have s6 : RdI J2 ⟨b1, 0 + 37, none⟩ (.int .i64 s.hz) := ⟨fun _ => Rd.getI mB (sr_t h 3)⟩
  have w0' : RdI J2 ⟨b3, 0 + 0 + 0, none⟩ (.int .i64 s.wt.go) := ⟨fun _ => Rd.celI mW rfl⟩
  have w1 : RdI J2 ⟨b3, 0 + 0 + 1, none⟩ (.int .i64 s.wt.gg) := ⟨fun _ => Rd.celI mW rfl⟩
  have w2 : RdI J2 ⟨b3, 0 + 0 + 2, none⟩ (.int .i64 s.wt.gm) := ⟨fun _ => Rd.celI mW rfl⟩
  have w3 : RdI J2 ⟨b3, 0 + 3, none⟩ (.int .i64 s.wt.sl) := ⟨fun _ => Rd.celI mW rfl⟩
  have w4 : RdI J2 ⟨b3, 0 + 4, none⟩ (.int .i64 s.wt.mo) := ⟨fun _ => Rd.celI mW rfl⟩
  have w5 : RdI J2 ⟨b3, 0 + 5, none⟩ (.int .i64 s.wt.sa) := ⟨fun _ => Rd.celI mW rfl⟩
  have w6 : RdI J2 ⟨b3, 0 + 6, none⟩ (.int .i64 s.wt.ra) := ⟨fun _ => Rd.celI mW rfl⟩
  have w7 : RdI J2 ⟨b3, 0 + 7, none⟩ (.int .i64 s.wt.ba) := ⟨fun _ => Rd.celI mW rfl⟩
  have w8 : RdI J2 ⟨b3, 0 + 8, none⟩ (.int .i64 s.wt.ho) := ⟨fun _ => Rd.celI mW rfl⟩
  have w9 : RdI J2 ⟨b3, 0 + 9, none⟩ (.int .i64 s.wt.pr) := ⟨fun _ => Rd.celI mW rfl⟩
  refine CW.region (ef := [40]) (bk := [40]) (RL.fieldAddr fa_57_0 rfl rfl rfl rfl (RL.loadq Try.isAgg3 rfl rfl rfl rfl ?_))
  refine RL.fieldAddr fa_57_1 rfl rfl rfl rfl (RL.loadq Try.isAgg3 rfl rfl rfl rfl ?_)
  refine RL.fieldAddr fa_57_2 rfl rfl rfl rfl (RL.loadSq Try.isAgg30 Try.sizeOf30 rfl rfl rfl rfl ?_)
  refine RL.fieldAddr fa_57_3 rfl rfl rfl rfl (RL.loadq Try.isAgg3 rfl rfl rfl rfl ?_)
  refine RL.fieldAddr fa_57_4 rfl rfl rfl rfl (RL.loadq Try.isAgg3 rfl rfl rfl rfl ?_)
  refine RL.fieldAddr fa_57_5 rfl rfl rfl rfl (RL.loadq Try.isAgg24 rfl rfl rfl rfl ?_)
  refine RL.fieldAddr fa_57_6 rfl rfl rfl rfl (RL.loadq Try.isAgg3 rfl rfl rfl rfl ?_)
  refine RL.fieldAddr fa_55_0 rfl rfl rfl rfl (RL.fieldAddr fa_53_0 rfl rfl rfl rfl (RL.loadq Try.isAgg24 rfl rfl rfl rfl ?_))
  refine RL.fieldAddr fa_55_0 rfl rfl rfl rfl (RL.fieldAddr fa_53_1 rfl rfl rfl rfl (RL.loadq Try.isAgg24 rfl rfl rfl rfl ?_))
  refine RL.fieldAddr fa_55_0 rfl rfl rfl rfl (RL.fieldAddr fa_53_2 rfl rfl rfl rfl (RL.loadq Try.isAgg24 rfl rfl rfl rfl ?_))
  refine RL.buildS [_, _, _] Try.zeroValue42 pl_42 rfl rfl rfl rfl rfl (RL.fieldAddr fa_55_1 rfl rfl rfl rfl (RL.loadq Try.isAgg24 rfl rfl rfl rfl ?_))
  refine RL.fieldAddr fa_55_2 rfl rfl rfl rfl (RL.loadq Try.isAgg24 rfl rfl rfl rfl ?_)
  refine RL.fieldAddr fa_55_3 rfl rfl rfl rfl (RL.loadq Try.isAgg3 rfl rfl rfl rfl ?_)
  refine RL.fieldAddr fa_55_4 rfl rfl rfl rfl (RL.loadq Try.isAgg24 rfl rfl rfl rfl ?_)
  refine RL.fieldAddr fa_55_5 rfl rfl rfl rfl (RL.loadq Try.isAgg3 rfl rfl rfl rfl ?_)
  refine RL.fieldAddr fa_55_6 rfl rfl rfl rfl (RL.loadq Try.isAgg3 rfl rfl rfl rfl ?_)
  refine RL.fieldAddr fa_55_7 rfl rfl rfl rfl (RL.loadq Try.isAgg3 rfl rfl rfl rfl ?_)
  refine RL.buildS [_, _, _, _, _, _, _, _, _, _] Try.zeroValue44 pl_44 rfl rfl rfl rfl rfl (RL.buildS s.cells Try.zeroValue46 pl_46 rfl rfl rfl rfl (fill_src (x := s.wt) h rfl) (RL.storeW Try.sizeOf46 rfl rfl rfl rfl rfl rfl rfl (sr_ones s) (by repeat (first | exact Upd.here | apply Upd.there)) hsl rfl ?_))
  refine RL.nil (NQ.seq (CW.ok [2] rfl (CW.ret ?_)))
  exact RQ.post (resW rfl rfl Try.isAgg46 Try.sizeOf46 (by repeat (first | exact List.Mem.head _ | apply List.Mem.tail)) hsl) (Split.none _) ⟨rfl, rfl, rfl⟩
end Go.Proofs.Ytbdnebedmdoehaa
