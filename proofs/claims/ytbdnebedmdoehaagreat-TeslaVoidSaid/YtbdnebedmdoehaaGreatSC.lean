import Derived.Test.YtbdnebedmdoehaaGreatSB
import Derived.Test.YtbdnebedmdoehaaGreatCA
namespace Go.Proofs.YtbdnebedmdoehaaGreat
open Go.PK
/-! ### A new receiver -/
abbrev RBk.z0 (k : List B8) : RSt := ⟨0, k, 0, 0, [], []⟩
def rcZ : List Value := [.int .i64 0, .int .i64 0, .int .i64 0, .int .i64 0, .int .u32 0] ++ (bytes (List.replicate 32 0#8) ++ [.pointer none, .int .i64 0, .int .i64 0, .map none])
theorem fill_rc (B : RBk) {k : List B8} (hk : k.length = 32) {places : Array (Nat × Nat)} (hp : places = #[(0, 4), (4, 1), (5, 32), (37, 1), (38, 1), (39, 1), (40, 1)]) :
    fillL (places[·]?) rcZ [(0, .agg #[.int .i64 B.s.st, .int .i64 B.s.ln, .int .i64 B.s.lg, .int .i64 B.s.of]), (2, .agg (bytes k).toArray), (3, .pointer (some ⟨B.q, 0, none⟩)), (6, .map (some B.mt))] = some (rcC B (RBk.z0 k)) := by
  subst hp
  have h0 : (bytes (List.replicate 32 0#8)).length = 32 := rfl
  have hb : (bytes k).length = 32 := by rw [List.length_map, hk]
  refine fill_seg (vs := B.s.cells) [] [.int .i64 0, .int .i64 0, .int .i64 0, .int .i64 0] ([.int .u32 0] ++ (bytes (List.replicate 32 0#8) ++ [.pointer none, .int .i64 0, .int .i64 0, .map none])) rfl rfl rfl rfl rfl rfl ?_
  refine fill_seg (vs := bytes k) (B.s.cells ++ [.int .u32 0]) (bytes (List.replicate 32 0#8)) [.pointer none, .int .i64 0, .int .i64 0, .map none] rfl (agg_cells _) rfl rfl h0 hb ?_
  refine fill_seg (vs := [.pointer (some ⟨B.q, 0, none⟩)]) (B.s.cells ++ [.int .u32 0] ++ bytes k) [.pointer none] [.int .i64 0, .int .i64 0, .map none] rfl rfl (by simp) (by simp [Sch.cells, hk]) rfl rfl ?_
  refine fill_seg (vs := [.map (some B.mt)]) (B.s.cells ++ [.int .u32 0] ++ bytes k ++ [.pointer (some ⟨B.q, 0, none⟩), .int .i64 0, .int .i64 0]) [.map none] [] rfl rfl (by simp) (by simp [Sch.cells, hk]) rfl rfl ?_
  simp [fillL, rcC, Sch.cells]
def NewR (s : Sch) (k : List B8) : Value → List It → List It → Prop := fun v I' H' => I' = [] ∧ ((s.Ok ∧ ∃ B : RBk, B.s = s ∧ v = .tuple #[.pointer (some ⟨B.b, 0, none⟩), .int .i64 0] ∧ H' = RTI B (RBk.z0 k)) ∨ (¬ s.Ok ∧ v = .tuple #[.pointer none, .int .i64 2] ∧ H' = []))
theorem tnew_any (s : Sch) (k : List B8) (hk : k.length = 32) : Spc Tryz.prog 14 #[.agg #[.int .i64 s.st, .int .i64 s.ln, .int .i64 s.lg, .int .i64 s.of], .agg (bytes k).toArray] [] [] (NewR s k) := by
  have hk32 : (bytes k).length = 32 := by rw [List.length_map, hk]
  refine Spc.enter Tryz.func14 rfl rfl rfl (fun w0 hw0 => ?_)
  refine CW.seq ?_
  refine CW.region (ef := [0, 1]) (bk := []) ?_
  refine RL.box rfl rfl rfl rfl rfl rfl ?_
  intro b1
  refine RL.box rfl rfl rfl rfl rfl rfl ?_
  intro b2
  refine RL.assign rfl rfl rfl rfl ?_
  refine RL.assign rfl rfl rfl rfl ?_
  refine RL.nil ?_
  refine NQ.seq ?_
  refine CW.seq ?_
  refine CW.seq ?_
  refine CW.region (ef := []) (bk := []) ?_
  first | refine RL.loadM Tryz.isAgg37 Tryz.sizeOf37 rfl rfl rfl rfl (by assumption) ?_ | refine RL.loadA Tryz.isAgg37 Tryz.sizeOf37 rfl rfl rfl rfl (by first | assumption | (apply RdsI.rds; assumption)) (by first | rfl | assumption | (simp only [List.length_map]; assumption) | (simp only [List.length_map, List.length_replicate, hk32, hk]; done) | (simp; done)) ?_ | refine RL.loadW Tryz.isAgg37 Tryz.sizeOf37 rfl rfl rfl rfl (by (solve | (repeat (first | exact List.Mem.head _ | apply List.Mem.tail)))) (by first | rfl | assumption | (simp only [List.length_map]; assumption) | (simp only [List.length_map, List.length_replicate, hk32, hk]; done) | (simp; done)) ?_
  refine RL.callvq (scheck s) Tryz.call40 rfl rfl rfl rfl ?_
  refine RL.assign rfl rfl rfl rfl ?_
  refine RL.nil ?_
  refine NQ.seq ?_
  refine CW.seq ?_
  refine CW.region (ef := []) (bk := []) ?_
  refine RL.move rfl rfl rfl rfl ?_
  refine RL.bin rfl rfl rfl rfl rfl rfl ?_
  refine RL.nil ?_
  refine NQ.seq ?_
  refine CW.cond rfl (fun h => ?_) (fun h => ?_)
  ·
    refine CW.seq ?_
    refine CW.region (ef := []) (bk := []) ?_
    refine RL.move rfl rfl rfl rfl ?_
    refine RL.assign rfl rfl rfl rfl ?_
    refine RL.assign rfl rfl rfl rfl ?_
    refine RL.nil ?_
    refine NQ.seq ?_
    refine CW.only (.cons (k := 2) rfl (.cons (k := 3) rfl (.cons (k := 4) rfl (.cons (k := 5) rfl .nil)))) ?_
    refine CW.ret ?_
    refine RQ.seq ?_
    have hno : ¬ s.Ok := fun e => by simp [Sch.e, e] at h
    refine RQ.post (res2 rfl rfl rfl) (Split.none _) ⟨rfl, .inr ⟨hno, by rw [Sch.e, if_neg hno], rfl⟩⟩
  ·
    have hok : s.Ok := Classical.byContradiction fun e => by simp [Sch.e, e] at h
    refine CW.freezeP (A := [_, _]) (B := []) (.take (.take .nil)) rfl ?_
    refine CW.genI (fun J hJ => ?_)
    have mK : cel b2 (bytes k) 23 ∈ J := hJ _ (by simp)
    have mS : cel b1 [.int .i64 s.st, .int .i64 s.ln, .int .i64 s.lg, .int .i64 s.of] 37 ∈ J := hJ _ (by simp)
    have rK : RdsN J ⟨b2, 0, none⟩ 32 (bytes k) := ⟨fun _ => Rds.allI mK, hk32⟩
    have rS : RdsN J ⟨b1, 0, none⟩ 4 [.int .i64 s.st, .int .i64 s.ln, .int .i64 s.lg, .int .i64 s.of] := ⟨fun _ => Rds.allI mS, rfl⟩
    clear hJ
    refine CW.skip ?_
    refine NQ.seq ?_
    refine CW.only (.cons (k := 2) rfl (.cons (k := 3) rfl .nil)) ?_
    refine CW.seq ?_
    refine CW.regionD (.cons 0 (.cons 1 (.fork [2, 3] (fun k => (bif Nat.beq k 2 then (Sq.of [3, 4, 5, 6, 7]) else (Sq.of [2, 4, 5, 6, 7])))))) [2, 3, 5] [2] [0, 1, 4, 6, 7] mixed (by kernel_rfl) ?_
    first | refine RL.loadMT Tryz.isAgg37 Tryz.sizeOf37 rfl rfl rfl rfl (by assumption) ?_ | refine RL.loadAT Tryz.isAgg37 Tryz.sizeOf37 rfl rfl rfl rfl (by first | assumption | (apply RdsI.rds; assumption)) (by first | rfl | assumption | (simp only [List.length_map]; assumption) | (simp only [List.length_map, List.length_replicate, hk32, hk]; done) | (simp; done)) ?_
    first | refine RL.loadMT Tryz.isAgg23 Tryz.sizeOf23 rfl rfl rfl rfl (by assumption) ?_ | refine RL.loadAT Tryz.isAgg23 Tryz.sizeOf23 rfl rfl rfl rfl (by first | assumption | (apply RdsI.rds; assumption)) (by first | rfl | assumption | (simp only [List.length_map]; assumption) | (simp only [List.length_map, List.length_replicate, hk32, hk]; done) | (simp; done)) ?_
    refine RL.fork ⟨?_, ?_, trivial⟩
    ·
      refine RL.call (qnew_any) Tryz.call41 rfl rfl rfl rfl rfl (by repeat (first | exact Pick.nil | apply Pick.take | apply Pick.leave)) .nil (.inr rfl) ?_
      rintro _ _ _ ⟨qb, qr, rfl, rfl, rfl⟩
      refine RL.makeMap (good := goodE) rfl rfl rfl rfl (fun mt => ?_)
      refine RL.buildS (rcC ⟨0, qb, qr, mt, s⟩ (RBk.z0 k)) Tryz.zeroValue81 pl_81 rfl rfl rfl rfl (fill_rc ⟨0, qb, qr, mt, s⟩ hk rfl) ?_
      refine RL.box rfl rfl rfl rfl rfl rfl ?_
      intro b3
      refine RL.assign rfl rfl rfl rfl ?_
      refine RL.assign rfl rfl rfl rfl ?_
      refine RL.nil ?_
      refine NQ.seq ?_
      refine CW.only (.cons (k := 4) rfl (.cons (k := 5) rfl .nil)) ?_
      refine CW.ret ?_
      exact RQ.rea (fun _ h => h) (H' := RTI ⟨b3, qb, qr, mt, s⟩ (RBk.z0 k)) (by repeat (first | exact Rea.nil | (apply Rea.cons; (solve | (repeat (first | exact Del.here | apply Del.there)))))) (RQ.post (res2 rfl rfl rfl) (.keep (.keep (.keep (.keep .nil)))) ⟨rfl, .inl ⟨hok, ⟨b3, qb, qr, mt, s⟩, rfl, rfl, rfl⟩⟩)
    ·
      refine RL.makeMap (good := goodE) rfl rfl rfl rfl (fun mt => ?_)
      refine RL.call (qnew_any) Tryz.call41 rfl rfl rfl rfl rfl (by repeat (first | exact Pick.nil | apply Pick.take | apply Pick.leave)) .nil (.inr rfl) ?_
      rintro _ _ _ ⟨qb, qr, rfl, rfl, rfl⟩
      refine RL.buildS (rcC ⟨0, qb, qr, mt, s⟩ (RBk.z0 k)) Tryz.zeroValue81 pl_81 rfl rfl rfl rfl (fill_rc ⟨0, qb, qr, mt, s⟩ hk rfl) ?_
      refine RL.box rfl rfl rfl rfl rfl rfl ?_
      intro b3
      refine RL.assign rfl rfl rfl rfl ?_
      refine RL.assign rfl rfl rfl rfl ?_
      refine RL.nil ?_
      refine NQ.seq ?_
      refine CW.only (.cons (k := 4) rfl (.cons (k := 5) rfl .nil)) ?_
      refine CW.ret ?_
      exact RQ.rea (fun _ h => h) (H' := RTI ⟨b3, qb, qr, mt, s⟩ (RBk.z0 k)) (by repeat (first | exact Rea.nil | (apply Rea.cons; (solve | (repeat (first | exact Del.here | apply Del.there)))))) (RQ.post (res2 rfl rfl rfl) (.keep (.keep (.keep (.keep .nil)))) ⟨rfl, .inl ⟨hok, ⟨b3, qb, qr, mt, s⟩, rfl, rfl, rfl⟩⟩)
theorem tknown_any (B : RBk) (z : RSt) (hk : z.k.length = 32) : Spc Tryz.prog 20 #[.pointer (some ⟨B.b, 0, none⟩)] [recI B z] [] (Is (.tuple #[.int .u32 (z.iv : Int), .agg (bytes z.k).toArray])) := by
  have hk32 : (bytes z.k).length = 32 := by rw [List.length_map, hk]
  refine Spc.enter Tryz.func20 rfl rfl rfl (fun w0 hw0 => ?_)
  refine CW.seq ?_
  refine CW.region (ef := [1]) (bk := []) ?_
  refine RL.assign rfl rfl rfl rfl ?_
  refine RL.alloc (cs := List.replicate 32 (U8 0#8)) Tryz.zeroValue23 rfl rfl rfl rfl rfl ?_
  intro b1
  refine RL.nil ?_
  refine NQ.seq ?_
  refine CW.seq ?_
  refine CW.seq ?_
  refine CW.region (ef := []) (bk := []) ?_
  refine RL.move rfl rfl rfl rfl ?_
  refine RL.callv (tis_yes B z hk) Tryz.call42 rfl rfl rfl rfl (Lend.inI (by repeat (first | exact List.Mem.head _ | apply List.Mem.tail)) .nil) ?_
  refine RL.not rfl rfl rfl rfl ?_
  refine RL.nil ?_
  refine NQ.seq ?_
  refine CW.condF rfl (rfl) ?_
  refine CW.skip ?_
  refine NQ.seq ?_
  refine CW.seq ?_
  refine CW.regionD (Sq.of [0, 1, 2, 3, 4, 5, 6, 7, 8, 9]) [9] [9] [0, 1, 2, 4, 5, 6, 8] mixed (by kernel_rfl) ?_
  refine RL.move rfl rfl rfl rfl ?_
  refine RL.nilCheck rfl rfl rfl rfl ?_
  refine RL.fieldAddr fa_81_1 rfl rfl rfl rfl ?_
  refine RL.load Tryz.isAgg24 rfl rfl rfl rfl (Rd.getI (by repeat (first | exact List.Mem.head _ | apply List.Mem.tail)) (rc_iv B z)) ?_
  refine RL.move rfl rfl rfl rfl ?_
  refine RL.nilCheck rfl rfl rfl rfl ?_
  refine RL.fieldAddr fa_81_2 rfl rfl rfl rfl ?_
  refine RL.loadA Tryz.isAgg23 Tryz.sizeOf23 rfl rfl rfl rfl (vs := bytes z.k) (Rds.celI (by repeat (first | exact List.Mem.head _ | apply List.Mem.tail)) (rc_k B z)) hk32 ?_
  refine RL.assign rfl rfl rfl rfl ?_
  refine RL.storeW Tryz.sizeOf23 rfl rfl rfl rfl rfl rfl rfl (by first | rfl | exact ones_map one8 _ | exact ones_map (fun _ => rfl) _) (by repeat (first | exact Upd.here | apply Upd.there)) (by first | rfl | assumption | (simp only [List.length_map]; assumption) | (simp only [List.length_map, List.length_replicate, hk32, hk]; done) | (simp; done)) (by first | rfl | assumption | (simp only [List.length_map]; assumption) | (simp only [List.length_map, List.length_replicate, hk32, hk]; done) | (simp; done)) ?_
  refine RL.nil ?_
  refine NQ.seq ?_
  refine CW.only (.cons (k := 2) rfl (.cons (k := 3) rfl .nil)) ?_
  refine CW.ret ?_
  exact RQ.post (resTW rfl rfl rfl Tryz.isAgg23 Tryz.sizeOf23 (by repeat (first | exact List.Mem.head _ | apply List.Mem.tail)) hk32) (Split.none _) ⟨rfl, rfl, rfl⟩
theorem treleased_any (B : RBk) (z : RSt) (hk : z.k.length = 32) : Spc Tryz.prog 30 #[.pointer (some ⟨B.b, 0, none⟩)] [recI B z] [] (Is (.int .i64 (z.rel : Int))) := by
  refine Spc.enter Tryz.func30 rfl rfl rfl (fun w0 hw0 => ?_)
  refine CW.seq ?_
  refine CW.region (ef := []) (bk := []) ?_
  refine RL.assign rfl rfl rfl rfl ?_
  refine RL.nil ?_
  refine NQ.seq ?_
  refine CW.seq ?_
  refine CW.seq ?_
  refine CW.region (ef := []) (bk := []) ?_
  refine RL.move rfl rfl rfl rfl ?_
  refine RL.callv (tis_yes B z hk) Tryz.call42 rfl rfl rfl rfl (Lend.inI (by repeat (first | exact List.Mem.head _ | apply List.Mem.tail)) .nil) ?_
  refine RL.not rfl rfl rfl rfl ?_
  refine RL.nil ?_
  refine NQ.seq ?_
  refine CW.condF rfl (rfl) ?_
  refine CW.skip ?_
  refine NQ.seq ?_
  refine CW.seq ?_
  refine CW.region (ef := []) (bk := []) ?_
  refine RL.move rfl rfl rfl rfl ?_
  refine RL.nilCheck rfl rfl rfl rfl ?_
  refine RL.fieldAddr fa_81_5 rfl rfl rfl rfl ?_
  refine RL.load Tryz.isAgg3 rfl rfl rfl rfl (Rd.getI (by repeat (first | exact List.Mem.head _ | apply List.Mem.tail)) (rc_rel B hk)) ?_
  refine RL.assign rfl rfl rfl rfl ?_
  refine RL.nil ?_
  refine NQ.seq ?_
  refine CW.only (.cons (k := 2) rfl .nil) ?_
  refine CW.ret ?_
  exact RQ.post (res1 rfl rfl) (Split.none _) ⟨rfl, rfl, rfl⟩
end Go.Proofs.YtbdnebedmdoehaaGreat

namespace Go.Proofs.YtbdnebedmdoehaaGreat
open Go.PK
def base21 (sd : B8) : List B8 := sd :: List.replicate 31 0#8
def key21 (sd : B8) (n : Nat) : List (List B8) := (List.range n).map (fun j => nextN (base21 sd) (12 - j))
theorem base21_len (sd : B8) : (base21 sd).length = 32 := rfl
theorem key21_succ (sd : B8) (n : Nat) : key21 sd (n + 1) = key21 sd n ++ [nextN (base21 sd) (12 - n)] := by simp [key21, List.range_succ]
theorem key21_get (sd : B8) {n i : Nat} (h : i < n) : (key21 sd n)[i]? = some (nextN (base21 sd) (12 - i)) := by simp [key21, h]
theorem key21_all (sd : B8) (n : Nat) : ∀ x ∈ key21 sd n, x.length = 32 := by
  intro x hx
  obtain ⟨i, _, rfl⟩ := List.mem_map.1 hx
  exact nextN_len (base21_len sd) _
def KeysR (sd : B8) : Value → List It → List It → Prop := fun v I' H' => ∃ b cap, v = slO (some b) 13 cap ∧ I' = [] ∧ H' = [own (some b) cap 23 32 13 ((key21 sd 13).flatMap bytes)]
theorem tkeys_any (sd : B8) : Spc Tryz.prog 13 #[U8 sd] [] [] (KeysR sd) := by
  have hbl := base21_len sd
  refine Spc.enter Tryz.func13 rfl rfl rfl (fun w0 hw0 => ?_)
  refine CW.seq ?_
  refine CW.region (ef := []) (bk := []) ?_
  refine RL.assign rfl rfl rfl rfl ?_
  refine RL.nil ?_
  refine NQ.seq ?_
  refine CW.seq ?_
  refine CW.region (ef := [2]) (bk := [2]) ?_
  refine RL.move rfl rfl rfl rfl ?_
  refine RL.buildA (bytes (base21 sd)) Tryz.zeroValue23 Tryz.runUnderlying23 Tryz.sizeOf5 rfl rfl rfl rfl rfl ?_
  refine RL.call (rall_ok (base21 sd) hbl 12 (by decide)) Tryz.call39 rfl rfl rfl rfl rfl (by repeat (first | exact Pick.nil | apply Pick.take | apply Pick.leave)) .nil (.inr rfl) ?_
  rintro _ _ _ ⟨kb, kc, rfl, rfl, rfl⟩
  refine RL.move rfl rfl rfl rfl ?_
  refine RL.extract rfl rfl rfl rfl rfl ?_
  refine RL.extract rfl rfl rfl rfl rfl ?_
  refine RL.assign rfl rfl rfl rfl ?_
  refine RL.assign rfl rfl rfl rfl ?_
  refine RL.nil ?_
  refine NQ.seq ?_
  refine CW.only (.cons (k := 3) rfl .nil) ?_
  refine CW.seq ?_
  refine CW.region (ef := [0]) (bk := []) ?_
  refine RL.buildOwn [] Tryz.runUnderlying39 Tryz.sizeOf23 Tryz.zeroValue23 rfl rfl (by decide) (by decide) rfl (by decide) rfl rfl rfl rfl rfl rfl ?_
  intro ob
  refine RL.assign rfl rfl rfl rfl ?_
  refine RL.nil ?_
  refine NQ.seq ?_
  refine CW.seq ?_
  refine CW.seq ?_
  refine CW.region (ef := []) (bk := []) ?_
  refine RL.assign rfl rfl rfl rfl ?_
  refine RL.nil ?_
  refine NQ.seq ?_
  refine CW.block ?_
  have hKd : ∀ n, n < 13 → (chainL (base21 sd) 13)[12 - n]? = some (nextN (base21 sd) (12 - n)) := fun n hn => chainL_get _ (by omega)
  have hK32 := flatK_len (chainL_all hbl 13)
  refine CW.loop (γ := Nat × Option Nat × Nat) (fun g => g.1 ≤ 13 ∧ (g.2.1 = none → g.1 = 0)) (fun g => [(3, slO (some kb) 13 kc), (5, slO g.2.1 g.1 g.2.2), (6, .int .i64 (12 - (g.1 : Int)))])
    (fun _ => []) (fun g => [own g.2.1 g.2.2 23 32 g.1 ((key21 sd g.1).flatMap bytes), own (some kb) kc 23 32 13 ((chainL (base21 sd) 13).flatMap bytes)]) (fun g => 13 - g.1) (0, some ob, 0) ⟨by show 0 ≤ 13; decide, fun h => by cases h⟩
    (.cons rfl (.cons rfl (.cons rfl .nil))) (fun w h => h.rea (fun _ h => h) (by repeat (first | exact Rea.nil | (apply Rea.cons; (solve | (repeat (first | exact Del.here | apply Del.there))))))) ?_
  rintro ⟨n, o, cp⟩ ⟨hn, ho⟩
  dsimp only at hn ho ⊢
  refine CW.seq ?_
  refine CW.seq ?_
  refine CW.region (ef := []) (bk := []) ?_
  refine RL.move rfl rfl rfl rfl ?_
  refine RL.bin rfl rfl rfl rfl rfl rfl ?_
  refine RL.nil ?_
  refine NQ.seq ?_
  refine CW.cond rfl (fun h => ?_) (fun h => ?_)
  ·
    have hlt : n < 13 := by simp at h; omega
    have hx := hKd n hlt
    have hxl := nextN_len hbl (12 - n)
    have hsn := key21_succ sd n
    generalize nextN (base21 sd) (12 - n) = kx at *
    have hx32 : (bytes kx).length = 32 := by rw [List.length_map, hxl]
    have hsn2 : (key21 sd (n + 1)).flatMap bytes = (key21 sd n).flatMap bytes ++ bytes kx := by rw [hsn]; simp
    refine CW.skip ?_
    refine NQ.seq ?_
    refine CW.seq ?_
    refine CW.block ?_
    refine CW.region (ef := [5, 6]) (bk := [6]) ?_
    refine RL.move rfl rfl rfl rfl ?_
    refine RL.move rfl rfl rfl rfl ?_
    refine RL.move rfl rfl rfl rfl ?_
    refine RL.idxAt (j := 12 - n) Tryz.runUnderlying39 Tryz.sizeOf23 rfl rfl rfl rfl rfl (by omega) (by omega) ?_
    refine RL.loadA Tryz.isAgg23 Tryz.sizeOf23 rfl rfl rfl rfl (own_rds (List.Mem.tail _ (List.Mem.head _)) hx hK32) hx32 ?_
    refine RL.buildSlice (bytes kx) Tryz.runUnderlying39 Tryz.sizeOf23 Tryz.zeroValue23 rfl rfl (by decide) (by decide) rfl rfl rfl rfl rfl (fill_one rfl hx32) ?_
    intro b1
    refine RL.appendA el_39 rfl rfl rfl rfl rfl rfl rfl (by first | exact ⟨(.take (Pick.none _)), rfl⟩ | exact ⟨(.leave (.take (Pick.none _))), rfl⟩ | exact ⟨(.leave (.leave (.take (Pick.none _)))), rfl⟩ | exact ⟨(.leave (.leave (.leave (.take (Pick.none _))))), rfl⟩ | exact ⟨(.leave (.leave (.leave (.leave (.take (Pick.none _)))))), rfl⟩ | exact ⟨(.leave (.leave (.leave (.leave (.leave (.take (Pick.none _))))))), rfl⟩ | exact ⟨(.leave (.leave (.leave (.leave (.leave (.leave (.take (Pick.none _)))))))), rfl⟩ | exact ⟨(.leave (.leave (.leave (.leave (.leave (.leave (.leave (.take (Pick.none _))))))))), rfl⟩ | exact ⟨(.leave (.leave (.leave (.leave (.leave (.leave (.leave (.leave (.take (Pick.none _)))))))))), rfl⟩ | exact ⟨(.leave (.leave (.leave (.leave (.leave (.leave (.leave (.leave (.leave (.take (Pick.none _))))))))))), rfl⟩) (Src.cel (List.Mem.head _) hx32) (fun u hu => ones_spec (ones_map one8 _) u hu) (by first | omega | (simp only [maxLen]; omega)) (by first | omega | (simp only [maxLen]; omega)) ?_
    intro ob1 cap1 ho1
    refine RL.assign rfl rfl rfl rfl ?_
    refine RL.nil ?_
    refine NQ.block ?_
    refine NQ.seq ?_
    refine CW.only (.cons (k := 3) rfl (.cons (k := 5) rfl (.cons (k := 6) rfl .nil))) ?_
    refine CW.region (ef := []) (bk := []) ?_
    refine RL.move rfl rfl rfl rfl ?_
    refine RL.binX rfl rfl rfl rfl rfl rfl (wrapV_i64 (by omega) (by omega)) ?_
    refine RL.assign rfl rfl rfl rfl ?_
    refine RL.nil ?_
    refine NQ.round (g := (n, o, cp)) (n + 1, ob1, cap1) ⟨hlt, fun e => ?_⟩ (by show 13 - (n + 1) < 13 - n; omega) (.cons rfl (.cons rfl (.cons (by show some (Value.int .i64 (12 - (n : Int) - 1)) = some (.int .i64 (12 - ((n + 1 : Nat) : Int))); congr 2; omega) .nil))) (fun w h => ?_)
    · dsimp only at e
      rcases ho1 with h | h
      · omega
      · simp [e] at h
    · dsimp only
      rw [hsn2]
      exact h.rea (fun _ h => h) (by repeat (first | exact Rea.nil | (apply Rea.cons; (solve | (repeat (first | exact Del.here | apply Del.there))))))
  ·
    have h13 : n = 13 := by simp at h; omega
    subst h13
    refine CW.exit ?_
    refine XQ.seq ?_
    refine XQ.seq ?_
    refine XQ.hit ?_
    refine NQ.seq ?_
    refine CW.seq ?_
    refine CW.region (ef := []) (bk := []) ?_
    refine RL.move rfl rfl rfl rfl ?_
    refine RL.assign rfl rfl rfl rfl ?_
    refine RL.nil ?_
    refine NQ.seq ?_
    refine CW.only (.cons (k := 2) rfl .nil) ?_
    refine CW.ret ?_
    obtain ⟨q, rfl⟩ : ∃ q, o = some q := by
      cases o with
      | none => exact absurd (ho rfl) (by decide)
      | some q => exact ⟨q, rfl⟩
    exact RQ.post (res1 rfl rfl) (.keep (.drop .nil)) ⟨q, cp, rfl, rfl, rfl⟩
end Go.Proofs.YtbdnebedmdoehaaGreat

namespace Go.Proofs.YtbdnebedmdoehaaGreat
open Go.PK
def mRd (iv : Nat) (sq : B8) (p : Int) : Rdg := { rz 5 with interval := iv, seq := sq, p0 := p }
theorem mRd_ok {iv : Nat} (h : iv < 4294967296) (sq : B8) {p : Int} (hp : wfk .i64 p) : (mRd iv sq p).Ok :=
  { rz_ok (k := 5) (by rfl) with
    interval := by show wfk .u32 (iv : Int); simp only [wfk, Lit.wf, IntKind.min, IntKind.max, IntKind.signed, IntKind.bits, Bool.and_eq_true, decide_eq_true_eq, Bool.false_eq_true, if_false]; omega
    p0 := hp }
noncomputable def mFr (iv : Nat) (sq : B8) (p : Int) : Fr := ⟨5, 4, 0, 0, putB (mRd iv sq p), List.replicate 16 0#8⟩
theorem mFr_ok (iv : Nat) (sq : B8) (p : Int) : (mFr iv sq p).Ok := ⟨by show 0 < _; decide, by show 0 < _; decide, rfl⟩
def MessageR (iv : Nat) (sq : B8) (p : Int) : Value → List It → List It → Prop := fun v I' H' => ∃ ob cap, v = frV ⟨mFr iv sq p, ob, cap⟩ ∧ (mFr iv sq p).b.length ≤ cap ∧ I' = [] ∧ H' = [bodyO ⟨mFr iv sq p, ob, cap⟩]
theorem tmessage_any (iv : Nat) (h : iv < 4294967296) (sq : B8) (p : Int) (hp : wfk .i64 p) : Spc Tryz.prog 38 #[.int .u32 (iv : Int), U8 sq, .int .i64 p] [] [] (MessageR iv sq p) := by
  refine Spc.enter Tryz.func38 rfl rfl rfl (fun w0 hw0 => ?_)
  refine CW.seq ?_
  refine CW.region (ef := [0]) (bk := []) ?_
  refine RL.alloc Tryz.zeroValue30 rfl rfl rfl rfl rfl ?_
  intro b1
  refine RL.nil ?_
  refine NQ.seq ?_
  refine CW.seq ?_
  refine CW.region (ef := [5]) (bk := [5]) ?_
  refine RL.move rfl rfl rfl rfl ?_
  refine RL.move rfl rfl rfl rfl ?_
  refine RL.move rfl rfl rfl rfl ?_
  refine RL.buildA [_, _, _] Tryz.zeroValue65 Tryz.runUnderlying65 Tryz.sizeOf45 rfl rfl rfl rfl rfl ?_
  refine RL.buildS (mRd iv sq p).cells Tryz.zeroValue68 pl_68 rfl rfl rfl rfl rfl ?_
  refine RL.call (rput_any (mRd iv sq p) (mRd_ok h sq hp)) Tryz.call65 rfl rfl rfl rfl rfl (by repeat (first | exact Pick.nil | apply Pick.take | apply Pick.leave)) .nil (.inr rfl) ?_
  rintro _ _ _ ⟨ob, cap, rfl, rfl, rfl⟩
  refine RL.move rfl rfl rfl rfl ?_
  refine RL.extract rfl rfl rfl rfl rfl ?_
  refine RL.extract rfl rfl rfl rfl rfl ?_
  refine RL.assign rfl rfl rfl rfl ?_
  refine RL.assign rfl rfl rfl rfl ?_
  refine RL.nil ?_
  refine NQ.seq ?_
  refine CW.only (.cons (k := 6) rfl (.cons (k := 7) rfl .nil)) ?_
  refine CW.seq ?_
  refine CW.fact (p := (putB (mRd iv sq p)).length ≤ cap) (fun w hC => own_cap (hC.s.h _ (List.Mem.head _))) (fun hcap => ?_)
  have hl := fr_len (mFr_ok iv sq p).tag (slO ob (putB (mRd iv sq p)).length cap)
  refine CW.region (ef := [2]) (bk := [2]) ?_
  refine RL.move rfl rfl rfl rfl ?_
  refine RL.buildS ((mFr iv sq p).cells (slO ob (putB (mRd iv sq p)).length cap)) Tryz.zeroValue30 pl_30 rfl rfl rfl rfl rfl ?_
  refine RL.storeW Tryz.sizeOf30 rfl rfl rfl rfl rfl rfl rfl (ones_fr _ rfl) (by repeat (first | exact Upd.here | apply Upd.there)) hl rfl ?_
  refine RL.nil ?_
  refine NQ.seq ?_
  refine CW.ret ?_
  exact RQ.post (resW rfl rfl Tryz.isAgg30 Tryz.sizeOf30 (by repeat (first | exact List.Mem.head _ | apply List.Mem.tail)) hl) (.keep (.drop .nil)) ⟨ob, cap, rfl, hcap, rfl, rfl⟩
end Go.Proofs.YtbdnebedmdoehaaGreat

namespace Go.Proofs.YtbdnebedmdoehaaGreat
open Go.PK
def s21 : Sch := ⟨0, 10, 2, 0⟩
theorem m7_len : (bodyR (mRd 2 0#8 7)).length = 29 := by decide +kernel
theorem m7_okP : okP (mRd 2 0#8 7) := by
  refine ⟨getR 5 (bodyR (mRd 2 0#8 7)), by rw [show (mRd 2 0#8 7).kind = 5 from rfl, gotR5, if_pos m7_len], ?_⟩
  have h1 : nat (bodyR (mRd 2 0#8 7)) 0 4 = 2 := by decide +kernel
  have h2 : bat (bodyR (mRd 2 0#8 7)) 4 = 0#8 := by decide +kernel
  have h3 : i64at (bodyR (mRd 2 0#8 7)) 5 = 7 := by decide +kernel
  have h4 : i64at (bodyR (mRd 2 0#8 7)) 13 = 0 := by decide +kernel
  have h5 : i64at (bodyR (mRd 2 0#8 7)) 21 = 0 := by decide +kernel
  generalize bodyR (mRd 2 0#8 7) = l at *
  show ({ rz 5 with interval := nat l 0 4, seq := bat l 4, p0 := i64at l 5, p1 := i64at l 13, p2 := i64at l 21 } : Rdg).cells = _
  rw [h1, h2, h3, h4, h5]; rfl
theorem m7_b : (mFr 2 0#8 7).b = bodyR (mRd 2 0#8 7) := (put_yes m7_okP).1
theorem m7_bl : (mFr 2 0#8 7).b.length = 29 := by rw [m7_b, m7_len]
theorem m7_iv : mIv (mFr 2 0#8 7) = 2 := by rw [mIv, m7_b]; decide +kernel
theorem m7_sq : mSq (mFr 2 0#8 7) = 0#8 := by rw [mSq, m7_b]; decide +kernel
theorem ts_b (f : Fr) (k : List B8) (i : Nat) : (f.tsign k i).b = f.b := rfl
theorem ts_kd (f : Fr) (k : List B8) (i : Nat) : (f.tsign k i).kd = f.kd := rfl
theorem ts_iv (f : Fr) (k : List B8) (i : Nat) : mIv (f.tsign k i) = mIv f := rfl
theorem ts_p (f : Fr) (k : List B8) (i : Nat) : mP (f.tsign k i) = mP f := rfl
theorem ts_tag (f : Fr) (k : List B8) (i : Nat) : (f.tsign k i).tag = macTag (tagK k i) f.signed := rfl
theorem ts_signed (f : Fr) (k : List B8) (i : Nat) : (f.tsign k i).signed = f.signed := rfl
theorem okIt_eq (k : List B8) (iv p : Nat) (q : Int) (y : FrO) : okIt k iv (((p : Int), q), y) = (y.f.tag == macTag (tagK (nextN k (iv - p)) p) y.f.signed) := rfl
theorem afterD_rel (z : RSt) (iv : Nat) (k : List B8) (T c' : Bq) : (afterD z iv k T c').rel = z.rel + (relL k iv T).length := rfl
theorem afterD_iv (z : RSt) (iv : Nat) (k : List B8) (T c' : Bq) : (afterD z iv k T c').iv = iv := rfl
theorem afterD_k (z : RSt) (iv : Nat) (k : List B8) (T c' : Bq) : (afterD z iv k T c').k = k := rfl
theorem disE_yes {z : RSt} {iv : Nat} {key : List B8} (h1 : ¬ iv ≤ z.iv) (h2 : ¬ 512 < iv - z.iv) (h3 : nextN key (iv - z.iv) = z.k) : disE z iv key = 0 := by rw [disE, if_neg h1, if_neg h2, if_pos h3]
theorem relL_one {k : List B8} {iv : Nat} {x : Pq × FrO} (h : okIt k iv x = true) : relL k iv [x] = [x.2] := by
  rw [relL, List.filter_cons_of_pos h]; rfl
theorem m7_kd : (mFr 2 0#8 7).kd = 5 := rfl
theorem m7_e (k : List B8) (i : Nat) : msgE s21 0 12 ((mFr 2 0#8 7).tsign k i) = 0 := by
  have h1 : ((mFr 2 0#8 7).tsign k i).b.length = 29 := by rw [ts_b, m7_bl]
  have h2 : mIv ((mFr 2 0#8 7).tsign k i) = 2 := by rw [ts_iv, m7_iv]
  have h3 : ((mFr 2 0#8 7).tsign k i).kd = 5 := by rw [ts_kd, m7_kd]
  generalize (mFr 2 0#8 7).tsign k i = f at *
  refine msgE_ok (by rw [h1, h2, h3]; decide) ?_
  rw [h2]; decide
theorem m7_p (k : List B8) (i : Nat) : mP ((mFr 2 0#8 7).tsign k i) = (2, 0) := by
  rw [ts_p, mP, m7_iv, m7_sq]; rfl
theorem m7_mess {k : List B8} {i : Nat} {e : Int} {c' : Bq} {I' : List It} (h : MessO s21 0 12 [] ((mFr 2 0#8 7).tsign k i) e c' I') : ∃ y : FrO, y.f = (mFr 2 0#8 7).tsign k i ∧ e = 0 ∧ c' = [((((2 : Nat) : Int), 0), y)] ∧ I' = [bodyO y] := by
  cases h with
  | no h => exact absurd h (by decide)
  | go ht hm =>
    cases hm with
    | no h h0 => exact absurd (h ▸ m7_e k i) h0
    | put h hp =>
      rw [m7_p] at hp
      cases hp with
      | no h h0 => exact absurd (h ▸ (by decide : qputE (keysQ []) (2, 0) = 0)) h0
      | yes y hf h => exact ⟨y, hf, rfl, rfl, rfl⟩
theorem take_one {x : Pq × FrO} {iv : Int} {T c' : Bq} (hx : x.1.1 ≤ iv) (h : TakeO [x] iv T c') : T = [x] ∧ c' = [] := by
  have hc : c' = [] := by
    cases c' with
    | nil => rfl
    | cons z c' =>
      have h1 := h.gt z List.mem_cons_self
      have h2 : z ∈ [x] := h.p.mem_iff.1 (by simp)
      simp at h2; subst h2; omega
  subst hc
  have := h.p
  rw [List.append_nil] at this
  exact ⟨List.perm_singleton.1 this, rfl⟩
end Go.Proofs.YtbdnebedmdoehaaGreat

namespace Go.Proofs.YtbdnebedmdoehaaGreat
open Go.PK
theorem works21 : Spc Tryz.prog 12 #[] [] [] (Is (.bool true)) := by
  have hK32 := flatK_len (key21_all 1#8 13)
  have hbl := base21_len 1#8
  have g0 := key21_get 1#8 (show 0 < 13 by decide)
  have g2 := key21_get 1#8 (show 2 < 13 by decide)
  have g3 := key21_get 1#8 (show 3 < 13 by decide)
  have l0 := nextN_len hbl 12
  have l2 := nextN_len hbl 10
  have l3 := nextN_len hbl 9
  have e0 : nextN (nextN (base21 1#8) 9) 3 = nextN (base21 1#8) 12 := (nextN_add _ 9 3).symm
  have e2 : nextN (nextN (base21 1#8) 9) 1 = nextN (base21 1#8) 10 := (nextN_add _ 9 1).symm
  rw [show 12 - 0 = 12 from rfl] at g0
  rw [show 12 - 2 = 10 from rfl] at g2
  rw [show 12 - 3 = 9 from rfl] at g3
  generalize nextN (base21 1#8) 12 = k0 at *
  generalize nextN (base21 1#8) 10 = k2 at *
  generalize nextN (base21 1#8) 9 = k3 at *
  have hmm := @m7_mess
  have hfo := mFr_ok 2 0#8 7
  have hfl := m7_bl
  refine Spc.enter Tryz.func12 rfl rfl rfl (fun w0 hw0 => ?_)
  refine CW.seq ?_
  refine CW.region (ef := []) (bk := []) ?_
  refine RL.assign rfl rfl rfl rfl ?_
  refine RL.nil ?_
  refine NQ.seq ?_
  refine CW.seq ?_
  refine CW.region (ef := [0]) (bk := [0]) ?_
  refine RL.call (tkeys_any 1#8) Tryz.call13 rfl rfl rfl rfl rfl (by repeat (first | exact Pick.nil | apply Pick.take | apply Pick.leave)) .nil (.inr rfl) ?_
  rintro _ _ _ ⟨kb, kc, rfl, rfl, rfl⟩
  refine RL.assign rfl rfl rfl rfl ?_
  refine RL.nil ?_
  refine NQ.seq ?_
  refine CW.seq ?_
  refine CW.freezeP (A := [_]) (B := []) (.take .nil) rfl ?_
  refine CW.genI (fun J hJ => ?_)
  have mK : own (some kb) kc 23 32 13 ((key21 1#8 13).flatMap bytes) ∈ J := hJ _ (List.Mem.head _)
  clear hJ
  have b0 : (bytes k0).length = 32 := by rw [List.length_map, l0]
  have b2 : (bytes k2).length = 32 := by rw [List.length_map, l2]
  have b3 : (bytes k3).length = 32 := by rw [List.length_map, l3]
  have r2 : RdsN J ⟨kb, 0 + 2 * 32, none⟩ 32 (bytes k2) := ⟨fun _ => own_rdsI mK g2 hK32, b2⟩
  have r3 : RdsN J ⟨kb, 0 + 3 * 32, none⟩ 32 (bytes k3) := ⟨fun _ => own_rdsI mK g3 hK32, b3⟩
  refine CW.region (ef := [4]) (bk := [4]) ?_
  refine RL.buildS [_, _, _, _] Tryz.zeroValue37 pl_37 rfl rfl rfl rfl rfl ?_
  refine RL.move rfl rfl rfl rfl ?_
  refine RL.idxAt (j := 0) Tryz.runUnderlying39 Tryz.sizeOf23 rfl rfl rfl rfl rfl rfl (by decide) ?_
  refine RL.loadA Tryz.isAgg23 Tryz.sizeOf23 rfl rfl rfl rfl (own_rdsI mK g0 hK32) b0 ?_
  refine RL.call (tnew_any s21 k0 l0) Tryz.call14 rfl rfl rfl rfl rfl (by repeat (first | exact Pick.nil | apply Pick.take | apply Pick.leave)) .nil (.inr rfl) ?_
  rintro _ _ _ ⟨rfl, hN⟩
  rcases hN with ⟨hok, B, hB, rfl, rfl⟩ | ⟨hno, -, -⟩
  ·
    refine RL.move rfl rfl rfl rfl ?_
    refine RL.extract rfl rfl rfl rfl rfl ?_
    refine RL.extract rfl rfl rfl rfl rfl ?_
    refine RL.assign rfl rfl rfl rfl ?_
    refine RL.assign rfl rfl rfl rfl ?_
    refine RL.nil ?_
    refine NQ.seq ?_
    refine CW.only (.cons (k := 1) rfl (.cons (k := 2) rfl (.cons (k := 3) rfl .nil))) ?_
    refine CW.seq ?_
    refine CW.seq ?_
    refine CW.region (ef := []) (bk := []) ?_
    refine RL.move rfl rfl rfl rfl ?_
    refine RL.cmp rfl rfl rfl rfl rfl (eql_ptr Tryz.runUnderlying41 _) ?_
    refine RL.nil ?_
    refine NQ.seq ?_
    refine CW.condF rfl (rfl) ?_
    refine CW.genI (fun J2 hJ2 => ?_)
    have mK2 : own (some kb) kc 23 32 13 ((key21 1#8 13).flatMap bytes) ∈ J2 := hJ2 _ mK
    have r2' : RdsN J2 ⟨kb, 0 + 2 * 32, none⟩ 32 (bytes k2) := ⟨fun _ => own_rdsI mK2 g2 hK32, b2⟩
    clear r2 r3
    have hz0 : (RBk.z0 k0).Ok := ⟨by show 0 < 4294967296; decide, l0, Nat.zero_le _, Nat.zero_le _, fun x hx => absurd hx (by simp), Nat.zero_le _, fun x hx => absurd hx (by simp)⟩
    generalize hfe : mFr 2 0#8 7 = f at *
    have hso := f.tsign_ok hfo k2 2
    have hsl : (f.tsign k2 2).b.length = f.b.length := rfl
    refine CW.skip ?_
    refine NQ.seq ?_
    refine CW.seq ?_
    refine CW.regionD (Sq.of [0, 1, 2, 3, 4, 5, 6, 7]) [4, 6] [4, 6] [0, 1, 2, 3, 7] mixed (by kernel_rfl) ?_
    refine RL.move rfl rfl rfl rfl ?_
    refine RL.move rfl rfl rfl rfl ?_
    refine RL.idxAt (j := 2) Tryz.runUnderlying39 Tryz.sizeOf23 rfl rfl rfl rfl rfl rfl (by decide) ?_
    first | refine RL.loadMT Tryz.isAgg23 Tryz.sizeOf23 rfl rfl rfl rfl (by assumption) ?_ | refine RL.loadAT Tryz.isAgg23 Tryz.sizeOf23 rfl rfl rfl rfl (by first | assumption | (apply RdsI.rds; assumption)) (by first | rfl | assumption | (simp only [List.length_map]; assumption) | (simp only [List.length_map, List.length_replicate]; done) | (simp; done)) ?_
    refine RL.call (tmessage_any 2 (by decide) 0#8 7 (by rfl)) Tryz.call38 rfl rfl rfl rfl rfl (by repeat (first | exact Pick.nil | apply Pick.take | apply Pick.leave)) .nil (.inr rfl) ?_
    rintro _ _ _ ⟨fb, fc, rfl, hfc, rfl, rfl⟩
    rw [hfe] at *
    refine RL.callv (tsign_any k2 2 f (fb.map fun b => ⟨b, 0, none⟩) fc f.b.length l2 (by decide) hfo rfl (by omega)) Tryz.call10 rfl rfl rfl rfl (Lend.own (by repeat (first | exact List.Mem.head _ | apply List.Mem.tail)) .nil) ?_
    refine RL.callf (tmess_any B (RBk.z0 k0) hz0 12 (f.tsign k2 2) (fb.map fun b => ⟨b, 0, none⟩) fc f.b.length hso hsl hfc (by omega)) Tryz.call16 rfl rfl rfl rfl rfl (by repeat (first | exact Pick.nil | apply Pick.take | apply Pick.leave)) (Lend.inH (by repeat (first | exact List.Mem.head _ | apply List.Mem.tail)) (Lend.own (by repeat (first | exact List.Mem.head _ | apply List.Mem.tail)) .nil)) (.inr rfl) ?_
    rintro _ _ _ ⟨e, c', rfl, hM, rfl⟩ hfr
    rw [hB] at hM
    obtain ⟨y, hy, rfl, rfl, rfl⟩ := hmm hM
    refine RL.assign rfl rfl rfl rfl ?_
    refine RL.nil ?_
    refine NQ.seq ?_
    refine CW.only (.cons (k := 1) rfl (.cons (k := 2) rfl (.cons (k := 3) rfl (.cons (k := 4) rfl .nil)))) ?_
    refine CW.seq ?_
    refine CW.genI (fun J3 hJ3 => ?_)
    have mK3 : own (some kb) kc 23 32 13 ((key21 1#8 13).flatMap bytes) ∈ J3 := hJ3 _ (by simp [mK2])
    have mY : bodyO y ∈ J3 := hJ3 _ (by simp)
    clear hJ3 r2' hJ2
    obtain ⟨z1, hz1e⟩ : ∃ z1 : RSt, z1 = ⟨0, k0, 0, 0, [((((2 : Nat) : Int), 0), y)], bump 0 []⟩ := ⟨_, rfl⟩
    have hz1 : z1.Ok := by
      subst hz1e
      refine ⟨by show 0 < 4294967296; decide, l0, Nat.zero_le _, Nat.zero_le _, fun x hx => ?_, by show 1 ≤ 16; decide, fun x hx => ?_⟩
      · rw [List.mem_singleton] at hx; subst hx
        exact ⟨by rw [hy]; exact hso, by rw [hy, hsl]; omega⟩
      · simp [bump, putN, cnt] at hx; subst hx; decide
    have hgt : ∀ x ∈ z1.c, (z1.iv : Int) < x.1.1 := by
      subst hz1e; intro x hx; rw [List.mem_singleton] at hx; subst hx; show (0 : Int) < 2; decide
    have hbo : ∀ x ∈ z1.c, bodyO x.2 ∈ [bodyO y] := by
      subst hz1e; intro x hx; rw [List.mem_singleton] at hx; subst hx; exact List.Mem.head _
    have hd0 : disE z1 3 k3 = 0 := by
      have hv : z1.iv = 0 := by rw [hz1e]
      have hkk : z1.k = k0 := by rw [hz1e]
      exact disE_yes (by rw [hv]; decide) (by rw [hv]; decide) (by rw [hv, hkk]; exact e0)
    refine CW.rea (fun _ h => h) (H' := [recI B z1, tmI B z1, bufI B.q B.r, mapQ B.r z1.c]) (by subst hz1e; exact (by repeat (first | exact Rea.nil | (apply Rea.cons; (solve | (repeat (first | exact Del.here | apply Del.there))))))) ?_
    refine CW.region (ef := [4]) (bk := [4]) ?_
    refine RL.move rfl rfl rfl rfl ?_
    refine RL.move rfl rfl rfl rfl ?_
    refine RL.idxAt (j := 3) Tryz.runUnderlying39 Tryz.sizeOf23 rfl rfl rfl rfl rfl rfl (by decide) ?_
    refine RL.loadA Tryz.isAgg23 Tryz.sizeOf23 rfl rfl rfl rfl (own_rdsI mK3 g3 hK32) b3 ?_
    refine RL.call (tdis_any B z1 hz1 3 (by decide) k3 l3 hgt [bodyO y] hbo) Tryz.call18 rfl rfl rfl rfl rfl (by repeat (first | exact Pick.nil | apply Pick.take | apply Pick.leave)) (Lend.inI mY .nil) (.inr rfl) ?_
    rintro _ _ _ ⟨e, T, z', ob, cp, hD, rfl, rfl, rfl⟩
    cases hD with
    | no h h0 => exact absurd (h.symm.trans hd0) h0
    | yes h hT =>
      rw [hz1e] at hT
      obtain ⟨rfl, rfl⟩ := take_one (by show (2 : Int) ≤ 3; decide) hT
      have hok : okIt k3 3 ((((2 : Nat) : Int), 0), y) = true := by
        rw [okIt_eq, show (3 - 2 : Nat) = 1 from rfl, e2, hy, ts_tag, ts_signed]
        exact beq_self_eq_true _
      have hrel := relL_one hok
      have hrl : (afterD z1 3 k3 [((((2 : Nat) : Int), 0), y)] []).rel = 1 := by
        have hv : z1.rel = 0 := by rw [hz1e]
        rw [afterD_rel, hrel, hv]; rfl
      have hiv := afterD_iv z1 3 k3 [((((2 : Nat) : Int), 0), y)] []
      have hak := afterD_k z1 3 k3 [((((2 : Nat) : Int), 0), y)] []
      dsimp only at hrel
      rw [hrel]
      generalize afterD z1 3 k3 [((((2 : Nat) : Int), 0), y)] [] = z2 at *
      have hk2 : z2.k.length = 32 := by rw [hak]; exact l3
      have hkn := tknown_any B z2 hk2
      have htr := treleased_any B z2 hk2
      rw [hiv, hak] at hkn
      rw [hrl] at htr
      refine RL.move rfl rfl rfl rfl ?_
      refine RL.extract rfl rfl rfl rfl rfl ?_
      refine RL.extract rfl rfl rfl rfl rfl ?_
      refine RL.assign rfl rfl rfl rfl ?_
      refine RL.assign rfl rfl rfl rfl ?_
      refine RL.nil ?_
      refine NQ.seq ?_
      refine CW.only (.cons (k := 1) rfl (.cons (k := 2) rfl (.cons (k := 3) rfl (.cons (k := 4) rfl (.cons (k := 5) rfl (.cons (k := 6) rfl .nil)))))) ?_
      refine CW.seq ?_
      refine CW.region (ef := [5, 7]) (bk := [7]) ?_
      refine RL.move rfl rfl rfl rfl ?_
      refine RL.callv (hkn) Tryz.call20 rfl rfl rfl rfl (Lend.inH (by repeat (first | exact List.Mem.head _ | apply List.Mem.tail)) .nil) ?_
      refine RL.move rfl rfl rfl rfl ?_
      refine RL.extract rfl rfl rfl rfl rfl ?_
      refine RL.extract rfl rfl rfl rfl rfl ?_
      refine RL.alloc (cs := List.replicate 32 (U8 0#8)) Tryz.zeroValue23 rfl rfl rfl rfl rfl ?_
      intro b1
      refine RL.assign rfl rfl rfl rfl ?_
      refine RL.storeW Tryz.sizeOf23 rfl rfl rfl rfl rfl rfl rfl (by first | rfl | exact ones_map one8 _ | exact ones_map (fun _ => rfl) _) (by repeat (first | exact Upd.here | apply Upd.there)) (by first | rfl | assumption | (simp only [List.length_map]; assumption) | (simp only [List.length_map, List.length_replicate, b3, l3]; done) | (simp; done)) (by first | rfl | assumption | (simp only [List.length_map]; assumption) | (simp only [List.length_map, List.length_replicate, b3, l3]; done) | (simp; done)) ?_
      refine RL.nil ?_
      refine NQ.seq ?_
      refine CW.seq ?_
      refine CW.freezeP (A := [_]) (B := [_, _, _, _, _]) (.take (.leave (.leave (.leave (.leave (.leave .nil)))))) rfl ?_
      refine CW.genI (fun J4 hJ4 => ?_)
      have mK4 : own (some kb) kc 23 32 13 ((key21 1#8 13).flatMap bytes) ∈ J4 := hJ4 _ (by simp [mK3])
      have r3' : RdsN J4 ⟨kb, 0 + 3 * 32, none⟩ 32 (bytes k3) := ⟨fun _ => own_rdsI mK4 g3 hK32, b3⟩
      have mC := hJ4 _ (List.Mem.head _)
      have rC : RdsN J4 ⟨b1, 0, none⟩ 32 (bytes k3) := ⟨fun _ => Rds.allI mC, b3⟩
      clear hJ4
      refine CW.regionD (Sq.of [0, 1, 2, 3, 4, 5, 6, 7, 8, 9, 10, 11, 12, 13, 14, 15, 16, 17, 18, 19, 20, 21, 22, 23, 24, 25, 26, 27, 28, 29, 30, 31]) [] [] [0, 1, 2, 3, 4, 5, 6, 7, 8, 9, 10, 11, 12, 13, 14, 15, 16, 17, 18, 19, 20, 21, 22, 23, 24, 25, 26, 27, 29, 30, 31] mixed (by kernel_rfl) ?_
      refine RL.move rfl rfl rfl rfl ?_
      refine RL.bin rfl rfl rfl rfl rfl rfl ?_
      refine RL.move rfl rfl rfl rfl ?_
      apply RL.andB (d := 42) (dp := 45) (l' := (Sq.of [6, 7, 8, 9, 10, 11, 12, 13, 14, 15, 16, 17, 18, 19, 20, 21, 22, 23, 24, 25, 26, 27, 28, 29, 30, 31])) rfl (.cons (k := 1) rfl (.cons (k := 2) rfl (.cons (k := 5) rfl (.cons (k := 6) rfl (.cons (k := 7) rfl (.cons (k := 8) rfl .nil))))))
      ·
        intro hb3 K3
        refine RL.move rfl rfl rfl rfl ?_
        refine RL.bin rfl rfl rfl rfl rfl rfl ?_
        refine RL.pickT rfl rfl rfl rfl rfl ?_
        exact K3 _ (.cons rfl (.cons (k := 1) rfl (.cons (k := 2) rfl (.cons (k := 5) rfl (.cons (k := 6) rfl (.cons (k := 7) rfl (.cons (k := 8) rfl .nil)))))))
      ·
        intro hb3 K3
        refine RL.skip rfl rfl rfl rfl ?_
        refine RL.skip rfl rfl rfl rfl ?_
        refine RL.pickF rfl rfl rfl rfl rfl ?_
        exact K3 _ (.cons rfl (.cons (k := 1) rfl (.cons (k := 2) rfl (.cons (k := 5) rfl (.cons (k := 6) rfl (.cons (k := 7) rfl (.cons (k := 8) rfl .nil)))))))
      refine RL.move rfl rfl rfl rfl ?_
      apply RL.andB (d := 46) (dp := 49) (l' := (Sq.of [10, 11, 12, 13, 14, 15, 16, 17, 18, 19, 20, 21, 22, 23, 24, 25, 26, 27, 28, 29, 30, 31])) rfl (.cons (k := 1) rfl (.cons (k := 2) rfl (.cons (k := 5) rfl (.cons (k := 7) rfl (.cons (k := 8) rfl .nil)))))
      ·
        intro hb7 K7
        refine RL.move rfl rfl rfl rfl ?_
        refine RL.bin rfl rfl rfl rfl rfl rfl ?_
        refine RL.pickT rfl rfl rfl rfl rfl ?_
        exact K7 _ (.cons rfl (.cons (k := 1) rfl (.cons (k := 2) rfl (.cons (k := 5) rfl (.cons (k := 7) rfl (.cons (k := 8) rfl .nil))))))
      ·
        intro hb7 K7
        refine RL.skip rfl rfl rfl rfl ?_
        refine RL.skip rfl rfl rfl rfl ?_
        refine RL.pickF rfl rfl rfl rfl rfl ?_
        exact K7 _ (.cons rfl (.cons (k := 1) rfl (.cons (k := 2) rfl (.cons (k := 5) rfl (.cons (k := 7) rfl (.cons (k := 8) rfl .nil))))))
      refine RL.move rfl rfl rfl rfl ?_
      apply RL.andB (d := 50) (dp := 54) (l' := (Sq.of [15, 16, 17, 18, 19, 20, 21, 22, 23, 24, 25, 26, 27, 28, 29, 30, 31])) rfl (.cons (k := 1) rfl (.cons (k := 2) rfl (.cons (k := 7) rfl (.cons (k := 8) rfl .nil))))
      ·
        intro hb11 K11
        refine RL.move rfl rfl rfl rfl ?_
        refine RL.lenS Tryz.runUnderlying51 rfl rfl rfl rfl ?_
        refine RL.bin rfl rfl rfl rfl rfl rfl ?_
        refine RL.pickT rfl rfl rfl rfl rfl ?_
        exact K11 _ (.cons rfl (.cons (k := 1) rfl (.cons (k := 2) rfl (.cons (k := 7) rfl (.cons (k := 8) rfl .nil)))))
      ·
        intro hb11 K11
        refine RL.skip rfl rfl rfl rfl ?_
        refine RL.skip rfl rfl rfl rfl ?_
        refine RL.skip rfl rfl rfl rfl ?_
        refine RL.pickF rfl rfl rfl rfl rfl ?_
        exact K11 _ (.cons rfl (.cons (k := 1) rfl (.cons (k := 2) rfl (.cons (k := 7) rfl (.cons (k := 8) rfl .nil)))))
      refine RL.move rfl rfl rfl rfl ?_
      apply RL.andB (d := 55) (dp := 58) (l' := (Sq.of [19, 20, 21, 22, 23, 24, 25, 26, 27, 28, 29, 30, 31])) rfl (.cons (k := 1) rfl (.cons (k := 2) rfl (.cons (k := 8) rfl .nil)))
      ·
        intro hb16 K16
        refine RL.move rfl rfl rfl rfl ?_
        refine RL.bin rfl rfl rfl rfl rfl rfl ?_
        refine RL.pickT rfl rfl rfl rfl rfl ?_
        exact K16 _ (.cons rfl (.cons (k := 1) rfl (.cons (k := 2) rfl (.cons (k := 8) rfl .nil))))
      ·
        intro hb16 K16
        refine RL.skip rfl rfl rfl rfl ?_
        refine RL.skip rfl rfl rfl rfl ?_
        refine RL.pickF rfl rfl rfl rfl rfl ?_
        exact K16 _ (.cons rfl (.cons (k := 1) rfl (.cons (k := 2) rfl (.cons (k := 8) rfl .nil))))
      refine RL.move rfl rfl rfl rfl ?_
      apply RL.andB (d := 59) (dp := 65) (l' := (Sq.of [26, 27, 28, 29, 30, 31])) rfl (.cons (k := 2) rfl .nil)
      ·
        intro hb20 K20
        first | refine RL.loadMT Tryz.isAgg23 Tryz.sizeOf23 rfl rfl rfl rfl (by assumption) ?_ | refine RL.loadAT Tryz.isAgg23 Tryz.sizeOf23 rfl rfl rfl rfl (by first | assumption | (apply RdsI.rds; assumption)) (by first | rfl | assumption | (simp only [List.length_map]; assumption) | (simp only [List.length_map, List.length_replicate, b3, l3]; done) | (simp; done)) ?_
        refine RL.move rfl rfl rfl rfl ?_
        refine RL.idxAt (j := 3) Tryz.runUnderlying39 Tryz.sizeOf23 rfl rfl rfl rfl rfl rfl (by decide) ?_
        first | refine RL.loadMT Tryz.isAgg23 Tryz.sizeOf23 rfl rfl rfl rfl (by assumption) ?_ | refine RL.loadAT Tryz.isAgg23 Tryz.sizeOf23 rfl rfl rfl rfl (by first | assumption | (apply RdsI.rds; assumption)) (by first | rfl | assumption | (simp only [List.length_map]; assumption) | (simp only [List.length_map, List.length_replicate, b3, l3]; done) | (simp; done)) ?_
        refine RL.cmp rfl rfl rfl rfl rfl (key_eq _ _ l3 l3 _ _) ?_
        refine RL.pickT rfl rfl rfl rfl rfl ?_
        exact K20 _ (.cons rfl (.cons (k := 2) rfl .nil))
      ·
        intro hb20 K20
        refine RL.skip rfl rfl rfl rfl ?_
        refine RL.skip rfl rfl rfl rfl ?_
        refine RL.skip rfl rfl rfl rfl ?_
        refine RL.skip rfl rfl rfl rfl ?_
        refine RL.skip rfl rfl rfl rfl ?_
        refine RL.pickF rfl rfl rfl rfl rfl ?_
        exact K20 _ (.cons rfl (.cons (k := 2) rfl .nil))
      refine RL.move rfl rfl rfl rfl ?_
      apply RL.andB (d := 66) (dp := 70) (l' := (Sq.of [31])) rfl .nil
      ·
        intro hb27 K27
        refine RL.move rfl rfl rfl rfl ?_
        refine RL.callv (htr) Tryz.call30 rfl rfl rfl rfl (Lend.inH (by repeat (first | exact List.Mem.head _ | apply List.Mem.tail)) .nil) ?_
        refine RL.bin rfl rfl rfl rfl rfl rfl ?_
        refine RL.pickT rfl rfl rfl rfl rfl ?_
        exact K27 _ (.cons rfl .nil)
      ·
        intro hb27 K27
        refine RL.skip rfl rfl rfl rfl ?_
        refine RL.skip rfl rfl rfl rfl ?_
        refine RL.skip rfl rfl rfl rfl ?_
        refine RL.pickF rfl rfl rfl rfl rfl ?_
        exact K27 _ (.cons rfl .nil)
      refine RL.assign rfl rfl rfl rfl ?_
      refine RL.nil ?_
      refine NQ.seq ?_
      refine CW.ret ?_
      exact RQ.post (res1 rfl rfl) (Split.none _) ⟨by simp, rfl, rfl⟩
  · exact absurd (by decide : s21.Ok) hno
end Go.Proofs.YtbdnebedmdoehaaGreat
