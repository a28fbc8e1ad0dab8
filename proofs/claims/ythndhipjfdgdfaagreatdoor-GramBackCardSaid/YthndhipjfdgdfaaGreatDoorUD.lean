import Derived.Test.YthndhipjfdgdfaaGreatDoorUC
import Derived.Test.YthndhipjfdgdfaaGreatDoorProg
import Derived.KernelRfl
set_option linter.unusedVariables false
set_option linter.unusedSimpArgs false
namespace Go.Proofs.YthndhipjfdgdfaaGreatDoor
open Go.PK
/-! ### A plain source -/
def rootB (seed : B8) (id : Int) : List B8 := seed :: BitVec.ofInt 8 id :: List.replicate 30 (0#8)
def noS (seed : B8) (id kd : Int) : Sr := ⟨id, kd, rootB seed id, 0, 0, 0, 0, ⟨0, 0, 0, 0, 0, 0, 0, 0, 0, 0⟩⟩
def aidS (seed : B8) (id kd : Int) : Sr := ⟨id, kd, rootB seed id, 1, 2, 4294967296, 200, ⟨34359738368, 268435456, 274877906944, 1073741824, 137438953472, 50, 17179869184, 3, 300, 5⟩⟩
def magS (seed : B8) (id kd : Int) : Sr := ⟨id, kd, rootB seed id, 1, 2, 67108864, 200, ⟨268435456, 1048576, 1073741824, 16777216, 1073741824, 50, 2147483648, 3, 300, 5⟩⟩
def plainS (seed : B8) (id kd : Int) : Sr := if aidB kd = true then (if kd = 3 then magS seed id kd else aidS seed id kd) else noS seed id kd
theorem rootB_len (seed : B8) (id : Int) : (rootB seed id).length = 32 := by simp [rootB]
theorem set_w {s : Sr} (h : s.rt.length = 32) (v : Int) : spl s.cells (0 + 34) [.int .i64 v] = Sr.cells { s with w := v } := by
  have e : ∀ v : Int, Sr.cells { s with w := v } = (.int .i64 s.id :: .int .i64 s.kd :: (bytes s.rt ++ [])) ++ ([.int .i64 v] ++ [.int .i64 s.g, .int .i64 s.st, .int .i64 s.hz, .int .i64 s.wt.go, .int .i64 s.wt.gg, .int .i64 s.wt.gm, .int .i64 s.wt.sl, .int .i64 s.wt.mo, .int .i64 s.wt.sa, .int .i64 s.wt.ra, .int .i64 s.wt.ba, .int .i64 s.wt.ho, .int .i64 s.wt.pr]) := fun v => by simp [Sr.cells, Sr.tl, Wt.cells]
  rw [show s.cells = Sr.cells { s with w := s.w } from rfl, e, e]; exact seg_spl (by simp [h]) rfl
theorem set_g {s : Sr} (h : s.rt.length = 32) (v : Int) : spl s.cells (0 + 35) [.int .i64 v] = Sr.cells { s with g := v } := by
  have e : ∀ v : Int, Sr.cells { s with g := v } = (.int .i64 s.id :: .int .i64 s.kd :: (bytes s.rt ++ [.int .i64 s.w])) ++ ([.int .i64 v] ++ [.int .i64 s.st, .int .i64 s.hz, .int .i64 s.wt.go, .int .i64 s.wt.gg, .int .i64 s.wt.gm, .int .i64 s.wt.sl, .int .i64 s.wt.mo, .int .i64 s.wt.sa, .int .i64 s.wt.ra, .int .i64 s.wt.ba, .int .i64 s.wt.ho, .int .i64 s.wt.pr]) := fun v => by simp [Sr.cells, Sr.tl, Wt.cells]
  rw [show s.cells = Sr.cells { s with g := s.g } from rfl, e, e]; exact seg_spl (by simp [h]) rfl
theorem set_st {s : Sr} (h : s.rt.length = 32) (v : Int) : spl s.cells (0 + 36) [.int .i64 v] = Sr.cells { s with st := v } := by
  have e : ∀ v : Int, Sr.cells { s with st := v } = (.int .i64 s.id :: .int .i64 s.kd :: (bytes s.rt ++ [.int .i64 s.w, .int .i64 s.g])) ++ ([.int .i64 v] ++ [.int .i64 s.hz, .int .i64 s.wt.go, .int .i64 s.wt.gg, .int .i64 s.wt.gm, .int .i64 s.wt.sl, .int .i64 s.wt.mo, .int .i64 s.wt.sa, .int .i64 s.wt.ra, .int .i64 s.wt.ba, .int .i64 s.wt.ho, .int .i64 s.wt.pr]) := fun v => by simp [Sr.cells, Sr.tl, Wt.cells]
  rw [show s.cells = Sr.cells { s with st := s.st } from rfl, e, e]; exact seg_spl (by simp [h]) rfl
theorem set_hz {s : Sr} (h : s.rt.length = 32) (v : Int) : spl s.cells (0 + 37) [.int .i64 v] = Sr.cells { s with hz := v } := by
  have e : ∀ v : Int, Sr.cells { s with hz := v } = (.int .i64 s.id :: .int .i64 s.kd :: (bytes s.rt ++ [.int .i64 s.w, .int .i64 s.g, .int .i64 s.st])) ++ ([.int .i64 v] ++ [.int .i64 s.wt.go, .int .i64 s.wt.gg, .int .i64 s.wt.gm, .int .i64 s.wt.sl, .int .i64 s.wt.mo, .int .i64 s.wt.sa, .int .i64 s.wt.ra, .int .i64 s.wt.ba, .int .i64 s.wt.ho, .int .i64 s.wt.pr]) := fun v => by simp [Sr.cells, Sr.tl, Wt.cells]
  rw [show s.cells = Sr.cells { s with hz := s.hz } from rfl, e, e]; exact seg_spl (by simp [h]) rfl
theorem set_wt {s : Sr} (h : s.rt.length = 32) (x : Wt) : spl s.cells (0 + 38) x.cells = Sr.cells { s with wt := x } := by
  have e : ∀ x : Wt, Sr.cells { s with wt := x } = (.int .i64 s.id :: .int .i64 s.kd :: (bytes s.rt ++ [.int .i64 s.w, .int .i64 s.g, .int .i64 s.st, .int .i64 s.hz])) ++ (x.cells ++ []) := fun x => by simp [Sr.cells, Sr.tl]
  rw [show s.cells = Sr.cells { s with wt := s.wt } from rfl, e, e]; exact seg_spl (by simp [h]) rfl
theorem set_gate {s : Sr} (h : s.rt.length = 32) (a b c : Int) : spl s.cells (0 + 38 + 0) [.int .i64 a, .int .i64 b, .int .i64 c] = Sr.cells { s with wt := { s.wt with go := a, gg := b, gm := c } } := by
  have e : ∀ a b c : Int, Sr.cells { s with wt := { s.wt with go := a, gg := b, gm := c } } = (.int .i64 s.id :: .int .i64 s.kd :: (bytes s.rt ++ [.int .i64 s.w, .int .i64 s.g, .int .i64 s.st, .int .i64 s.hz])) ++ ([.int .i64 a, .int .i64 b, .int .i64 c] ++ [.int .i64 s.wt.sl, .int .i64 s.wt.mo, .int .i64 s.wt.sa, .int .i64 s.wt.ra, .int .i64 s.wt.ba, .int .i64 s.wt.ho, .int .i64 s.wt.pr]) := fun a b c => by simp [Sr.cells, Sr.tl, Wt.cells]
  rw [show s.cells = Sr.cells { s with wt := { s.wt with go := s.wt.go, gg := s.wt.gg, gm := s.wt.gm } } from rfl, e, e]; exact seg_spl (by simp [h]) rfl
theorem set_sl {s : Sr} (h : s.rt.length = 32) (v : Int) : spl s.cells (0 + 38 + 3) [.int .i64 v] = Sr.cells { s with wt := { s.wt with sl := v } } := by
  have e : ∀ v : Int, Sr.cells { s with wt := { s.wt with sl := v } } = (.int .i64 s.id :: .int .i64 s.kd :: (bytes s.rt ++ [.int .i64 s.w, .int .i64 s.g, .int .i64 s.st, .int .i64 s.hz, .int .i64 s.wt.go, .int .i64 s.wt.gg, .int .i64 s.wt.gm])) ++ ([.int .i64 v] ++ [.int .i64 s.wt.mo, .int .i64 s.wt.sa, .int .i64 s.wt.ra, .int .i64 s.wt.ba, .int .i64 s.wt.ho, .int .i64 s.wt.pr]) := fun v => by simp [Sr.cells, Sr.tl, Wt.cells]
  rw [show s.cells = Sr.cells { s with wt := { s.wt with sl := s.wt.sl } } from rfl, e, e]; exact seg_spl (by simp [h]) rfl
theorem set_mo {s : Sr} (h : s.rt.length = 32) (v : Int) : spl s.cells (0 + 38 + 4) [.int .i64 v] = Sr.cells { s with wt := { s.wt with mo := v } } := by
  have e : ∀ v : Int, Sr.cells { s with wt := { s.wt with mo := v } } = (.int .i64 s.id :: .int .i64 s.kd :: (bytes s.rt ++ [.int .i64 s.w, .int .i64 s.g, .int .i64 s.st, .int .i64 s.hz, .int .i64 s.wt.go, .int .i64 s.wt.gg, .int .i64 s.wt.gm, .int .i64 s.wt.sl])) ++ ([.int .i64 v] ++ [.int .i64 s.wt.sa, .int .i64 s.wt.ra, .int .i64 s.wt.ba, .int .i64 s.wt.ho, .int .i64 s.wt.pr]) := fun v => by simp [Sr.cells, Sr.tl, Wt.cells]
  rw [show s.cells = Sr.cells { s with wt := { s.wt with mo := s.wt.mo } } from rfl, e, e]; exact seg_spl (by simp [h]) rfl
theorem set_ra {s : Sr} (h : s.rt.length = 32) (v : Int) : spl s.cells (0 + 38 + 6) [.int .i64 v] = Sr.cells { s with wt := { s.wt with ra := v } } := by
  have e : ∀ v : Int, Sr.cells { s with wt := { s.wt with ra := v } } = (.int .i64 s.id :: .int .i64 s.kd :: (bytes s.rt ++ [.int .i64 s.w, .int .i64 s.g, .int .i64 s.st, .int .i64 s.hz, .int .i64 s.wt.go, .int .i64 s.wt.gg, .int .i64 s.wt.gm, .int .i64 s.wt.sl, .int .i64 s.wt.mo, .int .i64 s.wt.sa])) ++ ([.int .i64 v] ++ [.int .i64 s.wt.ba, .int .i64 s.wt.ho, .int .i64 s.wt.pr]) := fun v => by simp [Sr.cells, Sr.tl, Wt.cells]
  rw [show s.cells = Sr.cells { s with wt := { s.wt with ra := s.wt.ra } } from rfl, e, e]; exact seg_spl (by simp [h]) rfl
theorem plain_any (seed : B8) (id kd : Int) : Spc Tryz.prog 75 #[U8 seed, .int .i64 id, .int .i64 kd] [] [] (Is (.agg (plainS seed id kd).cells.toArray)) := by
  have hr := rootB_len seed id
  have hlen : ∀ s : Sr, s.rt = rootB seed id → s.cells.length = 48 := fun s h => sr_len (by rw [h]; exact hr)
  refine Spc.enter Tryz.func75 rfl rfl rfl (fun w0 hw0 => ?_)
  refine CW.seq (CW.region (ef := [0]) (bk := []) (RL.alloc Tryz.zeroValue98 rfl rfl rfl rfl rfl ?_))
  intro b1
  refine RL.nil (NQ.seq (CW.seq (CW.region (ef := [7, 8]) (bk := [8]) (RL.p rfl (RL.p rfl (RL.p rfl (RL.p rfl (RL.lowest Tryz.runUnderlying3 Tryz.runUnderlying5 rfl rfl rfl rfl (RL.buildA (bytes (rootB seed id)) Tryz.zeroValue29 Tryz.runUnderlying29 Tryz.sizeOf5 rfl rfl rfl rfl rfl (RL.buildS (noS seed id kd).cells Tryz.zeroValue98 pl_98 rfl rfl rfl rfl rfl (RL.alloc Tryz.zeroValue98 rfl rfl rfl rfl rfl ?_)))))))))))
  intro b2
  refine RL.storeW Tryz.sizeOf98 rfl rfl rfl rfl rfl rfl rfl (sr_ones _) (by repeat (first | exact Upd.here | apply Upd.there)) rfl rfl ?_
  refine RL.nil (NQ.seq (CW.ok [2, 6, 7] rfl (CW.seq (CW.seq (CW.rg (RL.loadW Tryz.isAgg98 Tryz.sizeOf98 rfl rfl rfl rfl (by repeat (first | exact List.Mem.head _ | apply List.Mem.tail)) rfl ?_))))))
  refine RL.callvq (aid_any (noS seed id kd)) Tryz.call113 rfl rfl rfl rfl ?_
  refine RL.p rfl (RL.nil (NQ.seq ?_))
  refine CW.cond rfl (fun h1 => ?_) (fun h1 => ?_)
  ·
    refine CW.seq (CW.region (ef := [1]) (bk := [1]) (RL.loadW Tryz.isAgg98 Tryz.sizeOf98 rfl rfl rfl rfl (by repeat (first | exact List.Mem.head _ | apply List.Mem.tail)) (hlen _ rfl) ?_))
    refine RL.storeW Tryz.sizeOf98 rfl rfl rfl rfl rfl rfl rfl (sr_ones _) (by repeat (first | exact Upd.here | apply Upd.there)) (hlen _ rfl) rfl ?_
    refine RL.nil (NQ.seq (CW.ret (RQ.seq ?_)))
    have h1' : aidB kd = false := by simpa [noS] using h1
    exact RQ.post (resW rfl rfl Tryz.isAgg98 Tryz.sizeOf98 (by repeat (first | exact List.Mem.head _ | apply List.Mem.tail)) (hlen _ rfl)) (Split.none _) ⟨by rw [plainS, h1', if_neg (by decide)], rfl, rfl⟩
  ·
    refine CW.skip (NQ.seq (CW.seq (CW.region (ef := [1, 3, 5, 7]) (bk := [1, 3, 5, 7]) (RL.fieldAddr fa_98_3 rfl rfl rfl rfl (RL.storeX (vs := [_]) (show spl (Sr.cells ⟨id, kd, rootB seed id, 0, 0, 0, 0, ⟨0, 0, 0, 0, 0, 0, 0, 0, 0, 0⟩⟩) (0 + 34) [.int .i64 1] = Sr.cells ⟨id, kd, rootB seed id, 1, 0, 0, 0, ⟨0, 0, 0, 0, 0, 0, 0, 0, 0, 0⟩⟩ from set_w hr _) Tryz.sizeOf3 rfl rfl rfl rfl rfl rfl rfl rfl (by repeat (first | exact Upd.here | apply Upd.there)) (by rw [hlen _ rfl]; decide) ?_)))))
    refine RL.fieldAddr fa_98_4 rfl rfl rfl rfl (RL.storeX (vs := [_]) (show spl (Sr.cells ⟨id, kd, rootB seed id, 1, 0, 0, 0, ⟨0, 0, 0, 0, 0, 0, 0, 0, 0, 0⟩⟩) (0 + 35) [.int .i64 2] = Sr.cells ⟨id, kd, rootB seed id, 1, 2, 0, 0, ⟨0, 0, 0, 0, 0, 0, 0, 0, 0, 0⟩⟩ from set_g hr _) Tryz.sizeOf3 rfl rfl rfl rfl rfl rfl rfl rfl (by repeat (first | exact Upd.here | apply Upd.there)) (by rw [hlen _ rfl]; decide) ?_)
    refine RL.fieldAddr fa_98_5 rfl rfl rfl rfl (RL.storeX (vs := [_]) (show spl (Sr.cells ⟨id, kd, rootB seed id, 1, 2, 0, 0, ⟨0, 0, 0, 0, 0, 0, 0, 0, 0, 0⟩⟩) (0 + 36) [.int .i64 4294967296] = Sr.cells ⟨id, kd, rootB seed id, 1, 2, 4294967296, 0, ⟨0, 0, 0, 0, 0, 0, 0, 0, 0, 0⟩⟩ from set_st hr _) Tryz.sizeOf23 rfl rfl rfl rfl rfl rfl rfl rfl (by repeat (first | exact Upd.here | apply Upd.there)) (by rw [hlen _ rfl]; decide) ?_)
    refine RL.fieldAddr fa_98_6 rfl rfl rfl rfl (RL.storeX (vs := [_]) (show spl (Sr.cells ⟨id, kd, rootB seed id, 1, 2, 4294967296, 0, ⟨0, 0, 0, 0, 0, 0, 0, 0, 0, 0⟩⟩) (0 + 37) [.int .i64 200] = Sr.cells ⟨id, kd, rootB seed id, 1, 2, 4294967296, 200, ⟨0, 0, 0, 0, 0, 0, 0, 0, 0, 0⟩⟩ from set_hz hr _) Tryz.sizeOf3 rfl rfl rfl rfl rfl rfl rfl rfl (by repeat (first | exact Upd.here | apply Upd.there)) (by rw [hlen _ rfl]; decide) ?_)
    refine RL.nil (NQ.seq (CW.ok [2, 6, 7] rfl (CW.seq (CW.region (ef := [3]) (bk := [3]) (RL.buildS [_, _, _] Tryz.zeroValue94 pl_94 rfl rfl rfl rfl rfl (RL.buildS [_, _, _, _, _, _, _, _, _, _] Tryz.zeroValue96 pl_96 rfl rfl rfl rfl rfl (RL.fieldAddr fa_98_7 rfl rfl rfl rfl (RL.storeX (vs := Wt.cells ⟨34359738368, 268435456, 274877906944, 1073741824, 137438953472, 50, 17179869184, 3, 300, 5⟩) (show spl (Sr.cells ⟨id, kd, rootB seed id, 1, 2, 4294967296, 200, ⟨0, 0, 0, 0, 0, 0, 0, 0, 0, 0⟩⟩) (0 + 38) (Wt.cells ⟨34359738368, 268435456, 274877906944, 1073741824, 137438953472, 50, 17179869184, 3, 300, 5⟩) = Sr.cells ⟨id, kd, rootB seed id, 1, 2, 4294967296, 200, ⟨34359738368, 268435456, 274877906944, 1073741824, 137438953472, 50, 17179869184, 3, 300, 5⟩⟩ from set_wt hr _) Tryz.sizeOf96 rfl rfl rfl rfl rfl rfl rfl rfl (by repeat (first | exact Upd.here | apply Upd.there)) (by rw [hlen _ rfl]; decide) ?_))))))))
    refine RL.nil (NQ.seq (CW.seq (CW.seq (CW.rg (RL.p rfl (RL.p rfl (RL.nil (NQ.seq ?_))))))))
    have h1' : aidB kd = true := by simpa [noS] using h1
    refine CW.cond rfl (fun h2 => ?_) (fun h2 => ?_)
    ·
      refine CW.seq (CW.region (ef := [1]) (bk := [1]) (RL.fieldAddr fa_98_5 rfl rfl rfl rfl (RL.storeX (vs := [_]) (show spl (Sr.cells ⟨id, kd, rootB seed id, 1, 2, 4294967296, 200, ⟨34359738368, 268435456, 274877906944, 1073741824, 137438953472, 50, 17179869184, 3, 300, 5⟩⟩) (0 + 36) [.int .i64 67108864] = Sr.cells ⟨id, kd, rootB seed id, 1, 2, 67108864, 200, ⟨34359738368, 268435456, 274877906944, 1073741824, 137438953472, 50, 17179869184, 3, 300, 5⟩⟩ from set_st hr _) Tryz.sizeOf23 rfl rfl rfl rfl rfl rfl rfl rfl (by repeat (first | exact Upd.here | apply Upd.there)) (by rw [hlen _ rfl]; decide) ?_)))
      refine RL.nil (NQ.seq (CW.ok [6, 7] rfl (CW.seq (CW.region (ef := [3]) (bk := [3]) (RL.buildS [_, _, _] Tryz.zeroValue94 pl_94 rfl rfl rfl rfl rfl (RL.fieldAddr fa_98_7 rfl rfl rfl rfl (RL.fieldAddr fa_96_0 rfl rfl rfl rfl (RL.storeX (vs := [_, _, _]) (show spl (Sr.cells ⟨id, kd, rootB seed id, 1, 2, 67108864, 200, ⟨34359738368, 268435456, 274877906944, 1073741824, 137438953472, 50, 17179869184, 3, 300, 5⟩⟩) (0 + 38 + 0) [.int .i64 268435456, .int .i64 1048576, .int .i64 1073741824] = Sr.cells ⟨id, kd, rootB seed id, 1, 2, 67108864, 200, ⟨268435456, 1048576, 1073741824, 1073741824, 137438953472, 50, 17179869184, 3, 300, 5⟩⟩ from set_gate hr _ _ _) Tryz.sizeOf94 rfl rfl rfl rfl rfl rfl rfl rfl (by repeat (first | exact Upd.here | apply Upd.there)) (by rw [hlen _ rfl]; decide) ?_))))))))
      refine RL.nil (NQ.seq (CW.region (ef := [2, 5, 8]) (bk := [2, 5, 8]) (RL.fieldAddr fa_98_7 rfl rfl rfl rfl (RL.fieldAddr fa_96_1 rfl rfl rfl rfl (RL.storeX (vs := [_]) (show spl (Sr.cells ⟨id, kd, rootB seed id, 1, 2, 67108864, 200, ⟨268435456, 1048576, 1073741824, 1073741824, 137438953472, 50, 17179869184, 3, 300, 5⟩⟩) (0 + 38 + 3) [.int .i64 16777216] = Sr.cells ⟨id, kd, rootB seed id, 1, 2, 67108864, 200, ⟨268435456, 1048576, 1073741824, 16777216, 137438953472, 50, 17179869184, 3, 300, 5⟩⟩ from set_sl hr _) Tryz.sizeOf23 rfl rfl rfl rfl rfl rfl rfl rfl (by repeat (first | exact Upd.here | apply Upd.there)) (by rw [hlen _ rfl]; decide) ?_)))))
      refine RL.fieldAddr fa_98_7 rfl rfl rfl rfl (RL.fieldAddr fa_96_2 rfl rfl rfl rfl (RL.storeX (vs := [_]) (show spl (Sr.cells ⟨id, kd, rootB seed id, 1, 2, 67108864, 200, ⟨268435456, 1048576, 1073741824, 16777216, 137438953472, 50, 17179869184, 3, 300, 5⟩⟩) (0 + 38 + 4) [.int .i64 1073741824] = Sr.cells ⟨id, kd, rootB seed id, 1, 2, 67108864, 200, ⟨268435456, 1048576, 1073741824, 16777216, 1073741824, 50, 17179869184, 3, 300, 5⟩⟩ from set_mo hr _) Tryz.sizeOf23 rfl rfl rfl rfl rfl rfl rfl rfl (by repeat (first | exact Upd.here | apply Upd.there)) (by rw [hlen _ rfl]; decide) ?_))
      refine RL.fieldAddr fa_98_7 rfl rfl rfl rfl (RL.fieldAddr fa_96_4 rfl rfl rfl rfl (RL.storeX (vs := [_]) (show spl (Sr.cells ⟨id, kd, rootB seed id, 1, 2, 67108864, 200, ⟨268435456, 1048576, 1073741824, 16777216, 1073741824, 50, 17179869184, 3, 300, 5⟩⟩) (0 + 38 + 6) [.int .i64 2147483648] = Sr.cells ⟨id, kd, rootB seed id, 1, 2, 67108864, 200, ⟨268435456, 1048576, 1073741824, 16777216, 1073741824, 50, 2147483648, 3, 300, 5⟩⟩ from set_ra hr _) Tryz.sizeOf23 rfl rfl rfl rfl rfl rfl rfl rfl (by repeat (first | exact Upd.here | apply Upd.there)) (by rw [hlen _ rfl]; decide) ?_))
      refine RL.nil (NQ.seq (CW.ok [6, 7] rfl (CW.seq (CW.region (ef := [1]) (bk := [1]) (RL.loadW Tryz.isAgg98 Tryz.sizeOf98 rfl rfl rfl rfl (by repeat (first | exact List.Mem.head _ | apply List.Mem.tail)) (hlen _ rfl) ?_)))))
      refine RL.storeW Tryz.sizeOf98 rfl rfl rfl rfl rfl rfl rfl (sr_ones _) (by repeat (first | exact Upd.here | apply Upd.there)) (hlen _ rfl) rfl ?_
      refine RL.nil (NQ.seq (CW.ret ?_))
      have h2 : kd = 3 := by simpa using h2
      exact RQ.post (resW rfl rfl Tryz.isAgg98 Tryz.sizeOf98 (by repeat (first | exact List.Mem.head _ | apply List.Mem.tail)) (hlen _ rfl)) (Split.none _) ⟨by rw [plainS, if_pos h1', if_pos h2]; rfl, rfl, rfl⟩
    ·
      refine CW.skip (NQ.seq (CW.ok [6, 7] rfl (CW.seq (CW.region (ef := [1]) (bk := [1]) (RL.loadW Tryz.isAgg98 Tryz.sizeOf98 rfl rfl rfl rfl (by repeat (first | exact List.Mem.head _ | apply List.Mem.tail)) (hlen _ rfl) ?_)))))
      refine RL.storeW Tryz.sizeOf98 rfl rfl rfl rfl rfl rfl rfl (sr_ones _) (by repeat (first | exact Upd.here | apply Upd.there)) (hlen _ rfl) rfl ?_
      refine RL.nil (NQ.seq (CW.ret ?_))
      have h2 : kd ≠ 3 := by simpa using h2
      exact RQ.post (resW rfl rfl Tryz.isAgg98 Tryz.sizeOf98 (by repeat (first | exact List.Mem.head _ | apply List.Mem.tail)) (hlen _ rfl)) (Split.none _) ⟨by rw [plainS, if_pos h1', if_neg h2]; rfl, rfl, rfl⟩
end Go.Proofs.YthndhipjfdgdfaaGreatDoor

namespace Go.Proofs.YthndhipjfdgdfaaGreatDoor
open Go.PK
/-! ### Contains; the plain configuration -/
def kindL : List Int := [1, 2, 3, 4, 5, 8]
def kindN (i : Nat) : Int := kindL.getD i 0
def plainL (seed : B8) (gone : List Int) (i : Nat) : List Sr := ((List.range i).filter fun j : Nat => !gone.contains (j : Int)).map fun j : Nat => plainS seed (j : Int) (kindN j)
def plainC (seed : B8) (gone : List Int) : Cf := ⟨0, 0, 42949672960, 4194304, ⟨0, 100, 2, 20⟩, List.replicate 32 0, 5, 500, 100, 64, plainL seed gone 6⟩
theorem plainL_yes {seed : B8} {gone : List Int} {i : Nat} (h : gone.contains (i : Int) = true) : plainL seed gone (i + 1) = plainL seed gone i := by
  have h' : (i : Int) ∈ gone := by simpa using h
  simp [plainL, List.range_succ, List.filter_append, h']
theorem plainL_no {seed : B8} {gone : List Int} {i : Nat} (h : gone.contains (i : Int) = false) : plainL seed gone (i + 1) = plainL seed gone i ++ [plainS seed (i : Int) (kindN i)] := by
  have h' : ¬ (i : Int) ∈ gone := by simpa using h
  simp [plainL, List.range_succ, List.filter_append, h']
theorem plainL_len (seed : B8) (gone : List Int) (i : Nat) : (plainL seed gone i).length ≤ i := by
  rw [plainL, List.length_map]; exact Nat.le_trans (List.length_filter_le _ _) (by simp)
theorem plainS_rt (seed : B8) (id kd : Int) : (plainS seed id kd).rt = rootB seed id := by
  unfold plainS; split
  · split <;> rfl
  · rfl
theorem plainS_len (seed : B8) (id kd : Int) : (plainS seed id kd).cells.length = 48 := sr_len (by rw [plainS_rt]; exact rootB_len _ _)
def idxI (n : Int) (l : List Int) : Int := match l.findIdx? (fun x => n == x) with
  | some i => (i : Int)
  | none => -1
theorem idxI_no {n : Int} {l : List Int} (h : ∀ j < l.length, ∀ x, l[j]? = some x → (n == x) = false) : idxI n l = -1 := by
  rw [idxI, List.findIdx?_eq_none_iff.2 (fun x hx => by
    obtain ⟨j, hj, rfl⟩ := List.mem_iff_getElem.1 hx
    exact h j hj _ (List.getElem?_eq_getElem hj))]
theorem idxI_yes {n : Int} {l : List Int} {i : Nat} {x : Int} (hx : l[i]? = some x) (hp : (n == x) = true) (h : ∀ j < i, ∀ x, l[j]? = some x → (n == x) = false) : idxI n l = i := by
  obtain ⟨hlt, rfl⟩ := List.getElem?_eq_some_iff.1 hx
  rw [idxI, List.findIdx?_eq_some_iff_getElem.2 ⟨hlt, hp, fun j hj => by
    have := h j hj _ (List.getElem?_eq_getElem (by omega)); rw [this]; decide⟩]
theorem idxI_has (n : Int) (l : List Int) : decide (idxI n l ≥ 0) = l.contains n := by
  rw [Bool.eq_iff_iff, decide_eq_true_iff, List.contains_iff_mem, idxI]
  cases h : l.findIdx? (fun x => n == x) with
  | none =>
    have := List.findIdx?_eq_none_iff.1 h
    simp only
    constructor
    · intro h; omega
    · intro hm; have := this n hm; simp at this
  | some i =>
    obtain ⟨hlt, hp, -⟩ := List.findIdx?_eq_some_iff_getElem.1 h
    simp only
    refine ⟨fun _ => ?_, fun _ => by omega⟩
    have : n = l[i] := by simpa using hp
    rw [this]; exact List.getElem_mem _
theorem index_int (p : Option Addr) (c m : Nat) (l : List Int) (n : Int) (hm : l.length = m) (hb : m ≤ 1000000) : Spc Tryz.prog 112 #[.slice p m c, .int .i64 n] [sls p 1 m (ints l)] [] (Is (.int .i64 (idxI n l))) := by
  subst hm
  refine Spc.enter Tryz.func112 rfl rfl rfl (fun w0 hw0 => ?_)
  refine CW.seq (CW.rg (RL.p rfl (RL.nil (NQ.seq (CW.seq (CW.seq (CW.rg (RL.p rfl (RL.lenS Tryz.runUnderlying61 rfl rfl rfl rfl (RL.p rfl (RL.nil (NQ.seq (CW.block ?_)))))))))))))
  refine CW.genI (fun J hJ => ?_)
  have m2 : sls p 1 l.length (ints l) ∈ J := hJ _ (by simp)
  clear hJ
  refine CW.loop (γ := Nat) (fun i => i ≤ l.length ∧ (∀ j < i, ∀ x, l[j]? = some x → (n == x) = false)) (fun i => [(0, .slice p l.length c), (1, .int .i64 n), (7, .int .i64 (l.length : Int)), (8, .int .i64 (i : Int))]) (fun _ => J) (fun _ => []) (fun i => l.length - i) 0 ⟨Nat.zero_le _, fun j h => by omega⟩ (.cons rfl (.cons rfl (.cons rfl (.cons rfl .nil)))) (fun w h => h.rea (fun _ h => h) (by repeat (first | exact Rea.nil | (apply Rea.cons; (solve | (repeat (first | exact Del.here | apply Del.there))))))) ?_
  rintro i ⟨hi, hok⟩
  refine CW.fact (p := p = none → l.length = 0) (fun w hC e => sls_nil (hC.s.i _ m2) e) (fun hpa => ?_)
  refine CW.seq (CW.rg (RL.p rfl (RL.nil (NQ.seq (CW.seq ?_)))))
  refine CW.cond rfl (fun hlt => ?_) (fun hlt => ?_)
  ·
    have hlt : i < l.length := by simp at hlt; omega
    cases p with
    | none => exact absurd (hpa rfl) (by omega)
    | some a =>
    have hx := List.getElem?_eq_getElem hlt
    generalize l[i] = x at hx
    have f1 := RdI.sls m2 hx
    refine CW.skip (NQ.seq (CW.seq (CW.block (CW.seq (CW.rg (RL.p rfl (RL.p rfl (RL.nil (NQ.seq (CW.seq (CW.rg (RL.p rfl (RL.p rfl ?_)))))))))))))
    refine RL.p rfl ?_
    first | refine RL.idxAt (j := i) Tryz.runUnderlying61 Tryz.sizeOf3 rfl rfl rfl rfl rfl rfl (hlt) ?_ | refine RL.idx (j := i) Tryz.runUnderlying61 Tryz.sizeOf3 rfl rfl rfl rfl rfl rfl (hlt) ?_
    refine RL.loadq Tryz.isAgg3 rfl rfl rfl rfl ?_
    refine RL.p rfl (RL.nil (NQ.seq (CW.ok [0, 1, 5, 7, 8, 16] rfl ?_)))
    refine CW.cond rfl (fun hp => ?_) (fun hp => ?_)
    ·
      refine CW.seq (CW.rg (RL.p rfl (RL.p rfl (RL.nil (NQ.seq (CW.ret (RQ.block (RQ.seq (RQ.seq (RQ.block (RQ.seq ?_)))))))))))
      exact RQ.post (res1 rfl rfl) (Split.none _) ⟨by rw [idxI_yes hx hp hok], rfl, rfl⟩
    ·
      refine CW.skip (NQ.block (NQ.seq (CW.rg (RL.bx rfl (wrapV_i64 (by omega) (by omega)) ?_))))
      refine RL.p rfl (RL.nil ?_)
      refine NQ.round (g := i) (i + 1) ⟨hlt, fun j hj y hy => ?_⟩ (by show l.length - (i + 1) < l.length - i; omega) (.cons rfl (.cons rfl (.cons rfl (.cons rfl .nil)))) (fun w h => h.rea (fun _ h => h) (by repeat (first | exact Rea.nil | (apply Rea.cons; (solve | (repeat (first | exact Del.here | apply Del.there)))))))
      rcases Nat.lt_succ_iff_lt_or_eq.1 hj with hj | rfl
      · exact hok j hj y hy
      · rw [hx] at hy; cases hy; exact hp
  ·
    refine CW.exit (XQ.seq (XQ.seq (XQ.hit (NQ.seq (CW.seq (CW.rg (RL.p rfl (RL.nil (NQ.seq (CW.ret ?_))))))))))
    have hin : i = l.length := by simp at hlt; omega
    subst hin
    exact RQ.post (res1 rfl rfl) (Split.none _) ⟨by rw [idxI_no hok], rfl, rfl⟩
theorem cont_int (p : Option Addr) (c m : Nat) (l : List Int) (n : Int) (hm : l.length = m) (hb : m ≤ 1000000) : Spc Tryz.prog 74 #[.slice p m c, .int .i64 n] [sls p 1 m (ints l)] [] (Is (.bool (l.contains n))) := by
  refine Spc.enter Tryz.func74 rfl rfl rfl (fun w0 hw0 => ?_)
  refine CW.seq (CW.rg (RL.p rfl (RL.nil (NQ.seq (CW.seq (CW.rg (RL.p rfl (RL.p rfl (RL.callvq (index_int p c m l n hm hb) Tryz.call112 rfl rfl rfl rfl ?_)))))))))
  refine RL.p rfl (RL.p rfl (RL.nil (NQ.seq (CW.ok [4] rfl (CW.ret ?_)))))
  exact RQ.post (res1 rfl rfl) (Split.none _) ⟨by rw [← idxI_has], rfl, rfl⟩
theorem splain_any (seed : B8) (p : Option Addr) (c m : Nat) (gone : List Int) (hm : gone.length = m) (hb : m ≤ 1000000) : Spc Tryz.prog 42 #[U8 seed, .slice p m c] [sls p 1 m (ints gone)] [] (CfR 98 (plainC seed gone)) := by
  subst hm
  have hcm : (plainC seed gone).cm.length = 32 := rfl
  have hl45 := fun sl => cf_len hcm sl
  refine Spc.enter Tryz.func42 rfl rfl rfl (fun w0 hw0 => ?_)
  refine CW.seq (CW.region (ef := [0]) (bk := []) (RL.alloc Tryz.zeroValue32 rfl rfl rfl rfl rfl ?_))
  intro b1
  refine RL.nil (NQ.seq (CW.seq (CW.region (ef := [3, 4]) (bk := [4]) (RL.buildA [_, _, _] Tryz.zeroValue25 Tryz.runUnderlying25 Tryz.sizeOf23 rfl rfl rfl rfl rfl (RL.buildS [_, _, _, _] Tryz.zeroValue27 pl_27 rfl rfl rfl rfl rfl (RL.buildS ((plainC seed gone).cells (.slice none 0 0)) Tryz.zeroValue32 pl_32 rfl rfl rfl rfl rfl (RL.alloc Tryz.zeroValue32 rfl rfl rfl rfl rfl ?_)))))))
  intro b2
  refine RL.storeW Tryz.sizeOf32 rfl rfl rfl rfl rfl rfl rfl (cf_ones _ rfl) (by repeat (first | exact Upd.here | apply Upd.there)) (hl45 _) rfl ?_
  refine RL.nil (NQ.seq (CW.seq (CW.seq (CW.region (ef := [0]) (bk := []) (RL.buildSlice [_, _, _, _, _, _] Tryz.runUnderlying61 Tryz.sizeOf3 Tryz.zeroValue3 rfl rfl (by decide) (by decide) rfl rfl rfl rfl rfl rfl ?_)))))
  intro b3
  refine RL.lenS Tryz.runUnderlying61 rfl rfl rfl rfl (RL.p rfl (RL.nil (NQ.seq (CW.block (CW.freezeP (A := [cel b3 [.int .i64 1, .int .i64 2, .int .i64 3, .int .i64 4, .int .i64 5, .int .i64 8] 3]) (B := [cel b2 ((plainC seed gone).cells (.slice none 0 0)) 32, cel b1 (zeroC.cells (.slice none 0 0)) 32]) (by repeat (first | exact Pick.nil | apply Pick.take | apply Pick.leave)) rfl ?_)))))
  refine CW.genI (fun J hJ => ?_)
  have m2 : sls p 1 gone.length (ints gone) ∈ J := hJ _ (List.Mem.tail _ (List.Mem.head _))
  have m3 : cel b3 [.int .i64 1, .int .i64 2, .int .i64 3, .int .i64 4, .int .i64 5, .int .i64 8] 3 ∈ J := hJ _ (List.Mem.head _)
  clear hJ
  refine CW.ownNone (e := 98) 48 ?_
  refine CW.loop (γ := Nat × Option Nat × Nat × Nat) (fun g => g.1 ≤ 6 ∧ g.2.2.2 = (plainL seed gone g.1).length) (fun g => [(0, U8 seed), (1, .slice p gone.length c), (4, .pointer (some ⟨b1, 0, none⟩)), (5, .pointer (some ⟨b2, 0, none⟩)), (11, .slice (some ⟨b3, 0, none⟩) 6 6), (12, .int .i64 6), (13, .int .i64 (g.1 : Int))]) (fun _ => J)
    (fun g => [cel b2 ((plainC seed gone).cells (slO g.2.1 g.2.2.2 g.2.2.1)) 32, own g.2.1 g.2.2.1 98 48 g.2.2.2 ((plainL seed gone g.1).flatMap Sr.cells), cel b1 (zeroC.cells (.slice none 0 0)) 32]) (fun g => 6 - g.1) (0, none, 0, 0) ⟨Nat.zero_le _, rfl⟩ (.cons rfl (.cons rfl (.cons rfl (.cons rfl (.cons rfl (.cons rfl (.cons rfl .nil))))))) (fun w h => h.rea (fun _ h => h) (by repeat (first | exact Rea.nil | (apply Rea.cons; (solve | (repeat (first | exact Del.here | apply Del.there))))))) ?_
  rintro ⟨i, ob, cp, n⟩ ⟨hi, hn⟩
  dsimp only at hi hn ⊢
  have hnb : n ≤ 6 := by rw [hn]; exact Nat.le_trans (plainL_len _ _ _) hi
  refine CW.seq (CW.rg (RL.p rfl (RL.nil (NQ.seq (CW.seq ?_)))))
  refine CW.cond rfl (fun hlt => ?_) (fun hlt => ?_)
  ·
    have hlt : i < 6 := by simp at hlt; omega
    have hsl := plainS_len seed (i : Int) (kindN i)
    have hk : ([.int .i64 1, .int .i64 2, .int .i64 3, .int .i64 4, .int .i64 5, .int .i64 8] : List Value)[0 + i * 1]? = some (.int .i64 (kindN i)) := by
      match i, hlt with
      | 0, _ => rfl
      | 1, _ => rfl
      | 2, _ => rfl
      | 3, _ => rfl
      | 4, _ => rfl
      | 5, _ => rfl
    have fK : RdI J ⟨b3, 0 + i * 1, none⟩ (.int .i64 (kindN i)) := ⟨fun _ => Rd.getI m3 hk⟩
    refine CW.skip (NQ.seq (CW.seq (CW.block (CW.seq (CW.rg (RL.p rfl ?_))))))
    first | refine RL.idxAt (j := i) Tryz.runUnderlying61 Tryz.sizeOf3 rfl rfl rfl rfl rfl rfl (hlt) ?_ | refine RL.idx (j := i) Tryz.runUnderlying61 Tryz.sizeOf3 rfl rfl rfl rfl rfl rfl (hlt) ?_
    refine RL.loadq Tryz.isAgg3 rfl rfl rfl rfl ?_
    refine RL.p rfl (RL.p rfl (RL.nil (NQ.seq (CW.seq (CW.rg (RL.p rfl (RL.p rfl (RL.callv (cont_int p c _ gone (i : Int) rfl hb) Tryz.call74 rfl rfl rfl rfl (.inI m2 .nil) (RL.p rfl (RL.nil (NQ.seq (CW.ok [0, 1, 4, 5, 6, 7, 11, 12, 13, 21] rfl ?_))))))))))))
    refine CW.cond rfl (fun hg => ?_) (fun hg => ?_)
    ·
      have hg' : gone.contains (i : Int) = false := by simpa using hg
      have hsn := plainL_no (seed := seed) hg'
      refine CW.regionD (Sq.of [0, 1, 2, 3, 4, 5, 6, 7, 8, 9]) [6, 7, 9] [7, 9] [0, 2, 3, 4, 5, 8] mixed (by kernel_rfl) ?_
      first | refine RL.fieldAddr fa_32_0 rfl rfl rfl rfl ?_ | refine RL.fieldAddrG fa_32_0 rfl rfl rfl rfl ?_
      refine RL.load Tryz.isAgg22 rfl rfl rfl rfl (Rd.cel (by repeat (first | exact List.Mem.head _ | apply List.Mem.tail)) rfl) ?_
      refine RL.p rfl (RL.p rfl (RL.p rfl (RL.callTq (plain_any seed (i : Int) (kindN i)) Tryz.call75 rfl rfl rfl rfl ?_)))
      refine RL.buildSlice (plainS seed (i : Int) (kindN i)).cells Tryz.runUnderlying22 Tryz.sizeOf98 Tryz.zeroValue98 rfl rfl (by decide) (by decide) rfl rfl rfl rfl rfl (fill_one48 hsl rfl) ?_
      intro b4
      refine RL.appendA el_22 rfl rfl rfl rfl rfl rfl rfl (by first | exact ⟨(.take (Pick.none _)), rfl⟩ | exact ⟨(.leave (.take (Pick.none _))), rfl⟩ | exact ⟨(.leave (.leave (.take (Pick.none _)))), rfl⟩ | exact ⟨(.leave (.leave (.leave (.take (Pick.none _))))), rfl⟩ | exact ⟨(.leave (.leave (.leave (.leave (.take (Pick.none _)))))), rfl⟩ | exact ⟨(.leave (.leave (.leave (.leave (.leave (.take (Pick.none _))))))), rfl⟩ | exact ⟨(.leave (.leave (.leave (.leave (.leave (.leave (.take (Pick.none _)))))))), rfl⟩ | exact ⟨(.leave (.leave (.leave (.leave (.leave (.leave (.leave (.take (Pick.none _))))))))), rfl⟩ | exact ⟨(.leave (.leave (.leave (.leave (.leave (.leave (.leave (.leave (.take (Pick.none _)))))))))), rfl⟩ | exact ⟨(.leave (.leave (.leave (.leave (.leave (.leave (.leave (.leave (.leave (.take (Pick.none _))))))))))), rfl⟩) (Src.cel (cs := (plainS seed (i : Int) (kindN i)).cells) (by repeat (first | exact List.Mem.head _ | apply List.Mem.tail)) hsl) (ones_spec (sr_ones _)) (by first | omega | (simp only [maxLen]; omega)) (by first | omega | (simp only [maxLen]; omega)) ?_
      intro ob1 cap1 ho1
      first | refine RL.fieldAddr fa_32_0 rfl rfl rfl rfl ?_ | refine RL.fieldAddrG fa_32_0 rfl rfl rfl rfl ?_
      refine RL.storeX (vs := [_]) cf_set Tryz.sizeOf22 rfl rfl rfl rfl rfl rfl rfl rfl (by repeat (first | exact Upd.here | apply Upd.there)) (by rw [hl45]; show 0 + 0 + 1 ≤ 45; decide) ?_
      refine RL.nil (NQ.block (NQ.seq (CW.ok [0, 1, 4, 5, 11, 12, 13] rfl (CW.rg (RL.bx rfl (wrapV_i64 (by omega) (by omega)) ?_)))))
      refine RL.p rfl (RL.nil ?_)
      refine NQ.round (g := (i, ob, cp, n)) (i + 1, ob1, cap1, n + 1) ⟨hlt, by rw [hsn]; simp [hn]⟩ (by show 6 - (i + 1) < 6 - i; omega) (.cons rfl (.cons rfl (.cons rfl (.cons rfl (.cons rfl (.cons rfl (.cons rfl .nil))))))) (fun w h => h.rea (H' := [cel b2 ((plainC seed gone).cells (slO ob1 (n + 1) cap1)) 32, own ob1 cap1 98 48 (n + 1) ((plainL seed gone (i + 1)).flatMap Sr.cells), cel b1 (zeroC.cells (.slice none 0 0)) 32]) (fun _ h => h) (by rw [hsn, List.flatMap_append, List.flatMap_cons, List.flatMap_nil, List.append_nil]; exact (by repeat (first | exact Rea.nil | (apply Rea.cons; (solve | (repeat (first | exact Del.here | apply Del.there))))))))
    ·
      refine CW.skip (NQ.block (NQ.seq (CW.rg (RL.bx rfl (wrapV_i64 (by omega) (by omega)) ?_))))
      refine RL.p rfl (RL.nil ?_)
      have hg' : gone.contains (i : Int) = true := by simpa using hg
      have hsn := plainL_yes (seed := seed) hg'
      refine NQ.round (g := (i, ob, cp, n)) (i + 1, ob, cp, n) ⟨hlt, by rw [hsn, hn]⟩ (by show 6 - (i + 1) < 6 - i; omega) (.cons rfl (.cons rfl (.cons rfl (.cons rfl (.cons rfl (.cons rfl (.cons rfl .nil))))))) (fun w h => by rw [hsn]; exact h.rea (fun _ h => h) (by repeat (first | exact Rea.nil | (apply Rea.cons; (solve | (repeat (first | exact Del.here | apply Del.there)))))))
  ·
    have hin : i = 6 := by simp at hlt; omega
    subst hin
    refine CW.exit (XQ.seq (XQ.seq (XQ.hit (NQ.seq (CW.ok [4, 5] rfl (CW.seq (CW.region (ef := [1]) (bk := [1]) (RL.loadW Tryz.isAgg32 Tryz.sizeOf32 rfl rfl rfl rfl (by repeat (first | exact List.Mem.head _ | apply List.Mem.tail)) (hl45 _) ?_))))))))
    refine RL.storeW Tryz.sizeOf32 rfl rfl rfl rfl rfl rfl rfl (cf_ones _ rfl) (by repeat (first | exact Upd.here | apply Upd.there)) (hl45 _) rfl ?_
    refine RL.nil (NQ.seq (CW.ret ?_))
    subst hn
    refine RQ.rea (fun _ h => h) (H' := [own ob cp 98 48 (plainC seed gone).L.length ((plainC seed gone).L.flatMap Sr.cells), cel b1 ((plainC seed gone).cells (slO ob (plainC seed gone).L.length cp)) 32]) (by repeat (first | exact Rea.nil | (apply Rea.cons; (solve | (repeat (first | exact Del.here | apply Del.there)))))) ?_
    exact RQ.post (resW rfl rfl Tryz.isAgg32 Tryz.sizeOf32 (by repeat (first | exact List.Mem.head _ | apply List.Mem.tail)) (hl45 _)) (.keep (Split.none _)) ⟨ob, cp, rfl, rfl, rfl⟩
end Go.Proofs.YthndhipjfdgdfaaGreatDoor

namespace Go.Proofs.YthndhipjfdgdfaaGreatDoor
open Go.PK
/-! ### The example; SetupTells -/
theorem plainS_fit (seed : B8) (id kd : Int) : (plainS seed id kd).Fit := by
  refine ⟨by rw [plainS_rt]; exact rootB_len _ _, ?_, ?_, ?_⟩ <;> unfold plainS <;> (repeat' split) <;> simp [magS, aidS, noS, i64]
theorem plainL_fit (seed : B8) (gone : List Int) (i : Nat) : ∀ s ∈ plainL seed gone i, s.Fit := fun s hs => by
  obtain ⟨j, -, rfl⟩ := List.mem_map.1 hs
  exact plainS_fit _ _ _
theorem plainC_fit (seed : B8) (gone : List Int) : (plainC seed gone).Fit := ⟨rfl, plainL_fit _ _ _⟩
end Go.Proofs.YthndhipjfdgdfaaGreatDoor

namespace Go.Proofs.YthndhipjfdgdfaaGreatDoor
open Go.PK
/-! ### SetupTells -/
end Go.Proofs.YthndhipjfdgdfaaGreatDoor

namespace Go.Proofs.YthndhipjfdgdfaaGreatDoor
open Go.PK
/-! ### Readers; the law SetupTells -/
noncomputable def rU8 : Rdr Tryz.prog 5 B8 := Rdr.u8 (by kernel_rfl) (by kernel_rfl)
noncomputable def rInt : Rdr Tryz.prog 3 Int := Rdr.int .i64 (by kernel_rfl) (by kernel_rfl)
noncomputable def rFix : Rdr Tryz.prog 23 Int := Rdr.int .i64 (by kernel_rfl) (by kernel_rfl)
noncomputable def rU64 : Rdr Tryz.prog 30 Int := Rdr.int .u64 (by kernel_rfl) (by kernel_rfl)
noncomputable def rKey : Rdr Tryz.prog 29 (List B8) := rU8.array 32 1 (by kernel_rfl) (by kernel_rfl) (by kernel_rfl) (List.map U8) (flat_one U8)
noncomputable def rVec : Rdr Tryz.prog 25 (List Int) := rFix.array 3 1 (by kernel_rfl) (by kernel_rfl) (by kernel_rfl) (List.map (Value.int .i64)) (flat_one (Value.int .i64))
set_option maxRecDepth 100000
structure Wt.Fit (x : Wt) : Prop where
  mo : i64 x.mo
  sl : i64 x.sl
  gm : i64 x.gm
structure CfA where
  c : Cf
  p : Option Addr
  cap : Nat
structure CfA.Ok (x : CfA) : Prop where
  f : x.c.Fit
  l : x.c.L.length ≤ x.cap
  b : x.c.L.length ≤ maxLen
abbrev CfA.sl (x : CfA) : Value := .slice x.p x.c.L.length x.cap
end Go.Proofs.YthndhipjfdgdfaaGreatDoor

namespace Go.Proofs.YthndhipjfdgdfaaGreatDoor
open Go.PK
/-! ### The reference's plain configuration -/
end Go.Proofs.YthndhipjfdgdfaaGreatDoor
