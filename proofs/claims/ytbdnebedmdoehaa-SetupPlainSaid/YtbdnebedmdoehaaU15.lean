import Derived.Test.YtbdnebedmdoehaaU14
namespace Go.Proofs.Ytbdnebedmdoehaa
open Go.PK
/-! ### A plain source -/
def rootB (seed : B8) (id : Int) : List B8 := seed :: BitVec.ofInt 8 id :: List.replicate 30 (0#8)
def noS (seed : B8) (id kd : Int) : Sr := ⟨id, kd, rootB seed id, 0, 0, 0, 0, ⟨0, 0, 0, 0, 0, 0, 0, 0, 0, 0⟩⟩
def aidS (seed : B8) (id kd : Int) : Sr := ⟨id, kd, rootB seed id, 1, 2, 4294967296, 200, ⟨34359738368, 268435456, 274877906944, 1073741824, 137438953472, 50, 17179869184, 3, 300, 5⟩⟩
def magS (seed : B8) (id kd : Int) : Sr := ⟨id, kd, rootB seed id, 1, 2, 67108864, 200, ⟨268435456, 1048576, 1073741824, 16777216, 1073741824, 50, 2147483648, 3, 300, 5⟩⟩
def plainS (seed : B8) (id kd : Int) : Sr := if aidB kd = true then (if kd = 3 then magS seed id kd else aidS seed id kd) else noS seed id kd
theorem rootB_len (seed : B8) (id : Int) : (rootB seed id).length = 32 := by simp [rootB]
theorem set_w {s : Sr} (h : s.rt.length = 32) (v : Int) : spl s.cells (0 + 34) [.int .i64 v] = Sr.cells { s with w := v } := by
  have e : ∀ v : Int, Sr.cells { s with w := v } = (.int .i64 s.id :: .int .i64 s.kd :: (bytes s.rt ++ [])) ++ ([.int .i64 v] ++ [.int .i64 s.g, .int .i64 s.st, .int .i64 s.hz, .int .i64 s.wt.go, .int .i64 s.wt.gg, .int .i64 s.wt.gm, .int .i64 s.wt.sl, .int .i64 s.wt.mo, .int .i64 s.wt.sa, .int .i64 s.wt.ra, .int .i64 s.wt.ba, .int .i64 s.wt.ho, .int .i64 s.wt.pr]) := fun v => by simp [Sr.cells, Sr.tl, Wt.cells]
  rw [show s.cells = Sr.cells { s with w := s.w } from rfl, e, e]; exact seg_spl (by simp [h]) rfl
theorem set_g {s : Sr} (h : s.rt.length = 32) (v : Int) : spl s.cells (0 + 35) [.int .i64 v] = Sr.cells { s with g := v } := by
  have e : ∀ v : Int, Sr.cells { s with g := v } = (.int .i64 s.id :: .int .i64 s.kd :: (bytes s.rt ++ [.int .i64 s.w])) ++ ([.int .i64 v] ++ [.int .i64 s.st, .int .i64 s.hz, .int .i64 s.wt.go, .int .i64 s.wt.gg, .int .i64 s.wt.gm, .int .i64 s.wt.sl, .int .i64 s.wt.mo, .int .i64 s.wt.sa, .int .i64 s.wt.ra, .int .i64 s.wt.ba, .int .i64 s.wt.ho, .int .i64 s.wt.pr]) := fun v => by simp [Sr.cells, Sr.tl, Wt.cells]
  rw [show s.cells = Sr.cells { s with g := s.g } from rfl, e, e]; exact seg_spl (by simp [h]) rfl
theorem set_st {s : Sr} (h : s.rt.length = 32) (v : Int) : spl s.cells (0 + 36) [.int .i64 v] = Sr.cells { s with st := v } := by
  have e : ∀ v : Int, Sr.cells { s with st := v } = (.int .i64 s.id :: .int .i64 s.kd :: (bytes s.rt ++ [.int .i64 s.w, .int .i64 s.g])) ++ ([.int .i64 v] ++ [.int .i64 s.hz, .int .i64 s.wt.go, .int .i64 s.wt.gg, .int .i64 s.wt.gm, .int .i64 s.wt.sl, .int .i64 s.wt.mo, .int .i64 s.wt.sa, .int .i64 s.wt.ra, .int .i64 s.wt.ba, .int .i64 s.wt.ho, .int .i64 s.wt.pr]) := fun v => by simp [Sr.cells, Sr.tl, Wt.cells]
  rw [show s.cells = Sr.cells { s with st := s.st } from rfl, e, e]; exact seg_spl (by simp [h]) rfl
theorem set_hz {s : Sr} (h : s.rt.length = 32) (v : Int) : spl s.cells (0 + 37) [.int .i64 v] = Sr.cells { s with hz := v } := by
  have e : ∀ v : Int, Sr.cells { s with hz := v } = (.int .i64 s.id :: .int .i64 s.kd :: (bytes s.rt ++ [.int .i64 s.w, .int .i64 s.g, .int .i64 s.st])) ++ ([.int .i64 v] ++ [.int .i64 s.wt.go, .int .i64 s.wt.gg, .int .i64 s.wt.gm, .int .i64 s.wt.sl, .int .i64 s.wt.mo, .int .i64 s.wt.sa, .int .i64 s.wt.ra, .int .i64 s.wt.ba, .int .i64 s.wt.ho, .int .i64 s.wt.pr]) := fun v => by simp [Sr.cells, Sr.tl, Wt.cells]
  rw [show s.cells = Sr.cells { s with hz := s.hz } from rfl, e, e]; exact seg_spl (by simp [h]) rfl
theorem set_wt {s : Sr} (h : s.rt.length = 32) (x : Wt) : spl s.cells (0 + 38) x.cells = Sr.cells { s with wt := x } := by
  have e : ∀ x : Wt, Sr.cells { s with wt := x } = (.int .i64 s.id :: .int .i64 s.kd :: (bytes s.rt ++ [.int .i64 s.w, .int .i64 s.g, .int .i64 s.st, .int .i64 s.hz])) ++ (x.cells ++ []) := fun x => by simp [Sr.cells, Sr.tl]
  rw [show s.cells = Sr.cells { s with wt := s.wt } from rfl, e, e]; exact seg_spl (by simp [h]) rfl
theorem set_gate {s : Sr} (h : s.rt.length = 32) (a b c : Int) : spl s.cells (0 + 38 + 0) [.int .i64 a, .int .i64 b, .int .i64 c] = Sr.cells { s with wt := { s.wt with go := a, gg := b, gm := c } } := by
  have e : ∀ a b c : Int, Sr.cells { s with wt := { s.wt with go := a, gg := b, gm := c } } = (.int .i64 s.id :: .int .i64 s.kd :: (bytes s.rt ++ [.int .i64 s.w, .int .i64 s.g, .int .i64 s.st, .int .i64 s.hz])) ++ ([.int .i64 a, .int .i64 b, .int .i64 c] ++ [.int .i64 s.wt.sl, .int .i64 s.wt.mo, .int .i64 s.wt.sa, .int .i64 s.wt.ra, .int .i64 s.wt.ba, .int .i64 s.wt.ho, .int .i64 s.wt.pr]) := fun a b c => by simp [Sr.cells, Sr.tl, Wt.cells]
  rw [show s.cells = Sr.cells { s with wt := { s.wt with go := s.wt.go, gg := s.wt.gg, gm := s.wt.gm } } from rfl, e, e]; exact seg_spl (by simp [h]) rfl
theorem set_sl {s : Sr} (h : s.rt.length = 32) (v : Int) : spl s.cells (0 + 38 + 3) [.int .i64 v] = Sr.cells { s with wt := { s.wt with sl := v } } := by
  have e : ∀ v : Int, Sr.cells { s with wt := { s.wt with sl := v } } = (.int .i64 s.id :: .int .i64 s.kd :: (bytes s.rt ++ [.int .i64 s.w, .int .i64 s.g, .int .i64 s.st, .int .i64 s.hz, .int .i64 s.wt.go, .int .i64 s.wt.gg, .int .i64 s.wt.gm])) ++ ([.int .i64 v] ++ [.int .i64 s.wt.mo, .int .i64 s.wt.sa, .int .i64 s.wt.ra, .int .i64 s.wt.ba, .int .i64 s.wt.ho, .int .i64 s.wt.pr]) := fun v => by simp [Sr.cells, Sr.tl, Wt.cells]
  rw [show s.cells = Sr.cells { s with wt := { s.wt with sl := s.wt.sl } } from rfl, e, e]; exact seg_spl (by simp [h]) rfl
theorem set_mo {s : Sr} (h : s.rt.length = 32) (v : Int) : spl s.cells (0 + 38 + 4) [.int .i64 v] = Sr.cells { s with wt := { s.wt with mo := v } } := by
  have e : ∀ v : Int, Sr.cells { s with wt := { s.wt with mo := v } } = (.int .i64 s.id :: .int .i64 s.kd :: (bytes s.rt ++ [.int .i64 s.w, .int .i64 s.g, .int .i64 s.st, .int .i64 s.hz, .int .i64 s.wt.go, .int .i64 s.wt.gg, .int .i64 s.wt.gm, .int .i64 s.wt.sl])) ++ ([.int .i64 v] ++ [.int .i64 s.wt.sa, .int .i64 s.wt.ra, .int .i64 s.wt.ba, .int .i64 s.wt.ho, .int .i64 s.wt.pr]) := fun v => by simp [Sr.cells, Sr.tl, Wt.cells]
  rw [show s.cells = Sr.cells { s with wt := { s.wt with mo := s.wt.mo } } from rfl, e, e]; exact seg_spl (by simp [h]) rfl
theorem set_ra {s : Sr} (h : s.rt.length = 32) (v : Int) : spl s.cells (0 + 38 + 6) [.int .i64 v] = Sr.cells { s with wt := { s.wt with ra := v } } := by
  have e : ∀ v : Int, Sr.cells { s with wt := { s.wt with ra := v } } = (.int .i64 s.id :: .int .i64 s.kd :: (bytes s.rt ++ [.int .i64 s.w, .int .i64 s.g, .int .i64 s.st, .int .i64 s.hz, .int .i64 s.wt.go, .int .i64 s.wt.gg, .int .i64 s.wt.gm, .int .i64 s.wt.sl, .int .i64 s.wt.mo, .int .i64 s.wt.sa])) ++ ([.int .i64 v] ++ [.int .i64 s.wt.ba, .int .i64 s.wt.ho, .int .i64 s.wt.pr]) := fun v => by simp [Sr.cells, Sr.tl, Wt.cells]
  rw [show s.cells = Sr.cells { s with wt := { s.wt with ra := s.wt.ra } } from rfl, e, e]; exact seg_spl (by simp [h]) rfl
theorem plain_any (seed : B8) (id kd : Int) : Spc Try.prog 40 #[U8 seed, .int .i64 id, .int .i64 kd] [] [] (Is (.agg (plainS seed id kd).cells.toArray)) := by
  have hr := rootB_len seed id
  have hlen : ∀ s : Sr, s.rt = rootB seed id → s.cells.length = 48 := fun s h => sr_len (by rw [h]; exact hr)
  refine Spc.enter Try.func40 rfl rfl rfl (fun w0 hw0 => ?_)
  refine CW.seq (CW.region (ef := [0]) (bk := []) (RL.alloc Try.zeroValue57 rfl rfl rfl rfl rfl ?_))
  intro b1
  refine RL.nil (NQ.seq (CW.seq (CW.region (ef := [7, 8]) (bk := [8]) (RL.p rfl (RL.p rfl (RL.p rfl (RL.p rfl (RL.lowest Try.runUnderlying3 Try.runUnderlying5 rfl rfl rfl rfl (RL.buildA (bytes (rootB seed id)) Try.zeroValue30 Try.runUnderlying30 Try.sizeOf5 rfl rfl rfl rfl rfl (RL.buildS (noS seed id kd).cells Try.zeroValue57 pl_57 rfl rfl rfl rfl rfl (RL.alloc Try.zeroValue57 rfl rfl rfl rfl rfl ?_)))))))))))
  intro b2
  refine RL.storeW Try.sizeOf57 rfl rfl rfl rfl rfl rfl rfl (sr_ones _) (by repeat (first | exact Upd.here | apply Upd.there)) rfl rfl ?_
  refine RL.nil (NQ.seq (CW.ok [2, 6, 7] rfl (CW.seq (CW.seq (CW.rg (RL.loadW Try.isAgg57 Try.sizeOf57 rfl rfl rfl rfl (by repeat (first | exact List.Mem.head _ | apply List.Mem.tail)) rfl ?_))))))
  refine RL.callvq (aid_any (noS seed id kd)) Try.call53 rfl rfl rfl rfl ?_
  refine RL.p rfl (RL.nil (NQ.seq ?_))
  refine CW.cond rfl (fun h1 => ?_) (fun h1 => ?_)
  ·
    refine CW.seq (CW.region (ef := [1]) (bk := [1]) (RL.loadW Try.isAgg57 Try.sizeOf57 rfl rfl rfl rfl (by repeat (first | exact List.Mem.head _ | apply List.Mem.tail)) (hlen _ rfl) ?_))
    refine RL.storeW Try.sizeOf57 rfl rfl rfl rfl rfl rfl rfl (sr_ones _) (by repeat (first | exact Upd.here | apply Upd.there)) (hlen _ rfl) rfl ?_
    refine RL.nil (NQ.seq (CW.ret (RQ.seq ?_)))
    have h1' : aidB kd = false := by simpa [noS] using h1
    exact RQ.post (resW rfl rfl Try.isAgg57 Try.sizeOf57 (by repeat (first | exact List.Mem.head _ | apply List.Mem.tail)) (hlen _ rfl)) (Split.none _) ⟨by rw [plainS, h1', if_neg (by decide)], rfl, rfl⟩
  ·
    refine CW.skip (NQ.seq (CW.seq (CW.region (ef := [1, 3, 5, 7]) (bk := [1, 3, 5, 7]) (RL.fieldAddr fa_57_3 rfl rfl rfl rfl (RL.storeX (vs := [_]) (show spl (Sr.cells ⟨id, kd, rootB seed id, 0, 0, 0, 0, ⟨0, 0, 0, 0, 0, 0, 0, 0, 0, 0⟩⟩) (0 + 34) [.int .i64 1] = Sr.cells ⟨id, kd, rootB seed id, 1, 0, 0, 0, ⟨0, 0, 0, 0, 0, 0, 0, 0, 0, 0⟩⟩ from set_w hr _) Try.sizeOf3 rfl rfl rfl rfl rfl rfl rfl rfl (by repeat (first | exact Upd.here | apply Upd.there)) (by rw [hlen _ rfl]; decide) ?_)))))
    refine RL.fieldAddr fa_57_4 rfl rfl rfl rfl (RL.storeX (vs := [_]) (show spl (Sr.cells ⟨id, kd, rootB seed id, 1, 0, 0, 0, ⟨0, 0, 0, 0, 0, 0, 0, 0, 0, 0⟩⟩) (0 + 35) [.int .i64 2] = Sr.cells ⟨id, kd, rootB seed id, 1, 2, 0, 0, ⟨0, 0, 0, 0, 0, 0, 0, 0, 0, 0⟩⟩ from set_g hr _) Try.sizeOf3 rfl rfl rfl rfl rfl rfl rfl rfl (by repeat (first | exact Upd.here | apply Upd.there)) (by rw [hlen _ rfl]; decide) ?_)
    refine RL.fieldAddr fa_57_5 rfl rfl rfl rfl (RL.storeX (vs := [_]) (show spl (Sr.cells ⟨id, kd, rootB seed id, 1, 2, 0, 0, ⟨0, 0, 0, 0, 0, 0, 0, 0, 0, 0⟩⟩) (0 + 36) [.int .i64 4294967296] = Sr.cells ⟨id, kd, rootB seed id, 1, 2, 4294967296, 0, ⟨0, 0, 0, 0, 0, 0, 0, 0, 0, 0⟩⟩ from set_st hr _) Try.sizeOf24 rfl rfl rfl rfl rfl rfl rfl rfl (by repeat (first | exact Upd.here | apply Upd.there)) (by rw [hlen _ rfl]; decide) ?_)
    refine RL.fieldAddr fa_57_6 rfl rfl rfl rfl (RL.storeX (vs := [_]) (show spl (Sr.cells ⟨id, kd, rootB seed id, 1, 2, 4294967296, 0, ⟨0, 0, 0, 0, 0, 0, 0, 0, 0, 0⟩⟩) (0 + 37) [.int .i64 200] = Sr.cells ⟨id, kd, rootB seed id, 1, 2, 4294967296, 200, ⟨0, 0, 0, 0, 0, 0, 0, 0, 0, 0⟩⟩ from set_hz hr _) Try.sizeOf3 rfl rfl rfl rfl rfl rfl rfl rfl (by repeat (first | exact Upd.here | apply Upd.there)) (by rw [hlen _ rfl]; decide) ?_)
    refine RL.nil (NQ.seq (CW.ok [2, 6, 7] rfl (CW.seq (CW.region (ef := [3]) (bk := [3]) (RL.buildS [_, _, _] Try.zeroValue53 pl_53 rfl rfl rfl rfl rfl (RL.buildS [_, _, _, _, _, _, _, _, _, _] Try.zeroValue55 pl_55 rfl rfl rfl rfl rfl (RL.fieldAddr fa_57_7 rfl rfl rfl rfl (RL.storeX (vs := Wt.cells ⟨34359738368, 268435456, 274877906944, 1073741824, 137438953472, 50, 17179869184, 3, 300, 5⟩) (show spl (Sr.cells ⟨id, kd, rootB seed id, 1, 2, 4294967296, 200, ⟨0, 0, 0, 0, 0, 0, 0, 0, 0, 0⟩⟩) (0 + 38) (Wt.cells ⟨34359738368, 268435456, 274877906944, 1073741824, 137438953472, 50, 17179869184, 3, 300, 5⟩) = Sr.cells ⟨id, kd, rootB seed id, 1, 2, 4294967296, 200, ⟨34359738368, 268435456, 274877906944, 1073741824, 137438953472, 50, 17179869184, 3, 300, 5⟩⟩ from set_wt hr _) Try.sizeOf55 rfl rfl rfl rfl rfl rfl rfl rfl (by repeat (first | exact Upd.here | apply Upd.there)) (by rw [hlen _ rfl]; decide) ?_))))))))
    refine RL.nil (NQ.seq (CW.seq (CW.seq (CW.rg (RL.p rfl (RL.p rfl (RL.nil (NQ.seq ?_))))))))
    have h1' : aidB kd = true := by simpa [noS] using h1
    refine CW.cond rfl (fun h2 => ?_) (fun h2 => ?_)
    ·
      refine CW.seq (CW.region (ef := [1]) (bk := [1]) (RL.fieldAddr fa_57_5 rfl rfl rfl rfl (RL.storeX (vs := [_]) (show spl (Sr.cells ⟨id, kd, rootB seed id, 1, 2, 4294967296, 200, ⟨34359738368, 268435456, 274877906944, 1073741824, 137438953472, 50, 17179869184, 3, 300, 5⟩⟩) (0 + 36) [.int .i64 67108864] = Sr.cells ⟨id, kd, rootB seed id, 1, 2, 67108864, 200, ⟨34359738368, 268435456, 274877906944, 1073741824, 137438953472, 50, 17179869184, 3, 300, 5⟩⟩ from set_st hr _) Try.sizeOf24 rfl rfl rfl rfl rfl rfl rfl rfl (by repeat (first | exact Upd.here | apply Upd.there)) (by rw [hlen _ rfl]; decide) ?_)))
      refine RL.nil (NQ.seq (CW.ok [6, 7] rfl (CW.seq (CW.region (ef := [3]) (bk := [3]) (RL.buildS [_, _, _] Try.zeroValue53 pl_53 rfl rfl rfl rfl rfl (RL.fieldAddr fa_57_7 rfl rfl rfl rfl (RL.fieldAddr fa_55_0 rfl rfl rfl rfl (RL.storeX (vs := [_, _, _]) (show spl (Sr.cells ⟨id, kd, rootB seed id, 1, 2, 67108864, 200, ⟨34359738368, 268435456, 274877906944, 1073741824, 137438953472, 50, 17179869184, 3, 300, 5⟩⟩) (0 + 38 + 0) [.int .i64 268435456, .int .i64 1048576, .int .i64 1073741824] = Sr.cells ⟨id, kd, rootB seed id, 1, 2, 67108864, 200, ⟨268435456, 1048576, 1073741824, 1073741824, 137438953472, 50, 17179869184, 3, 300, 5⟩⟩ from set_gate hr _ _ _) Try.sizeOf53 rfl rfl rfl rfl rfl rfl rfl rfl (by repeat (first | exact Upd.here | apply Upd.there)) (by rw [hlen _ rfl]; decide) ?_))))))))
      refine RL.nil (NQ.seq (CW.region (ef := [2, 5, 8]) (bk := [2, 5, 8]) (RL.fieldAddr fa_57_7 rfl rfl rfl rfl (RL.fieldAddr fa_55_1 rfl rfl rfl rfl (RL.storeX (vs := [_]) (show spl (Sr.cells ⟨id, kd, rootB seed id, 1, 2, 67108864, 200, ⟨268435456, 1048576, 1073741824, 1073741824, 137438953472, 50, 17179869184, 3, 300, 5⟩⟩) (0 + 38 + 3) [.int .i64 16777216] = Sr.cells ⟨id, kd, rootB seed id, 1, 2, 67108864, 200, ⟨268435456, 1048576, 1073741824, 16777216, 137438953472, 50, 17179869184, 3, 300, 5⟩⟩ from set_sl hr _) Try.sizeOf24 rfl rfl rfl rfl rfl rfl rfl rfl (by repeat (first | exact Upd.here | apply Upd.there)) (by rw [hlen _ rfl]; decide) ?_)))))
      refine RL.fieldAddr fa_57_7 rfl rfl rfl rfl (RL.fieldAddr fa_55_2 rfl rfl rfl rfl (RL.storeX (vs := [_]) (show spl (Sr.cells ⟨id, kd, rootB seed id, 1, 2, 67108864, 200, ⟨268435456, 1048576, 1073741824, 16777216, 137438953472, 50, 17179869184, 3, 300, 5⟩⟩) (0 + 38 + 4) [.int .i64 1073741824] = Sr.cells ⟨id, kd, rootB seed id, 1, 2, 67108864, 200, ⟨268435456, 1048576, 1073741824, 16777216, 1073741824, 50, 17179869184, 3, 300, 5⟩⟩ from set_mo hr _) Try.sizeOf24 rfl rfl rfl rfl rfl rfl rfl rfl (by repeat (first | exact Upd.here | apply Upd.there)) (by rw [hlen _ rfl]; decide) ?_))
      refine RL.fieldAddr fa_57_7 rfl rfl rfl rfl (RL.fieldAddr fa_55_4 rfl rfl rfl rfl (RL.storeX (vs := [_]) (show spl (Sr.cells ⟨id, kd, rootB seed id, 1, 2, 67108864, 200, ⟨268435456, 1048576, 1073741824, 16777216, 1073741824, 50, 17179869184, 3, 300, 5⟩⟩) (0 + 38 + 6) [.int .i64 2147483648] = Sr.cells ⟨id, kd, rootB seed id, 1, 2, 67108864, 200, ⟨268435456, 1048576, 1073741824, 16777216, 1073741824, 50, 2147483648, 3, 300, 5⟩⟩ from set_ra hr _) Try.sizeOf24 rfl rfl rfl rfl rfl rfl rfl rfl (by repeat (first | exact Upd.here | apply Upd.there)) (by rw [hlen _ rfl]; decide) ?_))
      refine RL.nil (NQ.seq (CW.ok [6, 7] rfl (CW.seq (CW.region (ef := [1]) (bk := [1]) (RL.loadW Try.isAgg57 Try.sizeOf57 rfl rfl rfl rfl (by repeat (first | exact List.Mem.head _ | apply List.Mem.tail)) (hlen _ rfl) ?_)))))
      refine RL.storeW Try.sizeOf57 rfl rfl rfl rfl rfl rfl rfl (sr_ones _) (by repeat (first | exact Upd.here | apply Upd.there)) (hlen _ rfl) rfl ?_
      refine RL.nil (NQ.seq (CW.ret ?_))
      have h2 : kd = 3 := by simpa using h2
      exact RQ.post (resW rfl rfl Try.isAgg57 Try.sizeOf57 (by repeat (first | exact List.Mem.head _ | apply List.Mem.tail)) (hlen _ rfl)) (Split.none _) ⟨by rw [plainS, if_pos h1', if_pos h2]; rfl, rfl, rfl⟩
    ·
      refine CW.skip (NQ.seq (CW.ok [6, 7] rfl (CW.seq (CW.region (ef := [1]) (bk := [1]) (RL.loadW Try.isAgg57 Try.sizeOf57 rfl rfl rfl rfl (by repeat (first | exact List.Mem.head _ | apply List.Mem.tail)) (hlen _ rfl) ?_)))))
      refine RL.storeW Try.sizeOf57 rfl rfl rfl rfl rfl rfl rfl (sr_ones _) (by repeat (first | exact Upd.here | apply Upd.there)) (hlen _ rfl) rfl ?_
      refine RL.nil (NQ.seq (CW.ret ?_))
      have h2 : kd ≠ 3 := by simpa using h2
      exact RQ.post (resW rfl rfl Try.isAgg57 Try.sizeOf57 (by repeat (first | exact List.Mem.head _ | apply List.Mem.tail)) (hlen _ rfl)) (Split.none _) ⟨by rw [plainS, if_pos h1', if_neg h2]; rfl, rfl, rfl⟩
end Go.Proofs.Ytbdnebedmdoehaa
