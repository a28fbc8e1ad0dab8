import Derived.Test.YtbdnebedmdoehaaU2
import Derived.Test.YtbdnebedmdoehaaS0
namespace Go.Proofs.Ytbdnebedmdoehaa
open Go.PK
/-! ### Sources -/
structure Wt where
  go : Int
  gg : Int
  gm : Int
  sl : Int
  mo : Int
  sa : Int
  ra : Int
  ba : Int
  ho : Int
  pr : Int
def Wt.cells (w : Wt) : List Value := [.int .i64 w.go, .int .i64 w.gg, .int .i64 w.gm, .int .i64 w.sl, .int .i64 w.mo, .int .i64 w.sa, .int .i64 w.ra, .int .i64 w.ba, .int .i64 w.ho, .int .i64 w.pr]
def Wt.Ok (w : Wt) : Prop := (0 ≤ w.go ∧ 0 ≤ w.gg ∧ w.go ≤ w.gm) ∧ (0 ≤ w.sl ∧ 1 ≤ w.mo) ∧ (1 ≤ w.sa ∧ w.sa ≤ 1000 ∧ 0 ≤ w.ra) ∧ (1 ≤ w.ba ∧ w.ba ≤ 100 ∧ 1 ≤ w.ho ∧ w.ho ≤ 65535 ∧ 1 ≤ w.pr ∧ w.pr ≤ 100)
instance (w : Wt) : Decidable w.Ok := inferInstanceAs (Decidable (_ ∧ _))
structure Sr where
  id : Int
  kd : Int
  rt : List B8
  w : Int
  g : Int
  st : Int
  hz : Int
  wt : Wt
def Sr.tl (s : Sr) : List Value := .int .i64 s.w :: .int .i64 s.g :: .int .i64 s.st :: .int .i64 s.hz :: s.wt.cells
def Sr.cells (s : Sr) : List Value := .int .i64 s.id :: .int .i64 s.kd :: (bytes s.rt ++ s.tl)
structure Sr.Fit (s : Sr) : Prop where
  rt : s.rt.length = 32
  mo : i64 s.wt.mo
  sl : i64 s.wt.sl
  gm : i64 s.wt.gm
theorem sr_len {s : Sr} (h : s.rt.length = 32) : s.cells.length = 48 := by simp [Sr.cells, Sr.tl, Wt.cells, h]
theorem sr_t {s : Sr} (h : s.rt.length = 32) (j : Nat) : s.cells[0 + 34 + j]? = s.tl[j]? := by
  rw [Sr.cells, show 0 + 34 + j = (32 + j) + 1 + 1 by omega]
  simp only [List.getElem?_cons_succ]
  rw [List.getElem?_append_right (by simp [h]), List.length_map, h, Nat.add_sub_cancel_left]
theorem sr_w {s : Sr} (h : s.rt.length = 32) (j : Nat) : s.cells[0 + 38 + j]? = s.wt.cells[j]? := by
  have := sr_t h (4 + j)
  rw [show 0 + 34 + (4 + j) = 0 + 38 + j by omega] at this
  rw [this, Sr.tl, show 4 + j = j + 1 + 1 + 1 + 1 by omega]
  simp only [List.getElem?_cons_succ]
def aidB (k : Int) : Bool := decide (2 ≤ k ∧ k ≤ 5)
def limS (s : Sr) : Int := limB s.wt.mo s.wt.sl s.wt.gm s.hz
def Sr.ok (s : Sr) : Bool := decide ((0 ≤ s.id ∧ s.id ≤ 7) ∧ (if 2 ≤ s.kd ∧ s.kd ≤ 5 then s.wt.Ok else s.kd = 1 ∨ s.kd = 8))
theorem aid_any (s : Sr) : Spc Try.prog 53 #[.agg s.cells.toArray] [] [] (Is (.bool (aidB s.kd))) := by
  refine Spc.enter Try.func53 rfl rfl rfl (fun w0 hw0 => ?_)
  refine CW.seq (CW.region (ef := [0]) (bk := []) (RL.box rfl rfl rfl rfl rfl rfl ?_))
  intro b1
  refine RL.p rfl (RL.nil (NQ.seq (CW.seq (CW.rg (RL.fieldAddr fa_57_1 rfl rfl rfl rfl (RL.loadq Try.isAgg3 rfl rfl rfl rfl ?_))))))
  refine RL.p rfl (RL.p rfl ?_)
  apply RL.andB (d := 6) (dp := 10) (l' := (Sq.of [8])) rfl (sK [2] rfl)
  ·
    intro hb4 K4
    refine RL.fieldAddr fa_57_1 rfl rfl rfl rfl (RL.loadq Try.isAgg3 rfl rfl rfl rfl ?_)
    refine RL.p rfl (RL.p rfl ?_)
    exact K4 _ (.cons rfl (sK [2] rfl))
  ·
    intro hb4 K4
    refine RL.p rfl (RL.p rfl (RL.p rfl (RL.p rfl ?_)))
    exact K4 _ (.cons rfl (sK [2] rfl))
  refine RL.p rfl (RL.nil (NQ.seq (CW.ret ?_)))
  exact RQ.post (res1 rfl rfl) (Split.none _) ⟨by congr 1; rw [Bool.eq_iff_iff]; simp [aidB], rfl, rfl⟩
theorem raid_any (k : Int) : Spc Try.prog 41 #[.int .i64 k] [] [] (Is (.bool (aidB k))) := by
  refine Spc.enter Try.func41 rfl rfl rfl (fun w0 hw0 => ?_)
  refine CW.seq (CW.rg (RL.p rfl (RL.nil (NQ.seq (CW.seq (CW.rg (RL.p rfl (RL.p rfl (RL.p rfl ?_)))))))))
  apply RL.andB (d := 5) (dp := 8) (l' := (Sq.of [6])) rfl (sK [2] rfl)
  ·
    intro hb3 K3
    refine RL.p rfl (RL.p rfl (RL.p rfl ?_))
    exact K3 _ (.cons rfl (sK [2] rfl))
  ·
    intro hb3 K3
    refine RL.p rfl (RL.p rfl (RL.p rfl ?_))
    exact K3 _ (.cons rfl (sK [2] rfl))
  refine RL.p rfl (RL.nil (NQ.seq (CW.ret ?_)))
  exact RQ.post (res1 rfl rfl) (Split.none _) ⟨by congr 1; rw [Bool.eq_iff_iff]; simp [aidB], rfl, rfl⟩
theorem limit_any (s : Sr) (h : s.Fit) : Spc Try.prog 22 #[.agg s.cells.toArray] [] [] (Is (.int .i64 (limS s))) := by
  refine Spc.enter Try.func22 rfl rfl rfl (fun w0 hw0 => ?_)
  refine CW.seq (CW.region (ef := [0]) (bk := []) (RL.box rfl rfl rfl rfl rfl rfl ?_))
  intro b1
  refine RL.p rfl (RL.nil (NQ.seq (CW.seq (CW.freezeP (A := [_]) (B := []) (.take .nil) rfl ?_))))
  refine CW.genI (fun J hJ => ?_)
  have m : cel b1 s.cells 57 ∈ J := hJ _ (by simp)
  clear hJ
  have f1 : RdI J ⟨b1, 0 + 38 + 4, none⟩ (.int .i64 s.wt.mo) := ⟨fun _ => Rd.getI m (sr_w h.rt 4)⟩
  have f2 : RdI J ⟨b1, 0 + 38 + 3, none⟩ (.int .i64 s.wt.sl) := ⟨fun _ => Rd.getI m (sr_w h.rt 3)⟩
  have f3 : RdI J ⟨b1, 0 + 38 + 0 + 2, none⟩ (.int .i64 s.wt.gm) := ⟨fun _ => Rd.getI m (sr_w h.rt 2)⟩
  have f4 : RdI J ⟨b1, 0 + 37, none⟩ (.int .i64 s.hz) := ⟨fun _ => Rd.getI m (sr_t h.rt 3)⟩
  refine CW.rg (RL.fieldAddr fa_57_7 rfl rfl rfl rfl (RL.fieldAddr fa_55_2 rfl rfl rfl rfl (RL.loadq Try.isAgg24 rfl rfl rfl rfl ?_)))
  refine RL.fieldAddr fa_57_7 rfl rfl rfl rfl (RL.fieldAddr fa_55_1 rfl rfl rfl rfl (RL.loadq Try.isAgg24 rfl rfl rfl rfl ?_))
  refine RL.fieldAddr fa_57_7 rfl rfl rfl rfl (RL.fieldAddr fa_55_0 rfl rfl rfl rfl (RL.fieldAddr fa_53_2 rfl rfl rfl rfl (RL.loadq Try.isAgg24 rfl rfl rfl rfl ?_)))
  refine RL.fieldAddr fa_57_6 rfl rfl rfl rfl (RL.loadq Try.isAgg3 rfl rfl rfl rfl ?_)
  refine RL.callvq (bound_any s.wt.mo s.wt.sl s.wt.gm s.hz h.mo h.sl h.gm) Try.call54 rfl rfl rfl rfl ?_
  refine RL.p rfl (RL.nil (NQ.seq (CW.ok [2] rfl (CW.ret ?_))))
  exact RQ.post (res1 rfl rfl) (Split.none _) ⟨rfl, rfl, rfl⟩
theorem rlimit_any (s : Sr) (h : s.Fit) : Spc Try.prog 23 #[.agg s.cells.toArray] [] [] (Is (.int .i64 (limS s))) := by
  refine Spc.enter Try.func23 rfl rfl rfl (fun w0 hw0 => ?_)
  refine CW.seq (CW.region (ef := [0]) (bk := []) (RL.box rfl rfl rfl rfl rfl rfl ?_))
  intro b1
  refine RL.p rfl (RL.nil (NQ.seq (CW.seq (CW.freezeP (A := [_]) (B := []) (.take .nil) rfl ?_))))
  refine CW.genI (fun J hJ => ?_)
  have m : cel b1 s.cells 46 ∈ J := hJ _ (by simp)
  clear hJ
  have f1 : RdI J ⟨b1, 0 + 38 + 4, none⟩ (.int .i64 s.wt.mo) := ⟨fun _ => Rd.getI m (sr_w h.rt 4)⟩
  have f2 : RdI J ⟨b1, 0 + 38 + 3, none⟩ (.int .i64 s.wt.sl) := ⟨fun _ => Rd.getI m (sr_w h.rt 3)⟩
  have f3 : RdI J ⟨b1, 0 + 38 + 0 + 2, none⟩ (.int .i64 s.wt.gm) := ⟨fun _ => Rd.getI m (sr_w h.rt 2)⟩
  have f4 : RdI J ⟨b1, 0 + 37, none⟩ (.int .i64 s.hz) := ⟨fun _ => Rd.getI m (sr_t h.rt 3)⟩
  refine CW.rg (RL.fieldAddr fa_46_7 rfl rfl rfl rfl (RL.fieldAddr fa_44_2 rfl rfl rfl rfl (RL.loadq Try.isAgg24 rfl rfl rfl rfl ?_)))
  refine RL.fieldAddr fa_46_7 rfl rfl rfl rfl (RL.fieldAddr fa_44_1 rfl rfl rfl rfl (RL.loadq Try.isAgg24 rfl rfl rfl rfl ?_))
  refine RL.fieldAddr fa_46_7 rfl rfl rfl rfl (RL.fieldAddr fa_44_0 rfl rfl rfl rfl (RL.fieldAddr fa_42_2 rfl rfl rfl rfl (RL.loadq Try.isAgg24 rfl rfl rfl rfl ?_)))
  refine RL.fieldAddr fa_46_6 rfl rfl rfl rfl (RL.loadq Try.isAgg3 rfl rfl rfl rfl ?_)
  refine RL.callvq (rbound_any s.wt.mo s.wt.sl s.wt.gm s.hz h.mo h.sl h.gm) Try.call55 rfl rfl rfl rfl ?_
  refine RL.p rfl (RL.nil (NQ.seq (CW.ok [2] rfl (CW.ret ?_))))
  exact RQ.post (res1 rfl rfl) (Split.none _) ⟨rfl, rfl, rfl⟩
theorem watch_any (w : Wt) : Spc Try.prog 103 #[.agg #[.int .i64 w.go, .int .i64 w.gg, .int .i64 w.gm, .int .i64 w.sl, .int .i64 w.mo, .int .i64 w.sa, .int .i64 w.ra, .int .i64 w.ba, .int .i64 w.ho, .int .i64 w.pr]] [] [] (ErP (errI w.Ok)) := by
  refine Spc.enter Try.func103 rfl rfl rfl (fun w0 hw0 => ?_)
  refine CW.seq (CW.region (ef := [0]) (bk := []) (RL.box rfl rfl rfl rfl rfl rfl ?_))
  intro b1
  refine RL.p rfl (RL.p rfl (RL.nil (NQ.seq (CW.seq (CW.seq (CW.freezeP (A := [_]) (B := []) (.take .nil) rfl ?_))))))
  refine CW.genI (fun J hJ => ?_)
  have m : cel b1 w.cells 55 ∈ J := hJ _ (by simp [Wt.cells])
  clear hJ
  have fG : RdsN J ⟨b1, 0 + 0, none⟩ 3 [.int .i64 w.go, .int .i64 w.gg, .int .i64 w.gm] := RdsN.told m (fun j u hj => by
    match j, hj with
    | 0, hj => exact hj
    | 1, hj => exact hj
    | 2, hj => exact hj
    | j + 3, hj => simp at hj) rfl
  have f3 : RdI J ⟨b1, 0 + 3, none⟩ (.int .i64 w.sl) := ⟨fun _ => Rd.celI m rfl⟩
  have f4 : RdI J ⟨b1, 0 + 4, none⟩ (.int .i64 w.mo) := ⟨fun _ => Rd.celI m rfl⟩
  have f5 : RdI J ⟨b1, 0 + 5, none⟩ (.int .i64 w.sa) := ⟨fun _ => Rd.celI m rfl⟩
  have f6 : RdI J ⟨b1, 0 + 6, none⟩ (.int .i64 w.ra) := ⟨fun _ => Rd.celI m rfl⟩
  have f7 : RdI J ⟨b1, 0 + 7, none⟩ (.int .i64 w.ba) := ⟨fun _ => Rd.celI m rfl⟩
  have f8 : RdI J ⟨b1, 0 + 8, none⟩ (.int .i64 w.ho) := ⟨fun _ => Rd.celI m rfl⟩
  have f9 : RdI J ⟨b1, 0 + 9, none⟩ (.int .i64 w.pr) := ⟨fun _ => Rd.celI m rfl⟩
  have fA : RdsN J ⟨b1, 0, none⟩ 10 [.int .i64 w.go, .int .i64 w.gg, .int .i64 w.gm, .int .i64 w.sl, .int .i64 w.mo, .int .i64 w.sa, .int .i64 w.ra, .int .i64 w.ba, .int .i64 w.ho, .int .i64 w.pr] := ⟨fun _ => Rds.allI m, rfl⟩
  refine CW.rg (RL.fieldAddr fa_55_0 rfl rfl rfl rfl (RL.loadSq Try.isAgg53 Try.sizeOf53 rfl rfl rfl rfl ?_))
  refine RL.callvq (gate_any w.go w.gg w.gm) Try.call132 rfl rfl rfl rfl ?_
  refine RL.p rfl (RL.nil (NQ.seq (CW.seq (CW.rg (RL.p rfl (RL.p rfl (RL.nil (NQ.seq ?_))))))))
  refine CW.cond rfl (fun h1 => ?_) (fun h1 => ?_)
  ·
    refine CW.seq (CW.rg (RL.p rfl (RL.p rfl (RL.p rfl (RL.nil (NQ.seq (CW.ok [1, 2, 3] rfl (CW.ret (RQ.seq ?_)))))))))
    have h1' : ¬ (0 ≤ w.go ∧ 0 ≤ w.gg ∧ w.go ≤ w.gm) := fun e => by rw [errI_yes e] at h1; cases h1
    exact RQ.post (res2 rfl rfl rfl) (Split.none _) ⟨_, by rw [errI_no h1', errI_no (fun e => h1' e.1)] <;> rfl, rfl, rfl⟩
  ·
    refine CW.skip (NQ.seq (CW.ok [1] rfl (CW.seq (CW.region (ef := [4]) (bk := []) (RL.fieldAddr fa_55_1 rfl rfl rfl rfl (RL.loadq Try.isAgg24 rfl rfl rfl rfl ?_))))))
    refine RL.fieldAddr fa_55_2 rfl rfl rfl rfl (RL.loadq Try.isAgg24 rfl rfl rfl rfl ?_)
    refine RL.call (cus_any w.sl w.mo) Try.call133 rfl rfl rfl rfl rfl (by repeat (first | exact Pick.nil | apply Pick.take | apply Pick.leave)) .nil (.inl rfl) ?_
    have h1' : 0 ≤ w.go ∧ 0 ≤ w.gg ∧ w.go ≤ w.gm := errI_0.1 (by simpa using h1)
    rintro _ _ _ ⟨u1, rfl, rfl, rfl⟩
    refine RL.p rfl (RL.p rfl (RL.p rfl (RL.p rfl (RL.p rfl (RL.nil (NQ.seq (CW.ok [1, 5, 6] rfl (CW.seq (CW.seq (CW.rg (RL.p rfl (RL.p rfl (RL.nil ?_)))))))))))))
    refine NQ.seq ?_
    refine CW.cond rfl (fun h2 => ?_) (fun h2 => ?_)
    ·
      refine CW.seq (CW.rg (RL.p rfl (RL.p rfl (RL.p rfl (RL.nil (NQ.seq (CW.ret (RQ.seq ?_))))))))
      have h2' : ¬ (0 ≤ w.sl ∧ 1 ≤ w.mo) := fun e => by rw [errI_yes e] at h2; cases h2
      exact RQ.post (res2 rfl rfl rfl) (Split.none _) ⟨_, by rw [errI_no h2', errI_no (fun e => h2' e.2.1)] <;> rfl, rfl, rfl⟩
    ·
      refine CW.skip (NQ.seq (CW.seq (CW.region (ef := [4]) (bk := []) (RL.fieldAddr fa_55_3 rfl rfl rfl rfl (RL.loadq Try.isAgg3 rfl rfl rfl rfl ?_)))))
      refine RL.fieldAddr fa_55_4 rfl rfl rfl rfl (RL.loadq Try.isAgg24 rfl rfl rfl rfl ?_)
      refine RL.call (stk_any w.sa w.ra) Try.call134 rfl rfl rfl rfl rfl (by repeat (first | exact Pick.nil | apply Pick.take | apply Pick.leave)) .nil (.inl rfl) ?_
      have h2' : 0 ≤ w.sl ∧ 1 ≤ w.mo := errI_0.1 (by simpa using h2)
      rintro _ _ _ ⟨u2, rfl, rfl, rfl⟩
      refine RL.p rfl (RL.p rfl (RL.p rfl (RL.p rfl (RL.p rfl (RL.nil (NQ.seq (CW.ok [1, 5, 6, 7] rfl (CW.seq (CW.seq (CW.rg (RL.p rfl (RL.p rfl (RL.nil ?_)))))))))))))
      refine NQ.seq ?_
      refine CW.cond rfl (fun h3 => ?_) (fun h3 => ?_)
      ·
        refine CW.seq (CW.rg (RL.p rfl (RL.p rfl (RL.p rfl (RL.nil (NQ.seq (CW.ret (RQ.seq ?_))))))))
        have h3' : ¬ (1 ≤ w.sa ∧ w.sa ≤ 1000 ∧ 0 ≤ w.ra) := fun e => by rw [errI_yes e] at h3; cases h3
        exact RQ.post (res2 rfl rfl rfl) (Split.none _) ⟨_, by rw [errI_no h3', errI_no (fun e => h3' e.2.2.1)] <;> rfl, rfl, rfl⟩
      ·
        refine CW.skip (NQ.seq (CW.seq (CW.region (ef := [6]) (bk := []) (RL.fieldAddr fa_55_5 rfl rfl rfl rfl (RL.loadq Try.isAgg3 rfl rfl rfl rfl ?_)))))
        refine RL.fieldAddr fa_55_6 rfl rfl rfl rfl (RL.loadq Try.isAgg3 rfl rfl rfl rfl ?_)
        refine RL.fieldAddr fa_55_7 rfl rfl rfl rfl (RL.loadq Try.isAgg3 rfl rfl rfl rfl ?_)
        refine RL.call (qua_any w.ba w.ho w.pr) Try.call135 rfl rfl rfl rfl rfl (by repeat (first | exact Pick.nil | apply Pick.take | apply Pick.leave)) .nil (.inl rfl) ?_
        have h3' : 1 ≤ w.sa ∧ w.sa ≤ 1000 ∧ 0 ≤ w.ra := errI_0.1 (by simpa using h3)
        rintro _ _ _ ⟨u3, rfl, rfl, rfl⟩
        refine RL.p rfl (RL.p rfl (RL.p rfl (RL.p rfl (RL.p rfl (RL.nil (NQ.seq (CW.ok [1, 5, 6, 7, 8] rfl (CW.seq (CW.seq (CW.rg (RL.p rfl (RL.p rfl (RL.nil ?_)))))))))))))
        refine NQ.seq ?_
        refine CW.cond rfl (fun h4 => ?_) (fun h4 => ?_)
        ·
          refine CW.seq (CW.rg (RL.p rfl (RL.p rfl (RL.p rfl (RL.nil (NQ.seq (CW.ret (RQ.seq ?_))))))))
          have h4' : ¬ (1 ≤ w.ba ∧ w.ba ≤ 100 ∧ 1 ≤ w.ho ∧ w.ho ≤ 65535 ∧ 1 ≤ w.pr ∧ w.pr ≤ 100) := fun e => by rw [errI_yes e] at h4; cases h4
          exact RQ.post (res2 rfl rfl rfl) (Split.none _) ⟨_, by rw [errI_no h4', errI_no (fun e => h4' e.2.2.2)] <;> rfl, rfl, rfl⟩
        ·
          refine CW.skip (NQ.seq (CW.seq (CW.region (ef := [5, 7]) (bk := []) (RL.p rfl (RL.fieldAddr fa_55_0 rfl rfl rfl rfl (RL.loadSq Try.isAgg53 Try.sizeOf53 rfl rfl rfl rfl ?_))))))
          refine RL.p rfl (RL.p rfl ?_)
          refine RL.makeMap (good := fun _ => True) rfl rfl rfl rfl (fun mp => ?_)
          refine RL.buildS [_, _, _, _, _, _, _] Try.zeroValue285 pl_285 rfl rfl rfl rfl rfl (RL.box rfl rfl rfl rfl rfl rfl ?_)
          intro b2
          refine RL.p rfl (RL.p rfl (RL.p rfl (RL.nil (NQ.seq (CW.ok [2, 3] rfl (CW.ret ?_))))))
          have h4' : 1 ≤ w.ba ∧ w.ba ≤ 100 ∧ 1 ≤ w.ho ∧ w.ho ≤ 65535 ∧ 1 ≤ w.pr ∧ w.pr ≤ 100 := errI_0.1 (by simpa using h4)
          exact RQ.post (res2 rfl rfl rfl) (Split.none _) ⟨_, by rw [errI_yes h4', errI_yes (p := w.Ok) ⟨h1', h2', h3', h4'⟩] <;> rfl, rfl, rfl⟩
theorem rwatch_any (w : Wt) : Spc Try.prog 51 #[.agg #[.int .i64 w.go, .int .i64 w.gg, .int .i64 w.gm, .int .i64 w.sl, .int .i64 w.mo, .int .i64 w.sa, .int .i64 w.ra, .int .i64 w.ba, .int .i64 w.ho, .int .i64 w.pr]] [] [] (ErP (errI w.Ok)) := by
  refine Spc.enter Try.func51 rfl rfl rfl (fun w0 hw0 => ?_)
  refine CW.seq (CW.region (ef := [0]) (bk := []) (RL.box rfl rfl rfl rfl rfl rfl ?_))
  intro b1
  refine RL.p rfl (RL.p rfl (RL.nil (NQ.seq (CW.seq (CW.freezeP (A := [_]) (B := []) (.take .nil) rfl ?_)))))
  refine CW.genI (fun J hJ => ?_)
  have m : cel b1 w.cells 44 ∈ J := hJ _ (by simp [Wt.cells])
  clear hJ
  have fG : RdsN J ⟨b1, 0 + 0, none⟩ 3 [.int .i64 w.go, .int .i64 w.gg, .int .i64 w.gm] := RdsN.told m (fun j u hj => by
    match j, hj with
    | 0, hj => exact hj
    | 1, hj => exact hj
    | 2, hj => exact hj
    | j + 3, hj => simp at hj) rfl
  have f3 : RdI J ⟨b1, 0 + 3, none⟩ (.int .i64 w.sl) := ⟨fun _ => Rd.celI m rfl⟩
  have f4 : RdI J ⟨b1, 0 + 4, none⟩ (.int .i64 w.mo) := ⟨fun _ => Rd.celI m rfl⟩
  have f5 : RdI J ⟨b1, 0 + 5, none⟩ (.int .i64 w.sa) := ⟨fun _ => Rd.celI m rfl⟩
  have f6 : RdI J ⟨b1, 0 + 6, none⟩ (.int .i64 w.ra) := ⟨fun _ => Rd.celI m rfl⟩
  have f7 : RdI J ⟨b1, 0 + 7, none⟩ (.int .i64 w.ba) := ⟨fun _ => Rd.celI m rfl⟩
  have f8 : RdI J ⟨b1, 0 + 8, none⟩ (.int .i64 w.ho) := ⟨fun _ => Rd.celI m rfl⟩
  have f9 : RdI J ⟨b1, 0 + 9, none⟩ (.int .i64 w.pr) := ⟨fun _ => Rd.celI m rfl⟩
  have fA : RdsN J ⟨b1, 0, none⟩ 10 [.int .i64 w.go, .int .i64 w.gg, .int .i64 w.gm, .int .i64 w.sl, .int .i64 w.mo, .int .i64 w.sa, .int .i64 w.ra, .int .i64 w.ba, .int .i64 w.ho, .int .i64 w.pr] := ⟨fun _ => Rds.allI m, rfl⟩
  refine CW.region (ef := [4]) (bk := []) (RL.fieldAddr fa_44_1 rfl rfl rfl rfl (RL.loadq Try.isAgg24 rfl rfl rfl rfl ?_))
  refine RL.fieldAddr fa_44_2 rfl rfl rfl rfl (RL.loadq Try.isAgg24 rfl rfl rfl rfl ?_)
  refine RL.call (rcus_any w.sl w.mo) Try.call78 rfl rfl rfl rfl rfl (by repeat (first | exact Pick.nil | apply Pick.take | apply Pick.leave)) .nil (.inl rfl) ?_
  rintro _ _ _ ⟨u1, rfl, rfl, rfl⟩
  refine RL.p rfl (RL.p rfl (RL.p rfl (RL.p rfl (RL.p rfl (RL.nil (NQ.seq (CW.ok [1, 4, 5] rfl (CW.seq (CW.region (ef := [4]) (bk := []) (RL.fieldAddr fa_44_3 rfl rfl rfl rfl (RL.loadq Try.isAgg3 rfl rfl rfl rfl ?_)))))))))))
  refine RL.fieldAddr fa_44_4 rfl rfl rfl rfl (RL.loadq Try.isAgg24 rfl rfl rfl rfl ?_)
  refine RL.call (rstk_any w.sa w.ra) Try.call79 rfl rfl rfl rfl rfl (by repeat (first | exact Pick.nil | apply Pick.take | apply Pick.leave)) .nil (.inl rfl) ?_
  rintro _ _ _ ⟨u2, rfl, rfl, rfl⟩
  refine RL.p rfl (RL.p rfl (RL.p rfl (RL.p rfl (RL.p rfl (RL.nil (NQ.seq (CW.ok [1, 4, 5, 6, 7] rfl (CW.seq (CW.region (ef := [6]) (bk := []) (RL.fieldAddr fa_44_5 rfl rfl rfl rfl (RL.loadq Try.isAgg3 rfl rfl rfl rfl ?_)))))))))))
  refine RL.fieldAddr fa_44_6 rfl rfl rfl rfl (RL.loadq Try.isAgg3 rfl rfl rfl rfl ?_)
  refine RL.fieldAddr fa_44_7 rfl rfl rfl rfl (RL.loadq Try.isAgg3 rfl rfl rfl rfl ?_)
  refine RL.call (rqua_any w.ba w.ho w.pr) Try.call80 rfl rfl rfl rfl rfl (by repeat (first | exact Pick.nil | apply Pick.take | apply Pick.leave)) .nil (.inl rfl) ?_
  rintro _ _ _ ⟨u3, rfl, rfl, rfl⟩
  refine RL.p rfl (RL.p rfl (RL.p rfl (RL.p rfl (RL.p rfl (RL.nil (NQ.seq (CW.ok [1, 4, 5, 6, 7, 8, 9] rfl (CW.seq (CW.seq (CW.rg (RL.fieldAddr fa_44_0 rfl rfl rfl rfl (RL.loadSq Try.isAgg42 Try.sizeOf42 rfl rfl rfl rfl ?_))))))))))))
  refine RL.callvq (rgate_any w.go w.gg w.gm) Try.call81 rfl rfl rfl rfl ?_
  refine RL.p rfl (RL.p rfl ?_)
  apply RL.orB (d := 40) (dp := 43) (l' := (Sq.of [8, 9, 10, 11, 12, 13, 14, 15])) rfl (sK [1, 4, 6, 7, 8, 9] rfl)
  ·
    intro hb5 K5
    refine RL.p rfl (RL.p rfl (RL.p rfl ?_))
    exact K5 _ (.cons rfl (sK [1, 4, 6, 7, 8, 9] rfl))
  ·
    intro hb5 K5
    refine RL.p rfl (RL.p rfl (RL.p rfl ?_))
    exact K5 _ (.cons rfl (sK [1, 4, 6, 7, 8, 9] rfl))
  refine RL.p rfl ?_
  apply RL.orB (d := 44) (dp := 47) (l' := (Sq.of [12, 13, 14, 15])) rfl (sK [1, 4, 6, 8, 9] rfl)
  ·
    intro hb9 K9
    refine RL.p rfl (RL.p rfl (RL.p rfl ?_))
    exact K9 _ (.cons rfl (sK [1, 4, 6, 8, 9] rfl))
  ·
    intro hb9 K9
    refine RL.p rfl (RL.p rfl (RL.p rfl ?_))
    exact K9 _ (.cons rfl (sK [1, 4, 6, 8, 9] rfl))
  refine RL.p rfl ?_
  apply RL.orB (d := 48) (dp := 51) (l' := (Sq.of [])) rfl (sK [1, 4, 6, 8] rfl)
  ·
    intro hb13 K13
    refine RL.p rfl (RL.p rfl (RL.p rfl ?_))
    exact K13 _ (.cons rfl (sK [1, 4, 6, 8] rfl))
  ·
    intro hb13 K13
    refine RL.p rfl (RL.p rfl (RL.p rfl ?_))
    exact K13 _ (.cons rfl (sK [1, 4, 6, 8] rfl))
  refine RL.nil (NQ.seq ?_)
  refine CW.cond rfl (fun h => ?_) (fun h => ?_)
  ·
    refine CW.seq (CW.rg (RL.p rfl (RL.p rfl (RL.nil (NQ.seq (CW.ret (RQ.seq ?_)))))))
    have h' : ¬ w.Ok := fun e => by
      rw [errI_yes e.1, errI_yes e.2.1, errI_yes e.2.2.1, errI_yes e.2.2.2] at h; cases h
    exact RQ.post (res2 rfl rfl rfl) (Split.none _) ⟨_, by rw [errI_no h'] <;> rfl, rfl, rfl⟩
  ·
    refine CW.skip (NQ.seq (CW.seq (CW.region (ef := [5]) (bk := []) (RL.loadSq Try.isAgg44 Try.sizeOf44 rfl rfl rfl rfl ?_))))
    refine RL.p rfl (RL.p rfl (RL.p rfl (RL.buildS [_, _, _, _, _, _, _, _, _, _, _, _, _, _] Try.zeroValue195 pl_195 rfl rfl rfl rfl rfl (RL.box rfl rfl rfl rfl rfl rfl ?_))))
    intro b2
    refine RL.p rfl (RL.p rfl (RL.nil (NQ.seq (CW.ok [2, 3] rfl (CW.ret ?_)))))
    have h' : w.Ok := by
      simp [errI_0] at h
      exact ⟨h.1.1.1, h.1.1.2, h.1.2, h.2⟩
    exact RQ.post (res2 rfl rfl rfl) (Split.none _) ⟨_, by rw [errI_yes h'] <;> rfl, rfl, rfl⟩
theorem right_any (s : Sr) (h : s.Fit) : Spc Try.prog 74 #[.agg s.cells.toArray] [] [] (Is (.bool s.ok)) := by
  have hl := sr_len h.rt
  refine Spc.enter Try.func74 rfl rfl rfl (fun w0 hw0 => ?_)
  refine CW.seq (CW.region (ef := [0]) (bk := []) (RL.box rfl rfl rfl rfl rfl rfl ?_))
  intro b1
  refine RL.p rfl (RL.nil (NQ.seq (CW.seq (CW.seq (CW.freezeP (A := [_]) (B := []) (.take .nil) rfl ?_)))))
  refine CW.genI (fun J hJ => ?_)
  have m : cel b1 s.cells 57 ∈ J := hJ _ (by simp)
  clear hJ
  have f0 : RdI J ⟨b1, 0 + 0, none⟩ (.int .i64 s.id) := ⟨fun _ => Rd.celI m rfl⟩
  have f1 : RdI J ⟨b1, 0 + 1, none⟩ (.int .i64 s.kd) := ⟨fun _ => Rd.celI m rfl⟩
  have fA : RdsN J ⟨b1, 0, none⟩ 48 s.cells := ⟨fun _ => Rds.allI m, hl⟩
  have fW : RdsN J ⟨b1, 0 + 38, none⟩ 10 s.wt.cells := RdsN.told m (fun j u hj => by rw [sr_w h.rt]; exact hj) rfl
  refine CW.rg (RL.fieldAddr fa_57_0 rfl rfl rfl rfl (RL.loadq Try.isAgg3 rfl rfl rfl rfl ?_))
  refine RL.p rfl (RL.p rfl ?_)
  apply RL.orB (d := 8) (dp := 12) (l' := (Sq.of [])) rfl (sK [1, 2] rfl)
  ·
    intro hb4 K4
    refine RL.fieldAddr fa_57_0 rfl rfl rfl rfl (RL.loadq Try.isAgg3 rfl rfl rfl rfl ?_)
    refine RL.p rfl (RL.p rfl ?_)
    exact K4 _ (.cons rfl (sK [1, 2] rfl))
  ·
    intro hb4 K4
    refine RL.p rfl (RL.p rfl (RL.p rfl (RL.p rfl ?_)))
    exact K4 _ (.cons rfl (sK [1, 2] rfl))
  refine RL.nil (NQ.seq ?_)
  refine CW.cond rfl (fun h1 => ?_) (fun h1 => ?_)
  ·
    refine CW.seq (CW.rg (RL.p rfl (RL.nil (NQ.seq (CW.ret (RQ.seq ?_))))))
    exact RQ.post (res1 rfl rfl) (Split.none _) ⟨by rw [Sr.ok, decide_eq_false (fun e => by simp at h1; omega)], rfl, rfl⟩
  ·
    refine CW.skip (NQ.seq (CW.seq (CW.seq (CW.rg (RL.loadSq Try.isAgg57 Try.sizeOf57 rfl rfl rfl rfl ?_)))))
    refine RL.callvq (aid_any s) Try.call53 rfl rfl rfl rfl ?_
    refine RL.nil (NQ.seq ?_)
    have h1' : 0 ≤ s.id ∧ s.id ≤ 7 := by simp at h1; omega
    refine CW.cond rfl (fun h2 => ?_) (fun h2 => ?_)
    ·
      refine CW.seq (CW.region (ef := [2]) (bk := []) (RL.fieldAddr fa_57_7 rfl rfl rfl rfl (RL.loadSq Try.isAgg55 Try.sizeOf55 rfl rfl rfl rfl ?_)))
      refine RL.call (watch_any s.wt) Try.call103 rfl rfl rfl rfl rfl (by repeat (first | exact Pick.nil | apply Pick.take | apply Pick.leave)) .nil (.inl rfl) ?_
      have h2' : 2 ≤ s.kd ∧ s.kd ≤ 5 := by simpa [aidB] using h2
      rintro _ _ _ ⟨u, rfl, rfl, rfl⟩
      refine RL.p rfl (RL.p rfl (RL.p rfl (RL.p rfl (RL.p rfl (RL.nil (NQ.seq (CW.ok [1, 4] rfl (CW.seq (CW.rg (RL.p rfl (RL.p rfl (RL.p rfl (RL.nil ?_)))))))))))))
      refine NQ.seq (CW.ret (RQ.seq ?_))
      refine RQ.post (res1 rfl rfl) (Split.none _) ⟨?_, rfl, rfl⟩
      show Value.bool (errI s.wt.Ok == 0) = _
      congr 1
      rw [Bool.eq_iff_iff]
      simp [Sr.ok, h1', h2', errI_0]
    ·
      refine CW.skip (NQ.seq (CW.seq (CW.rg (RL.fieldAddr fa_57_1 rfl rfl rfl rfl (RL.loadq Try.isAgg3 rfl rfl rfl rfl ?_)))))
      refine RL.p rfl (RL.p rfl ?_)
      apply RL.orB (d := 26) (dp := 30) (l' := (Sq.of [8])) rfl (sK [2] rfl)
      ·
        intro hb4 K4
        refine RL.fieldAddr fa_57_1 rfl rfl rfl rfl (RL.loadq Try.isAgg3 rfl rfl rfl rfl ?_)
        refine RL.p rfl (RL.p rfl ?_)
        exact K4 _ (.cons rfl (sK [2] rfl))
      ·
        intro hb4 K4
        refine RL.p rfl (RL.p rfl (RL.p rfl (RL.p rfl ?_)))
        exact K4 _ (.cons rfl (sK [2] rfl))
      refine RL.p rfl (RL.nil (NQ.seq (CW.ret ?_)))
      have h2' : ¬ (2 ≤ s.kd ∧ s.kd ≤ 5) := by simpa [aidB] using h2
      refine RQ.post (res1 rfl rfl) (Split.none _) ⟨?_, rfl, rfl⟩
      congr 1
      rw [Bool.eq_iff_iff]
      simp [Sr.ok, h1', h2']
end Go.Proofs.Ytbdnebedmdoehaa
