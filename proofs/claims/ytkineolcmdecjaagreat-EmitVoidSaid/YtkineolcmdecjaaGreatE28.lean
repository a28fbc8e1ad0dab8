import Derived.Test.YtkineolcmdecjaaGreatEF
import Derived.Test.YtkineolcmdecjaaGreatKRd
namespace Go.Proofs.YtkineolcmdecjaaGreat
open Go.PK
/-! ### A crew that no call made -/
def crwZ : List Value := zeroC.cells (.slice none 0 0) ++ [.slice none 0 0, .map none, .slice none 0 0, .map none]
abbrev zCrw (b : Nat) : It := cel b crwZ 93
theorem crwZ_m : crwZ[0 + 46]? = some (.map none) := rfl
theorem vis_nil : Spc Tryz.prog 50 #[.pointer none] [] [] (Is (.bool false)) := by
  refine Spc.enter Tryz.func50 rfl rfl rfl (fun w0 hw0 => ?_)
  refine CW.seq (CW.rg (RL.p rfl (RL.nil (NQ.seq (CW.seq (CW.rg (RL.p rfl (RL.cmp rfl rfl rfl rfl rfl (neq_ptr Tryz.runUnderlying36 _) (RL.p rfl (RL.p rfl (RL.p rfl (RL.p rfl (RL.p rfl ?_)))))))))))))
  refine RL.p rfl (RL.p rfl (RL.p rfl (RL.nil (NQ.seq (CW.ok [2] rfl (CW.ret ?_))))))
  exact RQ.post (res1 rfl rfl) (Split.none _) ⟨rfl, rfl, rfl⟩
theorem vfind_nil (n : Int) : Spc Tryz.prog 56 #[.pointer none, .int .i64 n] [] [] (Is (.tuple #[.pointer none, .int .i64 1])) := by
  refine Spc.enter Tryz.func56 rfl rfl rfl (fun w0 hw0 => ?_)
  refine CW.seq (CW.rg (RL.p rfl (RL.p rfl (RL.nil (NQ.seq (CW.seq (CW.seq (CW.rg (RL.p rfl (RL.callvq (vis_nil) Tryz.call50 rfl rfl rfl rfl ?_))))))))))
  refine RL.p rfl (RL.nil (NQ.seq (CW.condT rfl (rfl) (CW.seq (CW.rg (RL.p rfl (RL.p rfl (RL.nil (NQ.seq (CW.ret (RQ.seq ?_)))))))))))
  exact RQ.post (res2 rfl rfl rfl) (Split.none _) ⟨rfl, rfl, rfl⟩
theorem vafar_nil (t : Int) (f : Value) : Spc Tryz.prog 58 #[.pointer none, .int .i64 t, f] [] [] (Is (.tuple #[.agg zeroS.cells.toArray, .int .i64 0, .int .i64 1])) := by
  refine Spc.enter Tryz.func58 rfl rfl rfl (fun w0 hw0 => ?_)
  refine CW.seq (CW.region (ef := [0]) (bk := []) (RL.alloc Tryz.zeroValue122 rfl rfl rfl rfl rfl ?_))
  intro b1
  refine RL.p rfl (RL.p rfl (RL.nil (NQ.seq (CW.seq (CW.seq (CW.rg (RL.p rfl (RL.callvq (vis_nil) Tryz.call50 rfl rfl rfl rfl ?_))))))))
  refine RL.p rfl (RL.nil (NQ.seq (CW.condT rfl (rfl) (CW.seq (CW.region (ef := [1]) (bk := [1]) (RL.buildS zeroS.cells Tryz.zeroValue122 pl_122 rfl rfl rfl rfl rfl (RL.storeW Tryz.sizeOf122 rfl rfl rfl rfl rfl rfl rfl (sr_ones zeroS) (by repeat (first | exact Upd.here | apply Upd.there)) rfl rfl ?_)))))))
  refine RL.p rfl (RL.p rfl (RL.nil (NQ.seq (CW.ret (RQ.seq ?_)))))
  exact RQ.post (resW3 rfl rfl rfl rfl Tryz.isAgg122 Tryz.sizeOf122 (by repeat (first | exact List.Mem.head _ | apply List.Mem.tail)) rfl) (Split.none _) ⟨rfl, rfl, rfl⟩
theorem vsaid_nil (f : Fr) (sl : Value) (hf : f.tag.length = 16) : Spc Tryz.prog 25 #[.pointer none, .agg (f.cells sl).toArray] [] [] (Is (.bool false)) := by
  have h21 := fr_len hf sl
  refine Spc.enter Tryz.func25 rfl rfl rfl (fun w0 hw0 => ?_)
  refine CW.seq (CW.region (ef := [0]) (bk := []) (RL.box rfl rfl rfl rfl rfl rfl ?_))
  intro b1
  refine RL.p rfl (RL.nil (NQ.seq (CW.seq (CW.regionD (Sq.of [0, 1, 2, 3, 4, 5, 6, 7, 10, 8, 9, 11, 12, 13]) [8, 11] [] [0, 2, 3, 4, 5, 10, 12, 13] mixed (by kernel_rfl) ?_))))
  refine RL.p rfl (RL.callvq (vis_nil) Tryz.call50 rfl rfl rfl rfl ?_)
  refine RL.p rfl (RL.cast (d := 7) (v' := .bool false) rfl (rfl) ?_)
  refine RL.p rfl (RL.p rfl (RL.p rfl (RL.p rfl (RL.p rfl (RL.p rfl (RL.p rfl (RL.p rfl (RL.p rfl (RL.p rfl (RL.p rfl (RL.nil (NQ.seq (CW.ok [4] rfl ?_)))))))))))))
  refine CW.ret ?_
  exact RQ.post (res1 rfl rfl) (Split.none _) ⟨rfl, rfl, rfl⟩
theorem vled_nil : Spc Tryz.prog 16 #[.pointer none] [] [] (Is (.slice none 0 0)) := by
  refine Spc.enter Tryz.func16 rfl rfl rfl (fun w0 hw0 => ?_)
  refine CW.seq (CW.rg (RL.p rfl (RL.nil (NQ.seq (CW.seq (CW.rg (RL.p rfl (RL.nil (NQ.seq (CW.seq (CW.seq (CW.rg (RL.p rfl ?_)))))))))))))
  refine RL.callvq (vis_nil) Tryz.call50 rfl rfl rfl rfl ?_
  refine RL.p rfl (RL.nil (NQ.seq (CW.condT rfl (rfl) (CW.seq (CW.rg (RL.p rfl (RL.p rfl (RL.nil (NQ.seq (CW.ret (RQ.seq ?_)))))))))))
  exact RQ.post (res1 rfl rfl) (Split.none _) ⟨rfl, rfl, rfl⟩
theorem vsend_nil (n : Int) (r : Rdg) : Spc Tryz.prog 19 #[.pointer none, .int .i64 n, .agg r.cells.toArray] [] [] (Is (.tuple #[.slice none 0 0, .int .i64 1])) := by
  have h57 : r.cells.length = 57 := rfl
  refine Spc.enter Tryz.func19 rfl rfl rfl (fun w0 hw0 => ?_)
  refine CW.seq (CW.region (ef := [0]) (bk := []) (RL.box rfl rfl rfl rfl rfl rfl ?_))
  intro b1
  refine RL.p rfl (RL.p rfl (RL.nil (NQ.seq (CW.seq (CW.rg (RL.p rfl (RL.p rfl (RL.callvq (vfind_nil n) Tryz.call56 rfl rfl rfl rfl ?_))))))))
  refine RL.p rfl (RL.p rfl (RL.p rfl (RL.p rfl (RL.p rfl (RL.nil (NQ.seq (CW.ok [0, 5, 8, 9] rfl (CW.seq (CW.block (CW.seq (CW.rg (RL.p rfl (RL.p rfl ?_)))))))))))))
  refine RL.p rfl (RL.nil (NQ.seq (CW.condT rfl (rfl) (CW.seq (CW.rg (RL.p rfl (RL.p rfl (RL.p rfl (RL.nil (NQ.seq (CW.ret (RQ.block (RQ.seq ?_)))))))))))))
  exact RQ.post (res2 rfl rfl rfl) (Split.none _) ⟨rfl, rfl, rfl⟩
theorem vfar_nil (t : Int) (q : B8) (p0 p1 p2 : Int) : Spc Tryz.prog 21 #[.pointer none, .int .i64 t, U8 q, .agg #[.int .i64 p0, .int .i64 p1, .int .i64 p2]] [] [] (Is (.tuple #[.slice none 0 0, .int .i64 1])) := by
  refine Spc.enter Tryz.func21 rfl rfl rfl (fun w0 hw0 => ?_)
  refine CW.seq (CW.region (ef := [0]) (bk := []) (RL.box rfl rfl rfl rfl rfl rfl ?_))
  intro b1
  refine RL.p rfl (RL.p rfl (RL.nil (NQ.seq (CW.seq (CW.region (ef := [7, 8]) (bk := [8]) (RL.p rfl (RL.p rfl (RL.callvq (vafar_nil t _) Tryz.call58 rfl rfl rfl rfl ?_))))))))
  refine RL.p rfl (RL.p rfl (RL.p rfl (RL.p rfl (RL.alloc Tryz.zeroValue122 rfl rfl rfl rfl rfl ?_))))
  intro b2
  refine RL.storeW Tryz.sizeOf122 rfl rfl rfl rfl rfl rfl rfl (sr_ones zeroS) (by repeat (first | exact Upd.here | apply Upd.there)) rfl rfl ?_
  refine RL.p rfl (RL.p rfl (RL.nil (NQ.seq (CW.ok [0, 2, 7, 10, 11, 12] rfl (CW.seq (CW.block (CW.seq (CW.rg (RL.p rfl (RL.p rfl (RL.p rfl (RL.nil (NQ.seq ?_)))))))))))))
  refine CW.condT rfl (rfl) (CW.seq (CW.rg (RL.p rfl (RL.p rfl (RL.p rfl (RL.nil (NQ.seq (CW.ret (RQ.block (RQ.seq ?_))))))))))
  exact RQ.post (res2 rfl rfl rfl) (Split.none _) ⟨rfl, rfl, rfl⟩
theorem vmark_nil (n : Int) : Spc Tryz.prog 23 #[.pointer none, .int .i64 n] [] [] (Is (.tuple #[.int .u32 0, .int .u64 0])) := by
  refine Spc.enter Tryz.func23 rfl rfl rfl (fun w0 hw0 => ?_)
  refine CW.seq (CW.rg (RL.p rfl (RL.p rfl (RL.nil (NQ.seq (CW.seq (CW.rg (RL.p rfl (RL.p rfl (RL.callvq (vfind_nil n) Tryz.call56 rfl rfl rfl rfl ?_))))))))))
  refine RL.p rfl (RL.p rfl (RL.p rfl (RL.p rfl (RL.p rfl (RL.nil (NQ.seq (CW.ok [6, 7] rfl (CW.seq (CW.seq (CW.rg (RL.p rfl (RL.p rfl (RL.nil ?_)))))))))))))
  refine NQ.seq (CW.condT rfl (rfl) (CW.seq (CW.rg (RL.p rfl (RL.p rfl (RL.nil (NQ.seq (CW.ret (RQ.seq ?_)))))))))
  exact RQ.post (res2 rfl rfl rfl) (Split.none _) ⟨rfl, rfl, rfl⟩
theorem vskip_nil (n m : Int) : Spc Tryz.prog 24 #[.pointer none, .int .i64 n, .int .u64 m] [] [] (Is (.int .i64 1)) := by
  refine Spc.enter Tryz.func24 rfl rfl rfl (fun w0 hw0 => ?_)
  refine CW.seq (CW.rg (RL.p rfl (RL.nil (NQ.seq (CW.seq (CW.rg (RL.p rfl (RL.p rfl (RL.callvq (vfind_nil n) Tryz.call56 rfl rfl rfl rfl ?_)))))))))
  refine RL.p rfl (RL.p rfl (RL.p rfl (RL.p rfl (RL.p rfl (RL.nil (NQ.seq (CW.ok [2, 7, 8] rfl (CW.seq (CW.seq (CW.rg (RL.p rfl (RL.p rfl (RL.nil ?_)))))))))))))
  refine NQ.seq (CW.condF rfl (rfl) (CW.skip (NQ.seq (CW.seq (CW.rg (RL.p rfl (RL.p rfl (RL.nil (NQ.seq (CW.ok [6] rfl (CW.ret ?_)))))))))))
  exact RQ.post (res1 rfl rfl) (Split.none _) ⟨rfl, rfl, rfl⟩
theorem vis_zero (b : Nat): Spc Tryz.prog 50 #[.pointer (some ⟨b, 0, none⟩)] [zCrw b] [] (Is (.bool false)) := by
  refine Spc.enter Tryz.func50 rfl rfl rfl (fun w0 hw0 => ?_)
  refine CW.seq (CW.rg (RL.p rfl (RL.nil (NQ.seq (CW.seq (CW.rg (RL.p rfl (RL.cmp rfl rfl rfl rfl rfl (neq_ptr Tryz.runUnderlying36 _) (RL.p rfl (RL.p rfl (RL.p rfl (RL.fieldAddr fa_93_2 rfl rfl rfl rfl (RL.load Tryz.isAgg90 rfl rfl rfl rfl (Rd.getI (by repeat (first | exact List.Mem.head _ | apply List.Mem.tail)) crwZ_m) ?_)))))))))))))
  refine RL.cmp rfl rfl rfl rfl rfl (neq_map Tryz.runUnderlying90 _) (RL.p rfl (RL.p rfl (RL.nil (NQ.seq (CW.ok [2] rfl (CW.ret ?_))))))
  exact RQ.post (res1 rfl rfl) (Split.none _) ⟨rfl, rfl, rfl⟩
theorem vfind_zero (b : Nat)(n : Int) : Spc Tryz.prog 56 #[.pointer (some ⟨b, 0, none⟩), .int .i64 n] [zCrw b] [] (Is (.tuple #[.pointer none, .int .i64 1])) := by
  refine Spc.enter Tryz.func56 rfl rfl rfl (fun w0 hw0 => ?_)
  refine CW.seq (CW.rg (RL.p rfl (RL.p rfl (RL.nil (NQ.seq (CW.seq (CW.seq (CW.rg (RL.p rfl (RL.callvq (vis_zero b) Tryz.call50 rfl rfl rfl rfl ?_))))))))))
  refine RL.p rfl (RL.nil (NQ.seq (CW.condT rfl (rfl) (CW.seq (CW.rg (RL.p rfl (RL.p rfl (RL.nil (NQ.seq (CW.ret (RQ.seq ?_)))))))))))
  exact RQ.post (res2 rfl rfl rfl) (Split.none _) ⟨rfl, rfl, rfl⟩
theorem vafar_zero (b : Nat)(t : Int) (f : Value) : Spc Tryz.prog 58 #[.pointer (some ⟨b, 0, none⟩), .int .i64 t, f] [zCrw b] [] (Is (.tuple #[.agg zeroS.cells.toArray, .int .i64 0, .int .i64 1])) := by
  refine Spc.enter Tryz.func58 rfl rfl rfl (fun w0 hw0 => ?_)
  refine CW.seq (CW.region (ef := [0]) (bk := []) (RL.alloc Tryz.zeroValue122 rfl rfl rfl rfl rfl ?_))
  intro b1
  refine RL.p rfl (RL.p rfl (RL.nil (NQ.seq (CW.seq (CW.seq (CW.rg (RL.p rfl (RL.callvq (vis_zero b) Tryz.call50 rfl rfl rfl rfl ?_))))))))
  refine RL.p rfl (RL.nil (NQ.seq (CW.condT rfl (rfl) (CW.seq (CW.region (ef := [1]) (bk := [1]) (RL.buildS zeroS.cells Tryz.zeroValue122 pl_122 rfl rfl rfl rfl rfl (RL.storeW Tryz.sizeOf122 rfl rfl rfl rfl rfl rfl rfl (sr_ones zeroS) (by repeat (first | exact Upd.here | apply Upd.there)) rfl rfl ?_)))))))
  refine RL.p rfl (RL.p rfl (RL.nil (NQ.seq (CW.ret (RQ.seq ?_)))))
  exact RQ.post (resW3 rfl rfl rfl rfl Tryz.isAgg122 Tryz.sizeOf122 (by repeat (first | exact List.Mem.head _ | apply List.Mem.tail)) rfl) (Split.none _) ⟨rfl, rfl, rfl⟩
theorem vsaid_zero (b : Nat)(f : Fr) (sl : Value) (hf : f.tag.length = 16) : Spc Tryz.prog 25 #[.pointer (some ⟨b, 0, none⟩), .agg (f.cells sl).toArray] [zCrw b] [] (Is (.bool false)) := by
  have h21 := fr_len hf sl
  refine Spc.enter Tryz.func25 rfl rfl rfl (fun w0 hw0 => ?_)
  refine CW.seq (CW.region (ef := [0]) (bk := []) (RL.box rfl rfl rfl rfl rfl rfl ?_))
  intro b1
  refine RL.p rfl (RL.nil (NQ.seq (CW.seq (CW.regionD (Sq.of [0, 1, 2, 3, 4, 5, 6, 7, 10, 8, 9, 11, 12, 13]) [8, 11] [] [0, 2, 3, 4, 5, 10, 12, 13] mixed (by kernel_rfl) ?_))))
  refine RL.p rfl (RL.callvq (vis_zero b) Tryz.call50 rfl rfl rfl rfl ?_)
  refine RL.p rfl (RL.cast (d := 7) (v' := .bool false) rfl (rfl) ?_)
  refine RL.p rfl (RL.p rfl (RL.p rfl (RL.p rfl (RL.p rfl (RL.p rfl (RL.p rfl (RL.p rfl (RL.p rfl (RL.p rfl (RL.p rfl (RL.nil (NQ.seq (CW.ok [4] rfl ?_)))))))))))))
  refine CW.ret ?_
  exact RQ.post (res1 rfl rfl) (Split.none _) ⟨rfl, rfl, rfl⟩
theorem vled_zero (b : Nat): Spc Tryz.prog 16 #[.pointer (some ⟨b, 0, none⟩)] [zCrw b] [] (Is (.slice none 0 0)) := by
  refine Spc.enter Tryz.func16 rfl rfl rfl (fun w0 hw0 => ?_)
  refine CW.seq (CW.rg (RL.p rfl (RL.nil (NQ.seq (CW.seq (CW.rg (RL.p rfl (RL.nil (NQ.seq (CW.seq (CW.seq (CW.rg (RL.p rfl ?_)))))))))))))
  refine RL.callvq (vis_zero b) Tryz.call50 rfl rfl rfl rfl ?_
  refine RL.p rfl (RL.nil (NQ.seq (CW.condT rfl (rfl) (CW.seq (CW.rg (RL.p rfl (RL.p rfl (RL.nil (NQ.seq (CW.ret (RQ.seq ?_)))))))))))
  exact RQ.post (res1 rfl rfl) (Split.none _) ⟨rfl, rfl, rfl⟩
theorem vroll_zero (b : Nat) (n : Int) : Spc Tryz.prog 20 #[.pointer (some ⟨b, 0, none⟩), .int .i64 n] [zCrw b] [] (Is (.tuple #[.slice none 0 0, .int .i64 1])) := by
  refine Spc.enter Tryz.func20 rfl rfl rfl (fun w0 hw0 => ?_)
  refine CW.seq (CW.rg (RL.p rfl (RL.p rfl (RL.nil (NQ.seq (CW.seq (CW.rg (RL.p rfl (RL.p rfl (RL.callvq (vfind_zero b n) Tryz.call56 rfl rfl rfl rfl ?_))))))))))
  refine RL.p rfl (RL.p rfl (RL.p rfl (RL.p rfl (RL.p rfl (RL.nil (NQ.seq (CW.ok [0, 6, 7] rfl (CW.seq (CW.block (CW.seq (CW.rg (RL.p rfl (RL.p rfl ?_)))))))))))))
  refine RL.p rfl (RL.nil (NQ.seq (CW.condT rfl (rfl) (CW.seq (CW.rg (RL.p rfl (RL.p rfl (RL.p rfl (RL.nil (NQ.seq (CW.ret (RQ.block (RQ.seq ?_)))))))))))))
  exact RQ.post (res2 rfl rfl rfl) (Split.none _) ⟨rfl, rfl, rfl⟩
theorem vkey_zero (b : Nat) (t : Int) : Spc Tryz.prog 22 #[.pointer (some ⟨b, 0, none⟩), .int .i64 t] [zCrw b] [] (Is (.tuple #[.slice none 0 0, .int .i64 1])) := by
  refine Spc.enter Tryz.func22 rfl rfl rfl (fun w0 hw0 => ?_)
  refine CW.seq (CW.rg (RL.p rfl (RL.p rfl (RL.nil (NQ.seq (CW.seq (CW.region (ef := [7, 8]) (bk := [8]) (RL.p rfl (RL.p rfl (RL.callvq (vafar_zero b t _) Tryz.call58 rfl rfl rfl rfl ?_))))))))))
  refine RL.p rfl (RL.p rfl (RL.p rfl (RL.p rfl (RL.alloc Tryz.zeroValue122 rfl rfl rfl rfl rfl ?_))))
  intro b1
  refine RL.storeW Tryz.sizeOf122 rfl rfl rfl rfl rfl rfl rfl (sr_ones zeroS) (by repeat (first | exact Upd.here | apply Upd.there)) rfl rfl ?_
  refine RL.p rfl (RL.p rfl (RL.nil (NQ.seq (CW.ok [0, 6, 7, 8] rfl (CW.seq (CW.seq (CW.rg (RL.p rfl (RL.p rfl (RL.nil (NQ.seq (CW.condT rfl (rfl) (CW.seq ?_)))))))))))))
  refine CW.rg (RL.p rfl (RL.p rfl (RL.p rfl (RL.nil (NQ.seq (CW.ret (RQ.seq ?_)))))))
  exact RQ.post (res2 rfl rfl rfl) (Split.none _) ⟨rfl, rfl, rfl⟩
structure Act33 where
  d : Int
  s : Int
  t : Int
  r : Rdg
  n : Int
def Act33.cells (a : Act33) : List Value := .int .i64 a.d :: .int .i64 a.s :: .int .i64 a.t :: (a.r.cells ++ [.int .u64 a.n])
structure Act33.Ok (a : Act33) : Prop where
  r : a.r.Ok
  n : 0 ≤ a.n ∧ a.n ≤ 18446744073709551615
theorem act33_len (a : Act33) : a.cells.length = 61 := rfl
theorem act33_r (a : Act33) : ∀ (j : Nat) (u : Value), a.r.cells[j]? = some u → a.cells[0 + 3 + j]? = some u := fun j u hj => by
  rw [show 0 + 3 + j = j + 1 + 1 + 1 by omega, Act33.cells]
  simp only [List.getElem?_cons_succ]
  rw [List.getElem?_append_left (List.getElem?_eq_some_iff.1 hj).1]; exact hj
theorem evoid (a : Act33) (ha : a.Ok) : Spc Tryz.prog 4 #[.agg a.cells.toArray] [] [] (Is (.bool true)) := by
  have h61 := act33_len a
  refine Spc.enter Tryz.func4 rfl rfl rfl (fun w0 hw0 => ?_)
  refine CW.seq (CW.region (ef := [0]) (bk := []) (RL.box rfl rfl rfl rfl rfl rfl ?_))
  intro b1
  refine RL.p rfl (RL.nil (NQ.seq (CW.seq (CW.seq (CW.freezeP (A := [_]) (B := []) (.take .nil) rfl ?_)))))
  refine CW.genI (fun J hJ => ?_)
  have mA : cel b1 a.cells 71 ∈ J := hJ _ (by simp)
  clear hJ
  have rS : RdI J ⟨b1, 0 + 1, none⟩ (.int .i64 a.s) := ⟨fun _ => Rd.celI mA rfl⟩
  have rT : RdI J ⟨b1, 0 + 2, none⟩ (.int .i64 a.t) := ⟨fun _ => Rd.celI mA rfl⟩
  have rR : RdsN J ⟨b1, 0 + 3, none⟩ 57 a.r.cells := RdsN.told mA (act33_r a) rfl
  refine CW.rg (RL.callvq (works33) Tryz.call6 rfl rfl rfl rfl ?_)
  refine RL.p rfl (RL.nil (NQ.seq (CW.condF rfl (rfl) (CW.skip (NQ.seq (CW.seq (CW.rg (RL.p rfl (RL.nil (NQ.seq (CW.seq (CW.region (ef := [0]) (bk := []) (RL.alloc Tryz.zeroValue93 rfl rfl rfl rfl rfl ?_)))))))))))))
  intro b2
  refine RL.nil (NQ.seq (CW.seq (CW.freezeP (A := [zCrw b2]) (B := []) (.take .nil) rfl ?_)))
  refine CW.genI (fun J2 hJ2 => ?_)
  have mZ : zCrw b2 ∈ J2 := hJ2 _ (List.Mem.head _)
  have mA : cel b1 a.cells 71 ∈ J2 := hJ2 _ (List.Mem.tail _ mA)
  clear hJ2 rS rT rR
  have rS : RdI J2 ⟨b1, 0 + 1, none⟩ (.int .i64 a.s) := ⟨fun _ => Rd.celI mA rfl⟩
  have rT : RdI J2 ⟨b1, 0 + 2, none⟩ (.int .i64 a.t) := ⟨fun _ => Rd.celI mA rfl⟩
  have rR : RdsN J2 ⟨b1, 0 + 3, none⟩ 57 a.r.cells := RdsN.told mA (act33_r a) rfl
  refine CW.rg (RL.p rfl (RL.fieldAddr fa_71_1 rfl rfl rfl rfl (RL.loadq Tryz.isAgg3 rfl rfl rfl rfl ?_)))
  refine RL.fieldAddr fa_71_3 rfl rfl rfl rfl (RL.loadSq Tryz.isAgg69 Tryz.sizeOf69 rfl rfl rfl rfl ?_)
  refine RL.callvq (vsend_nil a.s a.r) Tryz.call19 rfl rfl rfl rfl ?_
  refine RL.p rfl (RL.p rfl (RL.p rfl (RL.p rfl (RL.p rfl (RL.nil (NQ.seq (CW.ok [1, 3, 4, 6] rfl (CW.seq (CW.rg (RL.fieldAddr fa_71_1 rfl rfl rfl rfl (RL.loadq Tryz.isAgg3 rfl rfl rfl rfl ?_)))))))))))
  refine RL.callv (vroll_zero b2 a.s) Tryz.call20 rfl rfl rfl rfl (.inI mZ .nil) (RL.p rfl (RL.p rfl (RL.p rfl (RL.p rfl (RL.p rfl (RL.nil (NQ.seq (CW.ok [1, 3, 4, 6, 8] rfl (CW.seq (CW.rg (RL.p rfl (RL.fieldAddr fa_71_2 rfl rfl rfl rfl (RL.loadq Tryz.isAgg3 rfl rfl rfl rfl ?_)))))))))))))
  refine RL.buildA _ Tryz.zeroValue27 Tryz.runUnderlying27 Tryz.sizeOf25 rfl rfl rfl rfl rfl (RL.callvq (vfar_nil a.t 0#8 0 0 0) Tryz.call21 rfl rfl rfl rfl ?_)
  refine RL.p rfl (RL.p rfl (RL.p rfl (RL.p rfl (RL.p rfl (RL.nil (NQ.seq (CW.ok [1, 3, 4, 6, 8, 10] rfl (CW.seq (CW.rg (RL.fieldAddr fa_71_2 rfl rfl rfl rfl (RL.loadq Tryz.isAgg3 rfl rfl rfl rfl ?_)))))))))))
  refine RL.callv (vkey_zero b2 a.t) Tryz.call22 rfl rfl rfl rfl (.inI mZ .nil) (RL.p rfl (RL.p rfl (RL.p rfl (RL.p rfl (RL.p rfl (RL.nil (NQ.seq (CW.ok [1, 3, 4, 6, 8, 10, 12] rfl (CW.seq (CW.rg (RL.p rfl (RL.fieldAddr fa_71_1 rfl rfl rfl rfl (RL.loadq Tryz.isAgg3 rfl rfl rfl rfl ?_)))))))))))))
  refine RL.callvq (vmark_nil a.s) Tryz.call23 rfl rfl rfl rfl ?_
  refine RL.p rfl (RL.p rfl (RL.p rfl (RL.p rfl (RL.p rfl (RL.nil (NQ.seq (CW.ok [1, 3, 4, 6, 8, 10, 12, 13, 14] rfl (CW.seq (CW.rg (RL.p rfl (RL.p rfl (RL.p rfl (RL.cast (d := 55) (v' := .bool true) rfl (rfl) ?_)))))))))))))
  refine RL.p rfl (RL.p rfl (RL.p rfl (RL.p rfl (RL.p rfl (RL.cast (d := 60) (v' := .bool true) rfl (rfl) ?_)))))
  refine RL.p rfl (RL.p rfl (RL.p rfl (RL.p rfl (RL.p rfl (RL.cast (d := 65) (v' := .bool true) rfl (rfl) ?_)))))
  refine RL.p rfl (RL.p rfl (RL.p rfl (RL.p rfl (RL.p rfl (RL.cast (d := 70) (v' := .bool true) rfl (rfl) ?_)))))
  refine RL.p rfl (RL.fieldAddr fa_71_1 rfl rfl rfl rfl (RL.loadq Tryz.isAgg3 rfl rfl rfl rfl ?_))
  refine RL.callvq (vskip_nil a.s 1) Tryz.call24 rfl rfl rfl rfl ?_
  refine RL.p rfl (RL.p rfl (RL.p rfl (RL.p rfl (RL.cast (d := 78) (v' := .bool true) rfl (rfl) ?_))))
  refine RL.p rfl (RL.buildS _ Tryz.zeroValue78 pl_78 rfl rfl rfl rfl rfl (RL.callv (vsaid_nil fr0 (.slice none 0 0) rfl) Tryz.call25 rfl rfl rfl rfl .nil (RL.p rfl (RL.p rfl (RL.p rfl (RL.cast (d := 84) (v' := .bool true) rfl (rfl) ?_))))))
  refine RL.buildS _ Tryz.zeroValue78 pl_78 rfl rfl rfl rfl rfl (RL.callv (vsaid_zero b2 fr0 (.slice none 0 0) rfl) Tryz.call25 rfl rfl rfl rfl (.inI mZ .nil) (RL.p rfl (RL.p rfl (RL.p rfl (RL.cast (d := 89) (v' := .bool true) rfl (rfl) ?_)))))
  refine RL.p rfl (RL.callv (vled_nil) Tryz.call16 rfl rfl rfl rfl .nil (RL.lenS Tryz.runUnderlying72 rfl rfl rfl rfl (RL.callv (vled_zero b2) Tryz.call16 rfl rfl rfl rfl (.inI mZ .nil) (RL.lenS Tryz.runUnderlying72 rfl rfl rfl rfl (RL.bx rfl (wrapV_i64 (by omega) (by omega)) ?_)))))
  refine RL.p rfl (RL.p rfl (RL.p rfl (RL.cast (d := 98) (v' := .bool true) rfl (rfl) ?_)))
  refine RL.p rfl (RL.p rfl (RL.p rfl (RL.p rfl (RL.cast (d := 102) (v' := .bool true) rfl (rfl) ?_))))
  refine RL.p rfl (RL.p rfl (RL.p rfl (RL.p rfl (RL.nil (NQ.seq (CW.ok [2] rfl (CW.ret ?_)))))))
  exact RQ.post (res1 rfl rfl) (Split.none _) ⟨rfl, rfl, rfl⟩
set_option maxRecDepth 100000
noncomputable def rAct33 : Rdr Tryz.prog 71 Act33 :=
  Rdr.struct (fs := [Field.mk "Do" 3 0 false "" "" 0, Field.mk "Source" 3 1 false "" "" 8, Field.mk "Tick" 3 2 false "" "" 16, Field.mk "R" 69 3 false "" "" 24, Field.mk "By" 32 60 false "" "" 184].toArray) (tot := 61) (α := Int × Int × Int × Rdg × Int × Unit)
    (by kernel_rfl) (by kernel_rfl)
    (.cons (k := 1) rInt rfl (by kernel_rfl) (by decide) (.cons (k := 1) rInt rfl (by kernel_rfl) (by decide) (.cons (k := 1) rInt rfl (by kernel_rfl) (by decide) (.cons (k := 57) rRdg rfl (by kernel_rfl) (by decide) (.cons (k := 1) rU64 rfl (by kernel_rfl) (by decide) .nil)))))
    Act33.cells (fun _ => []) Act33.Ok
    (fun ⟨d, s, t, r, n, _⟩ h => by
      obtain ⟨h1, h2, h3, h4, h5, -⟩ := h
      refine ⟨⟨d, s, t, r, n⟩, ?_, ⟨h4, wfk_bounds h5⟩, fun y hy => by simp at hy⟩
      show _ = [Value.int .i64 d] ++ ([Value.int .i64 s] ++ ([Value.int .i64 t] ++ (r.cells ++ ([Value.int .u64 n] ++ []))))
      simp [Act33.cells])
    (fun _ _ => rfl)
theorem emitVoid_call (W : World) (a : Act33) (ha : rAct33.ok a) (ta : ∀ y ∈ rAct33.its a, y.A W) :
    Calls Tryz.prog 4 #[rAct33.val a] W (fun e w' => e = .returned (.bool true) ∧ RowKit.Below W.heap.size W w') := (evoid a ha).lawI ta
end Go.Proofs.YtkineolcmdecjaaGreat
