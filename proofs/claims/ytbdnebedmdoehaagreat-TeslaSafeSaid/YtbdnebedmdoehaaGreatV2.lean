import Derived.Test.YtbdnebedmdoehaaGreatV1
import Derived.Test.YtbdnebedmdoehaaGreatFRd
namespace Go.Proofs.YtbdnebedmdoehaaGreat
open Go.PK
/-! ### Readers -/
structure Act21 where
  d : Int
  t : Int
  iv : Int
  sq : Int
  at_ : Int
  sg : Bool
  rw_ : Bool
  tn : Int
  x : FrA
  k : List B8
def Act21.cells (a : Act21) : List Value := .int .i64 a.d :: .int .i64 a.t :: .int .u32 a.iv :: .int .u8 a.sq :: .int .i64 a.at_ :: .bool a.sg :: .bool a.rw_ :: .int .u8 a.tn :: (a.x.f.cells a.x.sl ++ bytes a.k)
structure Act21.Ok (a : Act21) : Prop where
  x : a.x.Ok
  k : a.k.length = 32
  iv : 0 ≤ a.iv ∧ a.iv ≤ 4294967295
  sq : 0 ≤ a.sq ∧ a.sq ≤ 255
  tn : 0 ≤ a.tn ∧ a.tn ≤ 255
  t : wfk .i64 a.t
  p : wfk .i64 a.at_
theorem act21_len {a : Act21} (h : a.Ok) : a.cells.length = 61 := by
  have := fr_len h.x.f.tag a.x.sl
  simp [Act21.cells, this, h.k]
abbrev Act21.its (a : Act21) : List It := [sls a.x.p 1 a.x.f.b.length (bytes a.x.f.b)]
noncomputable def rU8i : Rdr Tryz.prog 5 Int := Rdr.int .u8 (by kernel_rfl) (by kernel_rfl)
noncomputable def rFix : Rdr Tryz.prog 45 Int := Rdr.int .i64 (by kernel_rfl) (by kernel_rfl)
set_option maxRecDepth 100000
noncomputable def rAct21 : Rdr Tryz.prog 47 Act21 :=
  Rdr.struct (fs := [Field.mk "Do" 3 0 false "" "" 0, Field.mk "Tick" 3 1 false "" "" 8, Field.mk "Interval" 24 2 false "" "" 16, Field.mk "Seq" 5 3 false "" "" 20, Field.mk "At" 45 4 false "" "" 24, Field.mk "Signed" 4 5 false "" "" 32, Field.mk "Raw" 4 6 false "" "" 33, Field.mk "Turn" 5 7 false "" "" 34, Field.mk "F" 30 8 false "" "" 40, Field.mk "Key" 23 29 false "" "" 112].toArray) (tot := 61) (α := Int × Int × Int × Int × Int × Bool × Bool × Int × FrA × List B8 × Unit)
    (by kernel_rfl) (by kernel_rfl)
    (.cons (k := 1) rInt rfl (by kernel_rfl) (by decide) (.cons (k := 1) rInt rfl (by kernel_rfl) (by decide) (.cons (k := 1) rU32 rfl (by kernel_rfl) (by decide) (.cons (k := 1) rU8i rfl (by kernel_rfl) (by decide) (.cons (k := 1) rFix rfl (by kernel_rfl) (by decide) (.cons (k := 1) rBool rfl (by kernel_rfl) (by decide) (.cons (k := 1) rBool rfl (by kernel_rfl) (by decide) (.cons (k := 1) rU8i rfl (by kernel_rfl) (by decide) (.cons (k := 21) rFr rfl (by kernel_rfl) (by decide) (.cons (k := 32) rKey rfl (by kernel_rfl) (by decide) .nil))))))))))
    Act21.cells Act21.its Act21.Ok
    (fun ⟨d, t, iv, sq, p, sg, rw_, tn, x, k, _⟩ h => by
      obtain ⟨h1, h2, h3, h4, h5, h6, h7, h8, h9, h10, -⟩ := h
      refine ⟨⟨d, t, iv, sq, p, sg, rw_, tn, x, k⟩, ?_, ⟨h9, h10.1, wfk_bounds h3, wfk_bounds h4, wfk_bounds h8, h2, h5⟩, ?_⟩
      · show _ = [Value.int .i64 d] ++ ([Value.int .i64 t] ++ ([Value.int .u32 iv] ++ ([Value.int .u8 sq] ++ ([Value.int .i64 p] ++ ([Value.bool sg] ++ ([Value.bool rw_] ++ ([Value.int .u8 tn] ++ (x.f.cells x.sl ++ (bytes k ++ [])))))))))
        simp [Act21.cells]
      · intro y hy
        rw [List.mem_singleton.1 hy]
        simp [Flds.cons, rFr, Rdr.struct])
    (fun _ h => act21_len h)
theorem tvoid (a : Act21) (ha : a.Ok) : Spc Tryz.prog 7 #[.agg a.cells.toArray] a.its [] (Is (.bool true)) := by
  have hal := act21_len ha
  have hfl := fr_len ha.x.f.tag a.x.sl
  have hkl : (bytes a.k).length = 32 := by rw [List.length_map, ha.k]
  have hk := ha.k
  refine Spc.enter Tryz.func7 rfl rfl rfl (fun w0 hw0 => ?_)
  refine CW.seq (CW.region (ef := [0]) (bk := []) (RL.box rfl rfl rfl rfl rfl rfl ?_))
  intro b1
  refine RL.p rfl (RL.nil (NQ.seq (CW.seq (CW.seq (CW.freezeP (A := [_]) (B := []) (.take .nil) rfl ?_)))))
  refine CW.genI (fun J hJ => ?_)
  have mA : cel b1 a.cells 47 ∈ J := hJ _ (by simp)
  have rT : RdI J ⟨b1, 0 + 1, none⟩ (.int .i64 a.t) := ⟨fun _ => Rd.celI mA rfl⟩
  have rI : RdI J ⟨b1, 0 + 2, none⟩ (.int .u32 a.iv) := ⟨fun _ => Rd.celI mA rfl⟩
  have rF : RdsN J ⟨b1, 0 + 8, none⟩ 21 (a.x.f.cells a.x.sl) := RdsN.told mA (fun j u hj => by
    rw [show 0 + 8 + j = j + 1 + 1 + 1 + 1 + 1 + 1 + 1 + 1 by omega]
    exact (List.getElem?_append_left (List.getElem?_eq_some_iff.1 hj).1).trans hj) hfl
  have rK : RdsN J ⟨b1, 0 + 29, none⟩ 32 (bytes a.k) := RdsN.told mA (fun j u hj => by
    rw [show 0 + 29 + j = (21 + j) + 1 + 1 + 1 + 1 + 1 + 1 + 1 + 1 by omega]
    exact ((List.getElem?_append_right (by omega)).trans (by rw [hfl, Nat.add_sub_cancel_left])).trans hj) hkl
  clear hJ
  refine CW.rg (RL.callvq (works21) Tryz.call12 rfl rfl rfl rfl ?_)
  refine RL.p rfl (RL.nil (NQ.seq (CW.condF rfl (rfl) (CW.skip (NQ.seq (CW.seq (CW.rg (RL.p rfl (RL.nil (NQ.seq (CW.seq (CW.region (ef := [0]) (bk := []) (RL.alloc Tryz.zeroValue81 rfl rfl rfl rfl rfl ?_)))))))))))))
  intro b2
  refine RL.nil (NQ.seq (CW.seq (CW.rg (RL.p rfl (RL.fieldAddr fa_47_2 rfl rfl rfl rfl (RL.loadq Tryz.isAgg24 rfl rfl rfl rfl ?_))))))
  refine RL.fieldAddr fa_47_9 rfl rfl rfl rfl (RL.loadSq Tryz.isAgg23 Tryz.sizeOf23 rfl rfl rfl rfl ?_)
  refine RL.callvq (tdis_nil a.iv a.k hk) Tryz.call18 rfl rfl rfl rfl ?_
  refine RL.p rfl (RL.p rfl (RL.p rfl (RL.p rfl (RL.p rfl (RL.nil (NQ.seq (CW.ok [1, 3, 4, 6] rfl (CW.seq (CW.rg (RL.fieldAddr fa_47_2 rfl rfl rfl rfl (RL.loadq Tryz.isAgg24 rfl rfl rfl rfl ?_)))))))))))
  refine RL.fieldAddr fa_47_9 rfl rfl rfl rfl (RL.loadSq Tryz.isAgg23 Tryz.sizeOf23 rfl rfl rfl rfl ?_)
  refine RL.callvq (tdis_zero b2 a.iv a.k hk) Tryz.call18 rfl rfl rfl rfl ?_
  refine RL.p rfl (RL.p rfl (RL.p rfl (RL.p rfl (RL.p rfl (RL.nil (NQ.seq (CW.ok [1, 3, 4, 6, 8] rfl (CW.seq (CW.region (ef := [5, 7]) (bk := [7]) (RL.p rfl (RL.callvq (tknown_nil) Tryz.call20 rfl rfl rfl rfl ?_)))))))))))
  refine RL.p rfl (RL.p rfl (RL.p rfl (RL.alloc (cs := List.replicate 32 (U8 0#8)) Tryz.zeroValue23 rfl rfl rfl rfl rfl ?_)))
  intro b3
  refine RL.p rfl (RL.storeW Tryz.sizeOf23 rfl rfl rfl rfl rfl rfl rfl (ones_map one8 _) (by repeat (first | exact Upd.here | apply Upd.there)) rfl rfl ?_)
  refine RL.nil (NQ.seq (CW.ok [1, 3, 4, 6, 8, 9] rfl (CW.seq (CW.region (ef := [4, 6]) (bk := [6]) (RL.callvq (tknown_zero b2) Tryz.call20 rfl rfl rfl rfl ?_)))))
  refine RL.p rfl (RL.p rfl (RL.p rfl (RL.alloc (cs := List.replicate 32 (U8 0#8)) Tryz.zeroValue23 rfl rfl rfl rfl rfl ?_)))
  intro b4
  refine RL.p rfl (RL.storeW Tryz.sizeOf23 rfl rfl rfl rfl rfl rfl rfl (ones_map one8 _) (by repeat (first | exact Upd.here | apply Upd.there)) rfl rfl ?_)
  refine RL.nil (NQ.seq (CW.seq (CW.rg (RL.p rfl (RL.p rfl (RL.p rfl (RL.cast (d := 43) (v' := .bool true) rfl (rfl) ?_)))))))
  refine RL.p rfl (RL.p rfl (RL.p rfl (RL.p rfl (RL.p rfl (RL.cast (d := 48) (v' := .bool true) rfl (rfl) ?_)))))
  refine RL.p rfl (RL.fieldAddr fa_47_1 rfl rfl rfl rfl (RL.loadq Tryz.isAgg3 rfl rfl rfl rfl ?_))
  refine RL.fieldAddr fa_47_8 rfl rfl rfl rfl (RL.loadSq Tryz.isAgg30 Tryz.sizeOf30 rfl rfl rfl rfl ?_)
  refine RL.callvq (tmess_nil a.t a.x.f _ _ _ ha.x.f) Tryz.call16 rfl rfl rfl rfl ?_
  refine RL.p rfl (RL.p rfl (RL.p rfl (RL.p rfl (RL.cast (d := 58) (v' := .bool true) rfl (rfl) ?_))))
  refine RL.fieldAddr fa_47_1 rfl rfl rfl rfl (RL.loadq Tryz.isAgg3 rfl rfl rfl rfl ?_)
  refine RL.fieldAddr fa_47_8 rfl rfl rfl rfl (RL.loadSq Tryz.isAgg30 Tryz.sizeOf30 rfl rfl rfl rfl ?_)
  refine RL.callvq (tmess_zero b2 a.t a.x.f _ _ _ ha.x.f) Tryz.call16 rfl rfl rfl rfl ?_
  refine RL.p rfl (RL.p rfl (RL.p rfl (RL.p rfl (RL.cast (d := 67) (v' := .bool true) rfl (rfl) ?_))))
  refine RL.p rfl (RL.fieldAddr fa_47_2 rfl rfl rfl rfl (RL.loadq Tryz.isAgg24 rfl rfl rfl rfl ?_))
  refine RL.fieldAddr fa_47_9 rfl rfl rfl rfl (RL.loadSq Tryz.isAgg23 Tryz.sizeOf23 rfl rfl rfl rfl ?_)
  refine RL.callvq (traise_nil a.iv a.k hk) Tryz.call22 rfl rfl rfl rfl ?_
  refine RL.p rfl (RL.p rfl (RL.p rfl (RL.p rfl (RL.cast (d := 77) (v' := .bool true) rfl (rfl) ?_))))
  refine RL.fieldAddr fa_47_2 rfl rfl rfl rfl (RL.loadq Tryz.isAgg24 rfl rfl rfl rfl ?_)
  refine RL.fieldAddr fa_47_9 rfl rfl rfl rfl (RL.loadSq Tryz.isAgg23 Tryz.sizeOf23 rfl rfl rfl rfl ?_)
  refine RL.callvq (traise_zero b2 a.iv a.k hk) Tryz.call22 rfl rfl rfl rfl ?_
  refine RL.p rfl (RL.p rfl (RL.p rfl (RL.p rfl (RL.cast (d := 86) (v' := .bool true) rfl (rfl) ?_))))
  refine RL.p rfl (RL.p rfl (RL.p rfl (RL.cast (d := 89) rfl (show Value.int .u32 (IntKind.u32.wrap (0 + 0)) = .int .u32 0 from rfl) ?_)))
  refine RL.p rfl (RL.p rfl (RL.p rfl (RL.cast (d := 92) (v' := .bool true) rfl (rfl) ?_)))
  refine RL.p rfl (RL.callvq (twaits_nil) Tryz.call28 rfl rfl rfl rfl ?_)
  refine RL.lenS Tryz.runUnderlying82 rfl rfl rfl rfl (RL.callvq (twaits_zero b2) Tryz.call28 rfl rfl rfl rfl ?_)
  refine RL.lenS Tryz.runUnderlying82 rfl rfl rfl rfl (RL.bx rfl (wrapV_i64 (by omega) (by omega)) ?_)
  refine RL.p rfl (RL.callvq (tbad_nil) Tryz.call29 rfl rfl rfl rfl ?_)
  refine RL.bx rfl (wrapV_i64 (by omega) (by omega)) ?_
  refine RL.callvq (trel_zero b2) Tryz.call30 rfl rfl rfl rfl ?_
  refine RL.bx rfl (wrapV_i64 (by omega) (by omega)) ?_
  refine RL.p rfl (RL.callvq (tcount_nil 0) Tryz.call31 rfl rfl rfl rfl ?_)
  refine RL.bx rfl (wrapV_i64 (by omega) (by omega)) ?_
  refine RL.p rfl (RL.callvq (tcount_zero b2 1) Tryz.call31 rfl rfl rfl rfl ?_)
  refine RL.bx rfl (wrapV_i64 (by omega) (by omega)) ?_
  refine RL.p rfl (RL.p rfl (RL.p rfl (RL.nil (NQ.seq (CW.ok [2] rfl (CW.ret ?_))))))
  exact RQ.post (res1 rfl rfl) (Split.none _) ⟨rfl, rfl, rfl⟩
theorem teslaVoid_call (W : World) (a : Act21) (ha : rAct21.ok a) (ta : ∀ y ∈ rAct21.its a, y.A W) :
    Calls Tryz.prog 7 #[rAct21.val a] W (fun e w' => e = .returned (.bool true) ∧ RowKit.Below W.heap.size W w') := (tvoid a ha).lawI ta
end Go.Proofs.YtbdnebedmdoehaaGreat
