import Derived.Test.YtbdnebedmdoehaaGreatSC
namespace Go.Proofs.YtbdnebedmdoehaaGreat
open Go.PK
/-! ### A receiver that no call made -/
abbrev zRec (b : Nat) : It := cel b rcZ 81
theorem rcZ_q : rcZ[0 + 37]? = some (.pointer none) := rfl
theorem tis_nil : Spc Tryz.prog 42 #[.pointer none] [] [] (Is (.bool false)) := by
  refine Spc.enter Tryz.func42 rfl rfl rfl (fun w0 hw0 => ?_)
  refine CW.seq (CW.rg (RL.p rfl (RL.nil (NQ.seq (CW.seq (CW.rg (RL.p rfl (RL.cmp rfl rfl rfl rfl rfl (neq_ptr Tryz.runUnderlying41 _) (RL.p rfl (RL.p rfl (RL.p rfl (RL.p rfl (RL.p rfl ?_)))))))))))))
  refine RL.p rfl (RL.p rfl (RL.p rfl (RL.nil (NQ.seq (CW.ok [2] rfl (CW.ret ?_))))))
  exact RQ.post (res1 rfl rfl) (Split.none _) ⟨rfl, rfl, rfl⟩
theorem tmess_nil (t : Int) (f : Fr) (q : Option Addr) (cc n : Nat) (hf : f.Ok) : Spc Tryz.prog 16 #[.pointer none, .int .i64 t, .agg (f.cells (.slice q n cc)).toArray] [] [] (Is (.int .i64 1)) := by
  have hl := fr_len hf.tag (.slice q n cc)
  refine Spc.enter Tryz.func16 rfl rfl rfl (fun w0 hw0 => ?_)
  refine CW.seq (CW.region (ef := [0]) (bk := []) (RL.box rfl rfl rfl rfl rfl rfl ?_))
  intro b1
  refine RL.p rfl (RL.nil (NQ.seq (CW.seq (CW.block (CW.seq (CW.rg (RL.p rfl (RL.callvq (tis_nil) Tryz.call42 rfl rfl rfl rfl ?_))))))))
  refine RL.p rfl (RL.p rfl (RL.nil (NQ.seq (CW.condT rfl (rfl) (CW.seq (CW.rg (RL.p rfl (RL.nil (NQ.seq (CW.ret (RQ.block (RQ.seq ?_))))))))))))
  exact RQ.post (res1 rfl rfl) (Split.none _) ⟨rfl, rfl, rfl⟩
theorem traise_nil (iv : Int) (k : List B8) (hk : k.length = 32) : Spc Tryz.prog 22 #[.pointer none, .int .u32 iv, .agg (bytes k).toArray] [] [] (Is (.int .i64 1)) := by
  refine Spc.enter Tryz.func22 rfl rfl rfl (fun w0 hw0 => ?_)
  refine CW.seq (CW.region (ef := [0]) (bk := []) (RL.box rfl rfl rfl rfl rfl rfl ?_))
  intro b1
  refine RL.p rfl (RL.nil (NQ.seq (CW.seq (CW.block (CW.seq (CW.rg (RL.p rfl (RL.callvq (tis_nil) Tryz.call42 rfl rfl rfl rfl ?_))))))))
  refine RL.p rfl (RL.p rfl (RL.nil (NQ.seq (CW.condT rfl (rfl) (CW.seq (CW.rg (RL.p rfl (RL.nil (NQ.seq (CW.ret (RQ.block (RQ.seq ?_))))))))))))
  exact RQ.post (res1 rfl rfl) (Split.none _) ⟨rfl, rfl, rfl⟩
theorem tdis_nil (iv : Int) (k : List B8) (hk : k.length = 32) : Spc Tryz.prog 18 #[.pointer none, .int .u32 iv, .agg (bytes k).toArray] [] [] (Is (.tuple #[.slice none 0 0, .int .i64 1])) := by
  refine Spc.enter Tryz.func18 rfl rfl rfl (fun w0 hw0 => ?_)
  refine CW.seq (CW.region (ef := [0]) (bk := []) (RL.box rfl rfl rfl rfl rfl rfl ?_))
  intro b1
  refine RL.p rfl (RL.p rfl (RL.nil (NQ.seq ?_)))
  refine CW.scope (γ := Unit) 0 (fun _ => False) (fun _ => []) (fun _ => []) (fun _ => []) rfl ?_ (fun g hp => hp.elim)
  refine CW.seq (CW.rg (RL.p rfl (RL.nil (NQ.seq (CW.seq (CW.rg (RL.p rfl (RL.nil (NQ.seq (CW.seq (CW.seq (CW.rg (RL.p rfl ?_)))))))))))))
  refine RL.callvq (tis_nil) Tryz.call42 rfl rfl rfl rfl ?_
  refine RL.p rfl (RL.nil (NQ.seq (CW.condT rfl (rfl) (CW.seq (CW.rg (RL.p rfl (RL.p rfl (RL.nil (NQ.seq (CW.ret (RQ.seq (RQ.jump ?_))))))))))))
  exact RQ.post (res2 rfl rfl rfl) (Split.none _) ⟨rfl, rfl, rfl⟩
theorem tknown_nil : Spc Tryz.prog 20 #[.pointer none] [] [] (Is (.tuple #[.int .u32 0, .agg (bytes (List.replicate 32 0#8)).toArray])) := by
  refine Spc.enter Tryz.func20 rfl rfl rfl (fun w0 hw0 => ?_)
  refine CW.seq (CW.region (ef := [1]) (bk := []) (RL.p rfl (RL.alloc (cs := List.replicate 32 (U8 0#8)) Tryz.zeroValue23 rfl rfl rfl rfl rfl ?_)))
  intro b1
  refine RL.nil (NQ.seq (CW.seq (CW.seq (CW.rg (RL.p rfl (RL.callvq (tis_nil) Tryz.call42 rfl rfl rfl rfl ?_))))))
  refine RL.p rfl (RL.nil (NQ.seq (CW.condT rfl (rfl) (CW.seq (CW.region (ef := [2]) (bk := [2]) (RL.buildA (bytes (List.replicate 32 0#8)) Tryz.zeroValue23 Tryz.runUnderlying23 Tryz.sizeOf5 rfl rfl rfl rfl rfl (RL.p rfl (RL.storeW Tryz.sizeOf23 rfl rfl rfl rfl rfl rfl rfl (ones_map one8 _) (by repeat (first | exact Upd.here | apply Upd.there)) rfl rfl ?_))))))))
  refine RL.nil (NQ.seq (CW.ret (RQ.seq ?_)))
  exact RQ.post (resTW rfl rfl rfl Tryz.isAgg23 Tryz.sizeOf23 (List.Mem.head _) rfl) (Split.none _) ⟨rfl, rfl, rfl⟩
theorem twaits_nil : Spc Tryz.prog 28 #[.pointer none] [] [] (Is (.slice none 0 0)) := by
  refine Spc.enter Tryz.func28 rfl rfl rfl (fun w0 hw0 => ?_)
  refine CW.seq (CW.rg (RL.p rfl (RL.nil (NQ.seq (CW.seq (CW.seq (CW.rg (RL.p rfl (RL.callvq (tis_nil) Tryz.call42 rfl rfl rfl rfl ?_)))))))))
  refine RL.p rfl (RL.nil (NQ.seq (CW.condT rfl (rfl) (CW.seq (CW.rg (RL.p rfl (RL.nil (NQ.seq (CW.ret (RQ.seq ?_))))))))))
  exact RQ.post (res1 rfl rfl) (Split.none _) ⟨rfl, rfl, rfl⟩
theorem tbad_nil : Spc Tryz.prog 29 #[.pointer none] [] [] (Is (.int .i64 0)) := by
  refine Spc.enter Tryz.func29 rfl rfl rfl (fun w0 hw0 => ?_)
  refine CW.seq (CW.rg (RL.p rfl (RL.nil (NQ.seq (CW.seq (CW.seq (CW.rg (RL.p rfl (RL.callvq (tis_nil) Tryz.call42 rfl rfl rfl rfl ?_)))))))))
  refine RL.p rfl (RL.nil (NQ.seq (CW.condT rfl (rfl) (CW.seq (CW.rg (RL.p rfl (RL.nil (NQ.seq (CW.ret (RQ.seq ?_))))))))))
  exact RQ.post (res1 rfl rfl) (Split.none _) ⟨rfl, rfl, rfl⟩
theorem trel_nil : Spc Tryz.prog 30 #[.pointer none] [] [] (Is (.int .i64 0)) := by
  refine Spc.enter Tryz.func30 rfl rfl rfl (fun w0 hw0 => ?_)
  refine CW.seq (CW.rg (RL.p rfl (RL.nil (NQ.seq (CW.seq (CW.seq (CW.rg (RL.p rfl (RL.callvq (tis_nil) Tryz.call42 rfl rfl rfl rfl ?_)))))))))
  refine RL.p rfl (RL.nil (NQ.seq (CW.condT rfl (rfl) (CW.seq (CW.rg (RL.p rfl (RL.nil (NQ.seq (CW.ret (RQ.seq ?_))))))))))
  exact RQ.post (res1 rfl rfl) (Split.none _) ⟨rfl, rfl, rfl⟩
theorem tcount_nil (e : Int) : Spc Tryz.prog 31 #[.pointer none, .int .i64 e] [] [] (Is (.int .i64 0)) := by
  refine Spc.enter Tryz.func31 rfl rfl rfl (fun w0 hw0 => ?_)
  refine CW.seq (CW.rg (RL.p rfl (RL.nil (NQ.seq (CW.seq (CW.seq (CW.rg (RL.p rfl (RL.callvq (tis_nil) Tryz.call42 rfl rfl rfl rfl ?_)))))))))
  refine RL.p rfl (RL.nil (NQ.seq (CW.condT rfl (rfl) (CW.seq (CW.rg (RL.p rfl (RL.nil (NQ.seq (CW.ret (RQ.seq ?_))))))))))
  exact RQ.post (res1 rfl rfl) (Split.none _) ⟨rfl, rfl, rfl⟩
theorem tis_zero (b : Nat): Spc Tryz.prog 42 #[.pointer (some ⟨b, 0, none⟩)] [zRec b] [] (Is (.bool false)) := by
  refine Spc.enter Tryz.func42 rfl rfl rfl (fun w0 hw0 => ?_)
  refine CW.seq (CW.rg (RL.p rfl (RL.nil (NQ.seq (CW.seq (CW.rg (RL.p rfl (RL.cmp rfl rfl rfl rfl rfl (neq_ptr Tryz.runUnderlying41 _) (RL.p rfl (RL.p rfl (RL.p rfl (RL.fieldAddr fa_81_3 rfl rfl rfl rfl (RL.load Tryz.isAgg78 rfl rfl rfl rfl (Rd.getI (by repeat (first | exact List.Mem.head _ | apply List.Mem.tail)) rcZ_q) ?_)))))))))))))
  refine RL.cmp rfl rfl rfl rfl rfl (neq_ptr Tryz.runUnderlying78 _) (RL.p rfl (RL.p rfl (RL.nil (NQ.seq (CW.ok [2] rfl (CW.ret ?_))))))
  exact RQ.post (res1 rfl rfl) (Split.none _) ⟨rfl, rfl, rfl⟩
theorem tmess_zero (b : Nat)(t : Int) (f : Fr) (q : Option Addr) (cc n : Nat) (hf : f.Ok) : Spc Tryz.prog 16 #[.pointer (some ⟨b, 0, none⟩), .int .i64 t, .agg (f.cells (.slice q n cc)).toArray] [zRec b] [] (Is (.int .i64 1)) := by
  have hl := fr_len hf.tag (.slice q n cc)
  refine Spc.enter Tryz.func16 rfl rfl rfl (fun w0 hw0 => ?_)
  refine CW.seq (CW.region (ef := [0]) (bk := []) (RL.box rfl rfl rfl rfl rfl rfl ?_))
  intro b1
  refine RL.p rfl (RL.nil (NQ.seq (CW.seq (CW.block (CW.seq (CW.rg (RL.p rfl (RL.callvq (tis_zero b) Tryz.call42 rfl rfl rfl rfl ?_))))))))
  refine RL.p rfl (RL.p rfl (RL.nil (NQ.seq (CW.condT rfl (rfl) (CW.seq (CW.rg (RL.p rfl (RL.nil (NQ.seq (CW.ret (RQ.block (RQ.seq ?_))))))))))))
  exact RQ.post (res1 rfl rfl) (Split.none _) ⟨rfl, rfl, rfl⟩
theorem traise_zero (b : Nat)(iv : Int) (k : List B8) (hk : k.length = 32) : Spc Tryz.prog 22 #[.pointer (some ⟨b, 0, none⟩), .int .u32 iv, .agg (bytes k).toArray] [zRec b] [] (Is (.int .i64 1)) := by
  refine Spc.enter Tryz.func22 rfl rfl rfl (fun w0 hw0 => ?_)
  refine CW.seq (CW.region (ef := [0]) (bk := []) (RL.box rfl rfl rfl rfl rfl rfl ?_))
  intro b1
  refine RL.p rfl (RL.nil (NQ.seq (CW.seq (CW.block (CW.seq (CW.rg (RL.p rfl (RL.callvq (tis_zero b) Tryz.call42 rfl rfl rfl rfl ?_))))))))
  refine RL.p rfl (RL.p rfl (RL.nil (NQ.seq (CW.condT rfl (rfl) (CW.seq (CW.rg (RL.p rfl (RL.nil (NQ.seq (CW.ret (RQ.block (RQ.seq ?_))))))))))))
  exact RQ.post (res1 rfl rfl) (Split.none _) ⟨rfl, rfl, rfl⟩
theorem tdis_zero (b : Nat)(iv : Int) (k : List B8) (hk : k.length = 32) : Spc Tryz.prog 18 #[.pointer (some ⟨b, 0, none⟩), .int .u32 iv, .agg (bytes k).toArray] [zRec b] [] (Is (.tuple #[.slice none 0 0, .int .i64 1])) := by
  refine Spc.enter Tryz.func18 rfl rfl rfl (fun w0 hw0 => ?_)
  refine CW.seq (CW.region (ef := [0]) (bk := []) (RL.box rfl rfl rfl rfl rfl rfl ?_))
  intro b1
  refine RL.p rfl (RL.p rfl (RL.nil (NQ.seq ?_)))
  refine CW.scope (γ := Unit) 0 (fun _ => False) (fun _ => []) (fun _ => []) (fun _ => []) rfl ?_ (fun g hp => hp.elim)
  refine CW.seq (CW.rg (RL.p rfl (RL.nil (NQ.seq (CW.seq (CW.rg (RL.p rfl (RL.nil (NQ.seq (CW.seq (CW.seq (CW.rg (RL.p rfl ?_)))))))))))))
  refine RL.callvq (tis_zero b) Tryz.call42 rfl rfl rfl rfl ?_
  refine RL.p rfl (RL.nil (NQ.seq (CW.condT rfl (rfl) (CW.seq (CW.rg (RL.p rfl (RL.p rfl (RL.nil (NQ.seq (CW.ret (RQ.seq (RQ.jump ?_))))))))))))
  exact RQ.post (res2 rfl rfl rfl) (Split.none _) ⟨rfl, rfl, rfl⟩
theorem tknown_zero (b : Nat): Spc Tryz.prog 20 #[.pointer (some ⟨b, 0, none⟩)] [zRec b] [] (Is (.tuple #[.int .u32 0, .agg (bytes (List.replicate 32 0#8)).toArray])) := by
  refine Spc.enter Tryz.func20 rfl rfl rfl (fun w0 hw0 => ?_)
  refine CW.seq (CW.region (ef := [1]) (bk := []) (RL.p rfl (RL.alloc (cs := List.replicate 32 (U8 0#8)) Tryz.zeroValue23 rfl rfl rfl rfl rfl ?_)))
  intro b1
  refine RL.nil (NQ.seq (CW.seq (CW.seq (CW.rg (RL.p rfl (RL.callvq (tis_zero b) Tryz.call42 rfl rfl rfl rfl ?_))))))
  refine RL.p rfl (RL.nil (NQ.seq (CW.condT rfl (rfl) (CW.seq (CW.region (ef := [2]) (bk := [2]) (RL.buildA (bytes (List.replicate 32 0#8)) Tryz.zeroValue23 Tryz.runUnderlying23 Tryz.sizeOf5 rfl rfl rfl rfl rfl (RL.p rfl (RL.storeW Tryz.sizeOf23 rfl rfl rfl rfl rfl rfl rfl (ones_map one8 _) (by repeat (first | exact Upd.here | apply Upd.there)) rfl rfl ?_))))))))
  refine RL.nil (NQ.seq (CW.ret (RQ.seq ?_)))
  exact RQ.post (resTW rfl rfl rfl Tryz.isAgg23 Tryz.sizeOf23 (List.Mem.head _) rfl) (Split.none _) ⟨rfl, rfl, rfl⟩
theorem twaits_zero (b : Nat): Spc Tryz.prog 28 #[.pointer (some ⟨b, 0, none⟩)] [zRec b] [] (Is (.slice none 0 0)) := by
  refine Spc.enter Tryz.func28 rfl rfl rfl (fun w0 hw0 => ?_)
  refine CW.seq (CW.rg (RL.p rfl (RL.nil (NQ.seq (CW.seq (CW.seq (CW.rg (RL.p rfl (RL.callvq (tis_zero b) Tryz.call42 rfl rfl rfl rfl ?_)))))))))
  refine RL.p rfl (RL.nil (NQ.seq (CW.condT rfl (rfl) (CW.seq (CW.rg (RL.p rfl (RL.nil (NQ.seq (CW.ret (RQ.seq ?_))))))))))
  exact RQ.post (res1 rfl rfl) (Split.none _) ⟨rfl, rfl, rfl⟩
theorem tbad_zero (b : Nat): Spc Tryz.prog 29 #[.pointer (some ⟨b, 0, none⟩)] [zRec b] [] (Is (.int .i64 0)) := by
  refine Spc.enter Tryz.func29 rfl rfl rfl (fun w0 hw0 => ?_)
  refine CW.seq (CW.rg (RL.p rfl (RL.nil (NQ.seq (CW.seq (CW.seq (CW.rg (RL.p rfl (RL.callvq (tis_zero b) Tryz.call42 rfl rfl rfl rfl ?_)))))))))
  refine RL.p rfl (RL.nil (NQ.seq (CW.condT rfl (rfl) (CW.seq (CW.rg (RL.p rfl (RL.nil (NQ.seq (CW.ret (RQ.seq ?_))))))))))
  exact RQ.post (res1 rfl rfl) (Split.none _) ⟨rfl, rfl, rfl⟩
theorem trel_zero (b : Nat): Spc Tryz.prog 30 #[.pointer (some ⟨b, 0, none⟩)] [zRec b] [] (Is (.int .i64 0)) := by
  refine Spc.enter Tryz.func30 rfl rfl rfl (fun w0 hw0 => ?_)
  refine CW.seq (CW.rg (RL.p rfl (RL.nil (NQ.seq (CW.seq (CW.seq (CW.rg (RL.p rfl (RL.callvq (tis_zero b) Tryz.call42 rfl rfl rfl rfl ?_)))))))))
  refine RL.p rfl (RL.nil (NQ.seq (CW.condT rfl (rfl) (CW.seq (CW.rg (RL.p rfl (RL.nil (NQ.seq (CW.ret (RQ.seq ?_))))))))))
  exact RQ.post (res1 rfl rfl) (Split.none _) ⟨rfl, rfl, rfl⟩
theorem tcount_zero (b : Nat)(e : Int) : Spc Tryz.prog 31 #[.pointer (some ⟨b, 0, none⟩), .int .i64 e] [zRec b] [] (Is (.int .i64 0)) := by
  refine Spc.enter Tryz.func31 rfl rfl rfl (fun w0 hw0 => ?_)
  refine CW.seq (CW.rg (RL.p rfl (RL.nil (NQ.seq (CW.seq (CW.seq (CW.rg (RL.p rfl (RL.callvq (tis_zero b) Tryz.call42 rfl rfl rfl rfl ?_)))))))))
  refine RL.p rfl (RL.nil (NQ.seq (CW.condT rfl (rfl) (CW.seq (CW.rg (RL.p rfl (RL.nil (NQ.seq (CW.ret (RQ.seq ?_))))))))))
  exact RQ.post (res1 rfl rfl) (Split.none _) ⟨rfl, rfl, rfl⟩
end Go.Proofs.YtbdnebedmdoehaaGreat
