import Derived.Test.YtbdnebedmdoehaaGreatP4
import Derived.Test.YtbdnebedmdoehaaGreatPE
namespace Go.Proofs.YtbdnebedmdoehaaGreat
open Go.PK
/-! ### A buffer that no call made -/
abbrev zBuf (b : Nat) : It := cel b [.map none] 134
theorem qis_nil : Spc Tryz.prog 76 #[.pointer none] [] [] (Is (.bool false)) := by
  refine Spc.enter Tryz.func76 rfl rfl rfl (fun w0 hw0 => ?_)
  refine CW.seq (CW.rg (RL.p rfl (RL.nil (NQ.seq (CW.seq (CW.rg (RL.p rfl (RL.cmp rfl rfl rfl rfl rfl (neq_ptr Tryz.runUnderlying78 _) (RL.p rfl (RL.p rfl (RL.p rfl (RL.p rfl (RL.p rfl ?_)))))))))))))
  refine RL.p rfl (RL.p rfl (RL.p rfl (RL.nil (NQ.seq (CW.ok [2] rfl (CW.ret ?_))))))
  exact RQ.post (res1 rfl rfl) (Split.none _) ⟨rfl, rfl, rfl⟩
theorem qput_nil (p : Pq) (f : Fr) (q : Option Addr) (cc n : Nat) (hf : f.Ok) : Spc Tryz.prog 70 #[.pointer none, .agg #[.int .u32 p.1, .int .u8 p.2], .agg (f.cells (.slice q n cc)).toArray] [] [] (Is (.int .i64 1)) := by
  have hl := fr_len hf.tag (.slice q n cc)
  refine Spc.enter Tryz.func70 rfl rfl rfl (fun w0 hw0 => ?_)
  refine CW.seq (CW.region (ef := [0, 1]) (bk := []) (RL.box rfl rfl rfl rfl rfl rfl ?_))
  intro b1
  refine RL.box rfl rfl rfl rfl rfl rfl ?_
  intro b2
  refine RL.p rfl (RL.nil (NQ.seq (CW.seq (CW.block (CW.seq (CW.rg (RL.p rfl (RL.callvq (qis_nil) Tryz.call76 rfl rfl rfl rfl ?_))))))))
  refine RL.p rfl (RL.p rfl (RL.nil (NQ.seq (CW.condT rfl (rfl) (CW.seq (CW.rg (RL.p rfl (RL.nil (NQ.seq (CW.ok [0, 4, 5, 6] rfl (CW.ret (RQ.block (RQ.seq ?_)))))))))))))
  exact RQ.post (res1 rfl rfl) (Split.none _) ⟨rfl, rfl, rfl⟩
theorem places_nil : Spc Tryz.prog 58 #[.pointer none] [] [] (Is (.slice none 0 0)) := by
  refine Spc.enter Tryz.func58 rfl rfl rfl (fun w0 hw0 => ?_)
  refine CW.seq (CW.rg (RL.p rfl (RL.nil (NQ.seq (CW.seq (CW.rg (RL.p rfl (RL.nil (NQ.seq (CW.seq (CW.seq (CW.rg (RL.p rfl ?_)))))))))))))
  refine RL.callvq (qis_nil) Tryz.call76 rfl rfl rfl rfl ?_
  refine RL.p rfl (RL.nil (NQ.seq (CW.condT rfl (rfl) (CW.seq (CW.rg (RL.p rfl (RL.p rfl (RL.nil (NQ.seq (CW.ret (RQ.seq ?_)))))))))))
  exact RQ.post (res1 rfl rfl) (Split.none _) ⟨rfl, rfl, rfl⟩
theorem qtake_nil (iv : Int) : Spc Tryz.prog 48 #[.pointer none, .int .u32 iv] [] [] (Is (.slice none 0 0)) := by
  refine Spc.enter Tryz.func48 rfl rfl rfl (fun w0 hw0 => ?_)
  refine CW.seq (CW.rg (RL.p rfl (RL.nil (NQ.seq (CW.seq (CW.rg (RL.p rfl (RL.nil (NQ.seq (CW.seq (CW.seq (CW.rg (RL.p rfl ?_)))))))))))))
  refine RL.callvq (places_nil) Tryz.call58 rfl rfl rfl rfl ?_
  refine RL.lenS Tryz.runUnderlying82 rfl rfl rfl rfl (RL.p rfl (RL.nil (NQ.seq (CW.block (CW.loop (γ := Unit) (fun _ => True) (fun _ => [(0, .pointer none), (1, .int .u32 iv), (5, .slice none 0 0), (9, .slice none 0 0), (10, .int .i64 ((0 : Nat) : Int)), (11, .int .i64 0)]) (fun _ => []) (fun _ => []) (fun _ => 0) () trivial (.cons rfl (.cons rfl (.cons rfl (.cons rfl (.cons rfl (.cons rfl .nil)))))) (fun w h => h) ?_)))))
  rintro ⟨⟩ -
  refine CW.seq (CW.rg (RL.p rfl (RL.nil (NQ.seq (CW.seq (CW.condF rfl (rfl) (CW.exit (XQ.seq (XQ.seq (XQ.hit (NQ.seq (CW.ok [5] rfl (CW.seq ?_)))))))))))))
  refine CW.rg (RL.p rfl (RL.p rfl (RL.nil (NQ.seq (CW.ret ?_)))))
  exact RQ.post (res1 rfl rfl) (Split.none _) ⟨rfl, rfl, rfl⟩
theorem qis_zero (b : Nat): Spc Tryz.prog 76 #[.pointer (some ⟨b, 0, none⟩)] [zBuf b] [] (Is (.bool false)) := by
  refine Spc.enter Tryz.func76 rfl rfl rfl (fun w0 hw0 => ?_)
  refine CW.seq (CW.rg (RL.p rfl (RL.nil (NQ.seq (CW.seq (CW.rg (RL.p rfl (RL.cmp rfl rfl rfl rfl rfl (neq_ptr Tryz.runUnderlying78 _) (RL.p rfl (RL.p rfl (RL.p rfl (RL.fieldAddr fa_134_0 rfl rfl rfl rfl (RL.loadq Tryz.isAgg132 rfl rfl rfl rfl ?_)))))))))))))
  refine RL.cmp rfl rfl rfl rfl rfl (neq_map Tryz.runUnderlying132 _) (RL.p rfl (RL.p rfl (RL.nil (NQ.seq (CW.ok [2] rfl (CW.ret ?_))))))
  exact RQ.post (res1 rfl rfl) (Split.none _) ⟨rfl, rfl, rfl⟩
theorem qput_zero (b : Nat)(p : Pq) (f : Fr) (q : Option Addr) (cc n : Nat) (hf : f.Ok) : Spc Tryz.prog 70 #[.pointer (some ⟨b, 0, none⟩), .agg #[.int .u32 p.1, .int .u8 p.2], .agg (f.cells (.slice q n cc)).toArray] [zBuf b] [] (Is (.int .i64 1)) := by
  have hl := fr_len hf.tag (.slice q n cc)
  refine Spc.enter Tryz.func70 rfl rfl rfl (fun w0 hw0 => ?_)
  refine CW.seq (CW.region (ef := [0, 1]) (bk := []) (RL.box rfl rfl rfl rfl rfl rfl ?_))
  intro b1
  refine RL.box rfl rfl rfl rfl rfl rfl ?_
  intro b2
  refine RL.p rfl (RL.nil (NQ.seq (CW.seq (CW.block (CW.seq (CW.rg (RL.p rfl (RL.callvq (qis_zero b) Tryz.call76 rfl rfl rfl rfl ?_))))))))
  refine RL.p rfl (RL.p rfl (RL.nil (NQ.seq (CW.condT rfl (rfl) (CW.seq (CW.rg (RL.p rfl (RL.nil (NQ.seq (CW.ok [0, 4, 5, 6] rfl (CW.ret (RQ.block (RQ.seq ?_)))))))))))))
  exact RQ.post (res1 rfl rfl) (Split.none _) ⟨rfl, rfl, rfl⟩
theorem places_zero (b : Nat): Spc Tryz.prog 58 #[.pointer (some ⟨b, 0, none⟩)] [zBuf b] [] (Is (.slice none 0 0)) := by
  refine Spc.enter Tryz.func58 rfl rfl rfl (fun w0 hw0 => ?_)
  refine CW.seq (CW.rg (RL.p rfl (RL.nil (NQ.seq (CW.seq (CW.rg (RL.p rfl (RL.nil (NQ.seq (CW.seq (CW.seq (CW.rg (RL.p rfl ?_)))))))))))))
  refine RL.callvq (qis_zero b) Tryz.call76 rfl rfl rfl rfl ?_
  refine RL.p rfl (RL.nil (NQ.seq (CW.condT rfl (rfl) (CW.seq (CW.rg (RL.p rfl (RL.p rfl (RL.nil (NQ.seq (CW.ret (RQ.seq ?_)))))))))))
  exact RQ.post (res1 rfl rfl) (Split.none _) ⟨rfl, rfl, rfl⟩
theorem qtake_zero (b : Nat)(iv : Int) : Spc Tryz.prog 48 #[.pointer (some ⟨b, 0, none⟩), .int .u32 iv] [zBuf b] [] (Is (.slice none 0 0)) := by
  refine Spc.enter Tryz.func48 rfl rfl rfl (fun w0 hw0 => ?_)
  refine CW.seq (CW.rg (RL.p rfl (RL.nil (NQ.seq (CW.seq (CW.rg (RL.p rfl (RL.nil (NQ.seq (CW.seq (CW.seq (CW.rg (RL.p rfl ?_)))))))))))))
  refine RL.callvq (places_zero b) Tryz.call58 rfl rfl rfl rfl ?_
  refine RL.lenS Tryz.runUnderlying82 rfl rfl rfl rfl (RL.p rfl (RL.nil (NQ.seq (CW.block (CW.loop (γ := Unit) (fun _ => True) (fun _ => [(0, .pointer (some ⟨b, 0, none⟩)), (1, .int .u32 iv), (5, .slice none 0 0), (9, .slice none 0 0), (10, .int .i64 ((0 : Nat) : Int)), (11, .int .i64 0)]) (fun _ => [zBuf b]) (fun _ => []) (fun _ => 0) () trivial (.cons rfl (.cons rfl (.cons rfl (.cons rfl (.cons rfl (.cons rfl .nil)))))) (fun w h => h) ?_)))))
  rintro ⟨⟩ -
  refine CW.seq (CW.rg (RL.p rfl (RL.nil (NQ.seq (CW.seq (CW.condF rfl (rfl) (CW.exit (XQ.seq (XQ.seq (XQ.hit (NQ.seq (CW.ok [5] rfl (CW.seq ?_)))))))))))))
  refine CW.rg (RL.p rfl (RL.p rfl (RL.nil (NQ.seq (CW.ret ?_)))))
  exact RQ.post (res1 rfl rfl) (Split.none _) ⟨rfl, rfl, rfl⟩
end Go.Proofs.YtbdnebedmdoehaaGreat
