import Derived.Test.YtbdnebedmdoehaaGreatCA
namespace Go.Proofs.YtbdnebedmdoehaaGreat
open Go.PK

theorem rwalk_ok (k : List B8) (hk : k.length = 32) (n : Nat) (hn : n ≤ 512) : Spc Tryz.prog 21 #[.agg (bytes k).toArray, .int .i64 (n : Int)] [] [] (Is (.tuple #[.agg (bytes (nextN k n)).toArray, .int .i64 0])) := by
  have hl := nextN_len hk n
  refine Spc.enter Tryz.func21 rfl rfl rfl (fun w0 hw0 => ?_)
  refine CW.seq (CW.region (ef := [0, 1]) (bk := []) (RL.box rfl rfl rfl rfl rfl rfl ?_))
  intro b1
  refine RL.alloc (cs := List.replicate 32 (U8 0#8)) Tryz.zeroValue23 rfl rfl rfl rfl rfl ?_
  intro b2
  refine RL.p rfl (RL.nil (NQ.seq (CW.seq (CW.region (ef := [2]) (bk := []) (RL.loadW Tryz.isAgg23 Tryz.sizeOf23 rfl rfl rfl rfl (by repeat (first | exact List.Mem.head _ | apply List.Mem.tail)) (by first | rfl | assumption | (simp only [List.length_map]; assumption) | (simp only [List.length_map, List.length_replicate, padK_len, padB_len, sha_length, dig_length, macCode_len, macTag_len, nextK_len]; done) | (simp; done)) ?_)))))
  refine RL.p rfl (RL.callq (rall_ok k hk n hn) Tryz.call39 rfl rfl rfl rfl rfl (.inl rfl) ?_)
  rintro _ _ _ ⟨b, c, rfl, rfl, rfl⟩
  refine RL.p rfl (RL.p rfl (RL.p rfl (RL.p rfl (RL.p rfl (RL.nil (NQ.seq (CW.ok [1, 4, 6, 7] rfl (CW.seq (CW.seq (CW.rg (RL.p rfl (RL.p rfl (RL.nil ?_)))))))))))))
  refine NQ.seq (CW.condF rfl ((by simp)) ?_)
  refine CW.skip (NQ.seq (CW.seq (CW.region (ef := [4]) (bk := [4]) (RL.p rfl (RL.p rfl (RL.idx (j := n) (p := ⟨b, 0, none⟩) Tryz.runUnderlying39 Tryz.sizeOf23 rfl rfl rfl rfl rfl rfl (by omega) ?_))))))
  refine RL.loadN (vs := bytes (nextN k n)) Tryz.isAgg23 (by rw [List.length_map, hl]; exact Tryz.sizeOf23) rfl rfl rfl rfl (Rds.key (by repeat (first | exact List.Mem.head _ | apply List.Mem.tail)) (chainL_all hk _) (chainL_get k (by omega))) ?_
  refine RL.storeWq Tryz.sizeOf23 rfl rfl rfl rfl rfl rfl rfl ?_
  refine RL.p rfl (RL.nil (NQ.seq (CW.ok [4, 5] rfl (CW.ret ?_))))
  exact RQ.post (resWT rfl rfl rfl Tryz.isAgg23 Tryz.sizeOf23 (by repeat (first | exact List.Mem.head _ | apply List.Mem.tail)) (by first | rfl | assumption | (simp only [List.length_map]; assumption) | (simp only [List.length_map, List.length_replicate, padK_len, padB_len, sha_length, dig_length, macCode_len, macTag_len, nextK_len]; done) | (simp; done))) (Split.none _) ⟨rfl, rfl, rfl⟩
theorem rwalk_bad (k : List B8) (hk : k.length = 32) (n : Int) (hbad : ¬ okSteps n) : Spc Tryz.prog 21 #[.agg (bytes k).toArray, .int .i64 n] [] [] (Is (.tuple #[.agg (bytes zeros).toArray, .int .i64 2])) := by
  refine Spc.enter Tryz.func21 rfl rfl rfl (fun w0 hw0 => ?_)
  refine CW.seq (CW.region (ef := [0, 1]) (bk := []) (RL.box rfl rfl rfl rfl rfl rfl ?_))
  intro b1
  refine RL.alloc (cs := List.replicate 32 (U8 0#8)) Tryz.zeroValue23 rfl rfl rfl rfl rfl ?_
  intro b2
  refine RL.p rfl (RL.nil (NQ.seq (CW.seq (CW.rg (RL.loadW Tryz.isAgg23 Tryz.sizeOf23 rfl rfl rfl rfl (by repeat (first | exact List.Mem.head _ | apply List.Mem.tail)) (by first | rfl | assumption | (simp only [List.length_map]; assumption) | (simp only [List.length_map, List.length_replicate, padK_len, padB_len, sha_length, dig_length, macCode_len, macTag_len, nextK_len]; done) | (simp; done)) ?_)))))
  refine RL.p rfl (RL.callvq (rall_bad k hk n hbad) Tryz.call39 rfl rfl rfl rfl ?_)
  refine RL.p rfl (RL.p rfl (RL.p rfl (RL.p rfl (RL.p rfl (RL.nil (NQ.seq (CW.ok [1, 4, 6, 7] rfl (CW.seq (CW.seq (CW.rg (RL.p rfl (RL.p rfl (RL.nil ?_)))))))))))))
  refine NQ.seq (CW.condT rfl ((by simp)) ?_)
  refine CW.seq (CW.region (ef := [2]) (bk := [2]) (RL.buildA (List.replicate 32 (U8 0#8)) Tryz.zeroValue23 Tryz.runUnderlying23 Tryz.sizeOf5 rfl rfl rfl rfl rfl (RL.p rfl (RL.storeWq Tryz.sizeOf23 rfl rfl rfl rfl rfl rfl rfl ?_))))
  refine RL.p rfl (RL.nil (NQ.seq (CW.ret (RQ.seq ?_))))
  exact RQ.post (resWT rfl rfl rfl Tryz.isAgg23 Tryz.sizeOf23 (by repeat (first | exact List.Mem.head _ | apply List.Mem.tail)) rfl) (Split.none _) ⟨rfl, rfl, rfl⟩

end Go.Proofs.YtbdnebedmdoehaaGreat
