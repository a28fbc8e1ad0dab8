import Derived.Test.YtbdnebedmdoehaaGreatCA
namespace Go.Proofs.YtbdnebedmdoehaaGreat
open Go.PK

theorem rwalk_ok (k : List B8) (hk : k.length = 32) (n : Nat) (hn : n ≤ 512) : Spc Tryz.prog 21 #[.agg (bytes k).toArray, .int .i64 (n : Int)] [] [] (Is (.tuple #[.agg (bytes (nextN k n)).toArray, .int .i64 0])) := by
  have hl := nextN_len hk n
  refine Spc.enter Tryz.func21 rfl rfl rfl (fun w0 hw0 => ?_)
  refine CW.seq (CW.region (ef := [0, 1]) (bk := []) (RL.box rfl rfl rfl rfl rfl rfl ?_))
  intro b1
  refine RL.alloc (cs := List.replicate 32 (U8 0#8)) Tryz.zeroValue23 rfl rfl rfl rfl rfl ?_
  intro b2
  refine RL.assign rfl rfl rfl rfl (RL.nil (NQ.seq (CW.seq (CW.region (ef := [2]) (bk := []) (RL.loadW Tryz.isAgg23 Tryz.sizeOf23 rfl rfl rfl rfl (by repeat (first | exact List.Mem.head _ | apply List.Mem.tail)) (by first | rfl | assumption | (simp only [List.length_map]; assumption) | (simp only [List.length_map, List.length_replicate, padK_len, padB_len, sha_length, dig_length, macCode_len, macTag_len, nextK_len]; done) | (simp; done)) ?_)))))
  refine RL.move rfl rfl rfl rfl (RL.callq (rall_ok k hk n hn) Tryz.call39 rfl rfl rfl rfl rfl (.inl rfl) ?_)
  rintro _ _ _ ⟨b, c, rfl, rfl, rfl⟩
  refine RL.move rfl rfl rfl rfl (RL.extract rfl rfl rfl rfl rfl (RL.extract rfl rfl rfl rfl rfl (RL.assign rfl rfl rfl rfl (RL.assign rfl rfl rfl rfl (RL.nil (NQ.seq (CW.only (.cons (k := 1) rfl (.cons (k := 4) rfl (.cons (k := 6) rfl (.cons (k := 7) rfl .nil)))) ?_)))))))
  refine CW.seq (CW.seq (CW.region (ef := []) (bk := []) (RL.move rfl rfl rfl rfl (RL.bin rfl rfl rfl rfl rfl rfl (RL.nil (NQ.seq (CW.condF rfl ((by simp)) ?_)))))))
  refine CW.skip (NQ.seq (CW.seq (CW.region (ef := [4]) (bk := [4]) (RL.move rfl rfl rfl rfl (RL.move rfl rfl rfl rfl (RL.idx (j := n) (p := ⟨b, 0, none⟩) Tryz.runUnderlying39 Tryz.sizeOf23 rfl rfl rfl rfl rfl rfl (by omega) ?_))))))
  refine RL.loadN (vs := bytes (nextN k n)) Tryz.isAgg23 (by rw [List.length_map, hl]; exact Tryz.sizeOf23) rfl rfl rfl rfl (Rds.key (by repeat (first | exact List.Mem.head _ | apply List.Mem.tail)) (chainL_all hk _) (chainL_get k (by omega))) ?_
  refine RL.storeW Tryz.sizeOf23 rfl rfl rfl rfl rfl rfl rfl (by first | rfl | exact ones_map one8 _ | exact ones_map (fun _ => rfl) _) (by repeat (first | exact Upd.here | apply Upd.there)) (by first | rfl | assumption | (simp only [List.length_map]; assumption) | (simp only [List.length_map, List.length_replicate, padK_len, padB_len, sha_length, dig_length, macCode_len, macTag_len, nextK_len]; done) | (simp; done)) (by first | rfl | assumption | (simp only [List.length_map]; assumption) | (simp only [List.length_map, List.length_replicate, padK_len, padB_len, sha_length, dig_length, macCode_len, macTag_len, nextK_len]; done) | (simp; done)) ?_
  refine RL.assign rfl rfl rfl rfl (RL.nil (NQ.seq (CW.only (.cons (k := 4) rfl (.cons (k := 5) rfl .nil)) (CW.ret ?_))))
  exact RQ.post (resWT rfl rfl rfl Tryz.isAgg23 Tryz.sizeOf23 (by repeat (first | exact List.Mem.head _ | apply List.Mem.tail)) (by first | rfl | assumption | (simp only [List.length_map]; assumption) | (simp only [List.length_map, List.length_replicate, padK_len, padB_len, sha_length, dig_length, macCode_len, macTag_len, nextK_len]; done) | (simp; done))) (Split.none _) ⟨rfl, rfl, rfl⟩
end Go.Proofs.YtbdnebedmdoehaaGreat
