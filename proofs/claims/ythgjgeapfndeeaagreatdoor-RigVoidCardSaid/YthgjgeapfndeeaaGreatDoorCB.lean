import Derived.Test.YthgjgeapfndeeaaGreatDoorMA
import Derived.Test.YthgjgeapfndeeaaGreatDoorPD
set_option linter.unusedVariables false
set_option linter.unusedSimpArgs false
namespace Go.Proofs.YthgjgeapfndeeaaGreatDoor
open Go.PK

theorem Lend.ownM {I F J : List It} {b cap sz n n' : Nat} {e : TypeId} {xs xs' : List Value} (hm : PK.own (some b) cap e sz n xs ∈ F) (hn : n = n') (hx : xs = xs') (h : Lend I F J) : Lend I F (PK.sls (some ⟨b, 0, none⟩) sz n' xs' :: J) := by
  subst hn; subst hx; exact Lend.own (ob := some b) hm h
def deriveK (k lb : List B8) (n : Nat) : List B8 := macCode k (lb ++ 0#8 :: be8 n)
def nlay (n j : Nat) : List Value := List.replicate (9 - j) (U8 0#8) ++ bytes ((be8 n).drop (8 - j))
theorem nlay_step (n j : Nat) (hj : j < 8) : spl (nlay n j) (0 + (8 - j) * 1) [U8 (BitVec.ofNat 8 (n / 256 ^ j))] = nlay n (j + 1) := by
  rw [Nat.zero_add, Nat.mul_one, nlay, nlay, be8_cons n j hj, show 9 - j = (8 - j) + 1 by omega, List.replicate_succ', show 9 - (j + 1) = 8 - j by omega]
  have h1 : spl (List.replicate (8 - j) (U8 0#8) ++ [U8 0#8] ++ bytes ((be8 n).drop (8 - j))) (8 - j) [U8 (BitVec.ofNat 8 (n / 256 ^ j))] = List.replicate (8 - j) (U8 0#8) ++ [U8 (BitVec.ofNat 8 (n / 256 ^ j))] ++ bytes ((be8 n).drop (8 - j)) := by
    rw [spl_eq _ _ _ (by simp)]
    congr 1
    · rw [List.append_assoc, List.take_append_of_le_length (by simp), List.take_of_length_le (by simp)]
    · rw [List.drop_left' (by simp)]
  rw [h1]
  simp only [List.append_assoc, List.singleton_append, List.map_cons]
theorem nlay_length (n j : Nat) (hj : j ≤ 8) : (nlay n j).length = 9 := by simp [nlay, be8_length]; omega
theorem nlay_zero (n : Nat) : nlay n 0 = List.replicate 9 (U8 0#8) := by simp [nlay, be8]
theorem nlay_all (n : Nat) : nlay n 8 = bytes (0#8 :: be8 n) := by simp [nlay]
theorem u64_shr (n j : Nat) : (((n / 256 ^ j : Nat) : Int).fdiv (2 ^ 8)) = ((n / 256 ^ (j + 1) : Nat) : Int) := by
  rw [Int.fdiv_eq_ediv_of_nonneg _ (by decide), Nat.pow_succ, ← Nat.div_div_eq_div_mul]; simp
theorem u64_quo' (N j : Nat) (h : N < 18446744073709551616) : Value.int .u64 (IntKind.u64.wrap (((N / 256 ^ j : Nat) : Int).tdiv 256)) = .int .u64 ((N / 256 ^ (j + 1) : Nat) : Int) := by
  have h2 : N / 256 ^ (j + 1) ≤ N := Nat.div_le_self _ _
  rw [show (256 : Int) = ((256 : Nat) : Int) from rfl, tdivN, Nat.div_div_eq_div_mul, ← Nat.pow_succ]
  generalize N / 256 ^ (j + 1) = q at h2 ⊢
  congr 1
  simp only [IntKind.wrap, IntKind.bits, IntKind.signed]
  simp
  omega

theorem derive_any (k : List B8) (hk : k.length = 32) (lb : List B8) (hlb : lb.length ≤ 10000000) (n : Nat) (hn : n < 18446744073709551616) :
    Spc Tryz.prog 427 #[.agg (bytes k).toArray, .string (txt lb), .int .u64 (n : Int)] [] [] (Is (.agg (bytes (deriveK k lb n)).toArray)) := by
  refine Spc.enter Tryz.func427 rfl rfl rfl (fun w0 hw0 => ?_)
  refine CW.seq (CW.region (ef := [0, 1]) (bk := []) (RL.box rfl rfl rfl rfl rfl rfl ?_))
  intro b1
  refine RL.alloc (cs := List.replicate 32 (U8 0#8)) Tryz.zeroValue32 rfl rfl rfl rfl rfl ?_
  intro b2
  refine RL.nil (NQ.seq (CW.seq (CW.region (ef := [0]) (bk := []) (RL.alloc Tryz.zeroValue736 rfl rfl rfl rfl rfl ?_))))
  intro b3
  refine RL.nil (NQ.seq (CW.seq (CW.seq (CW.rg (RL.p rfl (RL.nil (NQ.seq (CW.block ?_))))))))
  refine CW.loop (γ := Nat) (fun j => j ≤ 8) (fun j => [(1, .string (txt lb)), (2, .int .u64 ((n / 256 ^ j : Nat) : Int)), (3, .pointer (some ⟨b1, 0, none⟩)), (6, .pointer (some ⟨b2, 0, none⟩)), (7, .pointer (some ⟨b3, 0, none⟩)), (8, .int .i64 (8 - (j : Int)))]) (fun _ => [])
    (fun j => [cel b3 (nlay n j) 736, cel b2 (List.replicate 32 (U8 0#8)) 32, cel b1 (bytes k) 32]) (fun j => 8 - j) 0 (by omega) (.cons rfl (.cons (by simp; rfl) (.cons rfl (.cons rfl (.cons rfl (.cons rfl .nil)))))) (fun _ h => by rw [nlay_zero]; exact h) ?_
  intro j hj
  refine CW.seq (CW.seq (CW.rg (RL.p rfl (RL.p rfl (RL.nil (NQ.seq ?_))))))
  refine CW.cond rfl (fun hlt => ?_) (fun hlt => ?_)
  ·
    refine CW.skip (NQ.seq (CW.seq (CW.block (CW.seq (CW.region (ef := [4]) (bk := [4]) (RL.p rfl (RL.p rfl (RL.lowest Tryz.runUnderlying33 Tryz.runUnderlying5 rfl rfl rfl rfl ?_))))))))
    have hlt : j < 8 := by simp at hlt; omega
    refine RL.idxAAt (j := 8 - j) Tryz.runUnderlying736 Tryz.sizeOf5 rfl rfl rfl rfl rfl (by omega) (by omega) ?_
    rw [BitVec.ofInt_natCast]
    refine RL.storeX (cs' := nlay n (j + 1)) (vs := [_]) (nlay_step n j hlt) Tryz.sizeOf5 rfl rfl rfl rfl rfl rfl rfl rfl (by repeat (first | exact Upd.here | apply Upd.there)) (by rw [nlay_length n j (by omega)]; simp) ?_
    refine RL.nil (NQ.seq (CW.ok [1, 2, 3, 6, 7, 8] rfl (CW.rg (RL.p rfl (RL.shr 8 rfl rfl rfl rfl rfl rfl (by decide) ?_)))))
    rw [u64_shr]
    refine RL.p rfl (RL.nil (NQ.block (NQ.seq (CW.rg (RL.p rfl (RL.bx rfl (wrapV_i64 (by omega) (by omega)) ?_))))))
    refine RL.p rfl (RL.nil ?_)
    exact NQ.round (g := j) (j + 1) hlt (by omega) (.cons rfl (.cons rfl (.cons rfl (.cons rfl (.cons rfl (.cons (by rw [show (8 - ((j + 1 : Nat) : Int)) = 8 - (j : Int) - 1 by omega]; rfl) .nil)))))) (fun _ h => h)
  ·
    have hj8 : j = 8 := by simp at hlt; omega
    subst hj8
    rw [nlay_all]
    refine CW.exit (XQ.seq (XQ.seq (XQ.hit (NQ.seq (CW.seq (CW.regionD (Sq.of [0, 1, 3, 2, 4, 5, 6]) [2, 4, 5, 6] [6] [0, 1, 3] mixed (by kernel_rfl) ?_))))))
    refine RL.sliceAll Tryz.runUnderlying32 Tryz.sizeOf5 (by decide) rfl rfl rfl rfl ?_
    refine RL.p rfl (RL.sliceAll Tryz.runUnderlying736 Tryz.sizeOf5 (by decide) rfl rfl rfl rfl ?_)
    refine RL.strBytes (e := 5) Tryz.runUnderlying9 Tryz.runUnderlying22 Tryz.runUnderlying5 (by omega) rfl rfl rfl rfl rfl ?_
    intro bs cs
    have hj2 : joined [⟨some ⟨bs, 0, none⟩, cs, lb⟩, ⟨some ⟨b3, 0, none⟩, 9, 0#8 :: be8 n⟩] = lb ++ 0#8 :: be8 n := by rw [joined_two]
    refine RL.buildSlice [_, _] Tryz.runUnderlying397 Tryz.sizeOf22 Tryz.zeroValue22 rfl rfl (by decide) (by decide) rfl rfl rfl rfl rfl rfl ?_
    intro b4
    refine RL.callv (code_n (some ⟨b1, 0, none⟩) 32 32 k hk (by decide) (some ⟨b4, 0, none⟩) 2 2 [⟨some ⟨bs, 0, none⟩, cs, lb⟩, ⟨some ⟨b3, 0, none⟩, 9, 0#8 :: be8 n⟩] rfl (by decide) (by rw [hj2]; simp [be8_length]; omega)) Tryz.call483 rfl rfl rfl rfl (Lend.all (by repeat (first | exact List.Mem.head _ | apply List.Mem.tail)) (by simp [hk]) (Lend.all (by repeat (first | exact List.Mem.head _ | apply List.Mem.tail)) rfl (Lend.ownM (by repeat (first | exact List.Mem.head _ | apply List.Mem.tail)) rfl rfl (Lend.all (by repeat (first | exact List.Mem.head _ | apply List.Mem.tail)) rfl .nil)))) ?_
    refine RL.storeWq Tryz.sizeOf32 rfl rfl rfl rfl rfl rfl rfl ?_
    refine RL.nil (NQ.seq (CW.ok [6] rfl (CW.ret ?_)))
    rw [hj2]
    exact RQ.post (resW rfl rfl Tryz.isAgg32 Tryz.sizeOf32 (by repeat (first | exact List.Mem.head _ | apply List.Mem.tail)) (by first | rfl | assumption | (simp only [List.length_map]; assumption) | (simp only [List.length_map, List.length_replicate, padK_len, padB_len, sha_length, dig_length, macCode_len, macTag_len, nextK_len]; done) | (simp; done))) (Split.none _) ⟨rfl, rfl, rfl⟩

theorem rderive_any (k : List B8) (hk : k.length = 32) (lb : List B8) (hlb : lb.length ≤ 10000000) (n : Nat) (hn : n < 18446744073709551616) :
    Spc Tryz.prog 98 #[.agg (bytes k).toArray, .string (txt lb), .int .u64 (n : Int)] [] [] (Is (.agg (bytes (deriveK k lb n)).toArray)) := by
  refine Spc.enter Tryz.func98 rfl rfl rfl (fun w0 hw0 => ?_)
  refine CW.seq (CW.region (ef := [0, 1]) (bk := []) (RL.box rfl rfl rfl rfl rfl rfl ?_))
  intro b1
  refine RL.alloc (cs := List.replicate 32 (U8 0#8)) Tryz.zeroValue32 rfl rfl rfl rfl rfl ?_
  intro b2
  refine RL.nil (NQ.seq (CW.seq (CW.region (ef := [1, 2, 3]) (bk := [3]) (RL.p rfl (RL.strBytes (e := 5) Tryz.runUnderlying9 Tryz.runUnderlying22 Tryz.runUnderlying5 (by omega) rfl rfl rfl rfl rfl ?_)))))
  intro bs cs
  refine RL.buildOwn [_] Tryz.runUnderlying22 Tryz.sizeOf5 Tryz.zeroValue5 rfl rfl (by decide) (by decide) rfl (by decide) rfl rfl rfl rfl rfl rfl ?_
  intro b3
  refine RL.appendq el_22 rfl rfl rfl rfl rfl rfl rfl ?_
  intro ob1 cap1 ho1
  refine RL.p rfl (RL.nil (NQ.seq (CW.ok [2, 3, 6, 7] rfl (CW.seq (CW.region (ef := [0]) (bk := []) (RL.buildOwn [] Tryz.runUnderlying22 Tryz.sizeOf5 Tryz.zeroValue5 rfl rfl (by decide) (by decide) rfl (by decide) rfl rfl rfl rfl rfl rfl ?_))))))
  intro b4
  refine RL.p rfl (RL.nil (NQ.seq (CW.seq (CW.seq (CW.rg (RL.p rfl (RL.nil (NQ.seq (CW.block ?_)))))))))
  rw [own_is (ob := ob1) (n' := (lb ++ [0#8]).length) (xs := bytes lb ++ [Value.int .u8 0]) (xs' := bytes (lb ++ [0#8])) (by simp) (by simp; rfl), show lb.length + 1 = (lb ++ [0#8]).length by simp]
  generalize hM : lb ++ [0#8] = M
  have hMl : M.length ≤ 10000001 := by rw [← hM]; simp; omega
  refine CW.loop (γ := Nat × Option Nat × Nat) (fun g => g.1 ≤ 8) (fun g => [(2, .int .u64 ((n / 256 ^ g.1 : Nat) : Int)), (3, .pointer (some ⟨b1, 0, none⟩)), (6, .pointer (some ⟨b2, 0, none⟩)), (7, slO ob1 M.length cap1), (8, slO g.2.1 g.1 g.2.2), (9, .int .i64 (g.1 : Int))]) (fun _ => [])
    (fun g => [own g.2.1 g.2.2 5 1 g.1 (bytes ((be8 n).drop (8 - g.1))), own ob1 cap1 5 1 M.length (bytes M), cel b2 (List.replicate 32 (U8 0#8)) 32, cel b1 (bytes k) 32]) (fun g => 8 - g.1) (0, some b4, 0) (by simp)
    (.cons (by simp; rfl) (.cons rfl (.cons rfl (.cons rfl (.cons rfl (.cons rfl .nil)))))) (fun w h => h.rea (fun _ h => h) (by repeat (first | exact Rea.nil | (apply Rea.cons; (solve | (repeat (first | exact Del.here | apply Del.there))))))) ?_
  rintro ⟨i, ob', c'⟩ hi
  dsimp only at hi ⊢
  refine CW.seq (CW.seq (CW.rg (RL.p rfl (RL.p rfl (RL.nil (NQ.seq ?_))))))
  refine CW.cond rfl (fun hlt => ?_) (fun hlt => ?_)
  ·
    refine CW.skip (NQ.seq (CW.seq (CW.block (CW.seq (CW.region (ef := [3, 5]) (bk := [5]) (RL.p rfl (RL.rem rfl rfl rfl rfl rfl (by decide) ?_)))))))
    refine RL.lowest Tryz.runUnderlying33 Tryz.runUnderlying5 rfl rfl rfl rfl (RL.buildOwn [_] Tryz.runUnderlying22 Tryz.sizeOf5 Tryz.zeroValue5 rfl rfl (by decide) (by decide) rfl (by decide) rfl rfl rfl rfl rfl rfl ?_)
    intro b5
    refine RL.p rfl (RL.appendq el_22 rfl rfl rfl rfl rfl rfl rfl ?_)
    intro ob2 cap2 ho2
    refine RL.p rfl (RL.nil (NQ.seq (CW.ok [2, 3, 6, 7, 8, 9] rfl (CW.rg (RL.p rfl ?_)))))
    have hlt : i < 8 := by simp at hlt; omega
    refine RL.quoX (v' := .int .u64 ((n / 256 ^ (i + 1) : Nat) : Int)) rfl rfl rfl rfl rfl (by decide) (u64_quo' _ _ hn) ?_
    refine RL.p rfl (RL.nil (NQ.block (NQ.seq (CW.rg (RL.p rfl (RL.bx rfl (wrapV_i64 (by omega) (by omega)) ?_))))))
    refine RL.p rfl (RL.nil ?_)
    refine NQ.round (g := (i, ob', c')) (i + 1, ob2, cap2) hlt (by show 8 - (i + 1) < 8 - i; omega) (.cons rfl (.cons rfl (.cons rfl (.cons rfl (.cons (by rw [Nat.add_comm i 1]; rfl) (.cons rfl .nil)))))) (fun w h => ?_)
    rw [own_is (ob := ob2) (n' := i + 1) (xs' := bytes ((be8 n).drop (8 - (i + 1)))) (by omega) (low_byte _ _ hlt).symm] at h
    exact h.rea (fun _ h => h) (by repeat (first | exact Rea.nil | (apply Rea.cons; (solve | (repeat (first | exact Del.here | apply Del.there))))))
  ·
    have hi8 : i = 8 := by simp at hlt; omega
    subst hi8
    refine CW.exit (XQ.seq (XQ.seq (XQ.hit (NQ.seq (CW.seq (CW.regionD (Sq.of [0, 1, 2, 3, 4, 5]) [3, 4, 5] [3, 5] [0, 1, 2] mixed (by kernel_rfl) ?_))))))
    refine RL.sliceAll Tryz.runUnderlying32 Tryz.sizeOf5 (by decide) rfl rfl rfl rfl ?_
    refine RL.p rfl (RL.p rfl (RL.appendq el_22 rfl rfl rfl rfl rfl rfl rfl ?_))
    intro ob2 cap2 ho2
    have hcat : M ++ be8 n = lb ++ 0#8 :: be8 n := by rw [← hM]; simp
    rw [own_is (ob := ob2) (n' := (M ++ be8 n).length) (xs' := bytes (M ++ be8 n)) (by simp [be8_length]) (by show _ = List.map U8 _; rw [List.map_append]; rfl), show M.length + 8 = (M ++ be8 n).length by simp [be8_length], hcat]
    refine RL.callv (rcode_n (some ⟨b1, 0, none⟩) 32 32 k hk (by decide) (ob2.map fun b => ⟨b, 0, none⟩) (lb ++ 0#8 :: be8 n).length cap2 (lb ++ 0#8 :: be8 n) rfl (by simp [be8_length]; omega)) Tryz.call185 rfl rfl rfl rfl (Lend.all (by repeat (first | exact List.Mem.head _ | apply List.Mem.tail)) (by simp [hk]) (Lend.own (by repeat (first | exact List.Mem.head _ | apply List.Mem.tail)) .nil)) ?_
    refine RL.storeWq Tryz.sizeOf32 rfl rfl rfl rfl rfl rfl rfl ?_
    refine RL.nil (NQ.seq (CW.ok [6] rfl (CW.ret ?_)))
    exact RQ.post (resW rfl rfl Tryz.isAgg32 Tryz.sizeOf32 (by repeat (first | exact List.Mem.head _ | apply List.Mem.tail)) (by first | rfl | assumption | (simp only [List.length_map]; assumption) | (simp only [List.length_map, List.length_replicate, padK_len, padB_len, sha_length, dig_length, macCode_len, macTag_len, nextK_len]; done) | (simp; done))) (Split.none _) ⟨rfl, rfl, rfl⟩
end Go.Proofs.YthgjgeapfndeeaaGreatDoor

namespace Go.Proofs.YthgjgeapfndeeaaGreatDoor
open Go.PK
def epochL : List B8 := [101#8, 112#8, 111#8, 99#8, 104#8]
theorem derive_w (k : List B8) (hk : k.length = 32) (lb : List B8) (hlb : lb.length ≤ 10000000) (n : Nat) (hn : n < 4294967296) :
    Spc Tryz.prog 427 #[.agg (bytes k).toArray, .string (txt lb), .int .u64 (IntKind.u64.wrap (n : Int))] [] [] (Is (.agg (bytes (deriveK k lb n)).toArray)) := by
  rw [show IntKind.u64.wrap (n : Int) = (n : Int) by simp [IntKind.wrap, IntKind.bits, IntKind.signed]; omega]
  exact derive_any k hk lb hlb n (by omega)
end Go.Proofs.YthgjgeapfndeeaaGreatDoor
