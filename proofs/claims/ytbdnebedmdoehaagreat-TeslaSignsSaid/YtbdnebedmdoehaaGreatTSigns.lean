import Derived.Test.YtbdnebedmdoehaaGreatSC
import Derived.Test.YtbdnebedmdoehaaGreatFA
import Derived.Test.YtbdnebedmdoehaaGreatFRd
namespace Go.Proofs.YtbdnebedmdoehaaGreat
open Go.PK
theorem few_min50 (n : Nat) : min (n : Int) 50 = ((min n 50 : Nat) : Int) := by omega
theorem few_all50 {p : Option Addr} {c : Nat} : (if c = 0 then p else p.map (·.add (0 * 1))) = p := by
  cases p with
  | none => split <;> rfl
  | some a => split <;> simp [Addr.add]
theorem tsigns (k : List B8) (i : Nat) (f : Fr) (p : Option Addr) (c n : Nat) (hk : k.length = 32) (hi : i < 4294967296) (hf : f.Ok) (hn : f.b.length = n) (hc : n ≤ c) (hb : n ≤ maxLen) : Spc Tryz.prog 3 #[.agg (bytes k).toArray, .int .u32 (i : Int), .agg (f.cells (.slice p n c)).toArray] [sls p 1 n (bytes f.b)] [] (Is (.bool true)) := by
  subst hn
  have hm : (f.b.take 50).length = min f.b.length 50 := by rw [List.length_take]; omega
  have hl := fr_len hf.tag (.slice p f.b.length c)
  have hby := OwnB.n hm (bytes_any p c (f.b.take 50) (by omega))
  rw [hm] at hby
  have hle : ∀ F : List It, Lend [sls p 1 f.b.length (bytes f.b)] F [sls p 1 (min f.b.length 50) (bytes (f.b.take 50))] := fun F => by
    have := Lend.takeB (I := [sls p 1 f.b.length (bytes f.b)]) (F := F) (p := p) (c := c) (k := 50) (m := f.b) (List.Mem.head _) hc .nil
    rw [few_all50, hm] at this
    exact this
  refine Spc.enter Tryz.func3 rfl rfl rfl (fun w0 hw0 => ?_)
  refine CW.seq ?_
  refine CW.region (ef := [0, 1]) (bk := []) ?_
  refine RL.box rfl rfl rfl rfl rfl rfl ?_
  intro b1
  refine RL.box rfl rfl rfl rfl rfl rfl ?_
  intro b2
  refine RL.assign rfl rfl rfl rfl ?_
  refine RL.nil ?_
  refine NQ.seq ?_
  refine CW.seq ?_
  refine CW.region (ef := [7, 9]) (bk := [9]) ?_
  refine RL.fieldAddr fa_30_4 rfl rfl rfl rfl ?_
  refine RL.loadq Tryz.isAgg26 rfl rfl rfl rfl ?_
  refine RL.fieldAddr fa_30_4 rfl rfl rfl rfl ?_
  refine RL.loadq Tryz.isAgg26 rfl rfl rfl rfl ?_
  refine RL.lenS Tryz.runUnderlying26 rfl rfl rfl rfl ?_
  refine RL.min rfl rfl rfl rfl rfl ?_
  rw [few_min50]
  refine RL.slice (lo := 0) (hi := min f.b.length 50) Tryz.runUnderlying26 Tryz.sizeOf5 rfl rfl rfl rfl rfl rfl (by omega) (by omega) ?_
  rw [few_all50, Nat.sub_zero, Nat.sub_zero]
  refine RL.call (hby) Tryz.call8 rfl rfl rfl rfl rfl (by repeat (first | exact Pick.nil | apply Pick.take | apply Pick.leave)) (hle _) (.inl rfl) ?_
  rintro _ _ _ ⟨ob1, cap1, rfl, rfl, rfl, ho1⟩
  refine RL.fieldAddr fa_30_4 rfl rfl rfl rfl ?_
  refine RL.storeSeg (cs := f.cells (.slice p f.b.length c)) (cs' := (f.few 50).cells (slO ob1 (min f.b.length 50) cap1)) (vs := [slO ob1 (min f.b.length 50) cap1]) [.int .i64 f.kd, .int .i64 f.sr, .int .u32 (f.ep : Int), .int .u64 (f.ct : Int)] [.slice p f.b.length c] (bytes f.tag) Tryz.sizeOf26 rfl rfl rfl rfl rfl rfl rfl rfl rfl rfl rfl rfl rfl (by repeat (first | exact Upd.here | apply Upd.there)) ?_
  refine RL.nil ?_
  refine NQ.seq ?_
  refine CW.only (.cons (k := 1) rfl (.cons (k := 3) rfl (.cons (k := 5) rfl .nil))) ?_
  refine CW.seq ?_
  refine CW.regionD (Sq.of [0, 1, 2, 4, 5, 6, 3, 7, 8, 9, 10, 11, 12]) [3, 7, 8, 10] [] [1, 5, 9, 11, 12] mixed (by kernel_rfl) ?_
  first | refine RL.loadM Tryz.isAgg23 Tryz.sizeOf23 rfl rfl rfl rfl (by assumption) ?_ | refine RL.loadA Tryz.isAgg23 Tryz.sizeOf23 rfl rfl rfl rfl (by first | assumption | (apply RdsI.rds; assumption)) (by first | rfl | assumption | (simp only [List.length_map]; assumption) | (simp only [List.length_map, List.length_replicate, hk, hl]; done) | (simp; done)) ?_ | refine RL.loadW Tryz.isAgg23 Tryz.sizeOf23 rfl rfl rfl rfl (by (solve | (repeat (first | exact List.Mem.head _ | apply List.Mem.tail)))) (by first | rfl | assumption | (simp only [List.length_map]; assumption) | (simp only [List.length_map, List.length_replicate, hk, hl]; done) | (simp; done)) ?_
  refine RL.move rfl rfl rfl rfl ?_
  first | refine RL.loadM Tryz.isAgg30 Tryz.sizeOf30 rfl rfl rfl rfl (by assumption) ?_ | refine RL.loadA Tryz.isAgg30 Tryz.sizeOf30 rfl rfl rfl rfl (by first | assumption | (apply RdsI.rds; assumption)) (by first | rfl | assumption | (simp only [List.length_map]; assumption) | (simp only [List.length_map, List.length_replicate, hk, hl]; done) | (simp; done)) ?_ | refine RL.loadW Tryz.isAgg30 Tryz.sizeOf30 rfl rfl rfl rfl (by (solve | (repeat (first | exact List.Mem.head _ | apply List.Mem.tail)))) (by first | rfl | assumption | (simp only [List.length_map]; assumption) | (simp only [List.length_map, List.length_replicate, hk, hl]; done) | (simp; done)) ?_
  first | refine RL.loadM Tryz.isAgg23 Tryz.sizeOf23 rfl rfl rfl rfl (by assumption) ?_ | refine RL.loadA Tryz.isAgg23 Tryz.sizeOf23 rfl rfl rfl rfl (by first | assumption | (apply RdsI.rds; assumption)) (by first | rfl | assumption | (simp only [List.length_map]; assumption) | (simp only [List.length_map, List.length_replicate, hk, hl]; done) | (simp; done)) ?_ | refine RL.loadW Tryz.isAgg23 Tryz.sizeOf23 rfl rfl rfl rfl (by (solve | (repeat (first | exact List.Mem.head _ | apply List.Mem.tail)))) (by first | rfl | assumption | (simp only [List.length_map]; assumption) | (simp only [List.length_map, List.length_replicate, hk, hl]; done) | (simp; done)) ?_
  refine RL.move rfl rfl rfl rfl ?_
  first | refine RL.loadM Tryz.isAgg30 Tryz.sizeOf30 rfl rfl rfl rfl (by assumption) ?_ | refine RL.loadA Tryz.isAgg30 Tryz.sizeOf30 rfl rfl rfl rfl (by first | assumption | (apply RdsI.rds; assumption)) (by first | rfl | assumption | (simp only [List.length_map]; assumption) | (simp only [List.length_map, List.length_replicate, hk, hl]; done) | (simp; done)) ?_ | refine RL.loadW Tryz.isAgg30 Tryz.sizeOf30 rfl rfl rfl rfl (by (solve | (repeat (first | exact List.Mem.head _ | apply List.Mem.tail)))) (by first | rfl | assumption | (simp only [List.length_map]; assumption) | (simp only [List.length_map, List.length_replicate, hk, hl]; done) | (simp; done)) ?_
  have hl2 := fr_len (f := f.few 50) hf.tag (slO ob1 (min f.b.length 50) cap1)
  have hf2 : (f.few 50).Ok := ⟨hf.ep, hf.ct, hf.tag⟩
  have hn2 : (f.few 50).b.length = min f.b.length 50 := hm
  have hm50 : min f.b.length 50 ≤ 50 := by omega
  rw [show f.b.take 50 = (f.few 50).b from rfl]
  generalize hfw : f.few 50 = f2 at *
  have hl3 := fr_len hf2.tag (slO ob1 (min f.b.length 50) cap1)
  have hts := Fr.tsign_ok hf2 k i
  generalize min f.b.length 50 = m at *
  refine RL.callv (tsign_any k i f2 (ob1.map fun b => ⟨b, 0, none⟩) cap1 m hk hi hf2 hn2 (by omega)) Tryz.call10 rfl rfl rfl rfl (Lend.own (by repeat (first | exact List.Mem.head _ | apply List.Mem.tail)) .nil) ?_
  refine RL.callv (rtsign_any k i f2 (ob1.map fun b => ⟨b, 0, none⟩) cap1 m hk hi hf2 hn2 (by omega)) Tryz.call11 rfl rfl rfl rfl (Lend.own (by repeat (first | exact List.Mem.head _ | apply List.Mem.tail)) .nil) ?_
  refine RL.callv (frsame_refl (f2.tsign k i) (ob1.map fun b => ⟨b, 0, none⟩) (ob1.map fun b => ⟨b, 0, none⟩) m m cap1 cap1 hts) Tryz.call9 rfl rfl rfl rfl (Lend.own (by repeat (first | exact List.Mem.head _ | apply List.Mem.tail)) (Lend.own (by repeat (first | exact List.Mem.head _ | apply List.Mem.tail)) .nil)) ?_
  refine RL.move rfl rfl rfl rfl ?_
  refine RL.cast (d := 25) (v' := .bool true) rfl (rfl) ?_
  refine RL.callvq (works21) Tryz.call12 rfl rfl rfl rfl ?_
  refine RL.pickT rfl rfl rfl rfl rfl ?_
  refine RL.assign rfl rfl rfl rfl ?_
  refine RL.nil ?_
  refine NQ.seq ?_
  refine CW.only (.cons (k := 6) rfl .nil) ?_
  refine CW.ret ?_
  exact RQ.post (res1 rfl rfl) (Split.none _) ⟨rfl, rfl, rfl⟩
theorem teslaSigns_call (W : World) (k : List B8) (i : Int) (x : FrA) (hk : rKey.ok k) (hi : rU32.ok i) (hx : rFr.ok x) (_ : ∀ y ∈ rKey.its k, y.A W) (_ : ∀ y ∈ rU32.its i, y.A W) (tx : ∀ y ∈ rFr.its x, y.A W) :
    Calls Tryz.prog 3 #[rKey.val k, rU32.val i, rFr.val x] W (fun e w' => e = .returned (.bool true) ∧ RowKit.Below W.heap.size W w') := by
  have hb := wfk_bounds hi
  have hb : 0 ≤ i ∧ i ≤ 4294967295 := hb
  obtain ⟨j, rfl⟩ : ∃ j : Nat, i = (j : Int) := ⟨i.toNat, by omega⟩
  exact (tsigns k j x.f x.p x.c x.f.b.length hk.1 (by omega) hx.f rfl hx.c hx.b).lawI tx
end Go.Proofs.YtbdnebedmdoehaaGreat
