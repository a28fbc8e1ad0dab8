import Derived.Test.YtpaemkemknfmfaaGreatDoorBase0
import Derived.Test.YtpaemkemknfmfaaGreatDoorMA
set_option linter.unusedVariables false
set_option linter.unusedSimpArgs false
/- The chain's label. -/
namespace Go.Proofs.YtpaemkemknfmfaaGreatDoor
open Go.PK
def label : List B8 := [112#8, 101#8, 108#8, 111#8, 114#8, 117#8, 115#8, 46#8, 99#8, 104#8, 97#8, 105#8, 110#8]
end Go.Proofs.YtpaemkemknfmfaaGreatDoor

namespace Go.Proofs.YtpaemkemknfmfaaGreatDoor
open Go.PK

def nextK (k : List B8) : List B8 := sha (label ++ k)
theorem nextK_len (k : List B8) : (nextK k).length = 32 := sha_length _
def nextN (k : List B8) : Nat → List B8
  | 0 => k
  | n + 1 => nextK (nextN k n)
theorem nextN_len {k : List B8} (h : k.length = 32) : ∀ n, (nextN k n).length = 32
  | 0 => h
  | n + 1 => nextK_len _
theorem nextN_add (k : List B8) (n : Nat) : ∀ m, nextN k (n + m) = nextN (nextN k n) m
  | 0 => rfl
  | m + 1 => by rw [← Nat.add_assoc, nextN, nextN_add k n m, nextN]
def flatK (l : List (List B8)) : List Value := l.flatMap bytes
def chainL (k : List B8) (n : Nat) : List (List B8) := (List.range n).map (nextN k)
theorem chainL_len (k : List B8) (n : Nat) : (chainL k n).length = n := by simp [chainL]
theorem chainL_succ (k : List B8) (n : Nat) : chainL k (n + 1) = chainL k n ++ [nextN k n] := by simp [chainL, List.range_succ]
theorem chainL_all {k : List B8} (h : k.length = 32) (n : Nat) : ∀ x ∈ chainL k n, x.length = 32 := by
  intro x hx
  obtain ⟨i, _, rfl⟩ := List.mem_map.1 hx
  exact nextN_len h i
theorem flatK_get {l : List (List B8)} (h : ∀ x ∈ l, x.length = 32) {i : Nat} {x : List B8} (hi : l[i]? = some x) : ∀ q u, (bytes x)[q]? = some u → (flatK l)[i * 32 + q]? = some u := by
  intro q u hq
  have hlt : q < 32 := by
    have := (List.getElem?_eq_some_iff.1 hq).1
    rwa [List.length_map, h x (List.mem_of_getElem? hi)] at this
  rw [flatK, get_flat (n := 32) (fun a ha => by rw [List.length_map]; exact h a ha) hi hlt]
  exact hq
theorem fill_one {zs cs : List Value} {size : Nat} (hz : zs.length = size) (hc : cs.length = size) : fillL (fun j => some (j * size, size)) (reps zs 1) [(0, .agg cs.toArray)] = some cs := by
  simp only [fillL, Value.cells, Nat.zero_mul, Nat.zero_add]
  rw [if_neg (by simp [reps, hz, hc])]
  rw [spl_all (by simp [reps, hz, hc])]
theorem next_any (k : List B8) (hk : k.length = 32) : Spc Tryz.prog 180 #[.agg (bytes k).toArray] [] [] (Is (.agg (bytes (nextK k)).toArray)) := by
  have hj : ∀ p q, joined [⟨p, 13, label⟩, ⟨q, 32, k⟩] = label ++ k := fun p q => by rw [joined_two]
  refine Spc.enter Tryz.func180 rfl rfl rfl (fun w0 hw0 => ?_)
  refine CW.seq (CW.region (ef := [0, 1]) (bk := []) (RL.box rfl rfl rfl rfl rfl rfl ?_))
  intro b1
  refine RL.alloc (cs := List.replicate 32 (U8 0#8)) Tryz.zeroValue38 rfl rfl rfl rfl rfl ?_
  intro b2
  refine RL.nil (NQ.seq (CW.seq (CW.region (ef := [0, 1, 3, 5]) (bk := [1, 5]) (RL.buildSlice [_, _, _, _, _, _, _, _, _, _, _, _, _] Tryz.runUnderlying43 Tryz.sizeOf5 Tryz.zeroValue5 rfl rfl (by decide) (by decide) rfl rfl rfl rfl rfl rfl ?_))))
  intro b3
  refine RL.stringish (e := 5) Tryz.runUnderlying43 Tryz.runUnderlying5 rfl rfl rfl rfl rfl rfl (by repeat (first | exact Pick.nil | apply Pick.take | apply Pick.leave)) rfl ?_
  refine RL.sliceAll Tryz.runUnderlying38 Tryz.sizeOf5 (by decide) rfl rfl rfl rfl ?_
  refine RL.buildSlice [_, _] Tryz.runUnderlying367 Tryz.sizeOf43 Tryz.zeroValue43 rfl rfl (by decide) (by decide) rfl rfl rfl rfl rfl rfl ?_
  intro b4
  refine RL.callv (of_any (some ⟨b4, 0, none⟩) 2 [⟨some ⟨b3, 0, none⟩, 13, label⟩, ⟨some ⟨b1, 0, none⟩, 32, k⟩] (by simp) (by rw [hj]; simp [hk, label])) Tryz.call250 rfl rfl rfl rfl (Lend.allX (by repeat (first | exact List.Mem.head _ | apply List.Mem.tail)) rfl (by simp [hk, Part.v]; rfl) (.inI (List.Mem.head _) (Lend.all (by repeat (first | exact List.Mem.head _ | apply List.Mem.tail)) (by simp) .nil))) ?_
  refine RL.storeWq Tryz.sizeOf38 rfl rfl rfl rfl rfl rfl rfl ?_
  refine RL.nil (NQ.seq (CW.ok [2] rfl (CW.ret ?_)))
  exact RQ.post (resW rfl rfl Tryz.isAgg38 Tryz.sizeOf38 (by repeat (first | exact List.Mem.head _ | apply List.Mem.tail)) (by simp [sha_length])) (Split.none _) ⟨by rw [hj]; rfl, rfl, rfl⟩
end Go.Proofs.YtpaemkemknfmfaaGreatDoor

namespace Go.Proofs.YtpaemkemknfmfaaGreatDoor
open Go.PK

def OwnK (k : List B8) (n : Nat) : Value → List It → List It → Prop := fun v I' H' => ∃ b cap, v = .tuple #[slO (some b) (n + 1) cap, .int .i64 0] ∧ I' = [] ∧ H' = [own (some b) cap 38 32 (n + 1) (flatK (chainL k (n + 1)))]
theorem flat_succ (k : List B8) (n : Nat) : flatK (chainL k n) ++ bytes (nextN k n) = flatK (chainL k (n + 1)) := by rw [chainL_succ]; simp [flatK]


theorem all_ok (k : List B8) (hk : k.length = 32) (n : Nat) (hn : n ≤ 512) : Spc Tryz.prog 112 #[.agg (bytes k).toArray, .int .i64 (n : Int)] [] [] (OwnK k n) := by
  refine Spc.enter Tryz.func112 rfl rfl rfl (fun w0 hw0 => ?_)
  refine CW.seq (CW.region (ef := [0]) (bk := []) (RL.box rfl rfl rfl rfl rfl rfl ?_))
  intro b1
  refine RL.p rfl (RL.p rfl (RL.nil (NQ.seq (CW.seq (CW.seq (CW.rg (RL.p rfl (RL.p rfl (RL.p rfl (RL.cast (d := 9) (v' := .bool false) rfl ((by simp)) ?_))))))))))
  refine RL.p rfl (RL.p rfl (RL.p rfl (RL.nil (NQ.seq (CW.ok [1, 2, 4, 5, 12] rfl (CW.condF rfl ((by simp; omega)) ?_))))))
  refine CW.skip (NQ.seq (CW.seq (CW.region (ef := [1]) (bk := []) (RL.loadW Tryz.isAgg38 Tryz.sizeOf38 rfl rfl rfl rfl (by repeat (first | exact List.Mem.head _ | apply List.Mem.tail)) (by first | rfl | assumption | (simp only [List.length_map]; assumption) | (simp only [List.length_map, List.length_replicate, padK_len, padB_len, sha_length, dig_length, macCode_len, macTag_len, nextK_len]; done) | (simp; done)) ?_))))
  refine RL.buildOwn (bytes k) Tryz.runUnderlying136 Tryz.sizeOf38 Tryz.zeroValue38 rfl rfl (by decide) (by decide) (by simp [hk]) (by decide) rfl rfl rfl rfl rfl (fill_one rfl (by simp [hk])) ?_
  intro b2
  refine RL.p rfl (RL.nil (NQ.seq (CW.seq (CW.seq (CW.rg (RL.p rfl (RL.p rfl (RL.nil (NQ.seq (CW.block ?_))))))))))
  refine CW.loop (γ := Nat × Option Nat × Nat) (fun g => g.1 ≤ n ∧ g.2.1.isSome = true) (fun g => [(2, .pointer (some ⟨b1, 0, none⟩)), (6, slO g.2.1 (g.1 + 1) g.2.2), (15, .int .i64 (n : Int)), (16, .int .i64 (g.1 : Int))]) (fun _ => [])
    (fun g => [own g.2.1 g.2.2 38 32 (g.1 + 1) (flatK (chainL k (g.1 + 1))), cel b1 (bytes (nextN k g.1)) 38]) (fun g => n - g.1) (0, some b2, 1) ⟨by omega, rfl⟩ (.cons rfl (.cons rfl (.cons rfl (.cons rfl .nil))))
    (fun _ h => by rw [own_is (ob := some b2) (n' := 0 + 1) (xs' := flatK (chainL k (0 + 1))) rfl (by simp [flatK, chainL, nextN])] at h; exact h) ?_
  rintro ⟨i, ob, c⟩ ⟨hi, hob⟩
  dsimp only at hi hob ⊢
  have hl := nextN_len hk i
  have hl2 := nextN_len hk (i + 1)
  refine CW.seq (CW.rg (RL.p rfl (RL.nil (NQ.seq (CW.seq ?_)))))
  refine CW.cond rfl (fun hlt => ?_) (fun hlt => ?_)
  ·
    refine CW.skip (NQ.seq (CW.seq (CW.block (CW.seq (CW.region (ef := [2]) (bk := [2]) (RL.loadW Tryz.isAgg38 Tryz.sizeOf38 rfl rfl rfl rfl (by repeat (first | exact List.Mem.head _ | apply List.Mem.tail)) (by first | rfl | assumption | (simp only [List.length_map]; assumption) | (simp only [List.length_map, List.length_replicate, padK_len, padB_len, sha_length, dig_length, macCode_len, macTag_len, nextK_len]; done) | (simp; done)) ?_))))))
    refine RL.callvq (next_any (nextN k i) hl) Tryz.call180 rfl rfl rfl rfl ?_
    refine RL.storeWq Tryz.sizeOf38 rfl rfl rfl rfl rfl rfl rfl ?_
    refine RL.nil (NQ.seq (CW.region (ef := [2, 3]) (bk := [3]) (RL.p rfl (RL.loadW Tryz.isAgg38 Tryz.sizeOf38 rfl rfl rfl rfl (by repeat (first | exact List.Mem.head _ | apply List.Mem.tail)) (by first | rfl | assumption | (simp only [List.length_map]; assumption) | (simp only [List.length_map, List.length_replicate, padK_len, padB_len, sha_length, dig_length, macCode_len, macTag_len, nextK_len]; done) | (simp; done)) ?_))))
    have hlt : i < n := by simp at hlt; omega
    refine RL.buildOwn (bytes (nextN k (i + 1))) Tryz.runUnderlying136 Tryz.sizeOf38 Tryz.zeroValue38 rfl rfl (by decide) (by decide) (by simp [nextN, nextK_len]) (by decide) rfl rfl rfl rfl rfl (fill_one rfl (by simp [nextN, nextK_len])) ?_
    intro b3
    refine RL.appendq el_136 rfl rfl rfl rfl rfl rfl rfl ?_
    intro ob1 cap1 ho1
    refine RL.p rfl (RL.nil (NQ.block (NQ.seq (CW.ok [2, 6, 15, 16] rfl (CW.rg (RL.bx rfl (wrapV_i64 (by omega) (by omega)) ?_))))))
    refine RL.p rfl (RL.nil ?_)
    refine NQ.round (g := (i, ob, c)) (i + 1, ob1, cap1) ⟨hlt, ho1.resolve_left (by omega)⟩ (by show n - (i + 1) < n - i; omega) (.cons rfl (.cons rfl (.cons rfl (.cons rfl .nil)))) (fun _ h => ?_)
    rw [own_is (ob := ob1) (n' := i + 1 + 1) (xs' := flatK (chainL k (i + 1 + 1))) rfl (flat_succ k (i + 1))] at h
    exact h.rea (fun _ h => h) (by repeat (first | exact Rea.nil | (apply Rea.cons; (solve | (repeat (first | exact Del.here | apply Del.there))))))
  ·
    refine CW.exit (XQ.seq (XQ.seq (XQ.hit (NQ.seq (CW.seq (CW.rg (RL.p rfl (RL.p rfl (RL.p rfl (RL.nil (NQ.seq (CW.ok [4, 5] rfl (CW.ret ?_)))))))))))))
    have hin : i = n := by simp at hlt; omega
    subst hin
    obtain ⟨b, rfl⟩ : ∃ b, ob = some b := by
      cases ob with
      | none => cases hob
      | some b => exact ⟨b, rfl⟩
    exact RQ.post (res2 rfl rfl rfl) (.keep (.drop .nil)) ⟨b, c, rfl, rfl, rfl⟩
theorem Rds.key {I H : List It} {b cap n i : Nat} {l : List (List B8)} {x : List B8} (hm : PK.own (some b) cap 38 32 n (flatK l) ∈ H) (hl : ∀ x ∈ l, x.length = 32) (hi : l[i]? = some x) : Rds I H ((⟨b, 0, none⟩ : Addr).add (i * 32)) (bytes x) :=
  Rds.part (Rds.own hm) (flatK_get hl hi)
end Go.Proofs.YtpaemkemknfmfaaGreatDoor
