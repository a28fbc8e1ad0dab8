import Derived.Test.YthgjgeapfndeeaaGreatDoorBase0
import Derived.Test.YthgjgeapfndeeaaGreatDoorMA
set_option linter.unusedVariables false
set_option linter.unusedSimpArgs false
/- The chain's label. -/
namespace Go.Proofs.YthgjgeapfndeeaaGreatDoor
open Go.PK
def label : List B8 := [112#8, 101#8, 108#8, 111#8, 114#8, 117#8, 115#8, 46#8, 99#8, 104#8, 97#8, 105#8, 110#8]
end Go.Proofs.YthgjgeapfndeeaaGreatDoor

namespace Go.Proofs.YthgjgeapfndeeaaGreatDoor
open Go.PK

def nextK (k : List B8) : List B8 := sha (label ++ k)
theorem nextK_len (k : List B8) : (nextK k).length = 32 := sha_length _
def nextN (k : List B8) : Nat → List B8
  | 0 => k
  | n + 1 => nextK (nextN k n)
def flatK (l : List (List B8)) : List Value := l.flatMap bytes
theorem flatK_get {l : List (List B8)} (h : ∀ x ∈ l, x.length = 32) {i : Nat} {x : List B8} (hi : l[i]? = some x) : ∀ q u, (bytes x)[q]? = some u → (flatK l)[i * 32 + q]? = some u := by
  intro q u hq
  have hlt : q < 32 := by
    have := (List.getElem?_eq_some_iff.1 hq).1
    rwa [List.length_map, h x (List.mem_of_getElem? hi)] at this
  rw [flatK, get_flat (n := 32) (fun a ha => by rw [List.length_map]; exact h a ha) hi hlt]
  exact hq
end Go.Proofs.YthgjgeapfndeeaaGreatDoor

namespace Go.Proofs.YthgjgeapfndeeaaGreatDoor
open Go.PK

theorem Lend.ownN {I F J : List It} {b cap sz n n' : Nat} {e : TypeId} {xs xs' : List Value} (hm : PK.own (some b) cap e sz n xs ∈ F) (hn : n = n') (hx : xs = xs') (h : Lend I F J) : Lend I F (PK.sls (some ⟨b, 0, none⟩) sz n' xs' :: J) := by
  subst hn; subst hx; exact Lend.own (ob := some b) hm h

theorem rnext_any (k : List B8) (hk : k.length = 32) : Spc Tryz.prog 252 #[.agg (bytes k).toArray] [] [] (Is (.agg (bytes (nextK k)).toArray)) := by
  refine Spc.enter Tryz.func252 rfl rfl rfl (fun w0 hw0 => ?_)
  refine CW.seq (CW.region (ef := [0, 1]) (bk := []) (RL.box rfl rfl rfl rfl rfl rfl ?_))
  intro b1
  refine RL.alloc (cs := List.replicate 32 (U8 0#8)) Tryz.zeroValue32 rfl rfl rfl rfl rfl ?_
  intro b2
  refine RL.nil (NQ.seq (CW.seq (CW.region (ef := [0, 1, 3, 4, 5]) (bk := [1, 5]) (RL.buildSlice [_, _, _, _, _, _, _, _, _, _, _, _, _] Tryz.runUnderlying22 Tryz.sizeOf5 Tryz.zeroValue5 rfl rfl (by decide) (by decide) rfl rfl rfl rfl rfl rfl ?_))))
  intro b3
  refine RL.stringish (e := 5) Tryz.runUnderlying22 Tryz.runUnderlying5 rfl rfl rfl rfl rfl rfl (by repeat (first | exact Pick.nil | apply Pick.take | apply Pick.leave)) rfl ?_
  refine RL.sliceAll Tryz.runUnderlying32 Tryz.sizeOf5 (by decide) rfl rfl rfl rfl ?_
  refine RL.appendNew (xs := bytes label) (news := bytes k) el_22 rfl rfl rfl rfl rfl rfl (Src.sls (List.Mem.head _)) (Src.cel (by repeat (first | exact List.Mem.head _ | apply List.Mem.tail)) (by simp [hk])) (by decide) (by decide) (by decide) ?_
  intro b4 c4
  refine RL.callv (rof_n (some ⟨b4, 0, none⟩) 45 c4 (label ++ k) (by simp [label, hk]) (by decide)) Tryz.call271 rfl rfl rfl rfl (Lend.ownN (by repeat (first | exact List.Mem.head _ | apply List.Mem.tail)) rfl (by simp) .nil) ?_
  refine RL.storeWq Tryz.sizeOf32 rfl rfl rfl rfl rfl rfl rfl ?_
  refine RL.nil (NQ.seq (CW.ok [2] rfl (CW.ret ?_)))
  exact RQ.post (resW rfl rfl Tryz.isAgg32 Tryz.sizeOf32 (by repeat (first | exact List.Mem.head _ | apply List.Mem.tail)) (by first | rfl | assumption | (simp only [List.length_map]; assumption) | (simp only [List.length_map, List.length_replicate, padK_len, padB_len, sha_length, dig_length, macCode_len, macTag_len, nextK_len]; done) | (simp; done))) (Split.none _) ⟨rfl, rfl, rfl⟩


theorem Rds.key {I H : List It} {b cap n i : Nat} {l : List (List B8)} {x : List B8} (hm : PK.own (some b) cap 32 32 n (flatK l) ∈ H) (hl : ∀ x ∈ l, x.length = 32) (hi : l[i]? = some x) : Rds I H ((⟨b, 0, none⟩ : Addr).add (i * 32)) (bytes x) :=
  Rds.part (Rds.own hm) (flatK_get hl hi)
end Go.Proofs.YthgjgeapfndeeaaGreatDoor
