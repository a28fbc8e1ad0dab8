/-
  EM, part 1: the machine for the chapter's example, and its run by the kernel.
-/
import Derived.Test.YtcnefidknaobhaaGreatEH
set_option linter.unusedVariables false
set_option linter.unusedSimpArgs false
namespace Go.Proofs.YtcnefidknaobhaaGreat
open Go.PK
/-- In which orders the regions that draw are carried out. -/
def anU : Nat → Nat → Option RA
  | 4, 2 => some ⟨[], PK.Sq.of [0, 1, 2, 3, 4, 5, 6, 7], [1, 2], [2], [], 0⟩
  | 13, 4 => some ⟨[], PK.Sq.of [0, 1, 2, 3, 4, 5, 6, 7, 8, 9, 10, 11, 12, 13, 14, 15, 16, 17, 18, 19, 20, 21, 22, 23, 24, 25, 26, 27], [26, 27], [27], [24], 0⟩
  | 13, 5 => some ⟨[], PK.Sq.of [0, 1, 2, 3, 4, 5, 6, 7, 8, 9, 10, 11, 12, 13, 14, 15, 16, 17, 18, 19, 20, 21, 22, 25, 23, 24], [23], [], [24], 0⟩
  | 18, 8 => some ⟨[], .cons 0 (.cons 1 (.fork [2, 3] (fun k => (bif Nat.beq k 2 then (PK.Sq.of [3, 4, 5, 6]) else (PK.Sq.of [2, 4, 5, 6]))))), [2, 3, 5], [], [], 1⟩
  | 20, 5 => some ⟨[], PK.Sq.of [0, 2, 3, 1, 4, 5], [1, 4], [4], [], 0⟩
  | 21, 1 => some ⟨[], PK.Sq.of [0, 1, 2, 3, 4, 5, 6, 7, 8, 9], [6, 9], [9], [3], 0⟩
  | 24, 8 => some ⟨[], PK.Sq.of [0, 1, 2, 3, 4, 5, 6, 7, 8, 9, 10, 11], [10], [10], [], 0⟩
  | 24, 11 => some ⟨[], PK.Sq.of [0, 1, 2, 3, 4, 5, 6, 7, 8, 9, 10], [9], [9], [], 0⟩
  | 28, 4 => some ⟨[], PK.Sq.of [0, 1, 2, 3, 4, 5, 6, 7, 8, 9, 10, 11, 12], [12], [12], [], 0⟩
  | 29, 9 => some ⟨[], PK.Sq.of [0, 1, 2, 3, 4, 5, 6, 7, 8, 9, 10], [10], [10], [], 0⟩
  | 29, 11 => some ⟨[], PK.Sq.of [0, 1, 2, 3, 4, 5], [5], [5], [], 0⟩
  | 33, 6 => some ⟨[], PK.Sq.of [0, 1, 2, 3, 4, 5, 6, 7, 8, 9, 10, 11, 12, 13, 14, 15, 16, 17], [11, 17], [17], [], 0⟩
  | 33, 7 => some ⟨[], PK.Sq.of [0, 1, 2, 3, 4, 5, 6, 7, 8, 9, 10, 11, 12, 13, 14, 15, 16, 17], [11, 17], [17], [], 0⟩
  | 34, 3 => some ⟨[], .cons 0 (.cons 1 (.cons 2 (.cons 4 (.cons 5 (.cons 6 (.cons 8 (.cons 9 (.cons 10 (.cons 11 (.cons 12 (.cons 13 (.fork [3, 7, 14, 16] (fun k => (bif Nat.beq k 3 then (.fork [7, 14, 16] (fun k => (bif Nat.beq k 7 then (.fork [14, 16] (fun k => (bif Nat.beq k 14 then (PK.Sq.of [15, 16, 17]) else (PK.Sq.of [14, 15, 17])))) else (bif Nat.beq k 14 then (PK.Sq.of [7, 15, 16, 17]) else (.fork [7, 14] (fun k => (bif Nat.beq k 7 then (PK.Sq.of [14, 15, 17]) else (PK.Sq.of [7, 15, 17])))))))) else (bif Nat.beq k 7 then (.fork [3, 14, 16] (fun k => (bif Nat.beq k 3 then (.fork [14, 16] (fun k => (bif Nat.beq k 14 then (PK.Sq.of [15, 16, 17]) else (PK.Sq.of [14, 15, 17])))) else (bif Nat.beq k 14 then (PK.Sq.of [3, 15, 16, 17]) else (.fork [3, 14] (fun k => (bif Nat.beq k 3 then (PK.Sq.of [14, 15, 17]) else (PK.Sq.of [3, 15, 17])))))))) else (bif Nat.beq k 14 then (PK.Sq.of [3, 7, 15, 16, 17]) else (.fork [3, 7, 14] (fun k => (bif Nat.beq k 3 then (.fork [7, 14] (fun k => (bif Nat.beq k 7 then (PK.Sq.of [14, 15, 17]) else (PK.Sq.of [7, 15, 17])))) else (bif Nat.beq k 7 then (.fork [3, 14] (fun k => (bif Nat.beq k 3 then (PK.Sq.of [14, 15, 17]) else (PK.Sq.of [3, 15, 17])))) else (PK.Sq.of [3, 7, 15, 17]))))))))))))))))))))), [14, 16, 17], [14, 17], [], 107327⟩
  | 34, 7 => some ⟨[], PK.Sq.of [0, 1, 2, 3, 4, 5, 6, 7, 8, 9, 10, 11, 12, 13, 14, 15, 16, 17], [15, 16], [16], [], 0⟩
  | 42, 3 => some ⟨[], PK.Sq.of [0, 1, 2, 3, 4, 5, 6, 7, 8, 9], [9], [9], [], 0⟩
  | 43, 6 => some ⟨[], PK.Sq.of [0, 1, 2, 3, 4, 5, 6, 7, 8, 9], [6, 7, 9], [7, 9], [], 0⟩
  | 47, 2 => some ⟨[0, 1, 2, 3, 6, 7], PK.Sq.of [4, 5, 8, 9, 10], [4, 5, 8, 9], [5, 9], [2, 3, 7], 0⟩
  | 53, 12 => some ⟨[0, 1, 2, 3, 4, 5, 6, 7, 8], PK.Sq.of [9, 10, 11], [9, 11], [9, 11], [2, 3, 6, 7], 0⟩
  | 53, 13 => some ⟨[], PK.Sq.of [0, 1, 2, 3, 4, 5, 6, 7, 8, 9, 10], [8, 10], [8, 10], [3], 0⟩
  | 58, 23 => some ⟨[], PK.Sq.of [0, 1, 2], [2], [2], [], 0⟩
  | 59, 3 => some ⟨[], PK.Sq.of [0, 1, 2, 3, 4, 5, 6, 7, 8, 9, 10, 11, 12, 13, 14, 15, 16, 17, 18, 19, 20, 21, 22, 23], [], [], [], 0⟩
  | 60, 1 => some ⟨[], PK.Sq.of [0, 1, 2, 3, 4, 5, 6, 7, 8, 9, 10, 11, 12, 13, 14, 15, 16, 17, 18, 19, 20], [16, 17, 20], [17, 20], [], 0⟩
  | 63, 5 => some ⟨[], PK.Sq.of [0, 1, 2, 3, 4, 5, 6, 7, 8, 9, 10], [10], [10], [], 0⟩
  | 67, 10 => some ⟨[], .cons 0 (.cons 1 (.cons 2 (.cons 3 (.cons 6 (.cons 8 (.cons 9 (.fork [4, 5] (fun k => (bif Nat.beq k 4 then (PK.Sq.of [5, 7, 10, 11]) else (.fork [4, 7] (fun k => (bif Nat.beq k 4 then (PK.Sq.of [7, 10, 11]) else (PK.Sq.of [4, 10, 11]))))))))))))), [5, 7, 11], [7, 11], [], 1⟩
  | 72, 1 => some ⟨[], PK.Sq.of [0, 1, 2, 3, 4, 5, 6, 7, 8, 9, 10, 11, 12, 13, 14, 15, 16, 17, 18], [], [], [8, 14], 0⟩
  | 74, 4 => some ⟨[], .cons 0 (.cons 1 (.fork [2, 3] (fun k => (bif Nat.beq k 2 then (PK.Sq.of [3, 4, 5, 6, 7]) else (PK.Sq.of [2, 4, 5, 6, 7]))))), [2, 3, 5], [], [], 2⟩
  | 75, 3 => some ⟨[], PK.Sq.of [0, 1, 2, 3, 4, 5, 6, 7, 8], [5, 7], [], [], 0⟩
  | 75, 10 => some ⟨[0, 1, 2, 3, 4, 5, 6, 7, 9, 10], .fork [8, 11] (fun k => (bif Nat.beq k 8 then (PK.Sq.of [11, 12, 13, 14]) else (PK.Sq.of [12, 8, 13, 14]))), [8, 11, 13], [11, 13], [3, 5, 6, 10], 1⟩
  | 76, 6 => some ⟨[], PK.Sq.of [0, 1, 2, 3, 4, 5, 6, 7, 8, 9, 10], [9, 10], [10], [], 0⟩
  | 77, 2 => some ⟨[], PK.Sq.of [0, 1, 2, 3, 4, 5, 6, 7, 8, 9, 10, 11], [10, 11], [11], [], 0⟩
  | 77, 3 => some ⟨[], PK.Sq.of [0, 1, 2, 3, 4, 5, 6, 7, 8, 9, 10, 11, 12, 13, 14], [14], [14], [], 0⟩
  | 77, 5 => some ⟨[], PK.Sq.of [0, 1, 2, 3, 4, 5, 6, 7, 8, 9, 10, 11, 12], [8, 12], [12], [], 0⟩
  | 81, 1 => some ⟨[], PK.Sq.of [0, 1, 2, 3, 4, 5, 6, 7, 8, 9, 10, 11, 12, 13, 14], [], [], [], 0⟩
  | 88, 5 => some ⟨[], PK.Sq.of [0, 1, 2, 3, 4], [4], [4], [], 0⟩
  | 102, 5 => some ⟨[], PK.Sq.of [0, 1, 2, 3, 4, 5, 6, 7, 8, 9, 10, 11, 12, 13, 14, 15, 16, 17], [], [], [], 0⟩
  | 104, 8 => some ⟨[], PK.Sq.of [0, 1, 2, 3], [3], [3], [], 0⟩
  | 104, 10 => some ⟨[], PK.Sq.of [0, 1, 2, 3], [3], [3], [], 0⟩
  | 110, 2 => some ⟨[], PK.Sq.of [0, 1, 2, 3, 4, 5, 6, 7, 8, 9, 10, 11, 12, 13, 14], [], [], [], 0⟩
  | 117, 3 => some ⟨[], PK.Sq.of [0, 1, 2, 3, 4, 5, 6, 7, 8, 9, 10], [], [], [], 0⟩
  | 117, 5 => some ⟨[], PK.Sq.of [0, 1, 2, 3, 4, 5, 6, 7, 8], [], [], [], 0⟩
  | 117, 11 => some ⟨[], PK.Sq.of [0, 1, 2, 3, 4, 5, 6, 7, 8, 9, 10, 11, 12], [11], [11], [], 0⟩
  | 117, 14 => some ⟨[], PK.Sq.of [0, 1, 2, 3, 4, 5, 6, 7], [6], [6], [], 0⟩
  | 124, 7 => some ⟨[0, 1, 2, 3, 5, 6], PK.Sq.of [4, 7, 8], [4, 7], [4, 7], [2, 3, 6], 0⟩
  | 137, 6 => some ⟨[], PK.Sq.of [0, 1, 2, 3, 4, 5, 6, 7], [6], [6], [], 0⟩
  | 139, 3 => some ⟨[], PK.Sq.of [0, 1, 2, 3, 4, 5, 6, 7, 8], [], [], [], 0⟩
  | 139, 6 => some ⟨[], PK.Sq.of [0, 1, 2, 3, 4, 5, 6, 7], [6], [6], [], 0⟩
  | 143, 5 => some ⟨[], PK.Sq.of [0, 1, 2, 3, 4, 5, 6, 7, 8, 9], [9], [9], [], 0⟩
  | 146, 1 => some ⟨[], PK.Sq.of [0, 1, 2, 3, 4, 5, 6, 7, 8], [], [], [], 0⟩
  | 148, 1 => some ⟨[], PK.Sq.of [0, 1, 2, 3, 4, 5, 6, 7, 8, 9, 10], [], [], [], 0⟩
  | 180, 1 => some ⟨[], PK.Sq.of [0, 1, 2, 3, 4, 5, 6, 7, 8, 9, 10, 11, 12, 13, 14, 15], [13, 14], [14], [], 0⟩
  | 180, 4 => some ⟨[], PK.Sq.of [0, 1, 2, 3, 4, 5, 6, 7], [4, 5], [], [], 0⟩
  | 180, 5 => some ⟨[], PK.Sq.of [0, 1, 2, 3, 4, 5, 6, 7], [7], [7], [], 0⟩
  | 181, 3 => some ⟨[], PK.Sq.of [0, 1, 2, 3, 4, 5, 6], [6], [6], [], 0⟩
  | 202, 7 => some ⟨[], PK.Sq.of [0, 1, 2, 3, 4, 5, 6, 7, 8], [7, 8], [8], [], 0⟩
  | 204, 4 => some ⟨[], PK.Sq.of [0, 1, 2, 3, 4, 5, 6], [6], [6], [], 0⟩
  | 217, 2 => some ⟨[], PK.Sq.of [0, 1, 2, 3, 4], [], [], [], 0⟩
  | 232, 1 => some ⟨[], .cons 0 (.cons 1 (.cons 2 (.cons 3 (.cons 4 (.cons 5 (.cons 7 (.cons 8 (.cons 9 (.cons 11 (.cons 12 (.cons 14 (.cons 15 (.fork [6, 10] (fun k => (bif Nat.beq k 6 then (PK.Sq.of [10, 13, 16, 17, 18]) else (.fork [6, 13] (fun k => (bif Nat.beq k 6 then (PK.Sq.of [13, 16, 17, 18]) else (PK.Sq.of [6, 16, 17, 18]))))))))))))))))))), [6, 10, 13, 16, 17], [], [2, 5, 9], 9⟩
  | 244, 6 => some ⟨[], PK.Sq.of [0, 1, 2, 3, 4, 5, 6, 7, 8], [], [], [], 0⟩
  | 265, 1 => some ⟨[], PK.Sq.of [0, 1, 2, 3, 4, 5, 6, 7], [], [], [6], 0⟩
  | 265, 3 => some ⟨[], PK.Sq.of [0, 1, 2, 3, 4, 5, 6, 7], [], [], [6], 0⟩
  | 267, 1 => some ⟨[], PK.Sq.of [0, 1, 2, 3, 4, 5, 6, 7, 8, 9], [], [], [], 0⟩
  | 268, 4 => some ⟨[], PK.Sq.of [0, 1, 2, 3, 4, 5, 6, 7, 8, 9, 10, 11], [11], [11], [], 0⟩
  | 319, 4 => some ⟨[], PK.Sq.of [0, 1, 2, 3, 4, 5, 6, 7, 8, 9, 10, 11, 12, 13, 14, 15, 16], [16], [16], [10], 0⟩
  | _, _ => none
noncomputable def hkU : Nat → Option Hk
  | 258 => some hkEnter
  | 123 => some hkSrcs
  | 277 => some hkDerive
  | 50 => some hkDerive
  | 231 => some hkRight
  | 49 => some hkTag
  | 158 => some hkNext
  | 273 => some hkAdd
  | 162 => some hkAdd
  | 52 => some hkConcat
  | _ => none
theorem hkU_ok (f : Nat) (g : Hk) (hg : hkU f = some g) (hb h : Heap) (nx : Nat) (args : List AV) (v : AV) (h' : Heap) (nx' : Nat) (he : g hb h nx args = some (v, h', nx')) : FOk Tryz.prog f args h hb v h' := by
  unfold hkU at hg
  split at hg
  · cases hg; exact hkEnter_ok (by kernel_rfl) (fun r m1 m2 o c0 e g h1 h2 h3 => enter_none r m1 m2 o c0 e g h1 h2 h3) he
  · cases hg; exact hkSrcs_ok (by kernel_rfl) sources_c he
  · cases hg; exact hkDerive_ok (by kernel_rfl) derive_any he
  · cases hg; exact hkDerive_ok (by kernel_rfl) rderive_any he
  · cases hg; exact hkRight_ok (by kernel_rfl) right_any he
  · cases hg; exact hkTag_ok (by kernel_rfl) rtag_any he
  · cases hg; exact hkNext_ok (by kernel_rfl) rnext_any he
  · cases hg; exact hkAdd_ok (by kernel_rfl) cadd_any he
  · cases hg; exact hkAdd_ok (by kernel_rfl) radd11 he
  · cases hg; exact hkConcat_ok (by kernel_rfl) concatB_any he
  · cases hg
noncomputable def mchU : Mch := ⟨Tryz.prog, anU, hkU, okF Tryz.prog⟩
theorem callU (d : Nat) : CallOk Tryz.prog (gF mchU stE d) := gcalls_okF mixed hkU_ok d
noncomputable def isTrue (o : Option (AV × Heap × Nat)) : Bool := match o with
  | some (.val (.bool true), _, _) => true
  | _ => false
theorem runs_true {f : Nat} {args : List AV} (hr : isTrue (gF mchU stE 200 .e .e 0 f args) = true) : ∃ h', FOk Tryz.prog f args .e .e (.val (.bool true)) h' := by
  cases ho : gF mchU stE 200 .e .e 0 f args with
  | none => rw [ho] at hr; cases hr
  | some q =>
    obtain ⟨v, h', n⟩ := q
    rw [ho] at hr
    unfold isTrue at hr
    split at hr
    · next heq => cases heq; exact ⟨_, callU 200 _ _ _ _ _ _ _ _ ho⟩
    · cases hr
/-- A call that the kernel finds true. -/
theorem spc_true {f : Nat} (vs : List Value) (hr : isTrue (gF mchU stE 200 .e .e 0 f (vs.map AV.val)) = true) : Spc Tryz.prog f vs.toArray [] [] (Is (.bool true)) := fun w hw => by
  obtain ⟨h', F⟩ := runs_true hr
  have hge : ∀ k, (Tr.e : Heap).get k = none := fun k => rfl
  have hm : Mem (fun _ => (0, 0)) (.e : Heap) w := ⟨(fun k c h => by rw [hge] at h; cases h), (fun k c h => by rw [hge] at h; cases h), (fun k c k' c' h => by rw [hge] at h; cases h)⟩
  have hv : (vs.map AV.val).map (AV.dec fun _ => (0, 0)) = vs := by
    rw [List.map_map]; exact List.map_id'' (fun v => by simp [AV.dec]) vs
  have hc := F.call (fun _ _ h => h) _ w hm (fun x hx => by obtain ⟨v, -, rfl⟩ := List.mem_map.1 hx; trivial)
  rw [hv] at hc
  refine hc.mono ?_
  rintro e w' ⟨u, rfl, ⟨θ', A⟩, -⟩
  have hd := A.d
  refine ⟨u, [], [], rfl, ⟨by rw [hd]; rfl, rfl, rfl⟩, A.k.none, ⟨(fun _ h => by cases h), (fun _ h => by cases h), List.nodup_nil, (fun _ h => by cases h)⟩, (fun _ h => by cases h), (fun _ h => by cases h)⟩
end Go.Proofs.YtcnefidknaobhaaGreat
