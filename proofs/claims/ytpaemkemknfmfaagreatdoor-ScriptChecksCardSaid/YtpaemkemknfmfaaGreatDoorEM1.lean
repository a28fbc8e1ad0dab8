/-
  EM, part 1: the machine for the script's example.
-/
import Derived.Test.YtpaemkemknfmfaaGreatDoorSB
import Derived.Test.YtpaemkemknfmfaaGreatDoorK9
set_option linter.unusedVariables false
set_option linter.unusedSimpArgs false
namespace Go.Proofs.YtpaemkemknfmfaaGreatDoor
open Go.PK Go.RowKit Go.Shelf
theorem count_one (s : ByteArray) (c : UInt8) (w : World) : Calls Tryz.prog 62 #[.string s, .string ⟨#[c]⟩] w fun e w' => e = .returned (.int .i64 (Go.Lib.countByte s.data.toList c)) ∧ w' = w := Any.strings_Count_one { Tryz.lSplit with } s c w
theorem index_one (s : ByteArray) (c : UInt8) (w : World) : Calls Tryz.prog 63 #[.string s, .string ⟨#[c]⟩] w fun e w' => e = .returned (.int .i64 (Go.Lib.indexByte s.data.toList c)) ∧ w' = w := Any.strings_Index_one { Tryz.lSplit with } s c w
theorem pu_ok (s : ByteArray) (v : Nat) (w : World) (hs : s.size < 1000) (h : Go.Lib.parseUintB 64 s.data.toList = .ok v) : Calls Tryz.prog 64 #[.string s, .int .i64 10, .int .i64 64] w fun e w' => e = .returned (.tuple #[.int .u64 (v : Int), .nilIface]) ∧ Below w.heap.size w w' := (Any.strconv_ParseUint_10_at64_ok Tryz.lPu s (by omega) v h w).mono (by
  rintro e w' ⟨rfl, hw'⟩
  refine ⟨rfl, ?_⟩
  rcases hw' with rfl | rfl
  · exact Below.refl _ _
  · exact Lib.bytesWorld_below _ _ _)
theorem pi_ok (s : ByteArray) (v : Int) (w : World) (hs : s.size < 1000) (h : Go.Lib.parseIntB 64 s.data.toList = .ok v) : Calls Tryz.prog 108 #[.string s, .int .i64 10, .int .i64 64] w fun e w' => e = .returned (.tuple #[.int .i64 v, .nilIface]) ∧ Below w.heap.size w w' := (Any.strconv_ParseInt_10_at64_ok Tryz.lPi s (by omega) v h w).mono (by
  rintro e w' ⟨rfl, hw'⟩
  refine ⟨rfl, ?_⟩
  rcases hw' with rfl | ⟨t, rfl⟩
  · exact Below.refl _ _
  · exact Lib.bytesWorld_below _ _ _)
def anS : Nat → Nat → Option RA
  | 9, 33 => some ⟨[0, 1, 2, 3, 4, 5, 6, 7, 8, 9, 10, 11, 12], PK.Sq.of [13, 14], [13], [13], [0, 4, 9, 10], 0⟩
  | 28, 7 => some ⟨[], PK.Sq.of [0, 1, 2, 3, 4, 5, 6, 7, 8, 9, 10, 11, 12], [6, 12], [6, 12], [], 0⟩
  | 40, 6 => some ⟨[], PK.Sq.of [0, 1, 2, 3, 4, 5, 6, 7, 8, 9], [6, 7, 9], [7, 9], [], 0⟩
  | 43, 7 => some ⟨[], PK.Sq.of [0, 1, 2, 3, 4, 5, 6], [], [], [], 0⟩
  | 43, 15 => some ⟨[], PK.Sq.of [0, 1, 2, 3, 4, 5, 6, 7, 8, 9], [8, 9], [9], [], 0⟩
  | 44, 8 => some ⟨[], .cons 0 (.cons 1 (.fork [2, 3] (fun k => (bif Nat.beq k 2 then (PK.Sq.of [3, 4, 5, 6]) else (PK.Sq.of [2, 4, 5, 6]))))), [2, 3, 5], [], [], 1⟩
  | 45, 5 => some ⟨[], PK.Sq.of [0, 1, 2, 3, 4, 5, 6, 7, 8, 9, 10, 11, 12, 13, 14, 15, 16, 17], [16, 17], [17], [], 0⟩
  | 47, 0 => some ⟨[], PK.Sq.of [0, 1, 2, 3, 4, 5, 6], [6], [6], [], 0⟩
  | 53, 7 => some ⟨[], PK.Sq.of [0, 1, 2, 3, 4, 5, 6, 7, 8, 9, 10], [8, 9, 10], [9, 10], [], 0⟩
  | 76, 6 => some ⟨[], PK.Sq.of [0, 1, 2, 3, 4, 5, 6, 7, 8, 9, 10, 11, 12, 13, 14, 15, 16, 17], [11, 17], [17], [], 0⟩
  | 76, 7 => some ⟨[], PK.Sq.of [0, 1, 2, 3, 4, 5, 6, 7, 8, 9, 10, 11, 12, 13, 14, 15, 16, 17], [11, 17], [17], [], 0⟩
  | 80, 4 => some ⟨[], PK.Sq.of [0, 1, 2, 3, 4, 5, 6, 7, 8, 9, 10, 11, 12], [12], [12], [], 0⟩
  | 81, 9 => some ⟨[], PK.Sq.of [0, 1, 2, 3, 4, 5, 6, 7, 8, 9, 10], [10], [10], [], 0⟩
  | 81, 11 => some ⟨[], PK.Sq.of [0, 1, 2, 3, 4, 5], [5], [5], [], 0⟩
  | 88, 4 => some ⟨[], PK.Sq.of [0, 1, 2, 3, 4, 5, 6, 7, 8, 9, 10, 11, 12, 13, 14, 15, 16, 17, 18, 19, 20, 21, 22, 23, 24, 25, 26, 27], [26, 27], [27], [24], 0⟩
  | 88, 5 => some ⟨[], PK.Sq.of [0, 1, 2, 3, 4, 5, 6, 7, 8, 9, 10, 11, 12, 13, 14, 15, 16, 17, 18, 19, 20, 21, 22, 25, 23, 24], [23], [], [24], 0⟩
  | 94, 1 => some ⟨[], PK.Sq.of [0, 1, 2, 3, 4, 5, 6, 7, 8, 9, 10, 11, 12, 13], [8], [8], [], 0⟩
  | 116, 5 => some ⟨[], PK.Sq.of [0, 1, 2, 3, 4, 5, 6, 7, 8, 9, 10, 11, 12, 13, 14, 15, 16, 17], [], [], [], 0⟩
  | 117, 3 => some ⟨[], PK.Sq.of [0, 1, 2, 3, 4, 5, 6, 7, 8], [5, 7], [], [], 0⟩
  | 117, 10 => some ⟨[0, 1, 2, 3, 4, 5, 6, 7, 9, 10], .fork [8, 11] (fun k => (bif Nat.beq k 8 then (PK.Sq.of [11, 12, 13, 14]) else (PK.Sq.of [12, 8, 13, 14]))), [8, 11, 13], [11, 13], [3, 5, 6, 10], 1⟩
  | 118, 6 => some ⟨[], PK.Sq.of [0, 1, 2, 3, 4, 5, 6, 7, 8, 9, 10], [9, 10], [10], [], 0⟩
  | 119, 10 => some ⟨[], PK.Sq.of [0, 1, 2, 3], [3], [3], [], 0⟩
  | 121, 1 => some ⟨[], PK.Sq.of [0, 1, 2, 3, 4, 5, 6, 7, 8, 9, 10, 11, 12, 13, 14, 15, 16, 17, 18], [], [], [8, 14], 0⟩
  | 123, 4 => some ⟨[], .cons 0 (.cons 1 (.fork [2, 3] (fun k => (bif Nat.beq k 2 then (PK.Sq.of [3, 4, 5, 6, 7]) else (PK.Sq.of [2, 4, 5, 6, 7]))))), [2, 3, 5], [], [], 2⟩
  | 124, 2 => some ⟨[], PK.Sq.of [0, 1, 2, 3, 4, 5, 6, 7, 8, 9, 10, 11], [10, 11], [11], [], 0⟩
  | 124, 3 => some ⟨[], PK.Sq.of [0, 1, 2, 3, 4, 5, 6, 7, 8, 9, 10, 11, 12, 13, 14], [], [], [], 0⟩
  | 124, 5 => some ⟨[], PK.Sq.of [0, 1, 2, 3, 4, 5, 6, 7, 8, 9, 10, 11, 12], [8, 12], [12], [], 0⟩
  | 127, 8 => some ⟨[], PK.Sq.of [0, 1, 2, 3, 4, 5, 6, 7, 8, 9, 10, 11], [10], [10], [], 0⟩
  | 127, 11 => some ⟨[], PK.Sq.of [0, 1, 2, 3, 4, 5, 6, 7, 8, 9, 10], [9], [9], [], 0⟩
  | 128, 5 => some ⟨[], PK.Sq.of [0, 1, 2, 3, 4, 5, 6, 7, 8, 9, 10], [10], [10], [], 0⟩
  | 131, 3 => some ⟨[], PK.Sq.of [0, 1, 2, 3, 4, 5, 6, 7, 8, 9], [9], [9], [], 0⟩
  | 133, 10 => some ⟨[], .cons 0 (.cons 1 (.cons 2 (.cons 3 (.cons 6 (.cons 8 (.cons 9 (.fork [4, 5] (fun k => (bif Nat.beq k 4 then (PK.Sq.of [5, 7, 10, 11]) else (.fork [4, 7] (fun k => (bif Nat.beq k 4 then (PK.Sq.of [7, 10, 11]) else (PK.Sq.of [4, 10, 11]))))))))))))), [5, 7, 11], [7, 11], [], 1⟩
  | 141, 3 => some ⟨[], .cons 0 (.cons 1 (.cons 2 (.cons 4 (.cons 5 (.cons 6 (.cons 8 (.cons 9 (.cons 10 (.cons 11 (.cons 12 (.cons 13 (.fork [3, 7, 14, 16] (fun k => (bif Nat.beq k 3 then (.fork [7, 14, 16] (fun k => (bif Nat.beq k 7 then (.fork [14, 16] (fun k => (bif Nat.beq k 14 then (PK.Sq.of [15, 16, 17]) else (PK.Sq.of [14, 15, 17])))) else (bif Nat.beq k 14 then (PK.Sq.of [7, 15, 16, 17]) else (.fork [7, 14] (fun k => (bif Nat.beq k 7 then (PK.Sq.of [14, 15, 17]) else (PK.Sq.of [7, 15, 17])))))))) else (bif Nat.beq k 7 then (.fork [3, 14, 16] (fun k => (bif Nat.beq k 3 then (.fork [14, 16] (fun k => (bif Nat.beq k 14 then (PK.Sq.of [15, 16, 17]) else (PK.Sq.of [14, 15, 17])))) else (bif Nat.beq k 14 then (PK.Sq.of [3, 15, 16, 17]) else (.fork [3, 14] (fun k => (bif Nat.beq k 3 then (PK.Sq.of [14, 15, 17]) else (PK.Sq.of [3, 15, 17])))))))) else (bif Nat.beq k 14 then (PK.Sq.of [3, 7, 15, 16, 17]) else (.fork [3, 7, 14] (fun k => (bif Nat.beq k 3 then (.fork [7, 14] (fun k => (bif Nat.beq k 7 then (PK.Sq.of [14, 15, 17]) else (PK.Sq.of [7, 15, 17])))) else (bif Nat.beq k 7 then (.fork [3, 14] (fun k => (bif Nat.beq k 3 then (PK.Sq.of [14, 15, 17]) else (PK.Sq.of [3, 15, 17])))) else (PK.Sq.of [3, 7, 15, 17]))))))))))))))))))))), [14, 16, 17], [14, 17], [], 107327⟩
  | 141, 7 => some ⟨[], PK.Sq.of [0, 1, 2, 3, 4, 5, 6, 7, 8, 9, 10, 11, 12, 13, 14, 15, 16, 17], [15, 16], [16], [], 0⟩
  | 156, 2 => some ⟨[], PK.Sq.of [0, 1, 2, 3, 4, 5, 6, 7, 9, 10, 8, 11, 12, 13, 14], [8], [], [], 0⟩
  | 156, 7 => some ⟨[], PK.Sq.of [0, 1, 2, 3, 4, 5, 6, 7, 8, 9, 10, 11, 12, 13, 14, 15, 16, 17, 18, 19, 20, 21, 22, 23, 24, 25, 26, 27, 28], [23, 24], [24], [], 0⟩
  | 159, 6 => some ⟨[], PK.Sq.of [0, 1, 2, 3, 4, 5, 6, 7, 8, 9, 10, 11, 12], [10, 11], [11], [], 0⟩
  | 160, 2 => some ⟨[], PK.Sq.of [0, 1, 2, 3, 4, 5, 6, 7, 8, 9, 10], [6, 7, 10], [7, 10], [], 0⟩
  | 160, 4 => some ⟨[], PK.Sq.of [0, 1, 2, 3, 4, 5, 6, 7, 8, 9, 11, 10, 12], [7, 8, 10, 12], [8, 10, 12], [], 0⟩
  | 164, 5 => some ⟨[], PK.Sq.of [0, 2, 3, 1, 4, 5, 6], [1, 4, 5], [], [], 0⟩
  | 191, 6 => some ⟨[], PK.Sq.of [0, 1, 2, 3, 4, 5, 6, 7], [6], [6], [], 0⟩
  | 192, 3 => some ⟨[], PK.Sq.of [0, 1, 2, 3, 4, 5, 6, 7, 8], [], [], [], 0⟩
  | 198, 12 => some ⟨[0, 1, 2, 3, 4, 5, 6, 7, 8], PK.Sq.of [9, 10, 11], [9, 11], [9, 11], [2, 3, 6, 7], 0⟩
  | 198, 13 => some ⟨[], PK.Sq.of [0, 1, 2, 3, 4, 5, 6, 7, 8, 9, 10], [8, 10], [8, 10], [3], 0⟩
  | 203, 8 => some ⟨[], PK.Sq.of [0, 1, 2, 3, 4, 5, 6], [6], [6], [], 0⟩
  | 204, 3 => some ⟨[], PK.Sq.of [0, 1, 2, 3, 4, 5, 6, 7, 8, 9, 10, 11, 12, 13, 14, 15, 16, 17, 18, 19, 20, 21, 22, 23], [], [], [], 0⟩
  | 205, 1 => some ⟨[], PK.Sq.of [0, 1, 2, 3, 4, 5, 6, 7, 8, 9, 10, 11, 12, 13, 14, 15, 16, 17, 18, 19, 20], [16, 17, 20], [17, 20], [], 0⟩
  | 207, 7 => some ⟨[0, 1, 2, 3, 5, 6], PK.Sq.of [4, 7, 8], [4, 7], [4, 7], [2, 3, 6], 0⟩
  | 216, 1 => some ⟨[], PK.Sq.of [0, 1, 2, 3, 4, 5, 6, 7, 8, 9, 10, 11, 12, 13, 14], [], [], [], 0⟩
  | 223, 5 => some ⟨[], PK.Sq.of [0, 1, 2, 3, 4], [4], [4], [], 0⟩
  | 229, 1 => some ⟨[], PK.Sq.of [0, 1, 2, 3, 4, 5, 6, 7, 8, 9, 10], [6, 7, 10], [10], [3], 0⟩
  | 238, 1 => some ⟨[], .cons 0 (.cons 1 (.cons 2 (.cons 3 (.cons 4 (.cons 5 (.cons 7 (.cons 8 (.cons 9 (.cons 11 (.cons 12 (.cons 14 (.cons 15 (.fork [6, 10] (fun k => (bif Nat.beq k 6 then (PK.Sq.of [10, 13, 16, 17, 18]) else (.fork [6, 13] (fun k => (bif Nat.beq k 6 then (PK.Sq.of [13, 16, 17, 18]) else (PK.Sq.of [6, 16, 17, 18]))))))))))))))))))), [6, 10, 13, 16, 17], [], [2, 5, 9], 9⟩
  | 254, 2 => some ⟨[], PK.Sq.of [0, 1, 2, 3, 4, 5, 6, 7, 8, 9, 10, 11, 12, 13, 14], [], [], [], 0⟩
  | 258, 7 => some ⟨[], PK.Sq.of [0, 1, 2, 3, 4, 5, 6, 7, 8], [7, 8], [8], [], 0⟩
  | 272, 1 => some ⟨[], PK.Sq.of [0, 1, 2, 3, 4, 5, 6, 7, 8, 9, 10, 11, 12, 13, 14], [11, 12], [12], [], 0⟩
  | 273, 3 => some ⟨[], PK.Sq.of [0, 1, 2, 3, 4, 5, 6, 7, 8, 9, 10], [], [], [], 0⟩
  | 273, 5 => some ⟨[], PK.Sq.of [0, 1, 2, 3, 4, 5, 6, 7, 8], [], [], [], 0⟩
  | 273, 11 => some ⟨[], PK.Sq.of [0, 1, 2, 3, 4, 5, 6, 7, 8, 9, 10, 11, 12], [11], [11], [], 0⟩
  | 273, 14 => some ⟨[], PK.Sq.of [0, 1, 2, 3, 4, 5, 6, 7], [6], [6], [], 0⟩
  | 284, 5 => some ⟨[], PK.Sq.of [0, 1, 2, 3, 4, 5, 6, 7, 8, 9], [9], [9], [], 0⟩
  | 287, 1 => some ⟨[], PK.Sq.of [0, 1, 2, 3, 4, 5, 6, 7, 8], [], [], [], 0⟩
  | 289, 1 => some ⟨[], PK.Sq.of [0, 1, 2, 3, 4, 5, 6, 7, 8, 9, 10], [], [], [], 0⟩
  | 300, 4 => some ⟨[], PK.Sq.of [0, 1, 2, 3, 4, 5, 6, 7, 8, 9], [6, 9], [6, 9], [], 0⟩
  | 329, 1 => some ⟨[], PK.Sq.of [0, 1, 2, 3, 4, 5, 6, 7, 8, 9, 10, 11, 12, 13, 14, 15], [13, 14], [14], [], 0⟩
  | 329, 4 => some ⟨[], PK.Sq.of [0, 1, 2, 3, 4, 5, 6, 7], [4, 5], [], [], 0⟩
  | 330, 3 => some ⟨[], PK.Sq.of [0, 1, 2, 3, 4, 5, 6], [6], [6], [], 0⟩
  | 350, 2 => some ⟨[], PK.Sq.of [0, 1, 2, 3, 4], [], [], [], 0⟩
  | 366, 2 => some ⟨[], PK.Sq.of [0, 1, 2, 3], [], [], [], 0⟩
  | 368, 1 => some ⟨[], PK.Sq.of [0, 1, 2, 3, 4, 5, 6, 7, 8], [], [], [], 0⟩
  | 401, 1 => some ⟨[], PK.Sq.of [0, 1, 2, 3, 4, 5, 6, 7], [], [], [6], 0⟩
  | 401, 3 => some ⟨[], PK.Sq.of [0, 1, 2, 3, 4, 5, 6, 7], [], [], [6], 0⟩
  | 403, 1 => some ⟨[], PK.Sq.of [0, 1, 2, 3, 4, 5, 6, 7, 8, 9], [], [], [], 0⟩
  | 404, 4 => some ⟨[], PK.Sq.of [0, 1, 2, 3, 4, 5, 6, 7, 8, 9, 10, 11], [11], [11], [], 0⟩
  | 450, 4 => some ⟨[], PK.Sq.of [0, 1, 2, 3, 4, 5, 6, 7, 8, 9, 10, 11, 12, 13, 14, 15, 16], [16], [16], [10], 0⟩
  | _, _ => none
noncomputable def hkS : Nat → Option Hk
  | 312 => some hkEnter
  | 206 => some hkSrcs
  | 296 => some hkDerive
  | 180 => some hkNextF
  | 236 => some hkTagP
  | 406 => some hkAdd
  | 197 => some hkConcat
  | 62 => some hkCount
  | 63 => some hkIndex
  | 85 => some hkJoin
  | 175 => some hkSmall
  | 64 => some hkPU
  | 108 => some hkPI
  | 84 => some hkWrite
  | 30 => some hkStr
  | 70 => some hkKeys
  | _ => none
theorem hkS_ok (f : Nat) (g : Hk) (hg : hkS f = some g) (hb h : Heap) (nx : Nat) (args : List AV) (v : AV) (h' : Heap) (nx' : Nat) (he : g hb h nx args = some (v, h', nx')) : FOk Tryz.prog f args h hb v h' := by
  unfold hkS at hg
  split at hg
  · cases hg; exact hkEnter_ok (by kernel_rfl) (fun r m1 m2 o c0 e g h1 h2 h3 => enter_none r m1 m2 o c0 e g h1 h2 h3) he
  · cases hg; exact hkSrcs_ok (by kernel_rfl) sources_c he
  · cases hg; exact hkDerive_ok (by kernel_rfl) derive_any he
  · cases hg; exact hkNextF_ok (by kernel_rfl) next_any he
  · cases hg; exact hkTagP_ok (by kernel_rfl) tag_any he
  · cases hg; exact hkAdd_ok (by kernel_rfl) cadd_any he
  · cases hg; exact hkConcat_ok (by kernel_rfl) concatB_any he
  · cases hg; exact hkCount_ok (by kernel_rfl) count_one he
  · cases hg; exact hkIndex_ok (by kernel_rfl) index_one he
  · cases hg; exact hkJoin_ok (by kernel_rfl) join_any he
  · cases hg; exact hkSmall_ok (by kernel_rfl) small_any he
  · cases hg; exact hkPU_ok (by kernel_rfl) pu_ok he
  · cases hg; exact hkPI_ok (by kernel_rfl) pi_ok he
  · cases hg; exact hkWrite_ok (by kernel_rfl) pwrite_any he
  · cases hg; exact hkStr_ok (by kernel_rfl) pstr_any he
  · cases hg; exact hkKeys_ok (by kernel_rfl) (fun k hk n h1 h2 => ekeys_ok k hk n ⟨by omega, by omega⟩) he
  · cases hg
noncomputable def mchS : Mch := ⟨Tryz.prog, anS, hkS, okF Tryz.prog⟩
theorem callS (d : Nat) : CallOk Tryz.prog (gF mchS stE d) := gcalls_okF mixed hkS_ok d
noncomputable def isTrue (o : Option (AV × Heap × Nat)) : Bool := match o with
  | some (.val (.bool true), _, _) => true
  | _ => false
theorem runs_true {f : Nat} {args : List AV} (hr : isTrue (gF mchS stE 200 .e .e 0 f args) = true) : ∃ h', FOk Tryz.prog f args .e .e (.val (.bool true)) h' := by
  cases ho : gF mchS stE 200 .e .e 0 f args with
  | none => rw [ho] at hr; cases hr
  | some q =>
    obtain ⟨v, h', n⟩ := q
    rw [ho] at hr
    unfold isTrue at hr
    split at hr
    · next heq => cases heq; exact ⟨_, callS 200 _ _ _ _ _ _ _ _ ho⟩
    · cases hr
/-- A call that the kernel finds true. -/
theorem spc_true {f : Nat} (vs : List Value) (hr : isTrue (gF mchS stE 200 .e .e 0 f (vs.map AV.val)) = true) : Spc Tryz.prog f vs.toArray [] [] (Is (.bool true)) := fun w hw => by
  obtain ⟨h', F⟩ := runs_true hr
  have hge : ∀ k, (Tr.e : Heap).get k = none := fun k => rfl
  have hm : Mem (fun _ => (0, 0)) (.e : Heap) w := ⟨(fun k c h => by rw [hge] at h; cases h), (fun k c h => by rw [hge] at h; cases h), (fun k c k' c' h => by rw [hge] at h; cases h)⟩
  have hv : (vs.map AV.val).map (AV.dec fun _ => (0, 0)) = vs := by
    rw [List.map_map]; exact List.map_id'' (fun v => by simp [AV.dec]) vs
  have hc := F.call (fun _ _ h => h) _ w hm (fun x hx => by obtain ⟨v, -, rfl⟩ := List.mem_map.1 hx; trivial)
  rw [hv] at hc
  refine hc.mono ?_
  rintro e w' ⟨u, rfl, ⟨θ', A⟩, -⟩
  have hd := A.d
  refine ⟨u, [], [], rfl, ⟨by rw [hd]; rfl, rfl, rfl⟩, A.k.none, ⟨(fun _ h => by cases h), (fun _ h => by cases h), List.nodup_nil, (fun _ h => by cases h)⟩, (fun _ h => by cases h), (fun _ h => by cases h)⟩
end Go.Proofs.YtpaemkemknfmfaaGreatDoor
