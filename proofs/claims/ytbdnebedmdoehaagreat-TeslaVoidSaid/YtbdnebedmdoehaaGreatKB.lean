import Derived.Test.YtbdnebedmdoehaaGreatKA
import Derived.Test.YtbdnebedmdoehaaGreatClone
namespace Go.Proofs.YtbdnebedmdoehaaGreat
open Go.PK
set_option linter.unusedSimpArgs false


theorem rget_1 (d br : Nat) (p : Option Addr) (c : Nat) (l : List B8) (hl : l.length = 24) (hc : l.length ≤ c) : Spc Tryz.prog 90 #[.pointer (some ⟨d, 0, none⟩), .pointer (some ⟨br, 0, none⟩)] [sls p 1 l.length (bytes l)] [rdr d p l.length c, cel br (Rdg.cells (rz 1)) 68]
    (fun _ I' H' => I' = [] ∧ ∃ x, H' = [x, cel br (Rdg.cells (getR 1 l)) 68]) := by
  have hl0 := Lies.refl (sls p 1 l.length (bytes l))
  refine Spc.enter Tryz.func90 rfl rfl rfl (fun w0 hw0 => ?_)
  refine CW.seq ?_
  refine CW.region (ef := []) (bk := []) ?_
  refine RL.move rfl rfl rfl rfl ?_
  refine RL.nilCheck rfl rfl rfl rfl ?_
  refine RL.fieldAddr fa_68_0 rfl rfl rfl rfl ?_
  refine RL.loadq Tryz.isAgg3 rfl rfl rfl rfl ?_
  refine RL.nil ?_
  refine NQ.seq ?_
  refine CW.block ?_
  refine CW.seq ?_
  refine CW.block ?_
  refine CW.seq ?_
  refine CW.block ?_
  refine CW.seq ?_
  refine CW.block ?_
  refine CW.seq ?_
  refine CW.block ?_
  refine CW.seq ?_
  refine CW.block ?_
  refine CW.seq ?_
  refine CW.block ?_
  refine CW.seq ?_
  refine CW.block ?_
  refine CW.seq ?_
  refine CW.block ?_
  refine CW.seq ?_
  refine CW.block ?_
  refine CW.seq ?_
  refine CW.block ?_
  refine CW.seq ?_
  refine CW.block ?_
  refine CW.seq ?_
  refine CW.block ?_
  refine CW.seq ?_
  refine CW.seq ?_
  refine CW.seq ?_
  refine CW.region (ef := []) (bk := []) ?_
  refine RL.bin rfl rfl rfl rfl rfl rfl ?_
  refine RL.assign rfl rfl rfl rfl ?_
  refine RL.nil ?_
  refine NQ.seq ?_
  refine CW.condT rfl (rfl) ?_
  refine CW.exit ?_
  refine XQ.seq ?_
  refine XQ.seq ?_
  refine XQ.hit ?_
  refine NQ.seq ?_
  refine CW.only (.cons (k := 0) rfl (.cons (k := 1) rfl .nil)) ?_
  refine CW.seq ?_
  refine CW.seq ?_
  refine CW.region (ef := [2, 5]) (bk := [2, 5]) ?_
  refine RL.move rfl rfl rfl rfl ?_
  refine RL.move rfl rfl rfl rfl ?_
  refine RL.call (rthree_any d p c l (by omega) hc) Tryz.call110 rfl rfl rfl rfl rfl (by repeat (first | exact Pick.nil | apply Pick.take | apply Pick.leave)) (Lend.sub hl0 (by repeat (first | exact List.Mem.head _ | apply List.Mem.tail)) .nil) (.inr rfl) ?_
  rintro _ _ _ ⟨rfl, rfl, q1, k1, rfl, hc1, hk1⟩
  rw [show 4 * 3 = 12 from rfl] at hc1 hk1 ⊢
  have hl1 := hl0.trans hk1
  refine RL.nilCheck rfl rfl rfl rfl ?_
  refine RL.fieldAddr fa_68_1 rfl rfl rfl rfl ?_
  refine RL.storeX (cs' := spl _ (0 + 1) [f32 l 0, f32 l 1, f32 l 2]) (vs := [f32 l 0, f32 l 1, f32 l 2]) rfl Tryz.sizeOf63 rfl rfl rfl rfl rfl rfl rfl rfl (by repeat (first | exact Upd.here | apply Upd.there)) (Nat.le_of_ble_eq_true rfl) ?_
  refine RL.nil ?_
  refine NQ.seq ?_
  refine CW.region (ef := [2, 5]) (bk := [2, 5]) ?_
  refine RL.move rfl rfl rfl rfl ?_
  refine RL.move rfl rfl rfl rfl ?_
  refine RL.call (rthree_any d q1 k1 (l.drop 12) (by rw [List.length_drop]; omega) hc1) Tryz.call110 rfl rfl rfl rfl rfl (by repeat (first | exact Pick.nil | apply Pick.take | apply Pick.leave)) (Lend.sub hl1 (by repeat (first | exact List.Mem.head _ | apply List.Mem.tail)) .nil) (.inr rfl) ?_
  rintro _ _ _ ⟨rfl, rfl, q2, k2, rfl, hc2, hk2⟩
  rw [List.drop_drop] at hc2 hk2 ⊢
  rw [show 4 * 3 = 12 from rfl] at hc2 hk2 ⊢
  rw [show 12 + 12 = 24 from rfl] at hc2 hk2 ⊢
  have hl2 := hl1.trans hk2
  refine RL.nilCheck rfl rfl rfl rfl ?_
  refine RL.fieldAddr fa_68_2 rfl rfl rfl rfl ?_
  refine RL.storeX (cs' := spl _ (0 + 4) [f32 (l.drop 12) 0, f32 (l.drop 12) 1, f32 (l.drop 12) 2]) (vs := [f32 (l.drop 12) 0, f32 (l.drop 12) 1, f32 (l.drop 12) 2]) rfl Tryz.sizeOf63 rfl rfl rfl rfl rfl rfl rfl rfl (by repeat (first | exact Upd.here | apply Upd.there)) (Nat.le_of_ble_eq_true rfl) ?_
  refine RL.nil ?_
  refine NQ.seq ?_
  refine CW.only (.cons (k := 0) rfl (.cons (k := 1) rfl .nil)) ?_
  refine CW.exit ?_
  refine XQ.miss rfl ?_
  refine XQ.seq ?_
  refine XQ.miss rfl ?_
  refine XQ.seq ?_
  refine XQ.miss rfl ?_
  refine XQ.seq ?_
  refine XQ.miss rfl ?_
  refine XQ.seq ?_
  refine XQ.miss rfl ?_
  refine XQ.seq ?_
  refine XQ.miss rfl ?_
  refine XQ.seq ?_
  refine XQ.miss rfl ?_
  refine XQ.seq ?_
  refine XQ.miss rfl ?_
  refine XQ.seq ?_
  refine XQ.miss rfl ?_
  refine XQ.seq ?_
  refine XQ.miss rfl ?_
  refine XQ.seq ?_
  refine XQ.miss rfl ?_
  refine XQ.seq ?_
  refine XQ.hit ?_
  refine NQ.post (res0 rfl) (.keep (.keep .nil)) ⟨rfl, _, congrArg (fun z => [_, cel br z _]) ?_⟩
  simp only [f32, f64, List.drop_drop, Nat.reduceMul, Nat.reduceAdd, u32_nat, u32_nat0, u16_nat, ofInt_nat8, ofNat_nat8]
  rfl
theorem rget_2 (d br : Nat) (p : Option Addr) (c : Nat) (l : List B8) (hl : l.length = 8) (hc : l.length ≤ c) : Spc Tryz.prog 90 #[.pointer (some ⟨d, 0, none⟩), .pointer (some ⟨br, 0, none⟩)] [sls p 1 l.length (bytes l)] [rdr d p l.length c, cel br (Rdg.cells (rz 2)) 68]
    (fun _ I' H' => I' = [] ∧ ∃ x, H' = [x, cel br (Rdg.cells (getR 2 l)) 68]) := by
  have hl0 := Lies.refl (sls p 1 l.length (bytes l))
  refine Spc.enter Tryz.func90 rfl rfl rfl (fun w0 hw0 => ?_)
  refine CW.seq ?_
  refine CW.region (ef := []) (bk := []) ?_
  refine RL.move rfl rfl rfl rfl ?_
  refine RL.nilCheck rfl rfl rfl rfl ?_
  refine RL.fieldAddr fa_68_0 rfl rfl rfl rfl ?_
  refine RL.loadq Tryz.isAgg3 rfl rfl rfl rfl ?_
  refine RL.nil ?_
  refine NQ.seq ?_
  refine CW.block ?_
  refine CW.seq ?_
  refine CW.block ?_
  refine CW.seq ?_
  refine CW.block ?_
  refine CW.seq ?_
  refine CW.block ?_
  refine CW.seq ?_
  refine CW.block ?_
  refine CW.seq ?_
  refine CW.block ?_
  refine CW.seq ?_
  refine CW.block ?_
  refine CW.seq ?_
  refine CW.block ?_
  refine CW.seq ?_
  refine CW.block ?_
  refine CW.seq ?_
  refine CW.block ?_
  refine CW.seq ?_
  refine CW.block ?_
  refine CW.seq ?_
  refine CW.block ?_
  refine CW.seq ?_
  refine CW.block ?_
  refine CW.seq ?_
  refine CW.seq ?_
  refine CW.seq ?_
  refine CW.region (ef := []) (bk := []) ?_
  refine RL.bin rfl rfl rfl rfl rfl rfl ?_
  refine RL.assign rfl rfl rfl rfl ?_
  refine RL.nil ?_
  refine NQ.seq ?_
  refine CW.condF rfl (rfl) ?_
  refine CW.skip ?_
  refine NQ.seq ?_
  refine CW.seq ?_
  refine CW.seq ?_
  refine CW.region (ef := []) (bk := []) ?_
  refine RL.bin rfl rfl rfl rfl rfl rfl ?_
  refine RL.assign rfl rfl rfl rfl ?_
  refine RL.nil ?_
  refine NQ.seq ?_
  refine CW.only (.cons (k := 0) rfl (.cons (k := 1) rfl (.cons (k := 7) rfl (.cons (k := 10) rfl .nil)))) ?_
  refine CW.condT rfl (rfl) ?_
  refine CW.exit ?_
  refine XQ.seq ?_
  refine XQ.seq ?_
  refine XQ.miss rfl ?_
  refine XQ.seq ?_
  refine XQ.hit ?_
  refine NQ.seq ?_
  refine CW.seq ?_
  refine CW.region (ef := [2, 5]) (bk := [2, 5]) ?_
  refine RL.move rfl rfl rfl rfl ?_
  refine RL.move rfl rfl rfl rfl ?_
  refine RL.call (rfix_any d p c l (by omega) hc) Tryz.call111 rfl rfl rfl rfl rfl (by repeat (first | exact Pick.nil | apply Pick.take | apply Pick.leave)) (Lend.sub hl0 (by repeat (first | exact List.Mem.head _ | apply List.Mem.tail)) .nil) (.inr rfl) ?_
  rintro _ _ _ ⟨rfl, rfl, q1, k1, rfl, hc1, hk1⟩
  have hl1 := hl0.trans hk1
  refine RL.nilCheck rfl rfl rfl rfl ?_
  refine RL.fieldAddr fa_68_3 rfl rfl rfl rfl ?_
  refine RL.store (vs := [_]) Tryz.sizeOf45 rfl rfl rfl rfl rfl rfl rfl rfl rfl (by repeat (first | exact Upd.here | apply Upd.there)) ?_
  refine RL.nil ?_
  refine NQ.seq ?_
  refine CW.only (.cons (k := 0) rfl (.cons (k := 1) rfl .nil)) ?_
  refine CW.exit ?_
  refine XQ.miss rfl ?_
  refine XQ.seq ?_
  refine XQ.miss rfl ?_
  refine XQ.seq ?_
  refine XQ.miss rfl ?_
  refine XQ.seq ?_
  refine XQ.miss rfl ?_
  refine XQ.seq ?_
  refine XQ.miss rfl ?_
  refine XQ.seq ?_
  refine XQ.miss rfl ?_
  refine XQ.seq ?_
  refine XQ.miss rfl ?_
  refine XQ.seq ?_
  refine XQ.miss rfl ?_
  refine XQ.seq ?_
  refine XQ.miss rfl ?_
  refine XQ.seq ?_
  refine XQ.miss rfl ?_
  refine XQ.seq ?_
  refine XQ.hit ?_
  refine NQ.post (res0 rfl) (.keep (.keep .nil)) ⟨rfl, _, congrArg (fun z => [_, cel br z _]) ?_⟩
  simp only [f32, f64, List.drop_drop, Nat.reduceMul, Nat.reduceAdd, u32_nat, u32_nat0, u16_nat, ofInt_nat8, ofNat_nat8]
  rfl
theorem rget_3 (d br : Nat) (p : Option Addr) (c : Nat) (l : List B8) (hl : l.length = 4) (hc : l.length ≤ c) : Spc Tryz.prog 90 #[.pointer (some ⟨d, 0, none⟩), .pointer (some ⟨br, 0, none⟩)] [sls p 1 l.length (bytes l)] [rdr d p l.length c, cel br (Rdg.cells (rz 3)) 68]
    (fun _ I' H' => I' = [] ∧ ∃ x, H' = [x, cel br (Rdg.cells (getR 3 l)) 68]) := by
  have hl0 := Lies.refl (sls p 1 l.length (bytes l))
  refine Spc.enter Tryz.func90 rfl rfl rfl (fun w0 hw0 => ?_)
  refine CW.seq ?_
  refine CW.region (ef := []) (bk := []) ?_
  refine RL.move rfl rfl rfl rfl ?_
  refine RL.nilCheck rfl rfl rfl rfl ?_
  refine RL.fieldAddr fa_68_0 rfl rfl rfl rfl ?_
  refine RL.loadq Tryz.isAgg3 rfl rfl rfl rfl ?_
  refine RL.nil ?_
  refine NQ.seq ?_
  refine CW.block ?_
  refine CW.seq ?_
  refine CW.block ?_
  refine CW.seq ?_
  refine CW.block ?_
  refine CW.seq ?_
  refine CW.block ?_
  refine CW.seq ?_
  refine CW.block ?_
  refine CW.seq ?_
  refine CW.block ?_
  refine CW.seq ?_
  refine CW.block ?_
  refine CW.seq ?_
  refine CW.block ?_
  refine CW.seq ?_
  refine CW.block ?_
  refine CW.seq ?_
  refine CW.block ?_
  refine CW.seq ?_
  refine CW.block ?_
  refine CW.seq ?_
  refine CW.block ?_
  refine CW.seq ?_
  refine CW.block ?_
  refine CW.seq ?_
  refine CW.seq ?_
  refine CW.seq ?_
  refine CW.region (ef := []) (bk := []) ?_
  refine RL.bin rfl rfl rfl rfl rfl rfl ?_
  refine RL.assign rfl rfl rfl rfl ?_
  refine RL.nil ?_
  refine NQ.seq ?_
  refine CW.condF rfl (rfl) ?_
  refine CW.skip ?_
  refine NQ.seq ?_
  refine CW.seq ?_
  refine CW.seq ?_
  refine CW.region (ef := []) (bk := []) ?_
  refine RL.bin rfl rfl rfl rfl rfl rfl ?_
  refine RL.assign rfl rfl rfl rfl ?_
  refine RL.nil ?_
  refine NQ.seq ?_
  refine CW.only (.cons (k := 0) rfl (.cons (k := 1) rfl (.cons (k := 7) rfl (.cons (k := 10) rfl .nil)))) ?_
  refine CW.condF rfl (rfl) ?_
  refine CW.skip ?_
  refine NQ.seq ?_
  refine CW.seq ?_
  refine CW.seq ?_
  refine CW.region (ef := []) (bk := []) ?_
  refine RL.bin rfl rfl rfl rfl rfl rfl ?_
  refine RL.assign rfl rfl rfl rfl ?_
  refine RL.nil ?_
  refine NQ.seq ?_
  refine CW.condT rfl (rfl) ?_
  refine CW.exit ?_
  refine XQ.seq ?_
  refine XQ.seq ?_
  refine XQ.miss rfl ?_
  refine XQ.seq ?_
  refine XQ.miss rfl ?_
  refine XQ.seq ?_
  refine XQ.hit ?_
  refine NQ.seq ?_
  refine CW.seq ?_
  refine CW.region (ef := [2, 6]) (bk := [2, 6]) ?_
  refine RL.move rfl rfl rfl rfl ?_
  refine RL.move rfl rfl rfl rfl ?_
  refine RL.call (rnum_any d p 4 c l (by omega) hc (by decide)) Tryz.call112 rfl rfl rfl rfl rfl (by repeat (first | exact Pick.nil | apply Pick.take | apply Pick.leave)) (Lend.sub hl0 (by repeat (first | exact List.Mem.head _ | apply List.Mem.tail)) .nil) (.inr rfl) ?_
  rintro _ _ _ ⟨rfl, rfl, q1, k1, rfl, hc1, hk1⟩
  have hl1 := hl0.trans hk1
  refine RL.conv Tryz.runUnderlying25 Tryz.runUnderlying24 rfl rfl rfl rfl ?_
  refine RL.nilCheck rfl rfl rfl rfl ?_
  refine RL.fieldAddr fa_68_4 rfl rfl rfl rfl ?_
  refine RL.store (vs := [_]) Tryz.sizeOf24 rfl rfl rfl rfl rfl rfl rfl rfl rfl (by repeat (first | exact Upd.here | apply Upd.there)) ?_
  refine RL.nil ?_
  refine NQ.seq ?_
  refine CW.only (.cons (k := 0) rfl (.cons (k := 1) rfl .nil)) ?_
  refine CW.exit ?_
  refine XQ.miss rfl ?_
  refine XQ.seq ?_
  refine XQ.miss rfl ?_
  refine XQ.seq ?_
  refine XQ.miss rfl ?_
  refine XQ.seq ?_
  refine XQ.miss rfl ?_
  refine XQ.seq ?_
  refine XQ.miss rfl ?_
  refine XQ.seq ?_
  refine XQ.miss rfl ?_
  refine XQ.seq ?_
  refine XQ.miss rfl ?_
  refine XQ.seq ?_
  refine XQ.miss rfl ?_
  refine XQ.seq ?_
  refine XQ.miss rfl ?_
  refine XQ.seq ?_
  refine XQ.hit ?_
  refine NQ.post (res0 rfl) (.keep (.keep .nil)) ⟨rfl, _, congrArg (fun z => [_, cel br z _]) ?_⟩
  simp only [f32, f64, List.drop_drop, Nat.reduceMul, Nat.reduceAdd, u32_nat, u32_nat0, u16_nat, ofInt_nat8, ofNat_nat8]
  rfl
theorem rget_4 (d br : Nat) (p : Option Addr) (c : Nat) (l : List B8) (hl : l.length = 8) (hc : l.length ≤ c) : Spc Tryz.prog 90 #[.pointer (some ⟨d, 0, none⟩), .pointer (some ⟨br, 0, none⟩)] [sls p 1 l.length (bytes l)] [rdr d p l.length c, cel br (Rdg.cells (rz 4)) 68]
    (fun _ I' H' => I' = [] ∧ ∃ x, H' = [x, cel br (Rdg.cells (getR 4 l)) 68]) := by
  have hl0 := Lies.refl (sls p 1 l.length (bytes l))
  refine Spc.enter Tryz.func90 rfl rfl rfl (fun w0 hw0 => ?_)
  refine CW.seq ?_
  refine CW.region (ef := []) (bk := []) ?_
  refine RL.move rfl rfl rfl rfl ?_
  refine RL.nilCheck rfl rfl rfl rfl ?_
  refine RL.fieldAddr fa_68_0 rfl rfl rfl rfl ?_
  refine RL.loadq Tryz.isAgg3 rfl rfl rfl rfl ?_
  refine RL.nil ?_
  refine NQ.seq ?_
  refine CW.block ?_
  refine CW.seq ?_
  refine CW.block ?_
  refine CW.seq ?_
  refine CW.block ?_
  refine CW.seq ?_
  refine CW.block ?_
  refine CW.seq ?_
  refine CW.block ?_
  refine CW.seq ?_
  refine CW.block ?_
  refine CW.seq ?_
  refine CW.block ?_
  refine CW.seq ?_
  refine CW.block ?_
  refine CW.seq ?_
  refine CW.block ?_
  refine CW.seq ?_
  refine CW.block ?_
  refine CW.seq ?_
  refine CW.block ?_
  refine CW.seq ?_
  refine CW.block ?_
  refine CW.seq ?_
  refine CW.block ?_
  refine CW.seq ?_
  refine CW.seq ?_
  refine CW.seq ?_
  refine CW.region (ef := []) (bk := []) ?_
  refine RL.bin rfl rfl rfl rfl rfl rfl ?_
  refine RL.assign rfl rfl rfl rfl ?_
  refine RL.nil ?_
  refine NQ.seq ?_
  refine CW.condF rfl (rfl) ?_
  refine CW.skip ?_
  refine NQ.seq ?_
  refine CW.seq ?_
  refine CW.seq ?_
  refine CW.region (ef := []) (bk := []) ?_
  refine RL.bin rfl rfl rfl rfl rfl rfl ?_
  refine RL.assign rfl rfl rfl rfl ?_
  refine RL.nil ?_
  refine NQ.seq ?_
  refine CW.only (.cons (k := 0) rfl (.cons (k := 1) rfl (.cons (k := 7) rfl (.cons (k := 10) rfl .nil)))) ?_
  refine CW.condF rfl (rfl) ?_
  refine CW.skip ?_
  refine NQ.seq ?_
  refine CW.seq ?_
  refine CW.seq ?_
  refine CW.region (ef := []) (bk := []) ?_
  refine RL.bin rfl rfl rfl rfl rfl rfl ?_
  refine RL.assign rfl rfl rfl rfl ?_
  refine RL.nil ?_
  refine NQ.seq ?_
  refine CW.condF rfl (rfl) ?_
  refine CW.skip ?_
  refine NQ.seq ?_
  refine CW.seq ?_
  refine CW.seq ?_
  refine CW.region (ef := []) (bk := []) ?_
  refine RL.bin rfl rfl rfl rfl rfl rfl ?_
  refine RL.assign rfl rfl rfl rfl ?_
  refine RL.nil ?_
  refine NQ.seq ?_
  refine CW.condT rfl (rfl) ?_
  refine CW.exit ?_
  refine XQ.seq ?_
  refine XQ.seq ?_
  refine XQ.miss rfl ?_
  refine XQ.seq ?_
  refine XQ.miss rfl ?_
  refine XQ.seq ?_
  refine XQ.miss rfl ?_
  refine XQ.seq ?_
  refine XQ.hit ?_
  refine NQ.seq ?_
  refine CW.only (.cons (k := 0) rfl (.cons (k := 1) rfl .nil)) ?_
  refine CW.seq ?_
  refine CW.seq ?_
  refine CW.region (ef := [2, 5]) (bk := [2, 5]) ?_
  refine RL.move rfl rfl rfl rfl ?_
  refine RL.move rfl rfl rfl rfl ?_
  refine RL.call (rshort_any d p c l (by omega) hc) Tryz.call113 rfl rfl rfl rfl rfl (by repeat (first | exact Pick.nil | apply Pick.take | apply Pick.leave)) (Lend.sub hl0 (by repeat (first | exact List.Mem.head _ | apply List.Mem.tail)) .nil) (.inr rfl) ?_
  rintro _ _ _ ⟨rfl, rfl, q1, k1, rfl, hc1, hk1⟩
  have hl1 := hl0.trans hk1
  refine RL.nilCheck rfl rfl rfl rfl ?_
  refine RL.fieldAddr fa_68_5 rfl rfl rfl rfl ?_
  refine RL.store (vs := [_]) Tryz.sizeOf62 rfl rfl rfl rfl rfl rfl rfl rfl rfl (by repeat (first | exact Upd.here | apply Upd.there)) ?_
  refine RL.nil ?_
  refine NQ.seq ?_
  refine CW.region (ef := [2, 6]) (bk := [2, 6]) ?_
  refine RL.move rfl rfl rfl rfl ?_
  refine RL.move rfl rfl rfl rfl ?_
  refine RL.call (rnum_any d q1 4 k1 (l.drop 4) (by rw [List.length_drop]; omega) hc1 (by decide)) Tryz.call112 rfl rfl rfl rfl rfl (by repeat (first | exact Pick.nil | apply Pick.take | apply Pick.leave)) (Lend.sub hl1 (by repeat (first | exact List.Mem.head _ | apply List.Mem.tail)) .nil) (.inr rfl) ?_
  rintro _ _ _ ⟨rfl, rfl, q2, k2, rfl, hc2, hk2⟩
  rw [List.drop_drop] at hc2 hk2 ⊢
  rw [show 4 + 4 = 8 from rfl] at hc2 hk2 ⊢
  have hl2 := hl1.trans hk2
  refine RL.conv Tryz.runUnderlying25 Tryz.runUnderlying24 rfl rfl rfl rfl ?_
  refine RL.nilCheck rfl rfl rfl rfl ?_
  refine RL.fieldAddr fa_68_6 rfl rfl rfl rfl ?_
  refine RL.store (vs := [_]) Tryz.sizeOf24 rfl rfl rfl rfl rfl rfl rfl rfl rfl (by repeat (first | exact Upd.here | apply Upd.there)) ?_
  refine RL.nil ?_
  refine NQ.seq ?_
  refine CW.only (.cons (k := 0) rfl (.cons (k := 1) rfl .nil)) ?_
  refine CW.exit ?_
  refine XQ.miss rfl ?_
  refine XQ.seq ?_
  refine XQ.miss rfl ?_
  refine XQ.seq ?_
  refine XQ.miss rfl ?_
  refine XQ.seq ?_
  refine XQ.miss rfl ?_
  refine XQ.seq ?_
  refine XQ.miss rfl ?_
  refine XQ.seq ?_
  refine XQ.miss rfl ?_
  refine XQ.seq ?_
  refine XQ.miss rfl ?_
  refine XQ.seq ?_
  refine XQ.miss rfl ?_
  refine XQ.seq ?_
  refine XQ.hit ?_
  refine NQ.post (res0 rfl) (.keep (.keep .nil)) ⟨rfl, _, congrArg (fun z => [_, cel br z _]) ?_⟩
  simp only [f32, f64, List.drop_drop, Nat.reduceMul, Nat.reduceAdd, u32_nat, u32_nat0, u16_nat, ofInt_nat8, ofNat_nat8]
  rfl
theorem rget_5 (d br : Nat) (p : Option Addr) (c : Nat) (l : List B8) (hl : l.length = 29) (hc : l.length ≤ c) : Spc Tryz.prog 90 #[.pointer (some ⟨d, 0, none⟩), .pointer (some ⟨br, 0, none⟩)] [sls p 1 l.length (bytes l)] [rdr d p l.length c, cel br (Rdg.cells (rz 5)) 68]
    (fun _ I' H' => I' = [] ∧ ∃ x, H' = [x, cel br (Rdg.cells (getR 5 l)) 68]) := by
  have hl0 := Lies.refl (sls p 1 l.length (bytes l))
  refine Spc.enter Tryz.func90 rfl rfl rfl (fun w0 hw0 => ?_)
  refine CW.seq ?_
  refine CW.region (ef := []) (bk := []) ?_
  refine RL.move rfl rfl rfl rfl ?_
  refine RL.nilCheck rfl rfl rfl rfl ?_
  refine RL.fieldAddr fa_68_0 rfl rfl rfl rfl ?_
  refine RL.loadq Tryz.isAgg3 rfl rfl rfl rfl ?_
  refine RL.nil ?_
  refine NQ.seq ?_
  refine CW.block ?_
  refine CW.seq ?_
  refine CW.block ?_
  refine CW.seq ?_
  refine CW.block ?_
  refine CW.seq ?_
  refine CW.block ?_
  refine CW.seq ?_
  refine CW.block ?_
  refine CW.seq ?_
  refine CW.block ?_
  refine CW.seq ?_
  refine CW.block ?_
  refine CW.seq ?_
  refine CW.block ?_
  refine CW.seq ?_
  refine CW.block ?_
  refine CW.seq ?_
  refine CW.block ?_
  refine CW.seq ?_
  refine CW.block ?_
  refine CW.seq ?_
  refine CW.block ?_
  refine CW.seq ?_
  refine CW.block ?_
  refine CW.seq ?_
  refine CW.seq ?_
  refine CW.seq ?_
  refine CW.region (ef := []) (bk := []) ?_
  refine RL.bin rfl rfl rfl rfl rfl rfl ?_
  refine RL.assign rfl rfl rfl rfl ?_
  refine RL.nil ?_
  refine NQ.seq ?_
  refine CW.condF rfl (rfl) ?_
  refine CW.skip ?_
  refine NQ.seq ?_
  refine CW.seq ?_
  refine CW.seq ?_
  refine CW.region (ef := []) (bk := []) ?_
  refine RL.bin rfl rfl rfl rfl rfl rfl ?_
  refine RL.assign rfl rfl rfl rfl ?_
  refine RL.nil ?_
  refine NQ.seq ?_
  refine CW.only (.cons (k := 0) rfl (.cons (k := 1) rfl (.cons (k := 7) rfl (.cons (k := 10) rfl .nil)))) ?_
  refine CW.condF rfl (rfl) ?_
  refine CW.skip ?_
  refine NQ.seq ?_
  refine CW.seq ?_
  refine CW.seq ?_
  refine CW.region (ef := []) (bk := []) ?_
  refine RL.bin rfl rfl rfl rfl rfl rfl ?_
  refine RL.assign rfl rfl rfl rfl ?_
  refine RL.nil ?_
  refine NQ.seq ?_
  refine CW.condF rfl (rfl) ?_
  refine CW.skip ?_
  refine NQ.seq ?_
  refine CW.seq ?_
  refine CW.seq ?_
  refine CW.region (ef := []) (bk := []) ?_
  refine RL.bin rfl rfl rfl rfl rfl rfl ?_
  refine RL.assign rfl rfl rfl rfl ?_
  refine RL.nil ?_
  refine NQ.seq ?_
  refine CW.condF rfl (rfl) ?_
  refine CW.skip ?_
  refine NQ.seq ?_
  refine CW.seq ?_
  refine CW.seq ?_
  refine CW.region (ef := []) (bk := []) ?_
  refine RL.bin rfl rfl rfl rfl rfl rfl ?_
  refine RL.assign rfl rfl rfl rfl ?_
  refine RL.nil ?_
  refine NQ.seq ?_
  refine CW.only (.cons (k := 0) rfl (.cons (k := 1) rfl (.cons (k := 7) rfl (.cons (k := 16) rfl .nil)))) ?_
  refine CW.condT rfl (rfl) ?_
  refine CW.exit ?_
  refine XQ.seq ?_
  refine XQ.seq ?_
  refine XQ.miss rfl ?_
  refine XQ.seq ?_
  refine XQ.miss rfl ?_
  refine XQ.seq ?_
  refine XQ.miss rfl ?_
  refine XQ.seq ?_
  refine XQ.miss rfl ?_
  refine XQ.seq ?_
  refine XQ.hit ?_
  refine NQ.seq ?_
  refine CW.seq ?_
  refine CW.seq ?_
  refine CW.region (ef := [2, 6]) (bk := [2, 6]) ?_
  refine RL.move rfl rfl rfl rfl ?_
  refine RL.move rfl rfl rfl rfl ?_
  refine RL.call (rnum_any d p 4 c l (by omega) hc (by decide)) Tryz.call112 rfl rfl rfl rfl rfl (by repeat (first | exact Pick.nil | apply Pick.take | apply Pick.leave)) (Lend.sub hl0 (by repeat (first | exact List.Mem.head _ | apply List.Mem.tail)) .nil) (.inr rfl) ?_
  rintro _ _ _ ⟨rfl, rfl, q1, k1, rfl, hc1, hk1⟩
  have hl1 := hl0.trans hk1
  refine RL.conv Tryz.runUnderlying25 Tryz.runUnderlying24 rfl rfl rfl rfl ?_
  refine RL.nilCheck rfl rfl rfl rfl ?_
  refine RL.fieldAddr fa_68_7 rfl rfl rfl rfl ?_
  refine RL.store (vs := [_]) Tryz.sizeOf24 rfl rfl rfl rfl rfl rfl rfl rfl rfl (by repeat (first | exact Upd.here | apply Upd.there)) ?_
  refine RL.nil ?_
  refine NQ.seq ?_
  refine CW.only (.cons (k := 0) rfl (.cons (k := 1) rfl .nil)) ?_
  refine CW.seq ?_
  refine CW.region (ef := [2, 6]) (bk := [2, 6]) ?_
  refine RL.move rfl rfl rfl rfl ?_
  refine RL.move rfl rfl rfl rfl ?_
  refine RL.call (rnum_any d q1 1 k1 (l.drop 4) (by rw [List.length_drop]; omega) hc1 (by decide)) Tryz.call112 rfl rfl rfl rfl rfl (by repeat (first | exact Pick.nil | apply Pick.take | apply Pick.leave)) (Lend.sub hl1 (by repeat (first | exact List.Mem.head _ | apply List.Mem.tail)) .nil) (.inr rfl) ?_
  rintro _ _ _ ⟨rfl, rfl, q2, k2, rfl, hc2, hk2⟩
  rw [List.drop_drop] at hc2 hk2 ⊢
  rw [show 4 + 1 = 5 from rfl] at hc2 hk2 ⊢
  have hl2 := hl1.trans hk2
  refine RL.lowest Tryz.runUnderlying25 Tryz.runUnderlying5 rfl rfl rfl rfl ?_
  refine RL.nilCheck rfl rfl rfl rfl ?_
  refine RL.fieldAddr fa_68_8 rfl rfl rfl rfl ?_
  refine RL.store (vs := [_]) Tryz.sizeOf5 rfl rfl rfl rfl rfl rfl rfl rfl rfl (by repeat (first | exact Upd.here | apply Upd.there)) ?_
  refine RL.nil ?_
  refine NQ.seq ?_
  refine CW.only (.cons (k := 0) rfl (.cons (k := 1) rfl .nil)) ?_
  refine CW.region (ef := [2, 5]) (bk := [2, 5]) ?_
  refine RL.move rfl rfl rfl rfl ?_
  refine RL.move rfl rfl rfl rfl ?_
  refine RL.call (rvec_any d q2 k2 (l.drop 5) (by rw [List.length_drop]; omega) hc2) Tryz.call114 rfl rfl rfl rfl rfl (by repeat (first | exact Pick.nil | apply Pick.take | apply Pick.leave)) (Lend.sub hl2 (by repeat (first | exact List.Mem.head _ | apply List.Mem.tail)) .nil) (.inr rfl) ?_
  rintro _ _ _ ⟨rfl, rfl, q3, k3, rfl, hc3, hk3⟩
  rw [List.drop_drop] at hc3 hk3 ⊢
  rw [show 8 * 3 = 24 from rfl] at hc3 hk3 ⊢
  rw [show 5 + 24 = 29 from rfl] at hc3 hk3 ⊢
  have hl3 := hl2.trans hk3
  refine RL.nilCheck rfl rfl rfl rfl ?_
  refine RL.fieldAddr fa_68_9 rfl rfl rfl rfl ?_
  refine RL.storeX (cs' := spl _ (0 + 13) [f64 (l.drop 5) 0, f64 (l.drop 5) 1, f64 (l.drop 5) 2]) (vs := [f64 (l.drop 5) 0, f64 (l.drop 5) 1, f64 (l.drop 5) 2]) rfl Tryz.sizeOf65 rfl rfl rfl rfl rfl rfl rfl rfl (by repeat (first | exact Upd.here | apply Upd.there)) (Nat.le_of_ble_eq_true rfl) ?_
  refine RL.nil ?_
  refine NQ.seq ?_
  refine CW.exit ?_
  refine XQ.miss rfl ?_
  refine XQ.seq ?_
  refine XQ.miss rfl ?_
  refine XQ.seq ?_
  refine XQ.miss rfl ?_
  refine XQ.seq ?_
  refine XQ.miss rfl ?_
  refine XQ.seq ?_
  refine XQ.miss rfl ?_
  refine XQ.seq ?_
  refine XQ.miss rfl ?_
  refine XQ.seq ?_
  refine XQ.miss rfl ?_
  refine XQ.seq ?_
  refine XQ.hit ?_
  refine NQ.post (res0 rfl) (.keep (.keep .nil)) ⟨rfl, _, congrArg (fun z => [_, cel br z _]) ?_⟩
  simp only [f32, f64, List.drop_drop, Nat.reduceMul, Nat.reduceAdd, u32_nat, u32_nat0, u16_nat, bat_nat l 4 (by omega), ofInt_nat8, ofNat_nat8]
  rfl
theorem rget_6 (d br : Nat) (p : Option Addr) (c : Nat) (l : List B8) (hl : l.length = 36) (hc : l.length ≤ c) : Spc Tryz.prog 90 #[.pointer (some ⟨d, 0, none⟩), .pointer (some ⟨br, 0, none⟩)] [sls p 1 l.length (bytes l)] [rdr d p l.length c, cel br (Rdg.cells (rz 6)) 68]
    (fun _ I' H' => I' = [] ∧ ∃ x, H' = [x, cel br (Rdg.cells (getR 6 l)) 68]) := by
  have hl0 := Lies.refl (sls p 1 l.length (bytes l))
  refine Spc.enter Tryz.func90 rfl rfl rfl (fun w0 hw0 => ?_)
  refine CW.seq ?_
  refine CW.region (ef := []) (bk := []) ?_
  refine RL.move rfl rfl rfl rfl ?_
  refine RL.nilCheck rfl rfl rfl rfl ?_
  refine RL.fieldAddr fa_68_0 rfl rfl rfl rfl ?_
  refine RL.loadq Tryz.isAgg3 rfl rfl rfl rfl ?_
  refine RL.nil ?_
  refine NQ.seq ?_
  refine CW.block ?_
  refine CW.seq ?_
  refine CW.block ?_
  refine CW.seq ?_
  refine CW.block ?_
  refine CW.seq ?_
  refine CW.block ?_
  refine CW.seq ?_
  refine CW.block ?_
  refine CW.seq ?_
  refine CW.block ?_
  refine CW.seq ?_
  refine CW.block ?_
  refine CW.seq ?_
  refine CW.block ?_
  refine CW.seq ?_
  refine CW.block ?_
  refine CW.seq ?_
  refine CW.block ?_
  refine CW.seq ?_
  refine CW.block ?_
  refine CW.seq ?_
  refine CW.block ?_
  refine CW.seq ?_
  refine CW.block ?_
  refine CW.seq ?_
  refine CW.seq ?_
  refine CW.seq ?_
  refine CW.region (ef := []) (bk := []) ?_
  refine RL.bin rfl rfl rfl rfl rfl rfl ?_
  refine RL.assign rfl rfl rfl rfl ?_
  refine RL.nil ?_
  refine NQ.seq ?_
  refine CW.condF rfl (rfl) ?_
  refine CW.skip ?_
  refine NQ.seq ?_
  refine CW.seq ?_
  refine CW.seq ?_
  refine CW.region (ef := []) (bk := []) ?_
  refine RL.bin rfl rfl rfl rfl rfl rfl ?_
  refine RL.assign rfl rfl rfl rfl ?_
  refine RL.nil ?_
  refine NQ.seq ?_
  refine CW.only (.cons (k := 0) rfl (.cons (k := 1) rfl (.cons (k := 7) rfl (.cons (k := 10) rfl .nil)))) ?_
  refine CW.condF rfl (rfl) ?_
  refine CW.skip ?_
  refine NQ.seq ?_
  refine CW.seq ?_
  refine CW.seq ?_
  refine CW.region (ef := []) (bk := []) ?_
  refine RL.bin rfl rfl rfl rfl rfl rfl ?_
  refine RL.assign rfl rfl rfl rfl ?_
  refine RL.nil ?_
  refine NQ.seq ?_
  refine CW.condF rfl (rfl) ?_
  refine CW.skip ?_
  refine NQ.seq ?_
  refine CW.seq ?_
  refine CW.seq ?_
  refine CW.region (ef := []) (bk := []) ?_
  refine RL.bin rfl rfl rfl rfl rfl rfl ?_
  refine RL.assign rfl rfl rfl rfl ?_
  refine RL.nil ?_
  refine NQ.seq ?_
  refine CW.condF rfl (rfl) ?_
  refine CW.skip ?_
  refine NQ.seq ?_
  refine CW.seq ?_
  refine CW.seq ?_
  refine CW.region (ef := []) (bk := []) ?_
  refine RL.bin rfl rfl rfl rfl rfl rfl ?_
  refine RL.assign rfl rfl rfl rfl ?_
  refine RL.nil ?_
  refine NQ.seq ?_
  refine CW.only (.cons (k := 0) rfl (.cons (k := 1) rfl (.cons (k := 7) rfl (.cons (k := 16) rfl .nil)))) ?_
  refine CW.condF rfl (rfl) ?_
  refine CW.skip ?_
  refine NQ.seq ?_
  refine CW.seq ?_
  refine CW.seq ?_
  refine CW.region (ef := []) (bk := []) ?_
  refine RL.bin rfl rfl rfl rfl rfl rfl ?_
  refine RL.assign rfl rfl rfl rfl ?_
  refine RL.nil ?_
  refine NQ.seq ?_
  refine CW.condT rfl (rfl) ?_
  refine CW.exit ?_
  refine XQ.seq ?_
  refine XQ.seq ?_
  refine XQ.miss rfl ?_
  refine XQ.seq ?_
  refine XQ.miss rfl ?_
  refine XQ.seq ?_
  refine XQ.miss rfl ?_
  refine XQ.seq ?_
  refine XQ.miss rfl ?_
  refine XQ.seq ?_
  refine XQ.miss rfl ?_
  refine XQ.seq ?_
  refine XQ.hit ?_
  refine NQ.seq ?_
  refine CW.seq ?_
  refine CW.seq ?_
  refine CW.region (ef := [2, 6]) (bk := [2, 6]) ?_
  refine RL.move rfl rfl rfl rfl ?_
  refine RL.move rfl rfl rfl rfl ?_
  refine RL.call (rnum_any d p 4 c l (by omega) hc (by decide)) Tryz.call112 rfl rfl rfl rfl rfl (by repeat (first | exact Pick.nil | apply Pick.take | apply Pick.leave)) (Lend.sub hl0 (by repeat (first | exact List.Mem.head _ | apply List.Mem.tail)) .nil) (.inr rfl) ?_
  rintro _ _ _ ⟨rfl, rfl, q1, k1, rfl, hc1, hk1⟩
  have hl1 := hl0.trans hk1
  refine RL.conv Tryz.runUnderlying25 Tryz.runUnderlying24 rfl rfl rfl rfl ?_
  refine RL.nilCheck rfl rfl rfl rfl ?_
  refine RL.fieldAddr fa_68_7 rfl rfl rfl rfl ?_
  refine RL.store (vs := [_]) Tryz.sizeOf24 rfl rfl rfl rfl rfl rfl rfl rfl rfl (by repeat (first | exact Upd.here | apply Upd.there)) ?_
  refine RL.nil ?_
  refine NQ.seq ?_
  refine CW.only (.cons (k := 0) rfl (.cons (k := 1) rfl .nil)) ?_
  refine CW.sub hl1 (by repeat (first | exact List.Mem.head _ | apply List.Mem.tail)) ?_
  refine CW.fact (p := q1 = none → (l.drop 4).length = 0) (fun w hC e => sls_nil (hC.s.i _ (List.Mem.head _)) e) (fun hpp => ?_)
  obtain ⟨q, rfl⟩ : ∃ a, q1 = some a := by
    cases q1 with
    | none => exact absurd (hpp rfl) (by rw [List.length_drop]; omega)
    | some a => exact ⟨a, rfl⟩
  refine CW.region (ef := [2, 7]) (bk := [2, 7]) ?_
  refine RL.move rfl rfl rfl rfl ?_
  refine RL.move rfl rfl rfl rfl ?_
  refine RL.callq (take_any d (some q) 32 (l.drop 4).length k1 (by rw [List.length_drop]; omega) hc1) Tryz.call115 rfl rfl rfl rfl rfl (.inr rfl) ?_
  rintro _ _ _ ⟨rfl, rfl, rfl⟩
  rw [if_neg (show ¬ k1 = 0 by rw [List.length_drop] at hc1; omega)]
  refine RL.toArr Tryz.runUnderlying23 rfl rfl rfl rfl (by first | decide | omega) ?_
  refine RL.loadN (vs := keyV (fun j => bat l (4 + j))) Tryz.isAgg23 Tryz.sizeOf23 rfl rfl rfl rfl ((Rds.sls (by repeat (first | exact List.Mem.head _ | apply List.Mem.tail))).part (pre32 (by omega))) ?_
  refine RL.nilCheck rfl rfl rfl rfl ?_
  refine RL.fieldAddr fa_68_10 rfl rfl rfl rfl ?_
  refine RL.storeX (cs' := spl _ (0 + 16) (keyV (fun j => bat l (4 + j)))) (vs := keyV (fun j => bat l (4 + j))) rfl Tryz.sizeOf23 rfl rfl rfl rfl rfl rfl rfl rfl (by repeat (first | exact Upd.here | apply Upd.there)) (Nat.le_of_ble_eq_true rfl) ?_
  refine RL.nil ?_
  refine NQ.seq ?_
  refine CW.only (.cons (k := 0) rfl (.cons (k := 1) rfl .nil)) ?_
  refine CW.exit ?_
  refine XQ.miss rfl ?_
  refine XQ.seq ?_
  refine XQ.miss rfl ?_
  refine XQ.seq ?_
  refine XQ.miss rfl ?_
  refine XQ.seq ?_
  refine XQ.miss rfl ?_
  refine XQ.seq ?_
  refine XQ.miss rfl ?_
  refine XQ.seq ?_
  refine XQ.miss rfl ?_
  refine XQ.seq ?_
  refine XQ.hit ?_
  refine NQ.post (res0 rfl) (.keep (.keep .nil)) ⟨rfl, _, congrArg (fun z => [_, cel br z _]) ?_⟩
  simp only [f32, f64, List.drop_drop, Nat.reduceMul, Nat.reduceAdd, u32_nat, u32_nat0, u16_nat, ofInt_nat8, ofNat_nat8]
  rfl
theorem rget_7 (d br : Nat) (p : Option Addr) (c : Nat) (l : List B8) (hl : l.length = 8) (hc : l.length ≤ c) : Spc Tryz.prog 90 #[.pointer (some ⟨d, 0, none⟩), .pointer (some ⟨br, 0, none⟩)] [sls p 1 l.length (bytes l)] [rdr d p l.length c, cel br (Rdg.cells (rz 7)) 68]
    (fun _ I' H' => I' = [] ∧ ∃ x, H' = [x, cel br (Rdg.cells (getR 7 l)) 68]) := by
  have hl0 := Lies.refl (sls p 1 l.length (bytes l))
  refine Spc.enter Tryz.func90 rfl rfl rfl (fun w0 hw0 => ?_)
  refine CW.seq ?_
  refine CW.region (ef := []) (bk := []) ?_
  refine RL.move rfl rfl rfl rfl ?_
  refine RL.nilCheck rfl rfl rfl rfl ?_
  refine RL.fieldAddr fa_68_0 rfl rfl rfl rfl ?_
  refine RL.loadq Tryz.isAgg3 rfl rfl rfl rfl ?_
  refine RL.nil ?_
  refine NQ.seq ?_
  refine CW.block ?_
  refine CW.seq ?_
  refine CW.block ?_
  refine CW.seq ?_
  refine CW.block ?_
  refine CW.seq ?_
  refine CW.block ?_
  refine CW.seq ?_
  refine CW.block ?_
  refine CW.seq ?_
  refine CW.block ?_
  refine CW.seq ?_
  refine CW.block ?_
  refine CW.seq ?_
  refine CW.block ?_
  refine CW.seq ?_
  refine CW.block ?_
  refine CW.seq ?_
  refine CW.block ?_
  refine CW.seq ?_
  refine CW.block ?_
  refine CW.seq ?_
  refine CW.block ?_
  refine CW.seq ?_
  refine CW.block ?_
  refine CW.seq ?_
  refine CW.seq ?_
  refine CW.seq ?_
  refine CW.region (ef := []) (bk := []) ?_
  refine RL.bin rfl rfl rfl rfl rfl rfl ?_
  refine RL.assign rfl rfl rfl rfl ?_
  refine RL.nil ?_
  refine NQ.seq ?_
  refine CW.condF rfl (rfl) ?_
  refine CW.skip ?_
  refine NQ.seq ?_
  refine CW.seq ?_
  refine CW.seq ?_
  refine CW.region (ef := []) (bk := []) ?_
  refine RL.bin rfl rfl rfl rfl rfl rfl ?_
  refine RL.assign rfl rfl rfl rfl ?_
  refine RL.nil ?_
  refine NQ.seq ?_
  refine CW.only (.cons (k := 0) rfl (.cons (k := 1) rfl (.cons (k := 7) rfl (.cons (k := 10) rfl .nil)))) ?_
  refine CW.condF rfl (rfl) ?_
  refine CW.skip ?_
  refine NQ.seq ?_
  refine CW.seq ?_
  refine CW.seq ?_
  refine CW.region (ef := []) (bk := []) ?_
  refine RL.bin rfl rfl rfl rfl rfl rfl ?_
  refine RL.assign rfl rfl rfl rfl ?_
  refine RL.nil ?_
  refine NQ.seq ?_
  refine CW.condF rfl (rfl) ?_
  refine CW.skip ?_
  refine NQ.seq ?_
  refine CW.seq ?_
  refine CW.seq ?_
  refine CW.region (ef := []) (bk := []) ?_
  refine RL.bin rfl rfl rfl rfl rfl rfl ?_
  refine RL.assign rfl rfl rfl rfl ?_
  refine RL.nil ?_
  refine NQ.seq ?_
  refine CW.condF rfl (rfl) ?_
  refine CW.skip ?_
  refine NQ.seq ?_
  refine CW.seq ?_
  refine CW.seq ?_
  refine CW.region (ef := []) (bk := []) ?_
  refine RL.bin rfl rfl rfl rfl rfl rfl ?_
  refine RL.assign rfl rfl rfl rfl ?_
  refine RL.nil ?_
  refine NQ.seq ?_
  refine CW.only (.cons (k := 0) rfl (.cons (k := 1) rfl (.cons (k := 7) rfl (.cons (k := 16) rfl .nil)))) ?_
  refine CW.condF rfl (rfl) ?_
  refine CW.skip ?_
  refine NQ.seq ?_
  refine CW.seq ?_
  refine CW.seq ?_
  refine CW.region (ef := []) (bk := []) ?_
  refine RL.bin rfl rfl rfl rfl rfl rfl ?_
  refine RL.assign rfl rfl rfl rfl ?_
  refine RL.nil ?_
  refine NQ.seq ?_
  refine CW.condF rfl (rfl) ?_
  refine CW.skip ?_
  refine NQ.seq ?_
  refine CW.seq ?_
  refine CW.seq ?_
  refine CW.region (ef := []) (bk := []) ?_
  refine RL.bin rfl rfl rfl rfl rfl rfl ?_
  refine RL.assign rfl rfl rfl rfl ?_
  refine RL.nil ?_
  refine NQ.seq ?_
  refine CW.condT rfl (rfl) ?_
  refine CW.exit ?_
  refine XQ.seq ?_
  refine XQ.seq ?_
  refine XQ.miss rfl ?_
  refine XQ.seq ?_
  refine XQ.miss rfl ?_
  refine XQ.seq ?_
  refine XQ.miss rfl ?_
  refine XQ.seq ?_
  refine XQ.miss rfl ?_
  refine XQ.seq ?_
  refine XQ.miss rfl ?_
  refine XQ.seq ?_
  refine XQ.miss rfl ?_
  refine XQ.seq ?_
  refine XQ.hit ?_
  refine NQ.seq ?_
  refine CW.only (.cons (k := 0) rfl (.cons (k := 1) rfl .nil)) ?_
  refine CW.seq ?_
  refine CW.region (ef := [2, 5]) (bk := [2, 5]) ?_
  refine RL.move rfl rfl rfl rfl ?_
  refine RL.move rfl rfl rfl rfl ?_
  refine RL.call (rnum_any d p 8 c l (by omega) hc (by decide)) Tryz.call112 rfl rfl rfl rfl rfl (by repeat (first | exact Pick.nil | apply Pick.take | apply Pick.leave)) (Lend.sub hl0 (by repeat (first | exact List.Mem.head _ | apply List.Mem.tail)) .nil) (.inr rfl) ?_
  rintro _ _ _ ⟨rfl, rfl, q1, k1, rfl, hc1, hk1⟩
  have hl1 := hl0.trans hk1
  refine RL.nilCheck rfl rfl rfl rfl ?_
  refine RL.fieldAddr fa_68_11 rfl rfl rfl rfl ?_
  refine RL.store (vs := [_]) Tryz.sizeOf25 rfl rfl rfl rfl rfl rfl rfl rfl rfl (by repeat (first | exact Upd.here | apply Upd.there)) ?_
  refine RL.nil ?_
  refine NQ.seq ?_
  refine CW.exit ?_
  refine XQ.miss rfl ?_
  refine XQ.seq ?_
  refine XQ.miss rfl ?_
  refine XQ.seq ?_
  refine XQ.miss rfl ?_
  refine XQ.seq ?_
  refine XQ.miss rfl ?_
  refine XQ.seq ?_
  refine XQ.miss rfl ?_
  refine XQ.seq ?_
  refine XQ.hit ?_
  refine NQ.post (res0 rfl) (.keep (.keep .nil)) ⟨rfl, _, congrArg (fun z => [_, cel br z _]) ?_⟩
  simp only [f32, f64, List.drop_drop, Nat.reduceMul, Nat.reduceAdd, u32_nat, u32_nat0, u16_nat, ofInt_nat8, ofNat_nat8]
  rfl
theorem rget_8 (d br : Nat) (p : Option Addr) (c : Nat) (l : List B8) (hl : l.length = 1) (hc : l.length ≤ c) : Spc Tryz.prog 90 #[.pointer (some ⟨d, 0, none⟩), .pointer (some ⟨br, 0, none⟩)] [sls p 1 l.length (bytes l)] [rdr d p l.length c, cel br (Rdg.cells (rz 8)) 68]
    (fun _ I' H' => I' = [] ∧ ∃ x, H' = [x, cel br (Rdg.cells (getR 8 l)) 68]) := by
  have hl0 := Lies.refl (sls p 1 l.length (bytes l))
  refine Spc.enter Tryz.func90 rfl rfl rfl (fun w0 hw0 => ?_)
  refine CW.seq ?_
  refine CW.region (ef := []) (bk := []) ?_
  refine RL.move rfl rfl rfl rfl ?_
  refine RL.nilCheck rfl rfl rfl rfl ?_
  refine RL.fieldAddr fa_68_0 rfl rfl rfl rfl ?_
  refine RL.loadq Tryz.isAgg3 rfl rfl rfl rfl ?_
  refine RL.nil ?_
  refine NQ.seq ?_
  refine CW.block ?_
  refine CW.seq ?_
  refine CW.block ?_
  refine CW.seq ?_
  refine CW.block ?_
  refine CW.seq ?_
  refine CW.block ?_
  refine CW.seq ?_
  refine CW.block ?_
  refine CW.seq ?_
  refine CW.block ?_
  refine CW.seq ?_
  refine CW.block ?_
  refine CW.seq ?_
  refine CW.block ?_
  refine CW.seq ?_
  refine CW.block ?_
  refine CW.seq ?_
  refine CW.block ?_
  refine CW.seq ?_
  refine CW.block ?_
  refine CW.seq ?_
  refine CW.block ?_
  refine CW.seq ?_
  refine CW.block ?_
  refine CW.seq ?_
  refine CW.seq ?_
  refine CW.seq ?_
  refine CW.region (ef := []) (bk := []) ?_
  refine RL.bin rfl rfl rfl rfl rfl rfl ?_
  refine RL.assign rfl rfl rfl rfl ?_
  refine RL.nil ?_
  refine NQ.seq ?_
  refine CW.condF rfl (rfl) ?_
  refine CW.skip ?_
  refine NQ.seq ?_
  refine CW.seq ?_
  refine CW.seq ?_
  refine CW.region (ef := []) (bk := []) ?_
  refine RL.bin rfl rfl rfl rfl rfl rfl ?_
  refine RL.assign rfl rfl rfl rfl ?_
  refine RL.nil ?_
  refine NQ.seq ?_
  refine CW.only (.cons (k := 0) rfl (.cons (k := 1) rfl (.cons (k := 7) rfl (.cons (k := 10) rfl .nil)))) ?_
  refine CW.condF rfl (rfl) ?_
  refine CW.skip ?_
  refine NQ.seq ?_
  refine CW.seq ?_
  refine CW.seq ?_
  refine CW.region (ef := []) (bk := []) ?_
  refine RL.bin rfl rfl rfl rfl rfl rfl ?_
  refine RL.assign rfl rfl rfl rfl ?_
  refine RL.nil ?_
  refine NQ.seq ?_
  refine CW.condF rfl (rfl) ?_
  refine CW.skip ?_
  refine NQ.seq ?_
  refine CW.seq ?_
  refine CW.seq ?_
  refine CW.region (ef := []) (bk := []) ?_
  refine RL.bin rfl rfl rfl rfl rfl rfl ?_
  refine RL.assign rfl rfl rfl rfl ?_
  refine RL.nil ?_
  refine NQ.seq ?_
  refine CW.condF rfl (rfl) ?_
  refine CW.skip ?_
  refine NQ.seq ?_
  refine CW.seq ?_
  refine CW.seq ?_
  refine CW.region (ef := []) (bk := []) ?_
  refine RL.bin rfl rfl rfl rfl rfl rfl ?_
  refine RL.assign rfl rfl rfl rfl ?_
  refine RL.nil ?_
  refine NQ.seq ?_
  refine CW.only (.cons (k := 0) rfl (.cons (k := 1) rfl (.cons (k := 7) rfl (.cons (k := 16) rfl .nil)))) ?_
  refine CW.condF rfl (rfl) ?_
  refine CW.skip ?_
  refine NQ.seq ?_
  refine CW.seq ?_
  refine CW.seq ?_
  refine CW.region (ef := []) (bk := []) ?_
  refine RL.bin rfl rfl rfl rfl rfl rfl ?_
  refine RL.assign rfl rfl rfl rfl ?_
  refine RL.nil ?_
  refine NQ.seq ?_
  refine CW.condF rfl (rfl) ?_
  refine CW.skip ?_
  refine NQ.seq ?_
  refine CW.seq ?_
  refine CW.seq ?_
  refine CW.region (ef := []) (bk := []) ?_
  refine RL.bin rfl rfl rfl rfl rfl rfl ?_
  refine RL.assign rfl rfl rfl rfl ?_
  refine RL.nil ?_
  refine NQ.seq ?_
  refine CW.condF rfl (rfl) ?_
  refine CW.skip ?_
  refine NQ.seq ?_
  refine CW.seq ?_
  refine CW.seq ?_
  refine CW.region (ef := []) (bk := []) ?_
  refine RL.bin rfl rfl rfl rfl rfl rfl ?_
  refine RL.assign rfl rfl rfl rfl ?_
  refine RL.nil ?_
  refine NQ.seq ?_
  refine CW.only (.cons (k := 0) rfl (.cons (k := 1) rfl (.cons (k := 7) rfl (.cons (k := 22) rfl .nil)))) ?_
  refine CW.condT rfl (rfl) ?_
  refine CW.exit ?_
  refine XQ.seq ?_
  refine XQ.seq ?_
  refine XQ.miss rfl ?_
  refine XQ.seq ?_
  refine XQ.miss rfl ?_
  refine XQ.seq ?_
  refine XQ.miss rfl ?_
  refine XQ.seq ?_
  refine XQ.miss rfl ?_
  refine XQ.seq ?_
  refine XQ.miss rfl ?_
  refine XQ.seq ?_
  refine XQ.miss rfl ?_
  refine XQ.seq ?_
  refine XQ.miss rfl ?_
  refine XQ.seq ?_
  refine XQ.hit ?_
  refine NQ.seq ?_
  refine CW.seq ?_
  refine CW.region (ef := [2, 6]) (bk := [2, 6]) ?_
  refine RL.move rfl rfl rfl rfl ?_
  refine RL.move rfl rfl rfl rfl ?_
  refine RL.call (rnum_any d p 1 c l (by omega) hc (by decide)) Tryz.call112 rfl rfl rfl rfl rfl (by repeat (first | exact Pick.nil | apply Pick.take | apply Pick.leave)) (Lend.sub hl0 (by repeat (first | exact List.Mem.head _ | apply List.Mem.tail)) .nil) (.inr rfl) ?_
  rintro _ _ _ ⟨rfl, rfl, q1, k1, rfl, hc1, hk1⟩
  have hl1 := hl0.trans hk1
  refine RL.lowest Tryz.runUnderlying25 Tryz.runUnderlying5 rfl rfl rfl rfl ?_
  refine RL.nilCheck rfl rfl rfl rfl ?_
  refine RL.fieldAddr fa_68_12 rfl rfl rfl rfl ?_
  refine RL.store (vs := [_]) Tryz.sizeOf5 rfl rfl rfl rfl rfl rfl rfl rfl rfl (by repeat (first | exact Upd.here | apply Upd.there)) ?_
  refine RL.nil ?_
  refine NQ.seq ?_
  refine CW.only (.cons (k := 0) rfl (.cons (k := 1) rfl .nil)) ?_
  refine CW.exit ?_
  refine XQ.miss rfl ?_
  refine XQ.seq ?_
  refine XQ.miss rfl ?_
  refine XQ.seq ?_
  refine XQ.miss rfl ?_
  refine XQ.seq ?_
  refine XQ.miss rfl ?_
  refine XQ.seq ?_
  refine XQ.hit ?_
  refine NQ.post (res0 rfl) (.keep (.keep .nil)) ⟨rfl, _, congrArg (fun z => [_, cel br z _]) ?_⟩
  simp only [f32, f64, List.drop_drop, Nat.reduceMul, Nat.reduceAdd, u32_nat, u32_nat0, u16_nat, bat_nat0 l (by omega), ofInt_nat8, ofNat_nat8]
  rfl
theorem rget_9 (d br : Nat) (p : Option Addr) (c : Nat) (l : List B8) (hl : l.length = 0) (hc : l.length ≤ c) : Spc Tryz.prog 90 #[.pointer (some ⟨d, 0, none⟩), .pointer (some ⟨br, 0, none⟩)] [sls p 1 l.length (bytes l)] [rdr d p l.length c, cel br (Rdg.cells (rz 9)) 68]
    (fun _ I' H' => I' = [] ∧ ∃ x, H' = [x, cel br (Rdg.cells (getR 9 l)) 68]) := by
  refine Spc.enter Tryz.func90 rfl rfl rfl (fun w0 hw0 => ?_)
  refine CW.seq ?_
  refine CW.region (ef := []) (bk := []) ?_
  refine RL.move rfl rfl rfl rfl ?_
  refine RL.nilCheck rfl rfl rfl rfl ?_
  refine RL.fieldAddr fa_68_0 rfl rfl rfl rfl ?_
  refine RL.loadq Tryz.isAgg3 rfl rfl rfl rfl ?_
  refine RL.nil ?_
  refine NQ.seq ?_
  refine CW.block ?_
  refine CW.seq ?_
  refine CW.block ?_
  refine CW.seq ?_
  refine CW.block ?_
  refine CW.seq ?_
  refine CW.block ?_
  refine CW.seq ?_
  refine CW.block ?_
  refine CW.seq ?_
  refine CW.block ?_
  refine CW.seq ?_
  refine CW.block ?_
  refine CW.seq ?_
  refine CW.block ?_
  refine CW.seq ?_
  refine CW.block ?_
  refine CW.seq ?_
  refine CW.block ?_
  refine CW.seq ?_
  refine CW.block ?_
  refine CW.seq ?_
  refine CW.block ?_
  refine CW.seq ?_
  refine CW.block ?_
  refine CW.seq ?_
  refine CW.seq ?_
  refine CW.seq ?_
  refine CW.region (ef := []) (bk := []) ?_
  refine RL.bin rfl rfl rfl rfl rfl rfl ?_
  refine RL.assign rfl rfl rfl rfl ?_
  refine RL.nil ?_
  refine NQ.seq ?_
  refine CW.condF rfl (rfl) ?_
  refine CW.skip ?_
  refine NQ.seq ?_
  refine CW.seq ?_
  refine CW.seq ?_
  refine CW.region (ef := []) (bk := []) ?_
  refine RL.bin rfl rfl rfl rfl rfl rfl ?_
  refine RL.assign rfl rfl rfl rfl ?_
  refine RL.nil ?_
  refine NQ.seq ?_
  refine CW.only (.cons (k := 0) rfl (.cons (k := 1) rfl (.cons (k := 7) rfl (.cons (k := 10) rfl .nil)))) ?_
  refine CW.condF rfl (rfl) ?_
  refine CW.skip ?_
  refine NQ.seq ?_
  refine CW.seq ?_
  refine CW.seq ?_
  refine CW.region (ef := []) (bk := []) ?_
  refine RL.bin rfl rfl rfl rfl rfl rfl ?_
  refine RL.assign rfl rfl rfl rfl ?_
  refine RL.nil ?_
  refine NQ.seq ?_
  refine CW.condF rfl (rfl) ?_
  refine CW.skip ?_
  refine NQ.seq ?_
  refine CW.seq ?_
  refine CW.seq ?_
  refine CW.region (ef := []) (bk := []) ?_
  refine RL.bin rfl rfl rfl rfl rfl rfl ?_
  refine RL.assign rfl rfl rfl rfl ?_
  refine RL.nil ?_
  refine NQ.seq ?_
  refine CW.condF rfl (rfl) ?_
  refine CW.skip ?_
  refine NQ.seq ?_
  refine CW.seq ?_
  refine CW.seq ?_
  refine CW.region (ef := []) (bk := []) ?_
  refine RL.bin rfl rfl rfl rfl rfl rfl ?_
  refine RL.assign rfl rfl rfl rfl ?_
  refine RL.nil ?_
  refine NQ.seq ?_
  refine CW.only (.cons (k := 0) rfl (.cons (k := 1) rfl (.cons (k := 7) rfl (.cons (k := 16) rfl .nil)))) ?_
  refine CW.condF rfl (rfl) ?_
  refine CW.skip ?_
  refine NQ.seq ?_
  refine CW.seq ?_
  refine CW.seq ?_
  refine CW.region (ef := []) (bk := []) ?_
  refine RL.bin rfl rfl rfl rfl rfl rfl ?_
  refine RL.assign rfl rfl rfl rfl ?_
  refine RL.nil ?_
  refine NQ.seq ?_
  refine CW.condF rfl (rfl) ?_
  refine CW.skip ?_
  refine NQ.seq ?_
  refine CW.seq ?_
  refine CW.seq ?_
  refine CW.region (ef := []) (bk := []) ?_
  refine RL.bin rfl rfl rfl rfl rfl rfl ?_
  refine RL.assign rfl rfl rfl rfl ?_
  refine RL.nil ?_
  refine NQ.seq ?_
  refine CW.condF rfl (rfl) ?_
  refine CW.skip ?_
  refine NQ.seq ?_
  refine CW.seq ?_
  refine CW.seq ?_
  refine CW.region (ef := []) (bk := []) ?_
  refine RL.bin rfl rfl rfl rfl rfl rfl ?_
  refine RL.assign rfl rfl rfl rfl ?_
  refine RL.nil ?_
  refine NQ.seq ?_
  refine CW.only (.cons (k := 0) rfl (.cons (k := 1) rfl (.cons (k := 7) rfl (.cons (k := 22) rfl .nil)))) ?_
  refine CW.condF rfl (rfl) ?_
  refine CW.skip ?_
  refine NQ.seq ?_
  refine CW.seq ?_
  refine CW.seq ?_
  refine CW.region (ef := []) (bk := []) ?_
  refine RL.bin rfl rfl rfl rfl rfl rfl ?_
  refine RL.assign rfl rfl rfl rfl ?_
  refine RL.nil ?_
  refine NQ.seq ?_
  refine CW.condF rfl (rfl) ?_
  refine CW.skip ?_
  refine NQ.seq ?_
  refine CW.seq ?_
  refine CW.seq ?_
  refine CW.region (ef := []) (bk := []) ?_
  refine RL.bin rfl rfl rfl rfl rfl rfl ?_
  refine RL.assign rfl rfl rfl rfl ?_
  refine RL.nil ?_
  refine NQ.seq ?_
  refine CW.condF rfl (rfl) ?_
  refine CW.skip ?_
  refine NQ.seq ?_
  refine CW.seq ?_
  refine CW.seq ?_
  refine CW.region (ef := []) (bk := []) ?_
  refine RL.bin rfl rfl rfl rfl rfl rfl ?_
  refine RL.assign rfl rfl rfl rfl ?_
  refine RL.nil ?_
  refine NQ.seq ?_
  refine CW.only (.cons (k := 0) rfl (.cons (k := 1) rfl (.cons (k := 7) rfl (.cons (k := 28) rfl .nil)))) ?_
  refine CW.condF rfl (rfl) ?_
  refine CW.skip ?_
  refine NQ.seq ?_
  refine CW.seq ?_
  refine CW.region (ef := []) (bk := []) ?_
  refine RL.bin rfl rfl rfl rfl rfl rfl ?_
  refine RL.assign rfl rfl rfl rfl ?_
  refine RL.nil ?_
  refine NQ.seq ?_
  refine CW.condF rfl (rfl) ?_
  refine CW.skip ?_
  refine NQ.seq ?_
  refine CW.exit ?_
  refine XQ.miss rfl ?_
  refine XQ.seq ?_
  refine XQ.miss rfl ?_
  refine XQ.seq ?_
  refine XQ.miss rfl ?_
  refine XQ.seq ?_
  refine XQ.miss rfl ?_
  refine XQ.seq ?_
  refine XQ.miss rfl ?_
  refine XQ.seq ?_
  refine XQ.miss rfl ?_
  refine XQ.seq ?_
  refine XQ.miss rfl ?_
  refine XQ.seq ?_
  refine XQ.miss rfl ?_
  refine XQ.seq ?_
  refine XQ.miss rfl ?_
  refine XQ.seq ?_
  refine XQ.miss rfl ?_
  refine XQ.seq ?_
  refine XQ.miss rfl ?_
  refine XQ.seq ?_
  refine XQ.miss rfl ?_
  refine XQ.seq ?_
  refine XQ.hit ?_
  exact NQ.post (res0 rfl) (.keep (.keep .nil)) ⟨rfl, _, rfl⟩
theorem rget_10 (d br : Nat) (p : Option Addr) (c : Nat) (l : List B8) (hl : l.length = 4) (hc : l.length ≤ c) : Spc Tryz.prog 90 #[.pointer (some ⟨d, 0, none⟩), .pointer (some ⟨br, 0, none⟩)] [sls p 1 l.length (bytes l)] [rdr d p l.length c, cel br (Rdg.cells (rz 10)) 68]
    (fun _ I' H' => I' = [] ∧ ∃ x, H' = [x, cel br (Rdg.cells (getR 10 l)) 68]) := by
  have hl0 := Lies.refl (sls p 1 l.length (bytes l))
  refine Spc.enter Tryz.func90 rfl rfl rfl (fun w0 hw0 => ?_)
  refine CW.seq ?_
  refine CW.region (ef := []) (bk := []) ?_
  refine RL.move rfl rfl rfl rfl ?_
  refine RL.nilCheck rfl rfl rfl rfl ?_
  refine RL.fieldAddr fa_68_0 rfl rfl rfl rfl ?_
  refine RL.loadq Tryz.isAgg3 rfl rfl rfl rfl ?_
  refine RL.nil ?_
  refine NQ.seq ?_
  refine CW.block ?_
  refine CW.seq ?_
  refine CW.block ?_
  refine CW.seq ?_
  refine CW.block ?_
  refine CW.seq ?_
  refine CW.block ?_
  refine CW.seq ?_
  refine CW.block ?_
  refine CW.seq ?_
  refine CW.block ?_
  refine CW.seq ?_
  refine CW.block ?_
  refine CW.seq ?_
  refine CW.block ?_
  refine CW.seq ?_
  refine CW.block ?_
  refine CW.seq ?_
  refine CW.block ?_
  refine CW.seq ?_
  refine CW.block ?_
  refine CW.seq ?_
  refine CW.block ?_
  refine CW.seq ?_
  refine CW.block ?_
  refine CW.seq ?_
  refine CW.seq ?_
  refine CW.seq ?_
  refine CW.region (ef := []) (bk := []) ?_
  refine RL.bin rfl rfl rfl rfl rfl rfl ?_
  refine RL.assign rfl rfl rfl rfl ?_
  refine RL.nil ?_
  refine NQ.seq ?_
  refine CW.condF rfl (rfl) ?_
  refine CW.skip ?_
  refine NQ.seq ?_
  refine CW.seq ?_
  refine CW.seq ?_
  refine CW.region (ef := []) (bk := []) ?_
  refine RL.bin rfl rfl rfl rfl rfl rfl ?_
  refine RL.assign rfl rfl rfl rfl ?_
  refine RL.nil ?_
  refine NQ.seq ?_
  refine CW.only (.cons (k := 0) rfl (.cons (k := 1) rfl (.cons (k := 7) rfl (.cons (k := 10) rfl .nil)))) ?_
  refine CW.condF rfl (rfl) ?_
  refine CW.skip ?_
  refine NQ.seq ?_
  refine CW.seq ?_
  refine CW.seq ?_
  refine CW.region (ef := []) (bk := []) ?_
  refine RL.bin rfl rfl rfl rfl rfl rfl ?_
  refine RL.assign rfl rfl rfl rfl ?_
  refine RL.nil ?_
  refine NQ.seq ?_
  refine CW.condF rfl (rfl) ?_
  refine CW.skip ?_
  refine NQ.seq ?_
  refine CW.seq ?_
  refine CW.seq ?_
  refine CW.region (ef := []) (bk := []) ?_
  refine RL.bin rfl rfl rfl rfl rfl rfl ?_
  refine RL.assign rfl rfl rfl rfl ?_
  refine RL.nil ?_
  refine NQ.seq ?_
  refine CW.condF rfl (rfl) ?_
  refine CW.skip ?_
  refine NQ.seq ?_
  refine CW.seq ?_
  refine CW.seq ?_
  refine CW.region (ef := []) (bk := []) ?_
  refine RL.bin rfl rfl rfl rfl rfl rfl ?_
  refine RL.assign rfl rfl rfl rfl ?_
  refine RL.nil ?_
  refine NQ.seq ?_
  refine CW.only (.cons (k := 0) rfl (.cons (k := 1) rfl (.cons (k := 7) rfl (.cons (k := 16) rfl .nil)))) ?_
  refine CW.condF rfl (rfl) ?_
  refine CW.skip ?_
  refine NQ.seq ?_
  refine CW.seq ?_
  refine CW.seq ?_
  refine CW.region (ef := []) (bk := []) ?_
  refine RL.bin rfl rfl rfl rfl rfl rfl ?_
  refine RL.assign rfl rfl rfl rfl ?_
  refine RL.nil ?_
  refine NQ.seq ?_
  refine CW.condF rfl (rfl) ?_
  refine CW.skip ?_
  refine NQ.seq ?_
  refine CW.seq ?_
  refine CW.seq ?_
  refine CW.region (ef := []) (bk := []) ?_
  refine RL.bin rfl rfl rfl rfl rfl rfl ?_
  refine RL.assign rfl rfl rfl rfl ?_
  refine RL.nil ?_
  refine NQ.seq ?_
  refine CW.condF rfl (rfl) ?_
  refine CW.skip ?_
  refine NQ.seq ?_
  refine CW.seq ?_
  refine CW.seq ?_
  refine CW.region (ef := []) (bk := []) ?_
  refine RL.bin rfl rfl rfl rfl rfl rfl ?_
  refine RL.assign rfl rfl rfl rfl ?_
  refine RL.nil ?_
  refine NQ.seq ?_
  refine CW.only (.cons (k := 0) rfl (.cons (k := 1) rfl (.cons (k := 7) rfl (.cons (k := 22) rfl .nil)))) ?_
  refine CW.condF rfl (rfl) ?_
  refine CW.skip ?_
  refine NQ.seq ?_
  refine CW.seq ?_
  refine CW.seq ?_
  refine CW.region (ef := []) (bk := []) ?_
  refine RL.bin rfl rfl rfl rfl rfl rfl ?_
  refine RL.assign rfl rfl rfl rfl ?_
  refine RL.nil ?_
  refine NQ.seq ?_
  refine CW.condF rfl (rfl) ?_
  refine CW.skip ?_
  refine NQ.seq ?_
  refine CW.seq ?_
  refine CW.seq ?_
  refine CW.region (ef := []) (bk := []) ?_
  refine RL.bin rfl rfl rfl rfl rfl rfl ?_
  refine RL.assign rfl rfl rfl rfl ?_
  refine RL.nil ?_
  refine NQ.seq ?_
  refine CW.condF rfl (rfl) ?_
  refine CW.skip ?_
  refine NQ.seq ?_
  refine CW.seq ?_
  refine CW.seq ?_
  refine CW.region (ef := []) (bk := []) ?_
  refine RL.bin rfl rfl rfl rfl rfl rfl ?_
  refine RL.assign rfl rfl rfl rfl ?_
  refine RL.nil ?_
  refine NQ.seq ?_
  refine CW.only (.cons (k := 0) rfl (.cons (k := 1) rfl (.cons (k := 7) rfl (.cons (k := 28) rfl .nil)))) ?_
  refine CW.condF rfl (rfl) ?_
  refine CW.skip ?_
  refine NQ.seq ?_
  refine CW.seq ?_
  refine CW.region (ef := []) (bk := []) ?_
  refine RL.bin rfl rfl rfl rfl rfl rfl ?_
  refine RL.assign rfl rfl rfl rfl ?_
  refine RL.nil ?_
  refine NQ.seq ?_
  refine CW.condT rfl (rfl) ?_
  refine CW.exit ?_
  refine XQ.seq ?_
  refine XQ.miss rfl ?_
  refine XQ.seq ?_
  refine XQ.miss rfl ?_
  refine XQ.seq ?_
  refine XQ.miss rfl ?_
  refine XQ.seq ?_
  refine XQ.miss rfl ?_
  refine XQ.seq ?_
  refine XQ.miss rfl ?_
  refine XQ.seq ?_
  refine XQ.miss rfl ?_
  refine XQ.seq ?_
  refine XQ.miss rfl ?_
  refine XQ.seq ?_
  refine XQ.miss rfl ?_
  refine XQ.seq ?_
  refine XQ.miss rfl ?_
  refine XQ.seq ?_
  refine XQ.miss rfl ?_
  refine XQ.seq ?_
  refine XQ.miss rfl ?_
  refine XQ.seq ?_
  refine XQ.hit ?_
  refine NQ.seq ?_
  refine CW.seq ?_
  refine CW.region (ef := [2, 6]) (bk := [2, 6]) ?_
  refine RL.move rfl rfl rfl rfl ?_
  refine RL.move rfl rfl rfl rfl ?_
  refine RL.call (rnum_any d p 4 c l (by omega) hc (by decide)) Tryz.call112 rfl rfl rfl rfl rfl (by repeat (first | exact Pick.nil | apply Pick.take | apply Pick.leave)) (Lend.sub hl0 (by repeat (first | exact List.Mem.head _ | apply List.Mem.tail)) .nil) (.inr rfl) ?_
  rintro _ _ _ ⟨rfl, rfl, q1, k1, rfl, hc1, hk1⟩
  have hl1 := hl0.trans hk1
  refine RL.conv Tryz.runUnderlying25 Tryz.runUnderlying24 rfl rfl rfl rfl ?_
  refine RL.nilCheck rfl rfl rfl rfl ?_
  refine RL.fieldAddr fa_68_13 rfl rfl rfl rfl ?_
  refine RL.store (vs := [_]) Tryz.sizeOf24 rfl rfl rfl rfl rfl rfl rfl rfl rfl (by repeat (first | exact Upd.here | apply Upd.there)) ?_
  refine RL.nil ?_
  refine NQ.seq ?_
  refine CW.only .nil ?_
  refine CW.exit ?_
  refine XQ.hit ?_
  refine NQ.post (res0 rfl) (.keep (.keep .nil)) ⟨rfl, _, congrArg (fun z => [_, cel br z _]) ?_⟩
  simp only [f32, f64, List.drop_drop, Nat.reduceMul, Nat.reduceAdd, u32_nat, u32_nat0, u16_nat, ofInt_nat8, ofNat_nat8]
  rfl
theorem rget_11 (d br : Nat) (p : Option Addr) (c : Nat) (l : List B8) (hl : l.length = 0) (hc : l.length ≤ c) : Spc Tryz.prog 90 #[.pointer (some ⟨d, 0, none⟩), .pointer (some ⟨br, 0, none⟩)] [sls p 1 l.length (bytes l)] [rdr d p l.length c, cel br (Rdg.cells (rz 11)) 68]
    (fun _ I' H' => I' = [] ∧ ∃ x, H' = [x, cel br (Rdg.cells (getR 11 l)) 68]) := by
  refine Spc.enter Tryz.func90 rfl rfl rfl (fun w0 hw0 => ?_)
  refine CW.seq ?_
  refine CW.region (ef := []) (bk := []) ?_
  refine RL.move rfl rfl rfl rfl ?_
  refine RL.nilCheck rfl rfl rfl rfl ?_
  refine RL.fieldAddr fa_68_0 rfl rfl rfl rfl ?_
  refine RL.loadq Tryz.isAgg3 rfl rfl rfl rfl ?_
  refine RL.nil ?_
  refine NQ.seq ?_
  refine CW.block ?_
  refine CW.seq ?_
  refine CW.block ?_
  refine CW.seq ?_
  refine CW.block ?_
  refine CW.seq ?_
  refine CW.block ?_
  refine CW.seq ?_
  refine CW.block ?_
  refine CW.seq ?_
  refine CW.block ?_
  refine CW.seq ?_
  refine CW.block ?_
  refine CW.seq ?_
  refine CW.block ?_
  refine CW.seq ?_
  refine CW.block ?_
  refine CW.seq ?_
  refine CW.block ?_
  refine CW.seq ?_
  refine CW.block ?_
  refine CW.seq ?_
  refine CW.block ?_
  refine CW.seq ?_
  refine CW.block ?_
  refine CW.seq ?_
  refine CW.seq ?_
  refine CW.seq ?_
  refine CW.region (ef := []) (bk := []) ?_
  refine RL.bin rfl rfl rfl rfl rfl rfl ?_
  refine RL.assign rfl rfl rfl rfl ?_
  refine RL.nil ?_
  refine NQ.seq ?_
  refine CW.condF rfl (rfl) ?_
  refine CW.skip ?_
  refine NQ.seq ?_
  refine CW.seq ?_
  refine CW.seq ?_
  refine CW.region (ef := []) (bk := []) ?_
  refine RL.bin rfl rfl rfl rfl rfl rfl ?_
  refine RL.assign rfl rfl rfl rfl ?_
  refine RL.nil ?_
  refine NQ.seq ?_
  refine CW.only (.cons (k := 0) rfl (.cons (k := 1) rfl (.cons (k := 7) rfl (.cons (k := 10) rfl .nil)))) ?_
  refine CW.condF rfl (rfl) ?_
  refine CW.skip ?_
  refine NQ.seq ?_
  refine CW.seq ?_
  refine CW.seq ?_
  refine CW.region (ef := []) (bk := []) ?_
  refine RL.bin rfl rfl rfl rfl rfl rfl ?_
  refine RL.assign rfl rfl rfl rfl ?_
  refine RL.nil ?_
  refine NQ.seq ?_
  refine CW.condF rfl (rfl) ?_
  refine CW.skip ?_
  refine NQ.seq ?_
  refine CW.seq ?_
  refine CW.seq ?_
  refine CW.region (ef := []) (bk := []) ?_
  refine RL.bin rfl rfl rfl rfl rfl rfl ?_
  refine RL.assign rfl rfl rfl rfl ?_
  refine RL.nil ?_
  refine NQ.seq ?_
  refine CW.condF rfl (rfl) ?_
  refine CW.skip ?_
  refine NQ.seq ?_
  refine CW.seq ?_
  refine CW.seq ?_
  refine CW.region (ef := []) (bk := []) ?_
  refine RL.bin rfl rfl rfl rfl rfl rfl ?_
  refine RL.assign rfl rfl rfl rfl ?_
  refine RL.nil ?_
  refine NQ.seq ?_
  refine CW.only (.cons (k := 0) rfl (.cons (k := 1) rfl (.cons (k := 7) rfl (.cons (k := 16) rfl .nil)))) ?_
  refine CW.condF rfl (rfl) ?_
  refine CW.skip ?_
  refine NQ.seq ?_
  refine CW.seq ?_
  refine CW.seq ?_
  refine CW.region (ef := []) (bk := []) ?_
  refine RL.bin rfl rfl rfl rfl rfl rfl ?_
  refine RL.assign rfl rfl rfl rfl ?_
  refine RL.nil ?_
  refine NQ.seq ?_
  refine CW.condF rfl (rfl) ?_
  refine CW.skip ?_
  refine NQ.seq ?_
  refine CW.seq ?_
  refine CW.seq ?_
  refine CW.region (ef := []) (bk := []) ?_
  refine RL.bin rfl rfl rfl rfl rfl rfl ?_
  refine RL.assign rfl rfl rfl rfl ?_
  refine RL.nil ?_
  refine NQ.seq ?_
  refine CW.condF rfl (rfl) ?_
  refine CW.skip ?_
  refine NQ.seq ?_
  refine CW.seq ?_
  refine CW.seq ?_
  refine CW.region (ef := []) (bk := []) ?_
  refine RL.bin rfl rfl rfl rfl rfl rfl ?_
  refine RL.assign rfl rfl rfl rfl ?_
  refine RL.nil ?_
  refine NQ.seq ?_
  refine CW.only (.cons (k := 0) rfl (.cons (k := 1) rfl (.cons (k := 7) rfl (.cons (k := 22) rfl .nil)))) ?_
  refine CW.condF rfl (rfl) ?_
  refine CW.skip ?_
  refine NQ.seq ?_
  refine CW.seq ?_
  refine CW.seq ?_
  refine CW.region (ef := []) (bk := []) ?_
  refine RL.bin rfl rfl rfl rfl rfl rfl ?_
  refine RL.assign rfl rfl rfl rfl ?_
  refine RL.nil ?_
  refine NQ.seq ?_
  refine CW.condF rfl (rfl) ?_
  refine CW.skip ?_
  refine NQ.seq ?_
  refine CW.seq ?_
  refine CW.seq ?_
  refine CW.region (ef := []) (bk := []) ?_
  refine RL.bin rfl rfl rfl rfl rfl rfl ?_
  refine RL.assign rfl rfl rfl rfl ?_
  refine RL.nil ?_
  refine NQ.seq ?_
  refine CW.condF rfl (rfl) ?_
  refine CW.skip ?_
  refine NQ.seq ?_
  refine CW.seq ?_
  refine CW.seq ?_
  refine CW.region (ef := []) (bk := []) ?_
  refine RL.bin rfl rfl rfl rfl rfl rfl ?_
  refine RL.assign rfl rfl rfl rfl ?_
  refine RL.nil ?_
  refine NQ.seq ?_
  refine CW.only (.cons (k := 0) rfl (.cons (k := 1) rfl (.cons (k := 7) rfl (.cons (k := 28) rfl .nil)))) ?_
  refine CW.condF rfl (rfl) ?_
  refine CW.skip ?_
  refine NQ.seq ?_
  refine CW.seq ?_
  refine CW.region (ef := []) (bk := []) ?_
  refine RL.bin rfl rfl rfl rfl rfl rfl ?_
  refine RL.assign rfl rfl rfl rfl ?_
  refine RL.nil ?_
  refine NQ.seq ?_
  refine CW.condF rfl (rfl) ?_
  refine CW.skip ?_
  refine NQ.seq ?_
  refine CW.exit ?_
  refine XQ.miss rfl ?_
  refine XQ.seq ?_
  refine XQ.miss rfl ?_
  refine XQ.seq ?_
  refine XQ.miss rfl ?_
  refine XQ.seq ?_
  refine XQ.miss rfl ?_
  refine XQ.seq ?_
  refine XQ.miss rfl ?_
  refine XQ.seq ?_
  refine XQ.miss rfl ?_
  refine XQ.seq ?_
  refine XQ.miss rfl ?_
  refine XQ.seq ?_
  refine XQ.miss rfl ?_
  refine XQ.seq ?_
  refine XQ.miss rfl ?_
  refine XQ.seq ?_
  refine XQ.miss rfl ?_
  refine XQ.seq ?_
  refine XQ.miss rfl ?_
  refine XQ.seq ?_
  refine XQ.miss rfl ?_
  refine XQ.seq ?_
  refine XQ.hit ?_
  exact NQ.post (res0 rfl) (.keep (.keep .nil)) ⟨rfl, _, rfl⟩
theorem rget_12 (d br : Nat) (p : Option Addr) (c : Nat) (l : List B8) (hl : l.length = 1) (hc : l.length ≤ c) : Spc Tryz.prog 90 #[.pointer (some ⟨d, 0, none⟩), .pointer (some ⟨br, 0, none⟩)] [sls p 1 l.length (bytes l)] [rdr d p l.length c, cel br (Rdg.cells (rz 12)) 68]
    (fun _ I' H' => I' = [] ∧ ∃ x, H' = [x, cel br (Rdg.cells (getR 12 l)) 68]) := by
  have hl0 := Lies.refl (sls p 1 l.length (bytes l))
  refine Spc.enter Tryz.func90 rfl rfl rfl (fun w0 hw0 => ?_)
  refine CW.seq ?_
  refine CW.region (ef := []) (bk := []) ?_
  refine RL.move rfl rfl rfl rfl ?_
  refine RL.nilCheck rfl rfl rfl rfl ?_
  refine RL.fieldAddr fa_68_0 rfl rfl rfl rfl ?_
  refine RL.loadq Tryz.isAgg3 rfl rfl rfl rfl ?_
  refine RL.nil ?_
  refine NQ.seq ?_
  refine CW.block ?_
  refine CW.seq ?_
  refine CW.block ?_
  refine CW.seq ?_
  refine CW.block ?_
  refine CW.seq ?_
  refine CW.block ?_
  refine CW.seq ?_
  refine CW.block ?_
  refine CW.seq ?_
  refine CW.block ?_
  refine CW.seq ?_
  refine CW.block ?_
  refine CW.seq ?_
  refine CW.block ?_
  refine CW.seq ?_
  refine CW.block ?_
  refine CW.seq ?_
  refine CW.block ?_
  refine CW.seq ?_
  refine CW.block ?_
  refine CW.seq ?_
  refine CW.block ?_
  refine CW.seq ?_
  refine CW.block ?_
  refine CW.seq ?_
  refine CW.seq ?_
  refine CW.seq ?_
  refine CW.region (ef := []) (bk := []) ?_
  refine RL.bin rfl rfl rfl rfl rfl rfl ?_
  refine RL.assign rfl rfl rfl rfl ?_
  refine RL.nil ?_
  refine NQ.seq ?_
  refine CW.condF rfl (rfl) ?_
  refine CW.skip ?_
  refine NQ.seq ?_
  refine CW.seq ?_
  refine CW.seq ?_
  refine CW.region (ef := []) (bk := []) ?_
  refine RL.bin rfl rfl rfl rfl rfl rfl ?_
  refine RL.assign rfl rfl rfl rfl ?_
  refine RL.nil ?_
  refine NQ.seq ?_
  refine CW.only (.cons (k := 0) rfl (.cons (k := 1) rfl (.cons (k := 7) rfl (.cons (k := 10) rfl .nil)))) ?_
  refine CW.condF rfl (rfl) ?_
  refine CW.skip ?_
  refine NQ.seq ?_
  refine CW.seq ?_
  refine CW.seq ?_
  refine CW.region (ef := []) (bk := []) ?_
  refine RL.bin rfl rfl rfl rfl rfl rfl ?_
  refine RL.assign rfl rfl rfl rfl ?_
  refine RL.nil ?_
  refine NQ.seq ?_
  refine CW.condF rfl (rfl) ?_
  refine CW.skip ?_
  refine NQ.seq ?_
  refine CW.seq ?_
  refine CW.seq ?_
  refine CW.region (ef := []) (bk := []) ?_
  refine RL.bin rfl rfl rfl rfl rfl rfl ?_
  refine RL.assign rfl rfl rfl rfl ?_
  refine RL.nil ?_
  refine NQ.seq ?_
  refine CW.condF rfl (rfl) ?_
  refine CW.skip ?_
  refine NQ.seq ?_
  refine CW.seq ?_
  refine CW.seq ?_
  refine CW.region (ef := []) (bk := []) ?_
  refine RL.bin rfl rfl rfl rfl rfl rfl ?_
  refine RL.assign rfl rfl rfl rfl ?_
  refine RL.nil ?_
  refine NQ.seq ?_
  refine CW.only (.cons (k := 0) rfl (.cons (k := 1) rfl (.cons (k := 7) rfl (.cons (k := 16) rfl .nil)))) ?_
  refine CW.condF rfl (rfl) ?_
  refine CW.skip ?_
  refine NQ.seq ?_
  refine CW.seq ?_
  refine CW.seq ?_
  refine CW.region (ef := []) (bk := []) ?_
  refine RL.bin rfl rfl rfl rfl rfl rfl ?_
  refine RL.assign rfl rfl rfl rfl ?_
  refine RL.nil ?_
  refine NQ.seq ?_
  refine CW.condF rfl (rfl) ?_
  refine CW.skip ?_
  refine NQ.seq ?_
  refine CW.seq ?_
  refine CW.seq ?_
  refine CW.region (ef := []) (bk := []) ?_
  refine RL.bin rfl rfl rfl rfl rfl rfl ?_
  refine RL.assign rfl rfl rfl rfl ?_
  refine RL.nil ?_
  refine NQ.seq ?_
  refine CW.condF rfl (rfl) ?_
  refine CW.skip ?_
  refine NQ.seq ?_
  refine CW.seq ?_
  refine CW.seq ?_
  refine CW.region (ef := []) (bk := []) ?_
  refine RL.bin rfl rfl rfl rfl rfl rfl ?_
  refine RL.assign rfl rfl rfl rfl ?_
  refine RL.nil ?_
  refine NQ.seq ?_
  refine CW.only (.cons (k := 0) rfl (.cons (k := 1) rfl (.cons (k := 7) rfl (.cons (k := 22) rfl .nil)))) ?_
  refine CW.condF rfl (rfl) ?_
  refine CW.skip ?_
  refine NQ.seq ?_
  refine CW.seq ?_
  refine CW.seq ?_
  refine CW.region (ef := []) (bk := []) ?_
  refine RL.bin rfl rfl rfl rfl rfl rfl ?_
  refine RL.assign rfl rfl rfl rfl ?_
  refine RL.nil ?_
  refine NQ.seq ?_
  refine CW.condT rfl (rfl) ?_
  refine CW.exit ?_
  refine XQ.seq ?_
  refine XQ.seq ?_
  refine XQ.miss rfl ?_
  refine XQ.seq ?_
  refine XQ.miss rfl ?_
  refine XQ.seq ?_
  refine XQ.miss rfl ?_
  refine XQ.seq ?_
  refine XQ.miss rfl ?_
  refine XQ.seq ?_
  refine XQ.miss rfl ?_
  refine XQ.seq ?_
  refine XQ.miss rfl ?_
  refine XQ.seq ?_
  refine XQ.miss rfl ?_
  refine XQ.seq ?_
  refine XQ.miss rfl ?_
  refine XQ.seq ?_
  refine XQ.hit ?_
  refine NQ.seq ?_
  refine CW.seq ?_
  refine CW.region (ef := [2, 6]) (bk := [2, 6]) ?_
  refine RL.move rfl rfl rfl rfl ?_
  refine RL.move rfl rfl rfl rfl ?_
  refine RL.call (rnum_any d p 1 c l (by omega) hc (by decide)) Tryz.call112 rfl rfl rfl rfl rfl (by repeat (first | exact Pick.nil | apply Pick.take | apply Pick.leave)) (Lend.sub hl0 (by repeat (first | exact List.Mem.head _ | apply List.Mem.tail)) .nil) (.inr rfl) ?_
  rintro _ _ _ ⟨rfl, rfl, q1, k1, rfl, hc1, hk1⟩
  have hl1 := hl0.trans hk1
  refine RL.lowest Tryz.runUnderlying25 Tryz.runUnderlying5 rfl rfl rfl rfl ?_
  refine RL.nilCheck rfl rfl rfl rfl ?_
  refine RL.fieldAddr fa_68_16 rfl rfl rfl rfl ?_
  refine RL.store (vs := [_]) Tryz.sizeOf5 rfl rfl rfl rfl rfl rfl rfl rfl rfl (by repeat (first | exact Upd.here | apply Upd.there)) ?_
  refine RL.nil ?_
  refine NQ.seq ?_
  refine CW.only (.cons (k := 0) rfl (.cons (k := 1) rfl .nil)) ?_
  refine CW.exit ?_
  refine XQ.miss rfl ?_
  refine XQ.seq ?_
  refine XQ.miss rfl ?_
  refine XQ.seq ?_
  refine XQ.miss rfl ?_
  refine XQ.seq ?_
  refine XQ.hit ?_
  refine NQ.post (res0 rfl) (.keep (.keep .nil)) ⟨rfl, _, congrArg (fun z => [_, cel br z _]) ?_⟩
  simp only [f32, f64, List.drop_drop, Nat.reduceMul, Nat.reduceAdd, u32_nat, u32_nat0, u16_nat, bat_nat0 l (by omega), ofInt_nat8, ofNat_nat8]
  rfl
theorem rget_13 (d br : Nat) (p : Option Addr) (c : Nat) (l : List B8) (hl : l.length = 37) (hc : l.length ≤ c) : Spc Tryz.prog 90 #[.pointer (some ⟨d, 0, none⟩), .pointer (some ⟨br, 0, none⟩)] [sls p 1 l.length (bytes l)] [rdr d p l.length c, cel br (Rdg.cells (rz 13)) 68]
    (fun _ I' H' => I' = [] ∧ ∃ x, H' = [x, cel br (Rdg.cells (getR 13 l)) 68]) := by
  have hl0 := Lies.refl (sls p 1 l.length (bytes l))
  refine Spc.enter Tryz.func90 rfl rfl rfl (fun w0 hw0 => ?_)
  refine CW.seq ?_
  refine CW.region (ef := []) (bk := []) ?_
  refine RL.move rfl rfl rfl rfl ?_
  refine RL.nilCheck rfl rfl rfl rfl ?_
  refine RL.fieldAddr fa_68_0 rfl rfl rfl rfl ?_
  refine RL.loadq Tryz.isAgg3 rfl rfl rfl rfl ?_
  refine RL.nil ?_
  refine NQ.seq ?_
  refine CW.block ?_
  refine CW.seq ?_
  refine CW.block ?_
  refine CW.seq ?_
  refine CW.block ?_
  refine CW.seq ?_
  refine CW.block ?_
  refine CW.seq ?_
  refine CW.block ?_
  refine CW.seq ?_
  refine CW.block ?_
  refine CW.seq ?_
  refine CW.block ?_
  refine CW.seq ?_
  refine CW.block ?_
  refine CW.seq ?_
  refine CW.block ?_
  refine CW.seq ?_
  refine CW.block ?_
  refine CW.seq ?_
  refine CW.block ?_
  refine CW.seq ?_
  refine CW.block ?_
  refine CW.seq ?_
  refine CW.block ?_
  refine CW.seq ?_
  refine CW.seq ?_
  refine CW.seq ?_
  refine CW.region (ef := []) (bk := []) ?_
  refine RL.bin rfl rfl rfl rfl rfl rfl ?_
  refine RL.assign rfl rfl rfl rfl ?_
  refine RL.nil ?_
  refine NQ.seq ?_
  refine CW.condF rfl (rfl) ?_
  refine CW.skip ?_
  refine NQ.seq ?_
  refine CW.seq ?_
  refine CW.seq ?_
  refine CW.region (ef := []) (bk := []) ?_
  refine RL.bin rfl rfl rfl rfl rfl rfl ?_
  refine RL.assign rfl rfl rfl rfl ?_
  refine RL.nil ?_
  refine NQ.seq ?_
  refine CW.only (.cons (k := 0) rfl (.cons (k := 1) rfl (.cons (k := 7) rfl (.cons (k := 10) rfl .nil)))) ?_
  refine CW.condF rfl (rfl) ?_
  refine CW.skip ?_
  refine NQ.seq ?_
  refine CW.seq ?_
  refine CW.seq ?_
  refine CW.region (ef := []) (bk := []) ?_
  refine RL.bin rfl rfl rfl rfl rfl rfl ?_
  refine RL.assign rfl rfl rfl rfl ?_
  refine RL.nil ?_
  refine NQ.seq ?_
  refine CW.condF rfl (rfl) ?_
  refine CW.skip ?_
  refine NQ.seq ?_
  refine CW.seq ?_
  refine CW.seq ?_
  refine CW.region (ef := []) (bk := []) ?_
  refine RL.bin rfl rfl rfl rfl rfl rfl ?_
  refine RL.assign rfl rfl rfl rfl ?_
  refine RL.nil ?_
  refine NQ.seq ?_
  refine CW.condF rfl (rfl) ?_
  refine CW.skip ?_
  refine NQ.seq ?_
  refine CW.seq ?_
  refine CW.seq ?_
  refine CW.region (ef := []) (bk := []) ?_
  refine RL.bin rfl rfl rfl rfl rfl rfl ?_
  refine RL.assign rfl rfl rfl rfl ?_
  refine RL.nil ?_
  refine NQ.seq ?_
  refine CW.only (.cons (k := 0) rfl (.cons (k := 1) rfl (.cons (k := 7) rfl (.cons (k := 16) rfl .nil)))) ?_
  refine CW.condF rfl (rfl) ?_
  refine CW.skip ?_
  refine NQ.seq ?_
  refine CW.seq ?_
  refine CW.seq ?_
  refine CW.region (ef := []) (bk := []) ?_
  refine RL.bin rfl rfl rfl rfl rfl rfl ?_
  refine RL.assign rfl rfl rfl rfl ?_
  refine RL.nil ?_
  refine NQ.seq ?_
  refine CW.condF rfl (rfl) ?_
  refine CW.skip ?_
  refine NQ.seq ?_
  refine CW.seq ?_
  refine CW.seq ?_
  refine CW.region (ef := []) (bk := []) ?_
  refine RL.bin rfl rfl rfl rfl rfl rfl ?_
  refine RL.assign rfl rfl rfl rfl ?_
  refine RL.nil ?_
  refine NQ.seq ?_
  refine CW.condF rfl (rfl) ?_
  refine CW.skip ?_
  refine NQ.seq ?_
  refine CW.seq ?_
  refine CW.seq ?_
  refine CW.region (ef := []) (bk := []) ?_
  refine RL.bin rfl rfl rfl rfl rfl rfl ?_
  refine RL.assign rfl rfl rfl rfl ?_
  refine RL.nil ?_
  refine NQ.seq ?_
  refine CW.only (.cons (k := 0) rfl (.cons (k := 1) rfl (.cons (k := 7) rfl (.cons (k := 22) rfl .nil)))) ?_
  refine CW.condF rfl (rfl) ?_
  refine CW.skip ?_
  refine NQ.seq ?_
  refine CW.seq ?_
  refine CW.seq ?_
  refine CW.region (ef := []) (bk := []) ?_
  refine RL.bin rfl rfl rfl rfl rfl rfl ?_
  refine RL.assign rfl rfl rfl rfl ?_
  refine RL.nil ?_
  refine NQ.seq ?_
  refine CW.condF rfl (rfl) ?_
  refine CW.skip ?_
  refine NQ.seq ?_
  refine CW.seq ?_
  refine CW.seq ?_
  refine CW.region (ef := []) (bk := []) ?_
  refine RL.bin rfl rfl rfl rfl rfl rfl ?_
  refine RL.assign rfl rfl rfl rfl ?_
  refine RL.nil ?_
  refine NQ.seq ?_
  refine CW.condT rfl (rfl) ?_
  refine CW.exit ?_
  refine XQ.seq ?_
  refine XQ.seq ?_
  refine XQ.miss rfl ?_
  refine XQ.seq ?_
  refine XQ.miss rfl ?_
  refine XQ.seq ?_
  refine XQ.miss rfl ?_
  refine XQ.seq ?_
  refine XQ.miss rfl ?_
  refine XQ.seq ?_
  refine XQ.miss rfl ?_
  refine XQ.seq ?_
  refine XQ.miss rfl ?_
  refine XQ.seq ?_
  refine XQ.miss rfl ?_
  refine XQ.seq ?_
  refine XQ.miss rfl ?_
  refine XQ.seq ?_
  refine XQ.miss rfl ?_
  refine XQ.seq ?_
  refine XQ.hit ?_
  refine NQ.seq ?_
  refine CW.only (.cons (k := 0) rfl (.cons (k := 1) rfl .nil)) ?_
  refine CW.seq ?_
  refine CW.seq ?_
  refine CW.region (ef := [2, 6]) (bk := [2, 6]) ?_
  refine RL.move rfl rfl rfl rfl ?_
  refine RL.move rfl rfl rfl rfl ?_
  refine RL.call (rnum_any d p 1 c l (by omega) hc (by decide)) Tryz.call112 rfl rfl rfl rfl rfl (by repeat (first | exact Pick.nil | apply Pick.take | apply Pick.leave)) (Lend.sub hl0 (by repeat (first | exact List.Mem.head _ | apply List.Mem.tail)) .nil) (.inr rfl) ?_
  rintro _ _ _ ⟨rfl, rfl, q1, k1, rfl, hc1, hk1⟩
  have hl1 := hl0.trans hk1
  refine RL.lowest Tryz.runUnderlying25 Tryz.runUnderlying5 rfl rfl rfl rfl ?_
  refine RL.nilCheck rfl rfl rfl rfl ?_
  refine RL.fieldAddr fa_68_12 rfl rfl rfl rfl ?_
  refine RL.store (vs := [_]) Tryz.sizeOf5 rfl rfl rfl rfl rfl rfl rfl rfl rfl (by repeat (first | exact Upd.here | apply Upd.there)) ?_
  refine RL.nil ?_
  refine NQ.seq ?_
  refine CW.only (.cons (k := 0) rfl (.cons (k := 1) rfl .nil)) ?_
  refine CW.seq ?_
  refine CW.region (ef := [2, 5]) (bk := [2, 5]) ?_
  refine RL.move rfl rfl rfl rfl ?_
  refine RL.move rfl rfl rfl rfl ?_
  refine RL.call (rvec_any d q1 k1 (l.drop 1) (by rw [List.length_drop]; omega) hc1) Tryz.call114 rfl rfl rfl rfl rfl (by repeat (first | exact Pick.nil | apply Pick.take | apply Pick.leave)) (Lend.sub hl1 (by repeat (first | exact List.Mem.head _ | apply List.Mem.tail)) .nil) (.inr rfl) ?_
  rintro _ _ _ ⟨rfl, rfl, q2, k2, rfl, hc2, hk2⟩
  rw [List.drop_drop] at hc2 hk2 ⊢
  rw [show 8 * 3 = 24 from rfl] at hc2 hk2 ⊢
  rw [show 1 + 24 = 25 from rfl] at hc2 hk2 ⊢
  have hl2 := hl1.trans hk2
  refine RL.nilCheck rfl rfl rfl rfl ?_
  refine RL.fieldAddr fa_68_9 rfl rfl rfl rfl ?_
  refine RL.storeX (cs' := spl _ (0 + 13) [f64 (l.drop 1) 0, f64 (l.drop 1) 1, f64 (l.drop 1) 2]) (vs := [f64 (l.drop 1) 0, f64 (l.drop 1) 1, f64 (l.drop 1) 2]) rfl Tryz.sizeOf65 rfl rfl rfl rfl rfl rfl rfl rfl (by repeat (first | exact Upd.here | apply Upd.there)) (Nat.le_of_ble_eq_true rfl) ?_
  refine RL.nil ?_
  refine NQ.seq ?_
  refine CW.seq ?_
  refine CW.region (ef := [2, 5]) (bk := [2, 5]) ?_
  refine RL.move rfl rfl rfl rfl ?_
  refine RL.move rfl rfl rfl rfl ?_
  refine RL.call (rfix_any d q2 k2 (l.drop 25) (by rw [List.length_drop]; omega) hc2) Tryz.call111 rfl rfl rfl rfl rfl (by repeat (first | exact Pick.nil | apply Pick.take | apply Pick.leave)) (Lend.sub hl2 (by repeat (first | exact List.Mem.head _ | apply List.Mem.tail)) .nil) (.inr rfl) ?_
  rintro _ _ _ ⟨rfl, rfl, q3, k3, rfl, hc3, hk3⟩
  rw [List.drop_drop] at hc3 hk3 ⊢
  rw [show 25 + 8 = 33 from rfl] at hc3 hk3 ⊢
  have hl3 := hl2.trans hk3
  refine RL.nilCheck rfl rfl rfl rfl ?_
  refine RL.fieldAddr fa_68_14 rfl rfl rfl rfl ?_
  refine RL.store (vs := [_]) Tryz.sizeOf45 rfl rfl rfl rfl rfl rfl rfl rfl rfl (by repeat (first | exact Upd.here | apply Upd.there)) ?_
  refine RL.nil ?_
  refine NQ.seq ?_
  refine CW.only (.cons (k := 0) rfl (.cons (k := 1) rfl .nil)) ?_
  refine CW.region (ef := [2, 6]) (bk := [2, 6]) ?_
  refine RL.move rfl rfl rfl rfl ?_
  refine RL.move rfl rfl rfl rfl ?_
  refine RL.call (rnum_any d q3 4 k3 (l.drop 33) (by rw [List.length_drop]; omega) hc3 (by decide)) Tryz.call112 rfl rfl rfl rfl rfl (by repeat (first | exact Pick.nil | apply Pick.take | apply Pick.leave)) (Lend.sub hl3 (by repeat (first | exact List.Mem.head _ | apply List.Mem.tail)) .nil) (.inr rfl) ?_
  rintro _ _ _ ⟨rfl, rfl, q4, k4, rfl, hc4, hk4⟩
  rw [List.drop_drop] at hc4 hk4 ⊢
  rw [show 33 + 4 = 37 from rfl] at hc4 hk4 ⊢
  have hl4 := hl3.trans hk4
  refine RL.conv Tryz.runUnderlying25 Tryz.runUnderlying24 rfl rfl rfl rfl ?_
  refine RL.nilCheck rfl rfl rfl rfl ?_
  refine RL.fieldAddr fa_68_15 rfl rfl rfl rfl ?_
  refine RL.store (vs := [_]) Tryz.sizeOf24 rfl rfl rfl rfl rfl rfl rfl rfl rfl (by repeat (first | exact Upd.here | apply Upd.there)) ?_
  refine RL.nil ?_
  refine NQ.seq ?_
  refine CW.only (.cons (k := 0) rfl (.cons (k := 1) rfl .nil)) ?_
  refine CW.exit ?_
  refine XQ.miss rfl ?_
  refine XQ.seq ?_
  refine XQ.miss rfl ?_
  refine XQ.seq ?_
  refine XQ.hit ?_
  refine NQ.post (res0 rfl) (.keep (.keep .nil)) ⟨rfl, _, congrArg (fun z => [_, cel br z _]) ?_⟩
  simp only [f32, f64, List.drop_drop, Nat.reduceMul, Nat.reduceAdd, u32_nat, u32_nat0, u16_nat, bat_nat0 l (by omega), ofInt_nat8, ofNat_nat8]
  rfl
theorem rget_14 (d br : Nat) (p : Option Addr) (c : Nat) (l : List B8) (hl : l.length = 16) (hc : l.length ≤ c) : Spc Tryz.prog 90 #[.pointer (some ⟨d, 0, none⟩), .pointer (some ⟨br, 0, none⟩)] [sls p 1 l.length (bytes l)] [rdr d p l.length c, cel br (Rdg.cells (rz 14)) 68]
    (fun _ I' H' => I' = [] ∧ ∃ x, H' = [x, cel br (Rdg.cells (getR 14 l)) 68]) := by
  have hl0 := Lies.refl (sls p 1 l.length (bytes l))
  refine Spc.enter Tryz.func90 rfl rfl rfl (fun w0 hw0 => ?_)
  refine CW.seq ?_
  refine CW.region (ef := []) (bk := []) ?_
  refine RL.move rfl rfl rfl rfl ?_
  refine RL.nilCheck rfl rfl rfl rfl ?_
  refine RL.fieldAddr fa_68_0 rfl rfl rfl rfl ?_
  refine RL.loadq Tryz.isAgg3 rfl rfl rfl rfl ?_
  refine RL.nil ?_
  refine NQ.seq ?_
  refine CW.block ?_
  refine CW.seq ?_
  refine CW.block ?_
  refine CW.seq ?_
  refine CW.block ?_
  refine CW.seq ?_
  refine CW.block ?_
  refine CW.seq ?_
  refine CW.block ?_
  refine CW.seq ?_
  refine CW.block ?_
  refine CW.seq ?_
  refine CW.block ?_
  refine CW.seq ?_
  refine CW.block ?_
  refine CW.seq ?_
  refine CW.block ?_
  refine CW.seq ?_
  refine CW.block ?_
  refine CW.seq ?_
  refine CW.block ?_
  refine CW.seq ?_
  refine CW.block ?_
  refine CW.seq ?_
  refine CW.block ?_
  refine CW.seq ?_
  refine CW.seq ?_
  refine CW.seq ?_
  refine CW.region (ef := []) (bk := []) ?_
  refine RL.bin rfl rfl rfl rfl rfl rfl ?_
  refine RL.assign rfl rfl rfl rfl ?_
  refine RL.nil ?_
  refine NQ.seq ?_
  refine CW.condF rfl (rfl) ?_
  refine CW.skip ?_
  refine NQ.seq ?_
  refine CW.seq ?_
  refine CW.seq ?_
  refine CW.region (ef := []) (bk := []) ?_
  refine RL.bin rfl rfl rfl rfl rfl rfl ?_
  refine RL.assign rfl rfl rfl rfl ?_
  refine RL.nil ?_
  refine NQ.seq ?_
  refine CW.only (.cons (k := 0) rfl (.cons (k := 1) rfl (.cons (k := 7) rfl (.cons (k := 10) rfl .nil)))) ?_
  refine CW.condF rfl (rfl) ?_
  refine CW.skip ?_
  refine NQ.seq ?_
  refine CW.seq ?_
  refine CW.seq ?_
  refine CW.region (ef := []) (bk := []) ?_
  refine RL.bin rfl rfl rfl rfl rfl rfl ?_
  refine RL.assign rfl rfl rfl rfl ?_
  refine RL.nil ?_
  refine NQ.seq ?_
  refine CW.condF rfl (rfl) ?_
  refine CW.skip ?_
  refine NQ.seq ?_
  refine CW.seq ?_
  refine CW.seq ?_
  refine CW.region (ef := []) (bk := []) ?_
  refine RL.bin rfl rfl rfl rfl rfl rfl ?_
  refine RL.assign rfl rfl rfl rfl ?_
  refine RL.nil ?_
  refine NQ.seq ?_
  refine CW.condF rfl (rfl) ?_
  refine CW.skip ?_
  refine NQ.seq ?_
  refine CW.seq ?_
  refine CW.seq ?_
  refine CW.region (ef := []) (bk := []) ?_
  refine RL.bin rfl rfl rfl rfl rfl rfl ?_
  refine RL.assign rfl rfl rfl rfl ?_
  refine RL.nil ?_
  refine NQ.seq ?_
  refine CW.only (.cons (k := 0) rfl (.cons (k := 1) rfl (.cons (k := 7) rfl (.cons (k := 16) rfl .nil)))) ?_
  refine CW.condF rfl (rfl) ?_
  refine CW.skip ?_
  refine NQ.seq ?_
  refine CW.seq ?_
  refine CW.seq ?_
  refine CW.region (ef := []) (bk := []) ?_
  refine RL.bin rfl rfl rfl rfl rfl rfl ?_
  refine RL.assign rfl rfl rfl rfl ?_
  refine RL.nil ?_
  refine NQ.seq ?_
  refine CW.condF rfl (rfl) ?_
  refine CW.skip ?_
  refine NQ.seq ?_
  refine CW.seq ?_
  refine CW.seq ?_
  refine CW.region (ef := []) (bk := []) ?_
  refine RL.bin rfl rfl rfl rfl rfl rfl ?_
  refine RL.assign rfl rfl rfl rfl ?_
  refine RL.nil ?_
  refine NQ.seq ?_
  refine CW.condF rfl (rfl) ?_
  refine CW.skip ?_
  refine NQ.seq ?_
  refine CW.seq ?_
  refine CW.seq ?_
  refine CW.region (ef := []) (bk := []) ?_
  refine RL.bin rfl rfl rfl rfl rfl rfl ?_
  refine RL.assign rfl rfl rfl rfl ?_
  refine RL.nil ?_
  refine NQ.seq ?_
  refine CW.only (.cons (k := 0) rfl (.cons (k := 1) rfl (.cons (k := 7) rfl (.cons (k := 22) rfl .nil)))) ?_
  refine CW.condF rfl (rfl) ?_
  refine CW.skip ?_
  refine NQ.seq ?_
  refine CW.seq ?_
  refine CW.seq ?_
  refine CW.region (ef := []) (bk := []) ?_
  refine RL.bin rfl rfl rfl rfl rfl rfl ?_
  refine RL.assign rfl rfl rfl rfl ?_
  refine RL.nil ?_
  refine NQ.seq ?_
  refine CW.condF rfl (rfl) ?_
  refine CW.skip ?_
  refine NQ.seq ?_
  refine CW.seq ?_
  refine CW.seq ?_
  refine CW.region (ef := []) (bk := []) ?_
  refine RL.bin rfl rfl rfl rfl rfl rfl ?_
  refine RL.assign rfl rfl rfl rfl ?_
  refine RL.nil ?_
  refine NQ.seq ?_
  refine CW.condF rfl (rfl) ?_
  refine CW.skip ?_
  refine NQ.seq ?_
  refine CW.seq ?_
  refine CW.seq ?_
  refine CW.region (ef := []) (bk := []) ?_
  refine RL.bin rfl rfl rfl rfl rfl rfl ?_
  refine RL.assign rfl rfl rfl rfl ?_
  refine RL.nil ?_
  refine NQ.seq ?_
  refine CW.only (.cons (k := 0) rfl (.cons (k := 1) rfl (.cons (k := 7) rfl (.cons (k := 28) rfl .nil)))) ?_
  refine CW.condT rfl (rfl) ?_
  refine CW.exit ?_
  refine XQ.seq ?_
  refine XQ.seq ?_
  refine XQ.miss rfl ?_
  refine XQ.seq ?_
  refine XQ.miss rfl ?_
  refine XQ.seq ?_
  refine XQ.miss rfl ?_
  refine XQ.seq ?_
  refine XQ.miss rfl ?_
  refine XQ.seq ?_
  refine XQ.miss rfl ?_
  refine XQ.seq ?_
  refine XQ.miss rfl ?_
  refine XQ.seq ?_
  refine XQ.miss rfl ?_
  refine XQ.seq ?_
  refine XQ.miss rfl ?_
  refine XQ.seq ?_
  refine XQ.miss rfl ?_
  refine XQ.seq ?_
  refine XQ.miss rfl ?_
  refine XQ.seq ?_
  refine XQ.hit ?_
  refine NQ.seq ?_
  refine CW.seq ?_
  refine CW.region (ef := [2, 6]) (bk := [2, 6]) ?_
  refine RL.move rfl rfl rfl rfl ?_
  refine RL.move rfl rfl rfl rfl ?_
  refine RL.call (rnum_any d p 1 c l (by omega) hc (by decide)) Tryz.call112 rfl rfl rfl rfl rfl (by repeat (first | exact Pick.nil | apply Pick.take | apply Pick.leave)) (Lend.sub hl0 (by repeat (first | exact List.Mem.head _ | apply List.Mem.tail)) .nil) (.inr rfl) ?_
  rintro _ _ _ ⟨rfl, rfl, q1, k1, rfl, hc1, hk1⟩
  have hl1 := hl0.trans hk1
  refine RL.lowest Tryz.runUnderlying25 Tryz.runUnderlying5 rfl rfl rfl rfl ?_
  refine RL.nilCheck rfl rfl rfl rfl ?_
  refine RL.fieldAddr fa_68_16 rfl rfl rfl rfl ?_
  refine RL.store (vs := [_]) Tryz.sizeOf5 rfl rfl rfl rfl rfl rfl rfl rfl rfl (by repeat (first | exact Upd.here | apply Upd.there)) ?_
  refine RL.nil ?_
  refine NQ.seq ?_
  refine CW.only (.cons (k := 0) rfl (.cons (k := 1) rfl .nil)) ?_
  refine CW.seq ?_
  refine CW.region (ef := [2, 6]) (bk := [2, 6]) ?_
  refine RL.move rfl rfl rfl rfl ?_
  refine RL.move rfl rfl rfl rfl ?_
  refine RL.call (rnum_any d q1 1 k1 (l.drop 1) (by rw [List.length_drop]; omega) hc1 (by decide)) Tryz.call112 rfl rfl rfl rfl rfl (by repeat (first | exact Pick.nil | apply Pick.take | apply Pick.leave)) (Lend.sub hl1 (by repeat (first | exact List.Mem.head _ | apply List.Mem.tail)) .nil) (.inr rfl) ?_
  rintro _ _ _ ⟨rfl, rfl, q2, k2, rfl, hc2, hk2⟩
  rw [List.drop_drop] at hc2 hk2 ⊢
  rw [show 1 + 1 = 2 from rfl] at hc2 hk2 ⊢
  have hl2 := hl1.trans hk2
  refine RL.lowest Tryz.runUnderlying25 Tryz.runUnderlying5 rfl rfl rfl rfl ?_
  refine RL.nilCheck rfl rfl rfl rfl ?_
  refine RL.fieldAddr fa_68_17 rfl rfl rfl rfl ?_
  refine RL.store (vs := [_]) Tryz.sizeOf5 rfl rfl rfl rfl rfl rfl rfl rfl rfl (by repeat (first | exact Upd.here | apply Upd.there)) ?_
  refine RL.nil ?_
  refine NQ.seq ?_
  refine CW.only (.cons (k := 0) rfl (.cons (k := 1) rfl .nil)) ?_
  refine CW.seq ?_
  refine CW.region (ef := [2, 6]) (bk := [2, 6]) ?_
  refine RL.move rfl rfl rfl rfl ?_
  refine RL.move rfl rfl rfl rfl ?_
  refine RL.call (rnum_any d q2 2 k2 (l.drop 2) (by rw [List.length_drop]; omega) hc2 (by decide)) Tryz.call112 rfl rfl rfl rfl rfl (by repeat (first | exact Pick.nil | apply Pick.take | apply Pick.leave)) (Lend.sub hl2 (by repeat (first | exact List.Mem.head _ | apply List.Mem.tail)) .nil) (.inr rfl) ?_
  rintro _ _ _ ⟨rfl, rfl, q3, k3, rfl, hc3, hk3⟩
  rw [List.drop_drop] at hc3 hk3 ⊢
  rw [show 2 + 2 = 4 from rfl] at hc3 hk3 ⊢
  have hl3 := hl2.trans hk3
  refine RL.conv Tryz.runUnderlying25 Tryz.runUnderlying66 rfl rfl rfl rfl ?_
  refine RL.nilCheck rfl rfl rfl rfl ?_
  refine RL.fieldAddr fa_68_18 rfl rfl rfl rfl ?_
  refine RL.store (vs := [_]) Tryz.sizeOf66 rfl rfl rfl rfl rfl rfl rfl rfl rfl (by repeat (first | exact Upd.here | apply Upd.there)) ?_
  refine RL.nil ?_
  refine NQ.seq ?_
  refine CW.only (.cons (k := 0) rfl (.cons (k := 1) rfl .nil)) ?_
  refine CW.region (ef := [2, 5]) (bk := [2, 5]) ?_
  refine RL.move rfl rfl rfl rfl ?_
  refine RL.move rfl rfl rfl rfl ?_
  refine RL.call (rnum_any d q3 8 k3 (l.drop 4) (by rw [List.length_drop]; omega) hc3 (by decide)) Tryz.call112 rfl rfl rfl rfl rfl (by repeat (first | exact Pick.nil | apply Pick.take | apply Pick.leave)) (Lend.sub hl3 (by repeat (first | exact List.Mem.head _ | apply List.Mem.tail)) .nil) (.inr rfl) ?_
  rintro _ _ _ ⟨rfl, rfl, q4, k4, rfl, hc4, hk4⟩
  rw [List.drop_drop] at hc4 hk4 ⊢
  rw [show 4 + 8 = 12 from rfl] at hc4 hk4 ⊢
  have hl4 := hl3.trans hk4
  refine RL.nilCheck rfl rfl rfl rfl ?_
  refine RL.fieldAddr fa_68_19 rfl rfl rfl rfl ?_
  refine RL.store (vs := [_]) Tryz.sizeOf25 rfl rfl rfl rfl rfl rfl rfl rfl rfl (by repeat (first | exact Upd.here | apply Upd.there)) ?_
  refine RL.nil ?_
  refine NQ.block ?_
  refine NQ.seq ?_
  refine CW.seq ?_
  refine CW.region (ef := [2, 6]) (bk := [2, 6]) ?_
  refine RL.move rfl rfl rfl rfl ?_
  refine RL.move rfl rfl rfl rfl ?_
  refine RL.call (rnum_any d q4 4 k4 (l.drop 12) (by rw [List.length_drop]; omega) hc4 (by decide)) Tryz.call112 rfl rfl rfl rfl rfl (by repeat (first | exact Pick.nil | apply Pick.take | apply Pick.leave)) (Lend.sub hl4 (by repeat (first | exact List.Mem.head _ | apply List.Mem.tail)) .nil) (.inr rfl) ?_
  rintro _ _ _ ⟨rfl, rfl, q5, k5, rfl, hc5, hk5⟩
  rw [List.drop_drop] at hc5 hk5 ⊢
  rw [show 12 + 4 = 16 from rfl] at hc5 hk5 ⊢
  have hl5 := hl4.trans hk5
  refine RL.conv Tryz.runUnderlying25 Tryz.runUnderlying24 rfl rfl rfl rfl ?_
  refine RL.nilCheck rfl rfl rfl rfl ?_
  refine RL.fieldAddr fa_68_13 rfl rfl rfl rfl ?_
  refine RL.store (vs := [_]) Tryz.sizeOf24 rfl rfl rfl rfl rfl rfl rfl rfl rfl (by repeat (first | exact Upd.here | apply Upd.there)) ?_
  refine RL.nil ?_
  refine NQ.seq ?_
  refine CW.only .nil ?_
  refine CW.exit ?_
  refine XQ.hit ?_
  refine NQ.post (res0 rfl) (.keep (.keep .nil)) ⟨rfl, _, congrArg (fun z => [_, cel br z _]) ?_⟩
  simp only [f32, f64, List.drop_drop, Nat.reduceMul, Nat.reduceAdd, u32_nat, u32_nat0, u16_nat, bat_nat0 l (by omega), bat_nat l 1 (by omega), ofInt_nat8, ofNat_nat8]
  rfl
end Go.Proofs.YtbdnebedmdoehaaGreat

namespace Go.Proofs.YtbdnebedmdoehaaGreat
open Go.PK

def sizeV (k : Int) : Value := if 1 ≤ k ∧ k ≤ 14 then .tuple #[.int .i64 (sizeR k : Int), .int .i64 0] else .tuple #[.int .i64 0, .int .i64 120]
theorem size_at {n : Nat} (h : 1 ≤ n ∧ n ≤ 14) {tab : List Value} {o : Nat} (ht : ∀ j, j < 14 → tab[o + j * 1]? = some (.int .i64 (sizeR ((j : Int) + 1)))) : tab[o + (n - 1) * 1]? = some (.int .i64 (sizeR (n : Int))) := by
  have := ht (n - 1) (by omega)
  rwa [show ((n - 1 : Nat) : Int) + 1 = n by omega] at this
theorem tab14 {p : Nat → Prop} (h0 : p 0) (h1 : p 1) (h2 : p 2) (h3 : p 3) (h4 : p 4) (h5 : p 5) (h6 : p 6) (h7 : p 7) (h8 : p 8) (h9 : p 9) (h10 : p 10) (h11 : p 11) (h12 : p 12) (h13 : p 13) : ∀ j, j < 14 → p j
  | 0, _ => h0
  | 1, _ => h1
  | 2, _ => h2
  | 3, _ => h3
  | 4, _ => h4
  | 5, _ => h5
  | 6, _ => h6
  | 7, _ => h7
  | 8, _ => h8
  | 9, _ => h9
  | 10, _ => h10
  | 11, _ => h11
  | 12, _ => h12
  | 13, _ => h13
  | _ + 14, h => by omega

theorem size_any (k : Int) : Spc Tryz.prog 88 #[.int .i64 k] [] [] (Is (sizeV k)) := by
  refine Spc.enter Tryz.func88 rfl rfl rfl (fun w0 hw0 => ?_)
  refine CW.seq ?_
  refine CW.region (ef := []) (bk := []) ?_
  refine RL.assign rfl rfl rfl rfl ?_
  refine RL.assign rfl rfl rfl rfl ?_
  refine RL.nil ?_
  refine NQ.seq ?_
  refine CW.seq ?_
  refine CW.region (ef := [1, 2]) (bk := [2]) ?_
  refine RL.buildA [_, _, _, _, _, _, _, _, _, _, _, _, _, _, _] Tryz.zeroValue187 Tryz.runUnderlying187 Tryz.sizeOf3 rfl rfl rfl rfl rfl ?_
  refine RL.alloc Tryz.zeroValue187 rfl rfl rfl rfl rfl ?_
  intro b1
  refine RL.storeW Tryz.sizeOf187 rfl rfl rfl rfl rfl rfl rfl (by first | rfl | exact ones_map one8 _ | exact ones_map (fun _ => rfl) _) (by repeat (first | exact Upd.here | apply Upd.there)) (by first | rfl | assumption | (simp only [List.length_map]; assumption) | (simp only [List.length_map, List.length_replicate]; done) | (simp; done)) (by first | rfl | assumption | (simp only [List.length_map]; assumption) | (simp only [List.length_map, List.length_replicate]; done) | (simp; done)) ?_
  refine RL.nil ?_
  refine NQ.seq ?_
  refine CW.seq ?_
  refine CW.seq ?_
  refine CW.region (ef := []) (bk := []) ?_
  refine RL.move rfl rfl rfl rfl ?_
  refine RL.bin rfl rfl rfl rfl rfl rfl ?_
  refine RL.move rfl rfl rfl rfl ?_
  refine RL.part (d := 8) rfl (fun h1 => ?_) (fun h1 => ?_)
  ·
    refine RL.skip rfl rfl rfl rfl ?_
    refine RL.skip rfl rfl rfl rfl ?_
    refine RL.pickT rfl rfl rfl rfl rfl ?_
    refine RL.nil ?_
    refine NQ.seq ?_
    refine CW.only (.cons (k := 0) rfl (.cons (k := 2) rfl (.cons (k := 3) rfl (.cons (k := 4) rfl (.cons (k := 11) rfl .nil))))) ?_
    refine CW.condT rfl rfl ?_
    refine CW.seq ?_
    refine CW.region (ef := []) (bk := []) ?_
    refine RL.assign rfl rfl rfl rfl ?_
    refine RL.assign rfl rfl rfl rfl ?_
    refine RL.nil ?_
    refine NQ.seq ?_
    refine CW.ret ?_
    refine RQ.seq ?_
    have h1 : k < 1 := by simpa using h1
    exact RQ.post (res2 rfl rfl rfl) (Split.none _) ⟨by rw [sizeV, if_neg (by omega)], rfl, rfl⟩
  ·
    refine RL.move rfl rfl rfl rfl ?_
    refine RL.bin rfl rfl rfl rfl rfl rfl ?_
    refine RL.pickF rfl rfl rfl rfl rfl ?_
    refine RL.nil ?_
    refine NQ.seq ?_
    refine CW.only (.cons (k := 0) rfl (.cons (k := 2) rfl (.cons (k := 3) rfl (.cons (k := 4) rfl (.cons (k := 11) rfl .nil))))) ?_
    have h1 : ¬ k < 1 := by simpa using h1
    refine CW.cond rfl (fun h2 => ?_) (fun h2 => ?_)
    ·
      refine CW.seq ?_
      refine CW.region (ef := []) (bk := []) ?_
      refine RL.assign rfl rfl rfl rfl ?_
      refine RL.assign rfl rfl rfl rfl ?_
      refine RL.nil ?_
      refine NQ.seq ?_
      refine CW.ret ?_
      refine RQ.seq ?_
      have h2 : 14 < k := by simpa using h2
      exact RQ.post (res2 rfl rfl rfl) (Split.none _) ⟨by rw [sizeV, if_neg (by omega)], rfl, rfl⟩
    ·
      refine CW.skip ?_
      refine NQ.seq ?_
      refine CW.seq ?_
      refine CW.region (ef := []) (bk := []) ?_
      refine RL.move rfl rfl rfl rfl ?_
      have h2 : ¬ 14 < k := by simpa using h2
      obtain ⟨m, rfl⟩ : ∃ m : Nat, k = (m : Int) := ⟨k.toNat, by omega⟩
      have hm : 1 ≤ m ∧ m ≤ 14 := by omega
      have hv := size_at hm (o := 1) (tab := (.int .i64 0) :: [.int .i64 24, .int .i64 8, .int .i64 4, .int .i64 8, .int .i64 29, .int .i64 36, .int .i64 8, .int .i64 1, .int .i64 0, .int .i64 4, .int .i64 0, .int .i64 1, .int .i64 37, .int .i64 16]) (tab14 rfl rfl rfl rfl rfl rfl rfl rfl rfl rfl rfl rfl rfl rfl)
      rw [show 1 + (m - 1) * 1 = 0 + m * 1 by omega] at hv
      refine RL.idxAAt (j := m) Tryz.runUnderlying187 Tryz.sizeOf3 rfl rfl rfl rfl rfl rfl (by omega) ?_
      refine RL.loadq Tryz.isAgg3 rfl rfl rfl rfl ?_
      refine RL.assign rfl rfl rfl rfl ?_
      refine RL.assign rfl rfl rfl rfl ?_
      refine RL.nil ?_
      refine NQ.seq ?_
      refine CW.only (.cons (k := 2) rfl (.cons (k := 3) rfl .nil)) ?_
      refine CW.ret ?_
      exact RQ.post (res2 rfl rfl rfl) (Split.none _) ⟨by rw [sizeV, if_pos (by omega)], rfl, rfl⟩
theorem rsize_any (k : Int) : Spc Tryz.prog 49 #[.int .i64 k] [] [] (Is (sizeV k)) := by
  refine Spc.enter Tryz.func49 rfl rfl rfl (fun w0 hw0 => ?_)
  refine CW.seq ?_
  refine CW.region (ef := []) (bk := []) ?_
  refine RL.assign rfl rfl rfl rfl ?_
  refine RL.assign rfl rfl rfl rfl ?_
  refine RL.nil ?_
  refine NQ.seq ?_
  refine CW.seq ?_
  refine CW.region (ef := [0]) (bk := []) ?_
  refine RL.buildSlice [_, _, _, _, _, _, _, _, _, _, _, _, _, _] Tryz.runUnderlying144 Tryz.sizeOf3 Tryz.zeroValue3 rfl rfl (by decide) (by decide) rfl rfl rfl rfl rfl rfl ?_
  intro b1
  refine RL.assign rfl rfl rfl rfl ?_
  refine RL.nil ?_
  refine NQ.seq ?_
  refine CW.seq ?_
  refine CW.seq ?_
  refine CW.region (ef := []) (bk := []) ?_
  refine RL.move rfl rfl rfl rfl ?_
  refine RL.bin rfl rfl rfl rfl rfl rfl ?_
  refine RL.move rfl rfl rfl rfl ?_
  refine RL.part (d := 8) rfl (fun h1 => ?_) (fun h1 => ?_)
  ·
    refine RL.skip rfl rfl rfl rfl ?_
    refine RL.skip rfl rfl rfl rfl ?_
    refine RL.pickT rfl rfl rfl rfl rfl ?_
    refine RL.nil ?_
    refine NQ.seq ?_
    refine CW.only (.cons (k := 0) rfl (.cons (k := 2) rfl (.cons (k := 3) rfl (.cons (k := 4) rfl (.cons (k := 11) rfl .nil))))) ?_
    refine CW.condT rfl rfl ?_
    refine CW.seq ?_
    refine CW.region (ef := []) (bk := []) ?_
    refine RL.assign rfl rfl rfl rfl ?_
    refine RL.assign rfl rfl rfl rfl ?_
    refine RL.nil ?_
    refine NQ.seq ?_
    refine CW.ret ?_
    refine RQ.seq ?_
    have h1 : k < 1 := by simpa using h1
    exact RQ.post (res2 rfl rfl rfl) (Split.none _) ⟨by rw [sizeV, if_neg (by omega)], rfl, rfl⟩
  ·
    refine RL.move rfl rfl rfl rfl ?_
    refine RL.bin rfl rfl rfl rfl rfl rfl ?_
    refine RL.pickF rfl rfl rfl rfl rfl ?_
    refine RL.nil ?_
    refine NQ.seq ?_
    refine CW.only (.cons (k := 0) rfl (.cons (k := 2) rfl (.cons (k := 3) rfl (.cons (k := 4) rfl (.cons (k := 11) rfl .nil))))) ?_
    have h1 : ¬ k < 1 := by simpa using h1
    refine CW.cond rfl (fun h2 => ?_) (fun h2 => ?_)
    ·
      refine CW.seq ?_
      refine CW.region (ef := []) (bk := []) ?_
      refine RL.assign rfl rfl rfl rfl ?_
      refine RL.assign rfl rfl rfl rfl ?_
      refine RL.nil ?_
      refine NQ.seq ?_
      refine CW.ret ?_
      refine RQ.seq ?_
      have h2 : 14 < k := by simpa using h2
      exact RQ.post (res2 rfl rfl rfl) (Split.none _) ⟨by rw [sizeV, if_neg (by omega)], rfl, rfl⟩
    ·
      have h2 : ¬ 14 < k := by simpa using h2
      obtain ⟨m, rfl⟩ : ∃ m : Nat, k = (m : Int) := ⟨k.toNat, by omega⟩
      have hm : 1 ≤ m ∧ m ≤ 14 := by omega
      have hv := size_at hm (o := 0) (tab := [.int .i64 24, .int .i64 8, .int .i64 4, .int .i64 8, .int .i64 29, .int .i64 36, .int .i64 8, .int .i64 1, .int .i64 0, .int .i64 4, .int .i64 0, .int .i64 1, .int .i64 37, .int .i64 16]) (tab14 rfl rfl rfl rfl rfl rfl rfl rfl rfl rfl rfl rfl rfl rfl)
      rw [show 0 + (m - 1) * 1 = (m - 1) * 1 by omega] at hv
      refine CW.skip ?_
      refine NQ.seq ?_
      refine CW.seq ?_
      refine CW.region (ef := []) (bk := []) ?_
      refine RL.move rfl rfl rfl rfl ?_
      refine RL.move rfl rfl rfl rfl ?_
      refine RL.binX rfl rfl rfl rfl rfl rfl (wrapV_i64 (by omega) (by omega)) ?_
      refine RL.idx (j := m - 1) Tryz.runUnderlying144 Tryz.sizeOf3 rfl rfl rfl rfl rfl (by omega) (by omega) ?_
      refine RL.load Tryz.isAgg3 rfl rfl rfl rfl ((Rds.all (by repeat (first | exact List.Mem.head _ | apply List.Mem.tail))).rd hv) ?_
      refine RL.assign rfl rfl rfl rfl ?_
      refine RL.assign rfl rfl rfl rfl ?_
      refine RL.nil ?_
      refine NQ.seq ?_
      refine CW.only (.cons (k := 2) rfl (.cons (k := 3) rfl .nil)) ?_
      refine CW.ret ?_
      exact RQ.post (res2 rfl rfl rfl) (Split.none _) ⟨by rw [sizeV, if_pos (by omega)], rfl, rfl⟩
end Go.Proofs.YtbdnebedmdoehaaGreat

namespace Go.Proofs.YtbdnebedmdoehaaGreat
open Go.PK

/-- What is got, if there is something. -/
def gotR (k : Int) (l : List B8) : Option Rdg := if 1 ≤ k ∧ k ≤ 14 ∧ l.length = sizeR k ∧ (getR k l).mode.toNat ≤ 2 ∧ ¬ (k = 10 ∧ (getR k l).epoch = 0) then some (getR k l) else none
def gotV : Option Rdg → Value
  | some r => .tuple #[.agg r.cells.toArray, .int .i64 0]
  | none => .tuple #[.agg (rz 0).cells.toArray, .int .i64 120]

theorem rget_all (k : Nat) (hk : 1 ≤ k ∧ k ≤ 14) (d br : Nat) (p : Option Addr) (c n : Nat) (l : List B8) (hn : l.length = n) (hl : n = sizeR k) (hc : n ≤ c) : Spc Tryz.prog 90 #[.pointer (some ⟨d, 0, none⟩), .pointer (some ⟨br, 0, none⟩)] [sls p 1 n (bytes l)] [rdr d p n c, cel br (Rdg.cells (rz k)) 68]
    (fun _ I' H' => I' = [] ∧ ∃ x, H' = [x, cel br (Rdg.cells (getR k l)) 68]) := by
  subst hn
  match k, hk, hl with
  | 1, _, hl => exact rget_1 d br p c l hl hc
  | 2, _, hl => exact rget_2 d br p c l hl hc
  | 3, _, hl => exact rget_3 d br p c l hl hc
  | 4, _, hl => exact rget_4 d br p c l hl hc
  | 5, _, hl => exact rget_5 d br p c l hl hc
  | 6, _, hl => exact rget_6 d br p c l hl hc
  | 7, _, hl => exact rget_7 d br p c l hl hc
  | 8, _, hl => exact rget_8 d br p c l hl hc
  | 9, _, hl => exact rget_9 d br p c l hl hc
  | 10, _, hl => exact rget_10 d br p c l hl hc
  | 11, _, hl => exact rget_11 d br p c l hl hc
  | 12, _, hl => exact rget_12 d br p c l hl hc
  | 13, _, hl => exact rget_13 d br p c l hl hc
  | 14, _, hl => exact rget_14 d br p c l hl hc
  | _ + 15, h, _ => omega
  | 0, h, _ => omega

theorem sizeR_le : ∀ m : Nat, 1 ≤ m ∧ m ≤ 14 → sizeR (m : Int) ≤ 37
  | 1, _ => by decide
  | 2, _ => by decide
  | 3, _ => by decide
  | 4, _ => by decide
  | 5, _ => by decide
  | 6, _ => by decide
  | 7, _ => by decide
  | 8, _ => by decide
  | 9, _ => by decide
  | 10, _ => by decide
  | 11, _ => by decide
  | 12, _ => by decide
  | 13, _ => by decide
  | 14, _ => by decide
  | 0, h => by omega
  | _ + 15, h => by omega
theorem get_all (k : Int) (p : Option Addr) (n c : Nat) (l : List B8) (hn : l.length = n) (hc : n ≤ c) : Spc Tryz.prog 68 #[.int .i64 k, .slice p n c] [sls p 1 n (bytes l)] [] (Is (gotV (gotR k l))) := by
  by_cases hk : 1 ≤ k ∧ k ≤ 14
  · have hs : sizeV k = .tuple #[.int .i64 (sizeR k : Int), .int .i64 0] := by rw [sizeV, if_pos hk]
    refine Spc.enter Tryz.func68 rfl rfl rfl (fun w0 hw0 => ?_)
    refine CW.seq ?_
    refine CW.region (ef := [0]) (bk := []) ?_
    refine RL.alloc Tryz.zeroValue68 rfl rfl rfl rfl rfl ?_
    intro b1
    refine RL.assign rfl rfl rfl rfl ?_
    refine RL.nil ?_
    refine NQ.seq ?_
    refine CW.seq ?_
    refine CW.region (ef := []) (bk := []) ?_
    refine RL.move rfl rfl rfl rfl ?_
    refine RL.callvq (size_any k) Tryz.call88 rfl rfl rfl rfl ?_
    refine RL.move rfl rfl rfl rfl ?_
    rw [hs]
    refine RL.extract rfl rfl rfl rfl rfl ?_
    refine RL.extract rfl rfl rfl rfl rfl ?_
    refine RL.assign rfl rfl rfl rfl ?_
    refine RL.assign rfl rfl rfl rfl ?_
    refine RL.nil ?_
    refine NQ.seq ?_
    refine CW.only (.cons (k := 0) rfl (.cons (k := 1) rfl (.cons (k := 4) rfl (.cons (k := 6) rfl (.cons (k := 7) rfl .nil))))) ?_
    refine CW.seq ?_
    refine CW.seq ?_
    refine CW.region (ef := []) (bk := []) ?_
    refine RL.move rfl rfl rfl rfl ?_
    refine RL.bin rfl rfl rfl rfl rfl rfl ?_
    refine RL.move rfl rfl rfl rfl ?_
    refine RL.cast (d := 17) (v' := .bool false) rfl (rfl) ?_
    refine RL.move rfl rfl rfl rfl ?_
    refine RL.move rfl rfl rfl rfl ?_
    refine RL.lenS Tryz.runUnderlying26 rfl rfl rfl rfl ?_
    refine RL.bin rfl rfl rfl rfl rfl rfl ?_
    refine RL.pickF rfl rfl rfl rfl rfl ?_
    refine RL.nil ?_
    refine NQ.seq ?_
    refine CW.only (.cons (k := 0) rfl (.cons (k := 1) rfl (.cons (k := 4) rfl (.cons (k := 22) rfl .nil)))) ?_
    refine CW.cond rfl (fun hne => ?_) (fun hne => ?_)
    ·
      refine CW.seq ?_
      refine CW.region (ef := [1]) (bk := [1]) ?_
      refine RL.buildS _ Tryz.zeroValue68 pl_68 rfl rfl rfl rfl rfl ?_
      refine RL.storeW Tryz.sizeOf68 rfl rfl rfl rfl rfl rfl rfl (by first | rfl | exact ones_map one8 _ | exact ones_map (fun _ => rfl) _) (by repeat (first | exact Upd.here | apply Upd.there)) (by first | rfl | assumption | (simp only [List.length_map]; assumption) | (simp only [List.length_map, List.length_replicate]; done) | (simp; done)) (by first | rfl | assumption | (simp only [List.length_map]; assumption) | (simp only [List.length_map, List.length_replicate]; done) | (simp; done)) ?_
      refine RL.assign rfl rfl rfl rfl ?_
      refine RL.nil ?_
      refine NQ.seq ?_
      refine CW.ret ?_
      refine RQ.seq ?_
      have hne : ¬ l.length = sizeR k := by intro e; simp [← hn, e] at hne
      exact RQ.post (resWT rfl rfl rfl Tryz.isAgg68 Tryz.sizeOf68 (by repeat (first | exact List.Mem.head _ | apply List.Mem.tail)) rfl) (Split.none _) ⟨by rw [gotR, if_neg (by omega)]; rfl, rfl, rfl⟩
    ·
      have hl : l.length = sizeR k := by simp [← hn] at hne; omega
      obtain ⟨m, rfl⟩ : ∃ m : Nat, k = (m : Int) := ⟨k.toNat, by omega⟩
      refine CW.skip ?_
      refine NQ.seq ?_
      refine CW.seq ?_
      refine CW.region (ef := [2, 3]) (bk := [3]) ?_
      refine RL.move rfl rfl rfl rfl ?_
      refine RL.buildS (Rdg.cells (rz m)) Tryz.zeroValue68 pl_68 rfl rfl rfl rfl rfl ?_
      refine RL.alloc Tryz.zeroValue68 rfl rfl rfl rfl rfl ?_
      intro b2
      refine RL.storeW Tryz.sizeOf68 rfl rfl rfl rfl rfl rfl rfl (by first | rfl | exact ones_map one8 _ | exact ones_map (fun _ => rfl) _) (by repeat (first | exact Upd.here | apply Upd.there)) (by first | rfl | assumption | (simp only [List.length_map]; assumption) | (simp only [List.length_map, List.length_replicate]; done) | (simp; done)) (by first | rfl | assumption | (simp only [List.length_map]; assumption) | (simp only [List.length_map, List.length_replicate]; done) | (simp; done)) ?_
      refine RL.nil ?_
      refine NQ.seq ?_
      refine CW.seq ?_
      refine CW.region (ef := [1, 3]) (bk := []) ?_
      refine RL.move rfl rfl rfl rfl ?_
      refine RL.callq (clone_any p n c l hn (by have := sizeR_le m (by omega); omega)) Tryz.call89 rfl rfl rfl rfl rfl (.inl rfl) ?_
      rintro _ _ _ ⟨ob, cb, rfl, rfl, rfl, ho⟩
      refine RL.buildS [_] Tryz.zeroValue162 pl_162 rfl rfl rfl rfl rfl ?_
      refine RL.box rfl rfl rfl rfl rfl rfl ?_
      intro b3
      refine RL.assign rfl rfl rfl rfl ?_
      refine RL.nil ?_
      refine NQ.seq ?_
      refine CW.only (.cons (k := 0) rfl (.cons (k := 4) rfl (.cons (k := 8) rfl (.cons (k := 9) rfl .nil)))) ?_
      refine CW.seq ?_
      refine CW.fact (p := l.length ≤ cb) (fun w hC => own_cap (hC.s.h (own ob cb 5 1 l.length (bytes l)) (by repeat (first | exact List.Mem.head _ | apply List.Mem.tail)))) (fun hcb => ?_)
      refine CW.tell (xs := bytes l) (by repeat (first | exact Pick.nil | apply Pick.take | apply Pick.leave)) (fun _ => ?_)
      refine CW.region (ef := [1]) (bk := [1]) ?_
      refine RL.move rfl rfl rfl rfl ?_
      refine RL.call (rget_all m (by omega) b3 b2 (ob.map fun b => ⟨b, 0, none⟩) cb l.length l rfl hl hcb) Tryz.call90 rfl rfl rfl rfl rfl (by repeat (first | exact Pick.nil | apply Pick.take | apply Pick.leave)) (.inI (List.Mem.head _) .nil) (.inr rfl) ?_
      rintro _ _ _ ⟨rfl, x, rfl⟩
      refine RL.nil ?_
      refine NQ.seq ?_
      refine CW.seq ?_
      refine CW.seq ?_
      refine CW.region (ef := []) (bk := []) ?_
      refine RL.fieldAddr fa_68_12 rfl rfl rfl rfl ?_
      refine RL.loadq Tryz.isAgg5 rfl rfl rfl rfl ?_
      refine RL.bin rfl rfl rfl rfl rfl rfl ?_
      refine RL.move rfl rfl rfl rfl ?_
      refine RL.part (d := 35) rfl (fun h1 => ?_) (fun h1 => ?_)
      ·
        refine RL.skip rfl rfl rfl rfl ?_
        refine RL.skip rfl rfl rfl rfl ?_
        refine RL.skip rfl rfl rfl rfl ?_
        refine RL.skip rfl rfl rfl rfl ?_
        refine RL.skip rfl rfl rfl rfl ?_
        refine RL.skip rfl rfl rfl rfl ?_
        refine RL.skip rfl rfl rfl rfl ?_
        refine RL.pickT rfl rfl rfl rfl rfl ?_
        refine RL.nil ?_
        refine NQ.seq ?_
        refine CW.only (.cons (k := 4) rfl (.cons (k := 8) rfl (.cons (k := 43) rfl .nil))) ?_
        refine CW.condT rfl rfl ?_
        refine CW.seq ?_
        refine CW.region (ef := [1]) (bk := [1]) ?_
        refine RL.buildS _ Tryz.zeroValue68 pl_68 rfl rfl rfl rfl rfl ?_
        refine RL.storeW Tryz.sizeOf68 rfl rfl rfl rfl rfl rfl rfl (by first | rfl | exact ones_map one8 _ | exact ones_map (fun _ => rfl) _) (by repeat (first | exact Upd.here | apply Upd.there)) (by first | rfl | assumption | (simp only [List.length_map]; assumption) | (simp only [List.length_map, List.length_replicate]; done) | (simp; done)) (by first | rfl | assumption | (simp only [List.length_map]; assumption) | (simp only [List.length_map, List.length_replicate]; done) | (simp; done)) ?_
        refine RL.assign rfl rfl rfl rfl ?_
        refine RL.nil ?_
        refine NQ.seq ?_
        refine CW.ret ?_
        refine RQ.seq ?_
        have h1 : 2 < (getR m l).mode.toNat := by simp at h1; omega
        exact RQ.post (resWT rfl rfl rfl Tryz.isAgg68 Tryz.sizeOf68 (by repeat (first | exact List.Mem.head _ | apply List.Mem.tail)) rfl) (Split.none _) ⟨by rw [gotR, if_neg (by omega)]; rfl, rfl, rfl⟩
      ·
        refine RL.move rfl rfl rfl rfl ?_
        refine RL.bin rfl rfl rfl rfl rfl rfl ?_
        refine RL.move rfl rfl rfl rfl ?_
        have h1 : ¬ 2 < (getR m l).mode.toNat := by simp at h1; omega
        refine RL.part (d := 38) rfl (fun h2 => ?_) (fun h2 => ?_)
        ·
          refine RL.fieldAddr fa_68_13 rfl rfl rfl rfl ?_
          refine RL.loadq Tryz.isAgg24 rfl rfl rfl rfl ?_
          refine RL.bin rfl rfl rfl rfl rfl rfl ?_
          refine RL.pickT rfl rfl rfl rfl rfl ?_
          refine RL.pickF rfl rfl rfl rfl rfl ?_
          refine RL.nil ?_
          refine NQ.seq ?_
          refine CW.only (.cons (k := 4) rfl (.cons (k := 8) rfl (.cons (k := 43) rfl .nil))) ?_
          have h2 : (m : Int) = 10 := by simpa using h2
          refine CW.cond rfl (fun h3 => ?_) (fun h3 => ?_)
          ·
            refine CW.seq ?_
            refine CW.region (ef := [1]) (bk := [1]) ?_
            refine RL.buildS _ Tryz.zeroValue68 pl_68 rfl rfl rfl rfl rfl ?_
            refine RL.storeW Tryz.sizeOf68 rfl rfl rfl rfl rfl rfl rfl (by first | rfl | exact ones_map one8 _ | exact ones_map (fun _ => rfl) _) (by repeat (first | exact Upd.here | apply Upd.there)) (by first | rfl | assumption | (simp only [List.length_map]; assumption) | (simp only [List.length_map, List.length_replicate]; done) | (simp; done)) (by first | rfl | assumption | (simp only [List.length_map]; assumption) | (simp only [List.length_map, List.length_replicate]; done) | (simp; done)) ?_
            refine RL.assign rfl rfl rfl rfl ?_
            refine RL.nil ?_
            refine NQ.seq ?_
            refine CW.ret ?_
            refine RQ.seq ?_
            have h3 : (getR m l).epoch = 0 := by simpa using h3
            exact RQ.post (resWT rfl rfl rfl Tryz.isAgg68 Tryz.sizeOf68 (by repeat (first | exact List.Mem.head _ | apply List.Mem.tail)) rfl) (Split.none _) ⟨by rw [gotR, if_neg (by omega)]; rfl, rfl, rfl⟩
          ·
            refine CW.skip ?_
            refine NQ.seq ?_
            refine CW.seq ?_
            refine CW.region (ef := [1]) (bk := [1]) ?_
            refine RL.loadW Tryz.isAgg68 Tryz.sizeOf68 rfl rfl rfl rfl (by repeat (first | exact List.Mem.head _ | apply List.Mem.tail)) (by first | rfl | assumption | (simp only [List.length_map]; assumption) | (simp only [List.length_map, List.length_replicate]; done) | (simp; done)) ?_
            refine RL.storeW Tryz.sizeOf68 rfl rfl rfl rfl rfl rfl rfl (by first | rfl | exact ones_map one8 _ | exact ones_map (fun _ => rfl) _) (by repeat (first | exact Upd.here | apply Upd.there)) (by first | rfl | assumption | (simp only [List.length_map]; assumption) | (simp only [List.length_map, List.length_replicate]; done) | (simp; done)) (by first | rfl | assumption | (simp only [List.length_map]; assumption) | (simp only [List.length_map, List.length_replicate]; done) | (simp; done)) ?_
            refine RL.assign rfl rfl rfl rfl ?_
            refine RL.nil ?_
            refine NQ.seq ?_
            refine CW.ret ?_
            have h3 : ¬ (getR m l).epoch = 0 := by simpa using h3
            exact RQ.post (resWT rfl rfl rfl Tryz.isAgg68 Tryz.sizeOf68 (by repeat (first | exact List.Mem.head _ | apply List.Mem.tail)) rfl) (Split.none _) ⟨by rw [gotR, if_pos (by omega)]; rfl, rfl, rfl⟩
        ·
          refine RL.skip rfl rfl rfl rfl ?_
          refine RL.skip rfl rfl rfl rfl ?_
          refine RL.skip rfl rfl rfl rfl ?_
          refine RL.pickF rfl rfl rfl rfl rfl ?_
          refine RL.pickF rfl rfl rfl rfl rfl ?_
          refine RL.nil ?_
          refine NQ.seq ?_
          refine CW.only (.cons (k := 4) rfl (.cons (k := 8) rfl (.cons (k := 43) rfl .nil))) ?_
          refine CW.condF rfl rfl ?_
          refine CW.skip ?_
          refine NQ.seq ?_
          refine CW.seq ?_
          refine CW.region (ef := [1]) (bk := [1]) ?_
          refine RL.loadW Tryz.isAgg68 Tryz.sizeOf68 rfl rfl rfl rfl (by repeat (first | exact List.Mem.head _ | apply List.Mem.tail)) (by first | rfl | assumption | (simp only [List.length_map]; assumption) | (simp only [List.length_map, List.length_replicate]; done) | (simp; done)) ?_
          refine RL.storeW Tryz.sizeOf68 rfl rfl rfl rfl rfl rfl rfl (by first | rfl | exact ones_map one8 _ | exact ones_map (fun _ => rfl) _) (by repeat (first | exact Upd.here | apply Upd.there)) (by first | rfl | assumption | (simp only [List.length_map]; assumption) | (simp only [List.length_map, List.length_replicate]; done) | (simp; done)) (by first | rfl | assumption | (simp only [List.length_map]; assumption) | (simp only [List.length_map, List.length_replicate]; done) | (simp; done)) ?_
          refine RL.assign rfl rfl rfl rfl ?_
          refine RL.nil ?_
          refine NQ.seq ?_
          refine CW.ret ?_
          have h2 : ¬ (m : Int) = 10 := by simpa using h2
          exact RQ.post (resWT rfl rfl rfl Tryz.isAgg68 Tryz.sizeOf68 (by repeat (first | exact List.Mem.head _ | apply List.Mem.tail)) rfl) (Split.none _) ⟨by rw [gotR, if_pos (by omega)]; rfl, rfl, rfl⟩
  · have hs : sizeV k = .tuple #[.int .i64 0, .int .i64 120] := by rw [sizeV, if_neg hk]
    refine Spc.enter Tryz.func68 rfl rfl rfl (fun w0 hw0 => ?_)
    refine CW.seq ?_
    refine CW.region (ef := [0]) (bk := []) ?_
    refine RL.alloc Tryz.zeroValue68 rfl rfl rfl rfl rfl ?_
    intro b1
    refine RL.assign rfl rfl rfl rfl ?_
    refine RL.nil ?_
    refine NQ.seq ?_
    refine CW.seq ?_
    refine CW.region (ef := []) (bk := []) ?_
    refine RL.move rfl rfl rfl rfl ?_
    refine RL.callvq (size_any k) Tryz.call88 rfl rfl rfl rfl ?_
    refine RL.move rfl rfl rfl rfl ?_
    rw [hs]
    refine RL.extract rfl rfl rfl rfl rfl ?_
    refine RL.extract rfl rfl rfl rfl rfl ?_
    refine RL.assign rfl rfl rfl rfl ?_
    refine RL.assign rfl rfl rfl rfl ?_
    refine RL.nil ?_
    refine NQ.seq ?_
    refine CW.only (.cons (k := 0) rfl (.cons (k := 1) rfl (.cons (k := 4) rfl (.cons (k := 6) rfl (.cons (k := 7) rfl .nil))))) ?_
    refine CW.seq ?_
    refine CW.seq ?_
    refine CW.region (ef := []) (bk := []) ?_
    refine RL.move rfl rfl rfl rfl ?_
    refine RL.bin rfl rfl rfl rfl rfl rfl ?_
    refine RL.move rfl rfl rfl rfl ?_
    refine RL.cast (d := 17) (v' := .bool true) rfl (rfl) ?_
    refine RL.skip rfl rfl rfl rfl ?_
    refine RL.skip rfl rfl rfl rfl ?_
    refine RL.skip rfl rfl rfl rfl ?_
    refine RL.skip rfl rfl rfl rfl ?_
    refine RL.pickT rfl rfl rfl rfl rfl ?_
    refine RL.nil ?_
    refine NQ.seq ?_
    refine CW.only (.cons (k := 0) rfl (.cons (k := 1) rfl (.cons (k := 4) rfl (.cons (k := 22) rfl .nil)))) ?_
    refine CW.condT rfl rfl ?_
    refine CW.seq ?_
    refine CW.region (ef := [1]) (bk := [1]) ?_
    refine RL.buildS _ Tryz.zeroValue68 pl_68 rfl rfl rfl rfl rfl ?_
    refine RL.storeW Tryz.sizeOf68 rfl rfl rfl rfl rfl rfl rfl (by first | rfl | exact ones_map one8 _ | exact ones_map (fun _ => rfl) _) (by repeat (first | exact Upd.here | apply Upd.there)) (by first | rfl | assumption | (simp only [List.length_map]; assumption) | (simp only [List.length_map, List.length_replicate]; done) | (simp; done)) (by first | rfl | assumption | (simp only [List.length_map]; assumption) | (simp only [List.length_map, List.length_replicate]; done) | (simp; done)) ?_
    refine RL.assign rfl rfl rfl rfl ?_
    refine RL.nil ?_
    refine NQ.seq ?_
    refine CW.ret ?_
    refine RQ.seq ?_
    exact RQ.post (resWT rfl rfl rfl Tryz.isAgg68 Tryz.sizeOf68 (by repeat (first | exact List.Mem.head _ | apply List.Mem.tail)) rfl) (Split.none _) ⟨by rw [gotR, if_neg (by omega)]; rfl, rfl, rfl⟩
theorem get_any (k : Int) (p : Option Addr) (n c : Nat) (l : List B8) (hn : l.length = n) (hc : n ≤ c) (_ : n ≤ 1000000000) : Spc Tryz.prog 68 #[.int .i64 k, .slice p n c] [sls p 1 n (bytes l)] [] (Is (gotV (gotR k l))) := get_all k p n c l hn hc
end Go.Proofs.YtbdnebedmdoehaaGreat
