import Derived.Test.YtpaemkemknfmfaaGreatDoorVA
import Derived.Test.YtpaemkemknfmfaaGreatDoorOwnN
import Derived.Test.YtpaemkemknfmfaaGreatDoorWB
set_option linter.unusedVariables false
set_option linter.unusedSimpArgs false
namespace Go.Proofs.YtpaemkemknfmfaaGreatDoor
open Go.PK
/-! ### A reading, as the reference has it -/
def RdRR (ok : Bool) : Value → List It → List It → Prop := fun v I' H' => (∃ cs : List Value, v = .tuple #[.agg cs.toArray, .bool ok] ∧ cs.length = 57 ∧ ones cs = true) ∧ I' = [] ∧ H' = []
theorem Lies.tl {b q n c : Nat} {a : Tx} {r : List Tx} (hn : n = r.length + 1) (hc : n ≤ c) :
    Lies (sls (some ⟨b, q, none⟩) 1 n ((a :: r).map strV)) (sls (if c = 1 then some ⟨b, q, none⟩ else (some (⟨b, q, none⟩ : Addr)).map (·.add (1 * 1))) 1 (n - 1) (r.map strV)) := by
  have e : (((a :: r).map strV).drop (1 * 1)).take ((n - 1) * 1) = r.map strV := by
    show (r.map strV).take ((n - 1) * 1) = _
    exact List.take_of_length_le (by rw [List.length_map]; omega)
  have h : ∀ w, (sls (some ⟨b, q, none⟩) 1 n ((a :: r).map strV)).A w → _ := fun w hA => sls_sub (cap := c) (lo := 1) (k := n - 1) hA (by omega) hc
  rw [e] at h
  exact ⟨h, fun x hx => bs_sub (p := some ⟨b, q, none⟩) (sz := 1) (nn := n) (lo := 1) (k := n - 1) (cap := c) (xs := (a :: r).map strV) (ys := r.map strV) (by omega) x hx⟩
theorem allP1 {p : Pd} {r : List Tx} : allP [p] r = true → ∃ a, r = [a] ∧ p a = true := fun h => by
  match r with
  | [] => cases h
  | [a] => exact ⟨a, rfl, by simpa [allP] using h⟩
  | a :: b :: r => simp [allP] at h
theorem allP_len : ∀ {ps : List Pd} {r : List Tx}, allP ps r = true → r.length = ps.length := fun {ps r} h => by
  by_cases hh : ps.length = r.length
  · exact hh.symm
  · rw [allP_ne ps r hh] at h; cases h
theorem uOk_lim {m : Nat} {a : Tx} (hm : m ≤ 4294967295) : (uOk 4294967295 a && !decide ((((rnT a).getD 0 : Nat) : Int) > (m : Int))) = uOk m a := by
  rw [← rnB_eq (by omega), ← rnB_eq (by omega), rnB, rnB]
  cases rnT a with
  | none => rfl
  | some n =>
    show (decide (n ≤ 4294967295) && !decide ((n : Int) > (m : Int))) = decide (n ≤ m)
    rw [Bool.eq_iff_iff]
    simp
    omega
theorem allP_lim {m : Nat} (hm : m ≤ 4294967295) {r : List Tx} (h : ¬ allP [uOk 4294967295] r = true) : allP [uOk m] r = false := by
  cases hq : allP [uOk m] r with
  | false => rfl
  | true =>
    obtain ⟨a, rfl, ha⟩ := allP1 hq
    rw [← uOk_lim hm, Bool.and_eq_true] at ha
    exact absurd (by simp [allP, ha.1]) h
theorem rreading_any (b q n c : Nat) (nm : Tx) (r : List Tx) (hn : n = r.length + 1) (hc : n ≤ c) (hb : n ≤ 1000000) :
    Spc Tryz.prog 24 #[.slice (some ⟨b, q, none⟩) n c] [sls (some ⟨b, q, none⟩) 1 n ((nm :: r).map strV)] [] (RdRR (rdR nm r)) := by
  have hl := Lies.tl (b := b) (q := q) (a := nm) hn hc
  have hp : 0 < n - 1 → (if c = 1 then some (⟨b, q, none⟩ : Addr) else (some (⟨b, q, none⟩ : Addr)).map (·.add (1 * 1))) = some ⟨b, q + 1, none⟩ := fun h => by
    rw [if_neg (by omega), Option.map_some, add_none]
  refine Spc.enter Tryz.func24 rfl rfl rfl (fun w0 hw0 => ?_)
  refine CW.seq (CW.region (ef := [0]) (bk := []) (RL.alloc Tryz.zeroValue42 rfl rfl rfl rfl rfl ?_))
  intro b1
  refine RL.p rfl (RL.nil (NQ.seq (CW.seq (CW.rg (RL.p rfl (RL.slice (lo := 1) (hi := n) Tryz.runUnderlying27 Tryz.sizeOf9 rfl rfl rfl rfl rfl rfl (by omega) hc ?_))))))
  refine RL.p rfl (RL.nil (NQ.seq (CW.seq (CW.sub hl (by repeat (first | exact List.Mem.head _ | apply List.Mem.tail)) ?_))))
  generalize (if c = 1 then some (⟨b, q, none⟩ : Addr) else (some (⟨b, q, none⟩ : Addr)).map (·.add (1 * 1))) = p' at hp hl ⊢
  refine CW.rg (RL.p rfl (RL.idxAt (j := 0) Tryz.runUnderlying27 Tryz.sizeOf9 rfl rfl rfl rfl rfl rfl (by omega) ?_))
  refine RL.load Tryz.isAgg9 rfl rfl rfl rfl (slsRdQ (L := nm :: r) (j := 0) (by repeat (first | exact List.Mem.head _ | apply List.Mem.tail)) rfl) ?_
  refine RL.nil (NQ.seq (CW.ok [2, 4, 9] rfl (CW.block (CW.seq (CW.rg (RL.cmp rfl rfl rfl rfl rfl (fun w => eql_txt nm wImu w) ?_))))))
  refine RL.p rfl (RL.nil (NQ.seq ?_))
  refine CW.cond rfl (fun g0 => ?_) (fun g0 => ?_)
  · have e : nm = wImu := by simpa using g0
    have hr : rdR nm r = allP (([105#8, 105#8, 105#8, 105#8, 105#8, 105#8] : Tx).map kP) r := by rw [e]; rfl
    refine CW.seq (CW.seq (CW.rg (RL.p rfl (RL.callvq (rall_any p' (n - 1) (c - 1) r [105#8, 105#8, 105#8, 105#8, 105#8, 105#8] (by omega) (by omega) (by decide) (fun h => ⟨b, q + 1, hp h⟩)) Tryz.call25 rfl rfl rfl rfl ?_))))
    refine RL.p rfl (RL.nil (NQ.seq ?_))
    refine CW.cond rfl (fun ha => ?_) (fun ha => ?_)
    · have ha' : rdR nm r = false := by rw [hr]; simpa using ha
      refine CW.seq (CW.region (ef := [1]) (bk := [1]) (RL.buildS _ Tryz.zeroValue42 pl_42 rfl rfl rfl rfl rfl (RL.storeWq Tryz.sizeOf42 rfl rfl rfl rfl rfl rfl rfl ?_)))
      refine RL.p rfl (RL.nil (NQ.seq (CW.ok [2, 3, 4] rfl (CW.ret (RQ.seq (RQ.block ?_))))))
      exact RQ.post (resWT rfl rfl rfl Tryz.isAgg42 Tryz.sizeOf42 (by repeat (first | exact List.Mem.head _ | apply List.Mem.tail)) rfl) (Split.none _) ⟨⟨_, by rw [ha'], rfl, rfl⟩, rfl, rfl⟩
    · have ha' : allP (([105#8, 105#8, 105#8, 105#8, 105#8, 105#8] : Tx).map kP) r = true := by simpa using ha
      have hln : r.length = 6 := allP_len ha'
      have hpp := hp (by omega)
      obtain ⟨x0, e0⟩ : ∃ x, r[0]? = some x := ⟨_, List.getElem?_eq_getElem (by omega)⟩
      obtain ⟨x1, e1⟩ : ∃ x, r[1]? = some x := ⟨_, List.getElem?_eq_getElem (by omega)⟩
      obtain ⟨x2, e2⟩ : ∃ x, r[2]? = some x := ⟨_, List.getElem?_eq_getElem (by omega)⟩
      obtain ⟨x3, e3⟩ : ∃ x, r[3]? = some x := ⟨_, List.getElem?_eq_getElem (by omega)⟩
      obtain ⟨x4, e4⟩ : ∃ x, r[4]? = some x := ⟨_, List.getElem?_eq_getElem (by omega)⟩
      obtain ⟨x5, e5⟩ : ∃ x, r[5]? = some x := ⟨_, List.getElem?_eq_getElem (by omega)⟩
      subst hpp
      refine CW.skip (NQ.seq (CW.ok [2, 4] rfl (CW.seq (CW.regionD (Sq.of [0, 1, 2, 3, 4, 5, 6, 7, 8, 9, 10, 11, 12, 13, 14, 15, 16, 17, 18, 19, 20, 21, 22, 23, 24, 25, 26, 27, 28]) [27] [27] [0, 1, 4, 5, 8, 9, 12, 13, 14, 17, 18, 21, 22, 25, 26, 28] mixed (by kernel_rfl) ?_))))
      refine RL.p rfl (RL.idxAt (j := 0) Tryz.runUnderlying27 Tryz.sizeOf9 rfl rfl rfl rfl rfl rfl (by omega) ?_)
      refine RL.load Tryz.isAgg9 rfl rfl rfl rfl (slsRdQ (L := r) (j := 0) (by repeat (first | exact List.Mem.head _ | apply List.Mem.tail)) e0) ?_
      refine RL.callvq (rsmall_any x0) Tryz.call37 rfl rfl rfl rfl ?_
      refine RL.p rfl (RL.idxAt (j := 1) Tryz.runUnderlying27 Tryz.sizeOf9 rfl rfl rfl rfl rfl rfl (by omega) ?_)
      refine RL.load Tryz.isAgg9 rfl rfl rfl rfl (slsRdQ (L := r) (j := 1) (by repeat (first | exact List.Mem.head _ | apply List.Mem.tail)) e1) ?_
      refine RL.callvq (rsmall_any x1) Tryz.call37 rfl rfl rfl rfl ?_
      refine RL.p rfl (RL.idxAt (j := 2) Tryz.runUnderlying27 Tryz.sizeOf9 rfl rfl rfl rfl rfl rfl (by omega) ?_)
      refine RL.load Tryz.isAgg9 rfl rfl rfl rfl (slsRdQ (L := r) (j := 2) (by repeat (first | exact List.Mem.head _ | apply List.Mem.tail)) e2) ?_
      refine RL.callvq (rsmall_any x2) Tryz.call37 rfl rfl rfl rfl ?_
      refine RL.buildA [_, _, _] Tryz.zeroValue32 Tryz.runUnderlying32 Tryz.sizeOf31 rfl rfl rfl rfl rfl (RL.p rfl (RL.idxAt (j := 3) Tryz.runUnderlying27 Tryz.sizeOf9 rfl rfl rfl rfl rfl rfl (by omega) ?_))
      refine RL.load Tryz.isAgg9 rfl rfl rfl rfl (slsRdQ (L := r) (j := 3) (by repeat (first | exact List.Mem.head _ | apply List.Mem.tail)) e3) ?_
      refine RL.callvq (rsmall_any x3) Tryz.call37 rfl rfl rfl rfl ?_
      refine RL.p rfl (RL.idxAt (j := 4) Tryz.runUnderlying27 Tryz.sizeOf9 rfl rfl rfl rfl rfl rfl (by omega) ?_)
      refine RL.load Tryz.isAgg9 rfl rfl rfl rfl (slsRdQ (L := r) (j := 4) (by repeat (first | exact List.Mem.head _ | apply List.Mem.tail)) e4) ?_
      refine RL.callvq (rsmall_any x4) Tryz.call37 rfl rfl rfl rfl ?_
      refine RL.p rfl (RL.idxAt (j := 5) Tryz.runUnderlying27 Tryz.sizeOf9 rfl rfl rfl rfl rfl rfl (by omega) ?_)
      refine RL.load Tryz.isAgg9 rfl rfl rfl rfl (slsRdQ (L := r) (j := 5) (by repeat (first | exact List.Mem.head _ | apply List.Mem.tail)) e5) ?_
      refine RL.callvq (rsmall_any x5) Tryz.call37 rfl rfl rfl rfl ?_
      refine RL.buildA [_, _, _] Tryz.zeroValue32 Tryz.runUnderlying32 Tryz.sizeOf31 rfl rfl rfl rfl rfl (RL.buildS [.int .i64 1, _, _, _, _, _, _, .int .i64 0, .int .u32 0, .int .i32 0, .int .u32 0, .int .u32 0, .int .u8 0, .int .i64 0, .int .i64 0, .int .i64 0, .int .u8 0, .int .u8 0, .int .u8 0, .int .u8 0, .int .u8 0, .int .u8 0, .int .u8 0, .int .u8 0, .int .u8 0, .int .u8 0, .int .u8 0, .int .u8 0, .int .u8 0, .int .u8 0, .int .u8 0, .int .u8 0, .int .u8 0, .int .u8 0, .int .u8 0, .int .u8 0, .int .u8 0, .int .u8 0, .int .u8 0, .int .u8 0, .int .u8 0, .int .u8 0, .int .u8 0, .int .u8 0, .int .u8 0, .int .u8 0, .int .u8 0, .int .u8 0, .int .u64 0, .int .u8 0, .int .u32 0, .int .i64 0, .int .u32 0, .int .u8 0, .int .u8 0, .int .u16 0, .int .u64 0] Tryz.zeroValue42 pl_42 rfl rfl rfl rfl rfl (RL.storeWq Tryz.sizeOf42 rfl rfl rfl rfl rfl rfl rfl ?_))
      refine RL.p rfl (RL.nil (NQ.seq (CW.ok [2, 3] rfl (CW.ret (RQ.block ?_)))))
      exact RQ.post (resWT rfl rfl rfl Tryz.isAgg42 Tryz.sizeOf42 (by repeat (first | exact List.Mem.head _ | apply List.Mem.tail)) rfl) (Split.none _) ⟨⟨_, by rw [hr, ha'], rfl, rfl⟩, rfl, rfl⟩
  · have n0 : nm ≠ wImu := by simpa using g0
    refine CW.seq (CW.rg (RL.cmp rfl rfl rfl rfl rfl (fun w => eql_txt nm wBaro w) ?_))
    refine RL.p rfl (RL.nil (NQ.seq ?_))
    refine CW.cond rfl (fun g1 => ?_) (fun g1 => ?_)
    · have e : nm = wBaro := by simpa using g1
      have hr : rdR nm r = allP (([115#8] : Tx).map kP) r := by rw [e]; rfl
      refine CW.seq (CW.seq (CW.rg (RL.p rfl (RL.callvq (rall_any p' (n - 1) (c - 1) r [115#8] (by omega) (by omega) (by decide) (fun h => ⟨b, q + 1, hp h⟩)) Tryz.call25 rfl rfl rfl rfl ?_))))
      refine RL.p rfl (RL.nil (NQ.seq (CW.ok [2, 4, 48] rfl ?_)))
      refine CW.cond rfl (fun ha => ?_) (fun ha => ?_)
      · have ha' : rdR nm r = false := by rw [hr]; simpa using ha
        refine CW.seq (CW.region (ef := [1]) (bk := [1]) (RL.buildS _ Tryz.zeroValue42 pl_42 rfl rfl rfl rfl rfl (RL.storeWq Tryz.sizeOf42 rfl rfl rfl rfl rfl rfl rfl ?_)))
        refine RL.p rfl (RL.nil (NQ.seq (CW.ret (RQ.seq (RQ.block ?_)))))
        exact RQ.post (resWT rfl rfl rfl Tryz.isAgg42 Tryz.sizeOf42 (by repeat (first | exact List.Mem.head _ | apply List.Mem.tail)) rfl) (Split.none _) ⟨⟨_, by rw [ha'], rfl, rfl⟩, rfl, rfl⟩
      · have ha' : allP (([115#8] : Tx).map kP) r = true := by simpa using ha
        have hln : r.length = 1 := allP_len ha'
        have hpp := hp (by omega)
        obtain ⟨x0, e0⟩ : ∃ x, r[0]? = some x := ⟨_, List.getElem?_eq_getElem (by omega)⟩
        subst hpp
        refine CW.skip (NQ.seq (CW.seq (CW.region (ef := [5]) (bk := [5]) (RL.p rfl (RL.idxAt (j := 0) Tryz.runUnderlying27 Tryz.sizeOf9 rfl rfl rfl rfl rfl rfl (by omega) ?_)))))
        refine RL.load Tryz.isAgg9 rfl rfl rfl rfl (slsRdQ (L := r) (j := 0) (by repeat (first | exact List.Mem.head _ | apply List.Mem.tail)) e0) ?_
        refine RL.callvq (rwide_any x0) Tryz.call38 rfl rfl rfl rfl ?_
        refine RL.buildS [.int .i64 2, .int .i32 0, .int .i32 0, .int .i32 0, .int .i32 0, .int .i32 0, .int .i32 0, _, .int .u32 0, .int .i32 0, .int .u32 0, .int .u32 0, .int .u8 0, .int .i64 0, .int .i64 0, .int .i64 0, .int .u8 0, .int .u8 0, .int .u8 0, .int .u8 0, .int .u8 0, .int .u8 0, .int .u8 0, .int .u8 0, .int .u8 0, .int .u8 0, .int .u8 0, .int .u8 0, .int .u8 0, .int .u8 0, .int .u8 0, .int .u8 0, .int .u8 0, .int .u8 0, .int .u8 0, .int .u8 0, .int .u8 0, .int .u8 0, .int .u8 0, .int .u8 0, .int .u8 0, .int .u8 0, .int .u8 0, .int .u8 0, .int .u8 0, .int .u8 0, .int .u8 0, .int .u8 0, .int .u64 0, .int .u8 0, .int .u32 0, .int .i64 0, .int .u32 0, .int .u8 0, .int .u8 0, .int .u16 0, .int .u64 0] Tryz.zeroValue42 pl_42 rfl rfl rfl rfl rfl (RL.storeWq Tryz.sizeOf42 rfl rfl rfl rfl rfl rfl rfl ?_)
        refine RL.p rfl (RL.nil (NQ.seq (CW.ok [2, 3] rfl (CW.ret (RQ.block ?_)))))
        exact RQ.post (resWT rfl rfl rfl Tryz.isAgg42 Tryz.sizeOf42 (by repeat (first | exact List.Mem.head _ | apply List.Mem.tail)) rfl) (Split.none _) ⟨⟨_, by rw [hr, ha'], rfl, rfl⟩, rfl, rfl⟩
    · have n1 : nm ≠ wBaro := by simpa using g1
      refine CW.seq (CW.rg (RL.cmp rfl rfl rfl rfl rfl (fun w => eql_txt nm wMag w) ?_))
      refine RL.p rfl (RL.nil (NQ.seq ?_))
      refine CW.cond rfl (fun g2 => ?_) (fun g2 => ?_)
      · have e : nm = wMag := by simpa using g2
        have hr : rdR nm r = allP (([119#8] : Tx).map kP) r := by rw [e]; rfl
        refine CW.seq (CW.seq (CW.rg (RL.p rfl (RL.callvq (rall_any p' (n - 1) (c - 1) r [119#8] (by omega) (by omega) (by decide) (fun h => ⟨b, q + 1, hp h⟩)) Tryz.call25 rfl rfl rfl rfl ?_))))
        refine RL.p rfl (RL.nil (NQ.seq (CW.ok [2, 4, 59] rfl ?_)))
        refine CW.cond rfl (fun ha => ?_) (fun ha => ?_)
        · have ha' : rdR nm r = false := by rw [hr]; simpa using ha
          refine CW.seq (CW.region (ef := [1]) (bk := [1]) (RL.buildS _ Tryz.zeroValue42 pl_42 rfl rfl rfl rfl rfl (RL.storeWq Tryz.sizeOf42 rfl rfl rfl rfl rfl rfl rfl ?_)))
          refine RL.p rfl (RL.nil (NQ.seq (CW.ret (RQ.seq (RQ.block ?_)))))
          exact RQ.post (resWT rfl rfl rfl Tryz.isAgg42 Tryz.sizeOf42 (by repeat (first | exact List.Mem.head _ | apply List.Mem.tail)) rfl) (Split.none _) ⟨⟨_, by rw [ha'], rfl, rfl⟩, rfl, rfl⟩
        · have ha' : allP (([119#8] : Tx).map kP) r = true := by simpa using ha
          have hln : r.length = 1 := allP_len ha'
          have hpp := hp (by omega)
          obtain ⟨x0, e0⟩ : ∃ x, r[0]? = some x := ⟨_, List.getElem?_eq_getElem (by omega)⟩
          subst hpp
          refine CW.skip (NQ.seq (CW.seq (CW.region (ef := [6]) (bk := [6]) (RL.p rfl (RL.idxAt (j := 0) Tryz.runUnderlying27 Tryz.sizeOf9 rfl rfl rfl rfl rfl rfl (by omega) ?_)))))
          refine RL.load Tryz.isAgg9 rfl rfl rfl rfl (slsRdQ (L := r) (j := 0) (by repeat (first | exact List.Mem.head _ | apply List.Mem.tail)) e0) ?_
          refine RL.callvq (rbare_any x0) Tryz.call15 rfl rfl rfl rfl ?_
          refine RL.conv Tryz.runUnderlying39 Tryz.runUnderlying34 rfl rfl rfl rfl (RL.buildS [.int .i64 3, .int .i32 0, .int .i32 0, .int .i32 0, .int .i32 0, .int .i32 0, .int .i32 0, .int .i64 0, _, .int .i32 0, .int .u32 0, .int .u32 0, .int .u8 0, .int .i64 0, .int .i64 0, .int .i64 0, .int .u8 0, .int .u8 0, .int .u8 0, .int .u8 0, .int .u8 0, .int .u8 0, .int .u8 0, .int .u8 0, .int .u8 0, .int .u8 0, .int .u8 0, .int .u8 0, .int .u8 0, .int .u8 0, .int .u8 0, .int .u8 0, .int .u8 0, .int .u8 0, .int .u8 0, .int .u8 0, .int .u8 0, .int .u8 0, .int .u8 0, .int .u8 0, .int .u8 0, .int .u8 0, .int .u8 0, .int .u8 0, .int .u8 0, .int .u8 0, .int .u8 0, .int .u8 0, .int .u64 0, .int .u8 0, .int .u32 0, .int .i64 0, .int .u32 0, .int .u8 0, .int .u8 0, .int .u16 0, .int .u64 0] Tryz.zeroValue42 pl_42 rfl rfl rfl rfl rfl (RL.storeWq Tryz.sizeOf42 rfl rfl rfl rfl rfl rfl rfl ?_))
          refine RL.p rfl (RL.nil (NQ.seq (CW.ok [2, 3] rfl (CW.ret (RQ.block ?_)))))
          exact RQ.post (resWT rfl rfl rfl Tryz.isAgg42 Tryz.sizeOf42 (by repeat (first | exact List.Mem.head _ | apply List.Mem.tail)) rfl) (Split.none _) ⟨⟨_, by rw [hr, ha'], rfl, rfl⟩, rfl, rfl⟩
      · have n2 : nm ≠ wMag := by simpa using g2
        refine CW.seq (CW.rg (RL.cmp rfl rfl rfl rfl rfl (fun w => eql_txt nm wOdo w) ?_))
        refine RL.p rfl (RL.nil (NQ.seq (CW.ok [2, 4, 9, 67] rfl ?_)))
        refine CW.cond rfl (fun g3 => ?_) (fun g3 => ?_)
        · have e : nm = wOdo := by simpa using g3
          have hr : rdR nm r = allP (([105#8, 119#8] : Tx).map kP) r := by rw [e]; rfl
          refine CW.seq (CW.seq (CW.rg (RL.p rfl (RL.callvq (rall_any p' (n - 1) (c - 1) r [105#8, 119#8] (by omega) (by omega) (by decide) (fun h => ⟨b, q + 1, hp h⟩)) Tryz.call25 rfl rfl rfl rfl ?_))))
          refine RL.p rfl (RL.nil (NQ.seq ?_))
          refine CW.cond rfl (fun ha => ?_) (fun ha => ?_)
          · have ha' : rdR nm r = false := by rw [hr]; simpa using ha
            refine CW.seq (CW.region (ef := [1]) (bk := [1]) (RL.buildS _ Tryz.zeroValue42 pl_42 rfl rfl rfl rfl rfl (RL.storeWq Tryz.sizeOf42 rfl rfl rfl rfl rfl rfl rfl ?_)))
            refine RL.p rfl (RL.nil (NQ.seq (CW.ok [2, 3, 4] rfl (CW.ret (RQ.seq (RQ.block ?_))))))
            exact RQ.post (resWT rfl rfl rfl Tryz.isAgg42 Tryz.sizeOf42 (by repeat (first | exact List.Mem.head _ | apply List.Mem.tail)) rfl) (Split.none _) ⟨⟨_, by rw [ha'], rfl, rfl⟩, rfl, rfl⟩
          · have ha' : allP (([105#8, 119#8] : Tx).map kP) r = true := by simpa using ha
            have hln : r.length = 2 := allP_len ha'
            have hpp := hp (by omega)
            obtain ⟨x0, e0⟩ : ∃ x, r[0]? = some x := ⟨_, List.getElem?_eq_getElem (by omega)⟩
            obtain ⟨x1, e1⟩ : ∃ x, r[1]? = some x := ⟨_, List.getElem?_eq_getElem (by omega)⟩
            subst hpp
            refine CW.skip (NQ.seq (CW.seq (CW.regionD (Sq.of [0, 1, 2, 3, 4, 5, 6, 7, 8, 9, 10, 11]) [10] [10] [0, 1, 4, 5, 8, 9, 11] mixed (by kernel_rfl) ?_)))
            refine RL.p rfl (RL.idxAt (j := 0) Tryz.runUnderlying27 Tryz.sizeOf9 rfl rfl rfl rfl rfl rfl (by omega) ?_)
            refine RL.load Tryz.isAgg9 rfl rfl rfl rfl (slsRdQ (L := r) (j := 0) (by repeat (first | exact List.Mem.head _ | apply List.Mem.tail)) e0) ?_
            refine RL.callvq (rsmall_any x0) Tryz.call37 rfl rfl rfl rfl ?_
            refine RL.p rfl (RL.idxAt (j := 1) Tryz.runUnderlying27 Tryz.sizeOf9 rfl rfl rfl rfl rfl rfl (by omega) ?_)
            refine RL.load Tryz.isAgg9 rfl rfl rfl rfl (slsRdQ (L := r) (j := 1) (by repeat (first | exact List.Mem.head _ | apply List.Mem.tail)) e1) ?_
            refine RL.callvq (rbare_any x1) Tryz.call15 rfl rfl rfl rfl ?_
            refine RL.conv Tryz.runUnderlying39 Tryz.runUnderlying34 rfl rfl rfl rfl (RL.buildS [.int .i64 4, .int .i32 0, .int .i32 0, .int .i32 0, .int .i32 0, .int .i32 0, .int .i32 0, .int .i64 0, .int .u32 0, _, _, .int .u32 0, .int .u8 0, .int .i64 0, .int .i64 0, .int .i64 0, .int .u8 0, .int .u8 0, .int .u8 0, .int .u8 0, .int .u8 0, .int .u8 0, .int .u8 0, .int .u8 0, .int .u8 0, .int .u8 0, .int .u8 0, .int .u8 0, .int .u8 0, .int .u8 0, .int .u8 0, .int .u8 0, .int .u8 0, .int .u8 0, .int .u8 0, .int .u8 0, .int .u8 0, .int .u8 0, .int .u8 0, .int .u8 0, .int .u8 0, .int .u8 0, .int .u8 0, .int .u8 0, .int .u8 0, .int .u8 0, .int .u8 0, .int .u8 0, .int .u64 0, .int .u8 0, .int .u32 0, .int .i64 0, .int .u32 0, .int .u8 0, .int .u8 0, .int .u16 0, .int .u64 0] Tryz.zeroValue42 pl_42 rfl rfl rfl rfl rfl (RL.storeWq Tryz.sizeOf42 rfl rfl rfl rfl rfl rfl rfl ?_))
            refine RL.p rfl (RL.nil (NQ.seq (CW.ok [2, 3] rfl (CW.ret (RQ.block ?_)))))
            exact RQ.post (resWT rfl rfl rfl Tryz.isAgg42 Tryz.sizeOf42 (by repeat (first | exact List.Mem.head _ | apply List.Mem.tail)) rfl) (Split.none _) ⟨⟨_, by rw [hr, ha'], rfl, rfl⟩, rfl, rfl⟩
        · have n3 : nm ≠ wOdo := by simpa using g3
          refine CW.seq (CW.rg (RL.cmp rfl rfl rfl rfl rfl (fun w => eql_txt nm wBeacon w) ?_))
          refine RL.p rfl (RL.nil (NQ.seq ?_))
          refine CW.cond rfl (fun g4 => ?_) (fun g4 => ?_)
          · have e : nm = wBeacon := by simpa using g4
            have hr : rdR nm r = allP (([117#8] : Tx).map kP) r := by rw [e]; rfl
            refine CW.seq (CW.seq (CW.rg (RL.p rfl (RL.callvq (rall_any p' (n - 1) (c - 1) r [117#8] (by omega) (by omega) (by decide) (fun h => ⟨b, q + 1, hp h⟩)) Tryz.call25 rfl rfl rfl rfl ?_))))
            refine RL.p rfl (RL.nil (NQ.seq (CW.ok [2, 4, 87] rfl ?_)))
            refine CW.cond rfl (fun ha => ?_) (fun ha => ?_)
            · have ha' : rdR nm r = false := by rw [hr]; simpa using ha
              refine CW.seq (CW.region (ef := [1]) (bk := [1]) (RL.buildS _ Tryz.zeroValue42 pl_42 rfl rfl rfl rfl rfl (RL.storeWq Tryz.sizeOf42 rfl rfl rfl rfl rfl rfl rfl ?_)))
              refine RL.p rfl (RL.nil (NQ.seq (CW.ret (RQ.seq (RQ.block ?_)))))
              exact RQ.post (resWT rfl rfl rfl Tryz.isAgg42 Tryz.sizeOf42 (by repeat (first | exact List.Mem.head _ | apply List.Mem.tail)) rfl) (Split.none _) ⟨⟨_, by rw [ha'], rfl, rfl⟩, rfl, rfl⟩
            · have ha' : allP (([117#8] : Tx).map kP) r = true := by simpa using ha
              have hln : r.length = 1 := allP_len ha'
              have hpp := hp (by omega)
              obtain ⟨x0, e0⟩ : ∃ x, r[0]? = some x := ⟨_, List.getElem?_eq_getElem (by omega)⟩
              subst hpp
              refine CW.skip (NQ.seq (CW.seq (CW.region (ef := [5]) (bk := [5]) (RL.p rfl (RL.idxAt (j := 0) Tryz.runUnderlying27 Tryz.sizeOf9 rfl rfl rfl rfl rfl rfl (by omega) ?_)))))
              refine RL.load Tryz.isAgg9 rfl rfl rfl rfl (slsRdQ (L := r) (j := 0) (by repeat (first | exact List.Mem.head _ | apply List.Mem.tail)) e0) ?_
              refine RL.callvq (rbare_any x0) Tryz.call15 rfl rfl rfl rfl ?_
              refine RL.buildS [.int .i64 7, .int .i32 0, .int .i32 0, .int .i32 0, .int .i32 0, .int .i32 0, .int .i32 0, .int .i64 0, .int .u32 0, .int .i32 0, .int .u32 0, .int .u32 0, .int .u8 0, .int .i64 0, .int .i64 0, .int .i64 0, .int .u8 0, .int .u8 0, .int .u8 0, .int .u8 0, .int .u8 0, .int .u8 0, .int .u8 0, .int .u8 0, .int .u8 0, .int .u8 0, .int .u8 0, .int .u8 0, .int .u8 0, .int .u8 0, .int .u8 0, .int .u8 0, .int .u8 0, .int .u8 0, .int .u8 0, .int .u8 0, .int .u8 0, .int .u8 0, .int .u8 0, .int .u8 0, .int .u8 0, .int .u8 0, .int .u8 0, .int .u8 0, .int .u8 0, .int .u8 0, .int .u8 0, .int .u8 0, _, .int .u8 0, .int .u32 0, .int .i64 0, .int .u32 0, .int .u8 0, .int .u8 0, .int .u16 0, .int .u64 0] Tryz.zeroValue42 pl_42 rfl rfl rfl rfl rfl (RL.storeWq Tryz.sizeOf42 rfl rfl rfl rfl rfl rfl rfl ?_)
              refine RL.p rfl (RL.nil (NQ.seq (CW.ok [2, 3] rfl (CW.ret (RQ.block ?_)))))
              exact RQ.post (resWT rfl rfl rfl Tryz.isAgg42 Tryz.sizeOf42 (by repeat (first | exact List.Mem.head _ | apply List.Mem.tail)) rfl) (Split.none _) ⟨⟨_, by rw [hr, ha'], rfl, rfl⟩, rfl, rfl⟩
          · have n4 : nm ≠ wBeacon := by simpa using g4
            refine CW.seq (CW.rg (RL.cmp rfl rfl rfl rfl rfl (fun w => eql_txt nm wMode w) ?_))
            refine RL.p rfl (RL.nil (NQ.seq ?_))
            refine CW.cond rfl (fun g5 => ?_) (fun g5 => ?_)
            · have e : nm = wMode := by simpa using g5
              have hr : rdR nm r = allP [uOk 2] r := by rw [e]; rfl
              have hg := rall_any p' (n - 1) (c - 1) r [119#8] (by omega) (by omega) (by decide) (fun h => ⟨b, q + 1, hp h⟩)
              have hf : ∀ x, r = [x] → uOk 4294967295 x = true → (!decide ((((rnT x).getD 0 : Nat) : Int) > (2 : Int))) = rdR nm r := fun x h1 h2 => by
                have h3 := uOk_lim (m := 2) (a := x) (by decide)
                rw [h2, Bool.true_and] at h3
                rw [hr, h1]
                show _ = (uOk 2 x && true)
                rw [Bool.and_true, ← h3]; rfl
              by_cases ha : allP (([119#8] : Tx).map kP) r = true
              · rw [ha] at hg
                obtain ⟨x0, rfl, hx⟩ := allP1 (p := uOk 4294967295) ha
                have hn2 : n = 2 := hn
                have hpp := hp (by omega)
                have e0 : ([x0] : List Tx)[0]? = some x0 := rfl
                have hf := hf x0 rfl hx
                subst hpp
                refine CW.seq (CW.seq (CW.rg (RL.p rfl (RL.callvq (hg) Tryz.call25 rfl rfl rfl rfl ?_))))
                refine RL.p rfl (RL.p rfl (RL.cast (d := 99) (v' := .bool false) rfl (rfl) ?_))
                refine RL.p rfl (RL.idxAt (j := 0) Tryz.runUnderlying27 Tryz.sizeOf9 rfl rfl rfl rfl rfl rfl (by omega) ?_)
                refine RL.load Tryz.isAgg9 rfl rfl rfl rfl (slsRdQ (L := [x0]) (j := 0) (by repeat (first | exact List.Mem.head _ | apply List.Mem.tail)) e0) ?_
                refine RL.callvq (rbare_any x0) Tryz.call15 rfl rfl rfl rfl ?_
                refine RL.p rfl (RL.p rfl (RL.nil (NQ.seq (CW.ok [2, 4, 105] rfl ?_))))
                refine CW.cond rfl (fun hm => ?_) (fun hm => ?_)
                · have hz : rdR nm [x0] = false := by rw [← hf, show decide ((((rnT x0).getD 0 : Nat) : Int) > (2 : Int)) = true from hm]; rfl
                  refine CW.seq (CW.region (ef := [1]) (bk := [1]) (RL.buildS _ Tryz.zeroValue42 pl_42 rfl rfl rfl rfl rfl (RL.storeWq Tryz.sizeOf42 rfl rfl rfl rfl rfl rfl rfl ?_)))
                  refine RL.p rfl (RL.nil (NQ.seq (CW.ret (RQ.seq (RQ.block ?_)))))
                  exact RQ.post (resWT rfl rfl rfl Tryz.isAgg42 Tryz.sizeOf42 (by repeat (first | exact List.Mem.head _ | apply List.Mem.tail)) rfl) (Split.none _) ⟨⟨_, by rw [hz], rfl, rfl⟩, rfl, rfl⟩
                · have hz : rdR nm [x0] = true := by rw [← hf, show decide ((((rnT x0).getD 0 : Nat) : Int) > (2 : Int)) = false from hm]; rfl
                  refine CW.skip (NQ.seq (CW.seq (CW.region (ef := [6]) (bk := [6]) (RL.p rfl (RL.idxAt (j := 0) Tryz.runUnderlying27 Tryz.sizeOf9 rfl rfl rfl rfl rfl rfl (by omega) ?_)))))
                  refine RL.load Tryz.isAgg9 rfl rfl rfl rfl (slsRdQ (L := [x0]) (j := 0) (by repeat (first | exact List.Mem.head _ | apply List.Mem.tail)) e0) ?_
                  refine RL.callvq (rbare_any x0) Tryz.call15 rfl rfl rfl rfl ?_
                  refine RL.conv Tryz.runUnderlying39 Tryz.runUnderlying5 rfl rfl rfl rfl (RL.buildS [.int .i64 8, .int .i32 0, .int .i32 0, .int .i32 0, .int .i32 0, .int .i32 0, .int .i32 0, .int .i64 0, .int .u32 0, .int .i32 0, .int .u32 0, .int .u32 0, .int .u8 0, .int .i64 0, .int .i64 0, .int .i64 0, .int .u8 0, .int .u8 0, .int .u8 0, .int .u8 0, .int .u8 0, .int .u8 0, .int .u8 0, .int .u8 0, .int .u8 0, .int .u8 0, .int .u8 0, .int .u8 0, .int .u8 0, .int .u8 0, .int .u8 0, .int .u8 0, .int .u8 0, .int .u8 0, .int .u8 0, .int .u8 0, .int .u8 0, .int .u8 0, .int .u8 0, .int .u8 0, .int .u8 0, .int .u8 0, .int .u8 0, .int .u8 0, .int .u8 0, .int .u8 0, .int .u8 0, .int .u8 0, .int .u64 0, _, .int .u32 0, .int .i64 0, .int .u32 0, .int .u8 0, .int .u8 0, .int .u16 0, .int .u64 0] Tryz.zeroValue42 pl_42 rfl rfl rfl rfl rfl (RL.storeWq Tryz.sizeOf42 rfl rfl rfl rfl rfl rfl rfl ?_))
                  refine RL.p rfl (RL.nil (NQ.seq (CW.ok [2, 3] rfl (CW.ret (RQ.block ?_)))))
                  exact RQ.post (resWT rfl rfl rfl Tryz.isAgg42 Tryz.sizeOf42 (by repeat (first | exact List.Mem.head _ | apply List.Mem.tail)) rfl) (Split.none _) ⟨⟨_, by rw [hz], rfl, rfl⟩, rfl, rfl⟩
              · have hz : rdR nm r = false := by rw [hr]; exact allP_lim (by decide) ha
                rw [Bool.eq_false_iff.2 ha] at hg
                refine CW.seq (CW.seq (CW.rg (RL.p rfl (RL.callvq (hg) Tryz.call25 rfl rfl rfl rfl ?_))))
                refine RL.p rfl (RL.p rfl (RL.cast (d := 99) (v' := .bool true) rfl (rfl) ?_))
                refine RL.p rfl (RL.p rfl (RL.p rfl (RL.p rfl (RL.p rfl (RL.p rfl (RL.nil (NQ.seq (CW.ok [2, 4, 105] rfl (CW.condT rfl rfl (CW.seq (CW.region (ef := [1]) (bk := [1]) (RL.buildS _ Tryz.zeroValue42 pl_42 rfl rfl rfl rfl rfl (RL.storeWq Tryz.sizeOf42 rfl rfl rfl rfl rfl rfl rfl ?_)))))))))))))
                refine RL.p rfl (RL.nil (NQ.seq (CW.ret (RQ.seq (RQ.block ?_)))))
                exact RQ.post (resWT rfl rfl rfl Tryz.isAgg42 Tryz.sizeOf42 (by repeat (first | exact List.Mem.head _ | apply List.Mem.tail)) rfl) (Split.none _) ⟨⟨_, by rw [hz], rfl, rfl⟩, rfl, rfl⟩
            · have n5 : nm ≠ wMode := by simpa using g5
              refine CW.seq (CW.rg (RL.cmp rfl rfl rfl rfl rfl (fun w => eql_txt nm wReset w) ?_))
              refine RL.p rfl (RL.nil (NQ.seq (CW.ok [2, 4, 9, 113] rfl ?_)))
              refine CW.cond rfl (fun g6 => ?_) (fun g6 => ?_)
              · have e : nm = wReset := by simpa using g6
                have hr : (((n - 1 : Nat) : Int) == 0) = rdR nm r := by
                  rw [e, show rdR wReset r = allP [] r from rfl, Bool.eq_iff_iff, beq_iff_eq]
                  cases r with
                  | nil => simp [allP, hn]
                  | cons a r => simp only [List.length_cons] at hn; simp [allP]; omega
                refine CW.seq (CW.region (ef := [4]) (bk := [4]) (RL.buildS [.int .i64 9, .int .i32 0, .int .i32 0, .int .i32 0, .int .i32 0, .int .i32 0, .int .i32 0, .int .i64 0, .int .u32 0, .int .i32 0, .int .u32 0, .int .u32 0, .int .u8 0, .int .i64 0, .int .i64 0, .int .i64 0, .int .u8 0, .int .u8 0, .int .u8 0, .int .u8 0, .int .u8 0, .int .u8 0, .int .u8 0, .int .u8 0, .int .u8 0, .int .u8 0, .int .u8 0, .int .u8 0, .int .u8 0, .int .u8 0, .int .u8 0, .int .u8 0, .int .u8 0, .int .u8 0, .int .u8 0, .int .u8 0, .int .u8 0, .int .u8 0, .int .u8 0, .int .u8 0, .int .u8 0, .int .u8 0, .int .u8 0, .int .u8 0, .int .u8 0, .int .u8 0, .int .u8 0, .int .u8 0, .int .u64 0, .int .u8 0, .int .u32 0, .int .i64 0, .int .u32 0, .int .u8 0, .int .u8 0, .int .u16 0, .int .u64 0] Tryz.zeroValue42 pl_42 rfl rfl rfl rfl rfl (RL.p rfl (RL.lenS Tryz.runUnderlying27 rfl rfl rfl rfl (RL.p rfl (RL.storeWq Tryz.sizeOf42 rfl rfl rfl rfl rfl rfl rfl ?_))))))
                refine RL.p rfl (RL.nil (NQ.seq (CW.ok [2, 3] rfl (CW.ret (RQ.block ?_)))))
                exact RQ.post (resWT rfl rfl rfl Tryz.isAgg42 Tryz.sizeOf42 (by repeat (first | exact List.Mem.head _ | apply List.Mem.tail)) rfl) (Split.none _) ⟨⟨_, by rw [← hr], rfl, rfl⟩, rfl, rfl⟩
              · have n6 : nm ≠ wReset := by simpa using g6
                refine CW.seq (CW.rg (RL.cmp rfl rfl rfl rfl rfl (fun w => eql_txt nm wSave w) ?_))
                refine RL.p rfl (RL.nil (NQ.seq ?_))
                refine CW.cond rfl (fun g7 => ?_) (fun g7 => ?_)
                · have e : nm = wSave := by simpa using g7
                  have hr : (((n - 1 : Nat) : Int) == 0) = rdR nm r := by
                    rw [e, show rdR wSave r = allP [] r from rfl, Bool.eq_iff_iff, beq_iff_eq]
                    cases r with
                    | nil => simp [allP, hn]
                    | cons a r => simp only [List.length_cons] at hn; simp [allP]; omega
                  refine CW.seq (CW.region (ef := [4]) (bk := [4]) (RL.buildS [.int .i64 11, .int .i32 0, .int .i32 0, .int .i32 0, .int .i32 0, .int .i32 0, .int .i32 0, .int .i64 0, .int .u32 0, .int .i32 0, .int .u32 0, .int .u32 0, .int .u8 0, .int .i64 0, .int .i64 0, .int .i64 0, .int .u8 0, .int .u8 0, .int .u8 0, .int .u8 0, .int .u8 0, .int .u8 0, .int .u8 0, .int .u8 0, .int .u8 0, .int .u8 0, .int .u8 0, .int .u8 0, .int .u8 0, .int .u8 0, .int .u8 0, .int .u8 0, .int .u8 0, .int .u8 0, .int .u8 0, .int .u8 0, .int .u8 0, .int .u8 0, .int .u8 0, .int .u8 0, .int .u8 0, .int .u8 0, .int .u8 0, .int .u8 0, .int .u8 0, .int .u8 0, .int .u8 0, .int .u8 0, .int .u64 0, .int .u8 0, .int .u32 0, .int .i64 0, .int .u32 0, .int .u8 0, .int .u8 0, .int .u16 0, .int .u64 0] Tryz.zeroValue42 pl_42 rfl rfl rfl rfl rfl (RL.p rfl (RL.lenS Tryz.runUnderlying27 rfl rfl rfl rfl (RL.p rfl (RL.storeWq Tryz.sizeOf42 rfl rfl rfl rfl rfl rfl rfl ?_))))))
                  refine RL.p rfl (RL.nil (NQ.seq (CW.ok [2, 3] rfl (CW.ret (RQ.block ?_)))))
                  exact RQ.post (resWT rfl rfl rfl Tryz.isAgg42 Tryz.sizeOf42 (by repeat (first | exact List.Mem.head _ | apply List.Mem.tail)) rfl) (Split.none _) ⟨⟨_, by rw [← hr], rfl, rfl⟩, rfl, rfl⟩
                · have n7 : nm ≠ wSave := by simpa using g7
                  refine CW.seq (CW.rg (RL.cmp rfl rfl rfl rfl rfl (fun w => eql_txt nm wQuery w) ?_))
                  refine RL.p rfl (RL.nil (NQ.seq ?_))
                  refine CW.cond rfl (fun g8 => ?_) (fun g8 => ?_)
                  · have e : nm = wQuery := by simpa using g8
                    have hr : rdR nm r = allP [uOk 255] r := by rw [e]; rfl
                    have hg := rall_any p' (n - 1) (c - 1) r [119#8] (by omega) (by omega) (by decide) (fun h => ⟨b, q + 1, hp h⟩)
                    have hf : ∀ x, r = [x] → uOk 4294967295 x = true → (!decide ((((rnT x).getD 0 : Nat) : Int) > (255 : Int))) = rdR nm r := fun x h1 h2 => by
                      have h3 := uOk_lim (m := 255) (a := x) (by decide)
                      rw [h2, Bool.true_and] at h3
                      rw [hr, h1]
                      show _ = (uOk 255 x && true)
                      rw [Bool.and_true, ← h3]; rfl
                    by_cases ha : allP (([119#8] : Tx).map kP) r = true
                    · rw [ha] at hg
                      obtain ⟨x0, rfl, hx⟩ := allP1 (p := uOk 4294967295) ha
                      have hn2 : n = 2 := hn
                      have hpp := hp (by omega)
                      have e0 : ([x0] : List Tx)[0]? = some x0 := rfl
                      have hf := hf x0 rfl hx
                      subst hpp
                      refine CW.seq (CW.seq (CW.rg (RL.p rfl (RL.callvq (hg) Tryz.call25 rfl rfl rfl rfl ?_))))
                      refine RL.p rfl (RL.p rfl (RL.cast (d := 130) (v' := .bool false) rfl (rfl) ?_))
                      refine RL.p rfl (RL.idxAt (j := 0) Tryz.runUnderlying27 Tryz.sizeOf9 rfl rfl rfl rfl rfl rfl (by omega) ?_)
                      refine RL.load Tryz.isAgg9 rfl rfl rfl rfl (slsRdQ (L := [x0]) (j := 0) (by repeat (first | exact List.Mem.head _ | apply List.Mem.tail)) e0) ?_
                      refine RL.callvq (rbare_any x0) Tryz.call15 rfl rfl rfl rfl ?_
                      refine RL.p rfl (RL.p rfl (RL.nil (NQ.seq (CW.ok [2, 4, 136] rfl ?_))))
                      refine CW.cond rfl (fun hm => ?_) (fun hm => ?_)
                      · have hz : rdR nm [x0] = false := by rw [← hf, show decide ((((rnT x0).getD 0 : Nat) : Int) > (255 : Int)) = true from hm]; rfl
                        refine CW.seq (CW.region (ef := [1]) (bk := [1]) (RL.buildS _ Tryz.zeroValue42 pl_42 rfl rfl rfl rfl rfl (RL.storeWq Tryz.sizeOf42 rfl rfl rfl rfl rfl rfl rfl ?_)))
                        refine RL.p rfl (RL.nil (NQ.seq (CW.ret (RQ.seq (RQ.block ?_)))))
                        exact RQ.post (resWT rfl rfl rfl Tryz.isAgg42 Tryz.sizeOf42 (by repeat (first | exact List.Mem.head _ | apply List.Mem.tail)) rfl) (Split.none _) ⟨⟨_, by rw [hz], rfl, rfl⟩, rfl, rfl⟩
                      · have hz : rdR nm [x0] = true := by rw [← hf, show decide ((((rnT x0).getD 0 : Nat) : Int) > (255 : Int)) = false from hm]; rfl
                        refine CW.skip (NQ.seq (CW.seq (CW.region (ef := [6]) (bk := [6]) (RL.p rfl (RL.idxAt (j := 0) Tryz.runUnderlying27 Tryz.sizeOf9 rfl rfl rfl rfl rfl rfl (by omega) ?_)))))
                        refine RL.load Tryz.isAgg9 rfl rfl rfl rfl (slsRdQ (L := [x0]) (j := 0) (by repeat (first | exact List.Mem.head _ | apply List.Mem.tail)) e0) ?_
                        refine RL.callvq (rbare_any x0) Tryz.call15 rfl rfl rfl rfl ?_
                        refine RL.conv Tryz.runUnderlying39 Tryz.runUnderlying5 rfl rfl rfl rfl (RL.buildS [.int .i64 12, .int .i32 0, .int .i32 0, .int .i32 0, .int .i32 0, .int .i32 0, .int .i32 0, .int .i64 0, .int .u32 0, .int .i32 0, .int .u32 0, .int .u32 0, .int .u8 0, .int .i64 0, .int .i64 0, .int .i64 0, .int .u8 0, .int .u8 0, .int .u8 0, .int .u8 0, .int .u8 0, .int .u8 0, .int .u8 0, .int .u8 0, .int .u8 0, .int .u8 0, .int .u8 0, .int .u8 0, .int .u8 0, .int .u8 0, .int .u8 0, .int .u8 0, .int .u8 0, .int .u8 0, .int .u8 0, .int .u8 0, .int .u8 0, .int .u8 0, .int .u8 0, .int .u8 0, .int .u8 0, .int .u8 0, .int .u8 0, .int .u8 0, .int .u8 0, .int .u8 0, .int .u8 0, .int .u8 0, .int .u64 0, .int .u8 0, .int .u32 0, .int .i64 0, .int .u32 0, _, .int .u8 0, .int .u16 0, .int .u64 0] Tryz.zeroValue42 pl_42 rfl rfl rfl rfl rfl (RL.storeWq Tryz.sizeOf42 rfl rfl rfl rfl rfl rfl rfl ?_))
                        refine RL.p rfl (RL.nil (NQ.seq (CW.ok [2, 3] rfl (CW.ret (RQ.block ?_)))))
                        exact RQ.post (resWT rfl rfl rfl Tryz.isAgg42 Tryz.sizeOf42 (by repeat (first | exact List.Mem.head _ | apply List.Mem.tail)) rfl) (Split.none _) ⟨⟨_, by rw [hz], rfl, rfl⟩, rfl, rfl⟩
                    · have hz : rdR nm r = false := by rw [hr]; exact allP_lim (by decide) ha
                      rw [Bool.eq_false_iff.2 ha] at hg
                      refine CW.seq (CW.seq (CW.rg (RL.p rfl (RL.callvq (hg) Tryz.call25 rfl rfl rfl rfl ?_))))
                      refine RL.p rfl (RL.p rfl (RL.cast (d := 130) (v' := .bool true) rfl (rfl) ?_))
                      refine RL.p rfl (RL.p rfl (RL.p rfl (RL.p rfl (RL.p rfl (RL.p rfl (RL.nil (NQ.seq (CW.ok [2, 4, 136] rfl (CW.condT rfl rfl (CW.seq (CW.region (ef := [1]) (bk := [1]) (RL.buildS _ Tryz.zeroValue42 pl_42 rfl rfl rfl rfl rfl (RL.storeWq Tryz.sizeOf42 rfl rfl rfl rfl rfl rfl rfl ?_)))))))))))))
                      refine RL.p rfl (RL.nil (NQ.seq (CW.ret (RQ.seq (RQ.block ?_)))))
                      exact RQ.post (resWT rfl rfl rfl Tryz.isAgg42 Tryz.sizeOf42 (by repeat (first | exact List.Mem.head _ | apply List.Mem.tail)) rfl) (Split.none _) ⟨⟨_, by rw [hz], rfl, rfl⟩, rfl, rfl⟩
                  · have n8 : nm ≠ wQuery := by simpa using g8
                    refine CW.seq (CW.region (ef := [1]) (bk := [1]) (RL.buildS _ Tryz.zeroValue42 pl_42 rfl rfl rfl rfl rfl (RL.storeWq Tryz.sizeOf42 rfl rfl rfl rfl rfl rfl rfl ?_)))
                    refine RL.p rfl (RL.nil (NQ.seq (CW.ok [2, 3] rfl (CW.ret (RQ.block ?_)))))
                    have hr : rdR nm r = false := by rw [rdR, rdP, if_neg n0, if_neg n1, if_neg n2, if_neg n3, if_neg n4, if_neg n5, if_neg n6, if_neg n7, if_neg n8]
                    exact RQ.post (resWT rfl rfl rfl Tryz.isAgg42 Tryz.sizeOf42 (by repeat (first | exact List.Mem.head _ | apply List.Mem.tail)) rfl) (Split.none _) ⟨⟨_, by rw [hr], rfl, rfl⟩, rfl, rfl⟩
end Go.Proofs.YtpaemkemknfmfaaGreatDoor

namespace Go.Proofs.YtpaemkemknfmfaaGreatDoor
open Go.PK
/-! ### Are words a command, as the reference has it? -/
theorem allP_a {p : Pd} {w : List Tx} {a : Tx} (hl : w.length = 1) (h0 : w[0]? = some a) : allP [p] w = p a := by
  match w with
  | [x] =>
    obtain rfl := Option.some.inj h0
    simp [allP]
theorem allP_b {p q : Pd} {w : List Tx} {a b : Tx} (hl : w.length = 2) (h0 : w[0]? = some a) (h1 : w[1]? = some b) : allP [p, q] w = (p a && q b) := by
  match w with
  | [x, y] =>
    obtain rfl := Option.some.inj h0
    obtain rfl := Option.some.inj h1
    simp [allP]
theorem allP_c {p q r : Pd} {w : List Tx} {a b c : Tx} (hl : w.length = 3) (h0 : w[0]? = some a) (h1 : w[1]? = some b) (h2 : w[2]? = some c) : allP [p, q, r] w = (p a && (q b && r c)) := by
  match w with
  | [x, y, z] =>
    obtain rfl := Option.some.inj h0
    obtain rfl := Option.some.inj h1
    obtain rfl := Option.some.inj h2
    simp [allP]
theorem Lies.dr {b n c : Nat} {nm a : Tx} {r : List Tx} (hn : n = r.length + 2) (h3 : 3 ≤ n) (hc : n ≤ c) :
    Lies (sls (some ⟨b, 0, none⟩) 1 n ((nm :: a :: r).map strV)) (sls (some ⟨b, 2, none⟩) 1 (n - 2) (r.map strV)) := by
  have e : (((nm :: a :: r).map strV).drop (2 * 1)).take ((n - 2) * 1) = r.map strV := by
    show (r.map strV).take ((n - 2) * 1) = _
    exact List.take_of_length_le (by rw [List.length_map]; omega)
  have e2 : (if c = 2 then some (⟨b, 0, none⟩ : Addr) else (some (⟨b, 0, none⟩ : Addr)).map (·.add (2 * 1))) = some ⟨b, 2, none⟩ := by
    rw [if_neg (by omega), Option.map_some, add_none]
  have h : ∀ w, (sls (some ⟨b, 0, none⟩) 1 n ((nm :: a :: r).map strV)).A w → _ := fun w hA => sls_sub (cap := c) (lo := 2) (k := n - 2) hA (by omega) hc
  have h2 := fun x => bs_sub (p := some ⟨b, 0, none⟩) (sz := 1) (nn := n) (lo := 2) (k := n - 2) (cap := c) (xs := (nm :: a :: r).map strV) (ys := r.map strV) (by omega) x
  rw [e, e2] at h
  rw [e2] at h2
  exact ⟨h, h2⟩
theorem tOk_ne {a : Tx} (h : uOk 1000 a = true) : (!(a == [48#8])) = tOk a := by
  rw [uOk] at h
  rw [tOk]
  cases hb : bareT a with
  | none => rw [hb] at h; cases h
  | some n =>
    rw [hb] at h
    have h : n ≤ 1000 := of_decide_eq_true h
    obtain ⟨hd, -⟩ := decT_bareT hb
    show (!(a == [48#8])) = decide (n ≤ 1000 ∧ 0 < n)
    by_cases h0 : n = 0
    · subst h0
      rw [← hd]; rfl
    · rw [decide_eq_true ⟨h, by omega⟩, Bool.not_eq_true', beq_eq_false_iff_ne]
      intro he
      subst he
      have : bareT [48#8] = some 0 := rfl
      rw [this] at hb
      exact h0 (Option.some.inj hb).symm
theorem at1 {n : Nat} {nm : Tx} {w : List Tx} (hn : (nm :: w).length = n) {j : Nat} (hj : j + 1 < n) : ∃ a, w[j]? = some a ∧ (nm :: w)[j + 1]? = some a := by
  rw [List.length_cons] at hn
  exact ⟨w[j]'(by omega), List.getElem?_eq_getElem _, by rw [List.getElem?_cons_succ, List.getElem?_eq_getElem]⟩
theorem rright_any (b n c : Nat) (nm : Tx) (w : List Tx) (hn : (nm :: w).length = n) (hc : n ≤ c) (hb : n ≤ 1000000) :
    Spc Tryz.prog 14 #[.slice (some ⟨b, 0, none⟩) n c] [sls (some ⟨b, 0, none⟩) 1 n ((nm :: w).map strV)] [] (Is (.bool (rightT (nm :: w)))) := by
  have hw : w.length + 1 = n := hn
  have hone : ∀ k : Nat, (((n : Nat) : Int) == ((k : Nat) : Int)) = decide (n = k) := fun k => by rw [Bool.eq_iff_iff, beq_iff_eq, decide_eq_true_eq]; omega
  refine Spc.enter Tryz.func14 rfl rfl rfl (fun w0 hw0 => ?_)
  refine CW.seq (CW.rg (RL.p rfl (RL.nil (NQ.seq (CW.seq (CW.rg (RL.p rfl (RL.lenS Tryz.runUnderlying27 rfl rfl rfl rfl (RL.p rfl (RL.nil (NQ.seq (CW.seq (CW.rg ?_)))))))))))))
  refine RL.p rfl (RL.idxAt (j := 0) Tryz.runUnderlying27 Tryz.sizeOf9 rfl rfl rfl rfl rfl rfl (by omega) ?_)
  refine RL.load Tryz.isAgg9 rfl rfl rfl rfl (slsRdQ (L := nm :: w) (j := 0) (by repeat (first | exact List.Mem.head _ | apply List.Mem.tail)) rfl) ?_
  refine RL.nil (NQ.seq (CW.block (CW.seq (CW.seq (CW.rg (RL.cmp rfl rfl rfl rfl rfl (fun w' => eql_txt nm wSend w') ?_))))))
  refine RL.p rfl (RL.nil (NQ.seq ?_))
  refine CW.cond rfl (fun gSend => ?_) (fun gSend => ?_)
  · have q9 := hn
    have e : nm = wSend := by simpa using gSend
    refine CW.skip (NQ.seq (CW.ok [0, 3, 12, 13] rfl ?_))
    have hr : rightT (nm :: w) = sendT w := by rw [e]; rfl
    refine CW.condT rfl (gSend) (CW.seq (CW.seq (CW.region (ef := [6]) (bk := []) (RL.p rfl (RL.p rfl (RL.p rfl ?_))))))
    refine RL.part (d := 18) rfl (fun hk => ?_) (fun hk => ?_)
    · have hk2 : n < 3 := by simp at hk; omega
      have hz : rightT (nm :: w) = false := by
        rw [hr]
        match w with
        | [] => rfl
        | [a] => rfl
        | a :: x :: r => simp at hw; omega
      refine RL.p rfl (RL.p rfl (RL.p rfl (RL.p rfl (RL.p rfl (RL.p rfl (RL.nil (NQ.seq (CW.ok [0, 24] rfl (CW.condT rfl rfl (CW.seq (CW.rg (RL.p rfl (RL.nil ?_)))))))))))))
      refine NQ.seq (CW.ret (RQ.seq (RQ.block ?_)))
      exact RQ.post (res1 rfl rfl) (Split.none _) ⟨by rw [hz], rfl, rfl⟩
    · have hk2 : 3 ≤ n := by simp at hk; omega
      obtain ⟨a1, e1, f1⟩ := at1 (j := 0) hn (by omega)
      obtain ⟨a, x, r, rfl⟩ : ∃ a x r, w = a :: x :: r := by
        match w with
        | [] => simp at hw; omega
        | [a] => simp at hw; omega
        | a :: x :: r => exact ⟨a, x, r, rfl⟩
      obtain rfl := Option.some.inj e1
      have hr : rightT (nm :: a :: x :: r) = (uOk 7 a && rdR x r) := hr
      have hl := Lies.dr (b := b) (nm := nm) (a := a) (r := x :: r) (by simp only [List.length_cons] at hw ⊢; omega) hk2 hc
      have hp : (if c = 2 then some (⟨b, 0, none⟩ : Addr) else (some (⟨b, 0, none⟩ : Addr)).map (·.add (2 * 1))) = some ⟨b, 2, none⟩ := by rw [if_neg (by omega), Option.map_some, add_none]
      refine RL.p rfl (RL.idxAt (j := 1) Tryz.runUnderlying27 Tryz.sizeOf9 rfl rfl rfl rfl rfl rfl (by omega) ?_)
      refine RL.load Tryz.isAgg9 rfl rfl rfl rfl (slsRdQ (L := nm :: a :: x :: r) (j := 1) (by repeat (first | exact List.Mem.head _ | apply List.Mem.tail)) f1) ?_
      refine RL.callvq (rup_any a 7 (by decide)) Tryz.call23 rfl rfl rfl rfl ?_
      refine RL.p rfl (RL.p rfl (RL.nil (NQ.seq (CW.ok [0, 24] rfl ?_))))
      refine CW.cond rfl (fun hu => ?_) (fun hu => ?_)
      · have hz : rightT (nm :: a :: x :: r) = false := by rw [hr, show uOk 7 a = false by simpa using hu]; rfl
        refine CW.seq (CW.rg (RL.p rfl (RL.nil (NQ.seq (CW.ret (RQ.seq (RQ.block ?_)))))))
        exact RQ.post (res1 rfl rfl) (Split.none _) ⟨by rw [hz], rfl, rfl⟩
      · have hz : rightT (nm :: a :: x :: r) = rdR x r := by rw [hr, show uOk 7 a = true by simpa using hu]; rfl
        refine CW.skip (NQ.seq (CW.seq (CW.sub hl (by repeat (first | exact List.Mem.head _ | apply List.Mem.tail)) ?_)))
        refine CW.region (ef := [2, 6, 7]) (bk := [2, 7]) (RL.p rfl (RL.slice (lo := 2) (hi := n) Tryz.runUnderlying27 Tryz.sizeOf9 rfl rfl rfl rfl rfl rfl (by omega) hc ?_))
        rw [hp]
        refine RL.callq (rreading_any b 2 (n - 2) (c - 2) x r (by simp only [List.length_cons] at hw; omega) (by omega) (by omega)) Tryz.call24 rfl rfl rfl rfl rfl (.inr rfl) ?_
        rintro _ _ _ ⟨⟨cs, rfl, hcl, hco⟩, rfl, rfl⟩
        refine RL.p rfl (RL.p rfl (RL.p rfl (RL.alloc Tryz.zeroValue42 rfl rfl rfl rfl rfl ?_)))
        intro b1
        refine RL.storeX (vs := cs) rfl (by rw [hcl]; exact Tryz.sizeOf42) rfl rfl rfl rfl rfl rfl rfl hco (by repeat (first | exact Upd.here | apply Upd.there)) (by rw [hcl]; decide) ?_
        refine RL.p rfl (RL.nil (NQ.seq (CW.ok [5] rfl (CW.seq (CW.rg (RL.p rfl (RL.p rfl (RL.nil (NQ.seq (CW.ret (RQ.block ?_)))))))))))
        exact RQ.post (res1 rfl rfl) (Split.none _) ⟨by rw [hz]; rfl, rfl, rfl⟩
  · have nSend : nm ≠ wSend := by simpa using gSend
    refine CW.rg (RL.cmp rfl rfl rfl rfl rfl (fun w' => eql_txt nm wDrop w') ?_)
    refine RL.p rfl (RL.nil (NQ.seq (CW.ok [0, 3, 12, 13] rfl ?_)))
    refine CW.cond rfl (fun gDrop => ?_) (fun gDrop => ?_)
    · have q9 := hn
      have e : nm = wDrop := by simpa using gDrop
      have hr : rightT (nm :: w) = sendT w := by rw [e]; rfl
      refine CW.seq (CW.seq (CW.rg (RL.p rfl (RL.p rfl (RL.p rfl ?_)))))
      refine RL.part (d := 18) rfl (fun hk => ?_) (fun hk => ?_)
      · have hk2 : n < 3 := by simp at hk; omega
        have hz : rightT (nm :: w) = false := by
          rw [hr]
          match w with
          | [] => rfl
          | [a] => rfl
          | a :: x :: r => simp at hw; omega
        refine RL.p rfl (RL.p rfl (RL.p rfl (RL.p rfl (RL.p rfl (RL.p rfl (RL.nil (NQ.seq (CW.ok [0, 24] rfl (CW.condT rfl rfl (CW.seq (CW.rg (RL.p rfl (RL.nil ?_)))))))))))))
        refine NQ.seq (CW.ret (RQ.seq (RQ.block ?_)))
        exact RQ.post (res1 rfl rfl) (Split.none _) ⟨by rw [hz], rfl, rfl⟩
      · have hk2 : 3 ≤ n := by simp at hk; omega
        obtain ⟨a1, e1, f1⟩ := at1 (j := 0) hn (by omega)
        obtain ⟨a, x, r, rfl⟩ : ∃ a x r, w = a :: x :: r := by
          match w with
          | [] => simp at hw; omega
          | [a] => simp at hw; omega
          | a :: x :: r => exact ⟨a, x, r, rfl⟩
        obtain rfl := Option.some.inj e1
        have hr : rightT (nm :: a :: x :: r) = (uOk 7 a && rdR x r) := hr
        have hl := Lies.dr (b := b) (nm := nm) (a := a) (r := x :: r) (by simp only [List.length_cons] at hw ⊢; omega) hk2 hc
        have hp : (if c = 2 then some (⟨b, 0, none⟩ : Addr) else (some (⟨b, 0, none⟩ : Addr)).map (·.add (2 * 1))) = some ⟨b, 2, none⟩ := by rw [if_neg (by omega), Option.map_some, add_none]
        refine RL.p rfl (RL.idxAt (j := 1) Tryz.runUnderlying27 Tryz.sizeOf9 rfl rfl rfl rfl rfl rfl (by omega) ?_)
        refine RL.load Tryz.isAgg9 rfl rfl rfl rfl (slsRdQ (L := nm :: a :: x :: r) (j := 1) (by repeat (first | exact List.Mem.head _ | apply List.Mem.tail)) f1) ?_
        refine RL.callvq (rup_any a 7 (by decide)) Tryz.call23 rfl rfl rfl rfl ?_
        refine RL.p rfl (RL.p rfl (RL.nil (NQ.seq (CW.ok [0, 24] rfl ?_))))
        refine CW.cond rfl (fun hu => ?_) (fun hu => ?_)
        · have hz : rightT (nm :: a :: x :: r) = false := by rw [hr, show uOk 7 a = false by simpa using hu]; rfl
          refine CW.seq (CW.rg (RL.p rfl (RL.nil (NQ.seq (CW.ret (RQ.seq (RQ.block ?_)))))))
          exact RQ.post (res1 rfl rfl) (Split.none _) ⟨by rw [hz], rfl, rfl⟩
        · have hz : rightT (nm :: a :: x :: r) = rdR x r := by rw [hr, show uOk 7 a = true by simpa using hu]; rfl
          refine CW.skip (NQ.seq (CW.seq (CW.sub hl (by repeat (first | exact List.Mem.head _ | apply List.Mem.tail)) ?_)))
          refine CW.region (ef := [2, 6, 7]) (bk := [2, 7]) (RL.p rfl (RL.slice (lo := 2) (hi := n) Tryz.runUnderlying27 Tryz.sizeOf9 rfl rfl rfl rfl rfl rfl (by omega) hc ?_))
          rw [hp]
          refine RL.callq (rreading_any b 2 (n - 2) (c - 2) x r (by simp only [List.length_cons] at hw; omega) (by omega) (by omega)) Tryz.call24 rfl rfl rfl rfl rfl (.inr rfl) ?_
          rintro _ _ _ ⟨⟨cs, rfl, hcl, hco⟩, rfl, rfl⟩
          refine RL.p rfl (RL.p rfl (RL.p rfl (RL.alloc Tryz.zeroValue42 rfl rfl rfl rfl rfl ?_)))
          intro b1
          refine RL.storeX (vs := cs) rfl (by rw [hcl]; exact Tryz.sizeOf42) rfl rfl rfl rfl rfl rfl rfl hco (by repeat (first | exact Upd.here | apply Upd.there)) (by rw [hcl]; decide) ?_
          refine RL.p rfl (RL.nil (NQ.seq (CW.ok [5] rfl (CW.seq (CW.rg (RL.p rfl (RL.p rfl (RL.nil (NQ.seq (CW.ret (RQ.block ?_)))))))))))
          exact RQ.post (res1 rfl rfl) (Split.none _) ⟨by rw [hz]; rfl, rfl, rfl⟩
    · have nDrop : nm ≠ wDrop := by simpa using gDrop
      refine CW.seq (CW.seq (CW.rg (RL.cmp rfl rfl rfl rfl rfl (fun w' => eql_txt nm wRoll w') ?_)))
      refine RL.p rfl (RL.nil (NQ.seq ?_))
      refine CW.cond rfl (fun gRoll => ?_) (fun gRoll => ?_)
      · have q9 := hn
        have e : nm = wRoll := by simpa using gRoll
        refine CW.skip (NQ.seq ?_)
        have hr : rightT (nm :: w) = allP [uOk 7] w := by rw [e]; rfl
        have hb0 : rightT (nm :: w) = false ∨ n = 2 := by
          by_cases hk : n = 2
          · exact .inr hk
          · exact .inl (by rw [hr]; exact allP_ne _ _ (by simp; omega))
        refine CW.condT rfl (gRoll) (CW.seq (CW.rg (RL.p rfl (RL.p rfl (RL.p rfl ?_)))))
        refine RL.part (d := 38) rfl (fun hk => ?_) (fun hk => ?_)
        · have hk2 : n = 2 := by have h := (hone 2).symm.trans hk; simpa using h
          obtain ⟨a1, e1, f1⟩ := at1 (j := 0) hn (by omega)
          rw [allP_a (by omega) e1] at hr
          refine RL.p rfl (RL.idxAt (j := 1) Tryz.runUnderlying27 Tryz.sizeOf9 rfl rfl rfl rfl rfl rfl (by omega) ?_)
          refine RL.load Tryz.isAgg9 rfl rfl rfl rfl (slsRdQ (L := nm :: w) (j := 1) (by repeat (first | exact List.Mem.head _ | apply List.Mem.tail)) f1) ?_
          refine RL.callvq (rup_any a1 7 (by decide)) Tryz.call23 rfl rfl rfl rfl ?_
          refine RL.p rfl (RL.p rfl (RL.nil (NQ.seq (CW.ok [2] rfl (CW.ret (RQ.block ?_))))))
          exact RQ.post (res1 rfl rfl) (Split.none _) ⟨by rw [hr], rfl, rfl⟩
        · have hk2 : n ≠ 2 := by have h := (hone 2).symm.trans hk; simpa using h
          have hz := hb0.resolve_right hk2
          refine RL.p rfl (RL.p rfl (RL.p rfl (RL.p rfl (RL.p rfl (RL.p rfl (RL.nil (NQ.seq (CW.ok [2] rfl (CW.ret (RQ.block ?_))))))))))
          exact RQ.post (res1 rfl rfl) (Split.none _) ⟨by rw [hz], rfl, rfl⟩
      · have nRoll : nm ≠ wRoll := by simpa using gRoll
        refine CW.seq (CW.rg (RL.cmp rfl rfl rfl rfl rfl (fun w' => eql_txt nm wHealth w') ?_))
        refine RL.p rfl (RL.nil (NQ.seq ?_))
        refine CW.cond rfl (fun gHealth => ?_) (fun gHealth => ?_)
        · have q9 := hn
          have e : nm = wHealth := by simpa using gHealth
          refine CW.skip (NQ.seq ?_)
          have hr : rightT (nm :: w) = allP [uOk 7] w := by rw [e]; rfl
          have hb0 : rightT (nm :: w) = false ∨ n = 2 := by
            by_cases hk : n = 2
            · exact .inr hk
            · exact .inl (by rw [hr]; exact allP_ne _ _ (by simp; omega))
          refine CW.condT rfl (gHealth) (CW.seq (CW.rg (RL.p rfl (RL.p rfl (RL.p rfl ?_)))))
          refine RL.part (d := 38) rfl (fun hk => ?_) (fun hk => ?_)
          · have hk2 : n = 2 := by have h := (hone 2).symm.trans hk; simpa using h
            obtain ⟨a1, e1, f1⟩ := at1 (j := 0) hn (by omega)
            rw [allP_a (by omega) e1] at hr
            refine RL.p rfl (RL.idxAt (j := 1) Tryz.runUnderlying27 Tryz.sizeOf9 rfl rfl rfl rfl rfl rfl (by omega) ?_)
            refine RL.load Tryz.isAgg9 rfl rfl rfl rfl (slsRdQ (L := nm :: w) (j := 1) (by repeat (first | exact List.Mem.head _ | apply List.Mem.tail)) f1) ?_
            refine RL.callvq (rup_any a1 7 (by decide)) Tryz.call23 rfl rfl rfl rfl ?_
            refine RL.p rfl (RL.p rfl (RL.nil (NQ.seq (CW.ok [2] rfl (CW.ret (RQ.block ?_))))))
            exact RQ.post (res1 rfl rfl) (Split.none _) ⟨by rw [hr], rfl, rfl⟩
          · have hk2 : n ≠ 2 := by have h := (hone 2).symm.trans hk; simpa using h
            have hz := hb0.resolve_right hk2
            refine RL.p rfl (RL.p rfl (RL.p rfl (RL.p rfl (RL.p rfl (RL.p rfl (RL.nil (NQ.seq (CW.ok [2] rfl (CW.ret (RQ.block ?_))))))))))
            exact RQ.post (res1 rfl rfl) (Split.none _) ⟨by rw [hz], rfl, rfl⟩
        · have nHealth : nm ≠ wHealth := by simpa using gHealth
          refine CW.rg (RL.cmp rfl rfl rfl rfl rfl (fun w' => eql_txt nm wReserved w') ?_)
          refine RL.p rfl (RL.nil (NQ.seq ?_))
          refine CW.cond rfl (fun gReserved => ?_) (fun gReserved => ?_)
          · have q9 := hn
            have e : nm = wReserved := by simpa using gReserved
            have hr : rightT (nm :: w) = allP [uOk 7] w := by rw [e]; rfl
            have hb0 : rightT (nm :: w) = false ∨ n = 2 := by
              by_cases hk : n = 2
              · exact .inr hk
              · exact .inl (by rw [hr]; exact allP_ne _ _ (by simp; omega))
            refine CW.seq (CW.rg (RL.p rfl (RL.p rfl (RL.p rfl ?_))))
            refine RL.part (d := 38) rfl (fun hk => ?_) (fun hk => ?_)
            · have hk2 : n = 2 := by have h := (hone 2).symm.trans hk; simpa using h
              obtain ⟨a1, e1, f1⟩ := at1 (j := 0) hn (by omega)
              rw [allP_a (by omega) e1] at hr
              refine RL.p rfl (RL.idxAt (j := 1) Tryz.runUnderlying27 Tryz.sizeOf9 rfl rfl rfl rfl rfl rfl (by omega) ?_)
              refine RL.load Tryz.isAgg9 rfl rfl rfl rfl (slsRdQ (L := nm :: w) (j := 1) (by repeat (first | exact List.Mem.head _ | apply List.Mem.tail)) f1) ?_
              refine RL.callvq (rup_any a1 7 (by decide)) Tryz.call23 rfl rfl rfl rfl ?_
              refine RL.p rfl (RL.p rfl (RL.nil (NQ.seq (CW.ok [2] rfl (CW.ret (RQ.block ?_))))))
              exact RQ.post (res1 rfl rfl) (Split.none _) ⟨by rw [hr], rfl, rfl⟩
            · have hk2 : n ≠ 2 := by have h := (hone 2).symm.trans hk; simpa using h
              have hz := hb0.resolve_right hk2
              refine RL.p rfl (RL.p rfl (RL.p rfl (RL.p rfl (RL.p rfl (RL.p rfl (RL.nil (NQ.seq (CW.ok [2] rfl (CW.ret (RQ.block ?_))))))))))
              exact RQ.post (res1 rfl rfl) (Split.none _) ⟨by rw [hz], rfl, rfl⟩
          · have nReserved : nm ≠ wReserved := by simpa using gReserved
            refine CW.seq (CW.rg (RL.cmp rfl rfl rfl rfl rfl (fun w' => eql_txt nm wSkip w') ?_))
            refine RL.p rfl (RL.nil (NQ.seq (CW.ok [0, 3, 12, 44] rfl ?_)))
            refine CW.cond rfl (fun gSkip => ?_) (fun gSkip => ?_)
            · have q9 := hn
              have e : nm = wSkip := by simpa using gSkip
              have hr : rightT (nm :: w) = allP [uOk 7, uOk 9223372036854775807] w := by rw [e]; rfl
              have hb0 : rightT (nm :: w) = false ∨ n = 3 := by
                by_cases hk : n = 3
                · exact .inr hk
                · exact .inl (by rw [hr]; exact allP_ne _ _ (by simp; omega))
              refine CW.seq (CW.rg (RL.p rfl (RL.p rfl (RL.p rfl ?_))))
              refine RL.part (d := 48) rfl (fun hk => ?_) (fun hk => ?_)
              · have hk2 : n = 3 := by have h := (hone 3).symm.trans hk; simpa using h
                obtain ⟨a1, e1, f1⟩ := at1 (j := 0) hn (by omega)
                obtain ⟨a2, e2, f2⟩ := at1 (j := 1) hn (by omega)
                rw [allP_b (by omega) e1 e2] at hr
                refine RL.p rfl (RL.idxAt (j := 1) Tryz.runUnderlying27 Tryz.sizeOf9 rfl rfl rfl rfl rfl rfl (by omega) ?_)
                refine RL.load Tryz.isAgg9 rfl rfl rfl rfl (slsRdQ (L := nm :: w) (j := 1) (by repeat (first | exact List.Mem.head _ | apply List.Mem.tail)) f1) ?_
                refine RL.callvq (rup_any a1 7 (by decide)) Tryz.call23 rfl rfl rfl rfl ?_
                refine RL.p rfl (RL.p rfl ?_)
                refine RL.part (d := 54) rfl (fun q0 => ?_) (fun q0 => ?_)
                · have hq := hk2
                  refine RL.p rfl (RL.idxAt (j := 2) Tryz.runUnderlying27 Tryz.sizeOf9 rfl rfl rfl rfl rfl rfl (by omega) ?_)
                  refine RL.load Tryz.isAgg9 rfl rfl rfl rfl (slsRdQ (L := nm :: w) (j := 2) (by repeat (first | exact List.Mem.head _ | apply List.Mem.tail)) f2) ?_
                  refine RL.callvq (rup_any a2 9223372036854775807 (by decide)) Tryz.call23 rfl rfl rfl rfl ?_
                  refine RL.p rfl (RL.p rfl (RL.nil (NQ.seq (CW.ok [2] rfl (CW.ret (RQ.block ?_))))))
                  exact RQ.post (res1 rfl rfl) (Split.none _) ⟨by rw [hr, show uOk 7 a1 = true from q0, Bool.true_and], rfl, rfl⟩
                · have hz : rightT (nm :: w) = false := by rw [hr, show uOk 7 a1 = false from q0]; rfl
                  refine RL.p rfl (RL.p rfl (RL.p rfl (RL.p rfl (RL.p rfl (RL.p rfl (RL.nil (NQ.seq (CW.ok [2] rfl (CW.ret (RQ.block ?_))))))))))
                  exact RQ.post (res1 rfl rfl) (Split.none _) ⟨by rw [hz], rfl, rfl⟩
              · have hk2 : n ≠ 3 := by have h := (hone 3).symm.trans hk; simpa using h
                have hz := hb0.resolve_right hk2
                refine RL.p rfl (RL.p rfl (RL.p rfl (RL.p rfl (RL.p rfl (RL.p rfl (RL.p rfl (RL.p rfl (RL.p rfl (RL.p rfl (RL.p rfl (RL.p rfl (RL.nil (NQ.seq ?_)))))))))))))
                refine CW.ok [2] rfl (CW.ret (RQ.block ?_))
                exact RQ.post (res1 rfl rfl) (Split.none _) ⟨by rw [hz], rfl, rfl⟩
            · have nSkip : nm ≠ wSkip := by simpa using gSkip
              refine CW.seq (CW.rg (RL.cmp rfl rfl rfl rfl rfl (fun w' => eql_txt nm wFar w') ?_))
              refine RL.p rfl (RL.nil (NQ.seq ?_))
              refine CW.cond rfl (fun gFar => ?_) (fun gFar => ?_)
              · have q9 := hn
                have e : nm = wFar := by simpa using gFar
                have hr : rightT (nm :: w) = allP [uOk 255, sOk, sOk, sOk] w := by rw [e]; rfl
                have hb0 : rightT (nm :: w) = false ∨ n = 5 := by
                  by_cases hk : n = 5
                  · exact .inr hk
                  · exact .inl (by rw [hr]; exact allP_ne _ _ (by simp; omega))
                by_cases hk2 : n = 5
                · obtain ⟨a, x, r, rfl⟩ : ∃ a x r, w = a :: x :: r := by
                    match w with
                    | [] => simp at hw; omega
                    | [a] => simp at hw; omega
                    | a :: x :: r => exact ⟨a, x, r, rfl⟩
                  have hr : rightT (nm :: a :: x :: r) = (uOk 255 a && allP [sOk, sOk, sOk] (x :: r)) := hr
                  have hl := Lies.dr (b := b) (nm := nm) (a := a) (r := x :: r) (by simp only [List.length_cons] at hw ⊢; omega) (by omega) hc
                  have hp : (if c = 2 then some (⟨b, 0, none⟩ : Addr) else (some (⟨b, 0, none⟩ : Addr)).map (·.add (2 * 1))) = some ⟨b, 2, none⟩ := by rw [if_neg (by omega), Option.map_some, add_none]
                  refine CW.sub hl (by repeat (first | exact List.Mem.head _ | apply List.Mem.tail)) ?_
                  refine CW.seq (CW.rg (RL.p rfl (RL.p rfl (RL.p rfl (RL.cast (d := 64) (v' := .bool true) rfl ((congrArg Value.bool ((hone 5).trans (decide_eq_true hk2)))) ?_)))))
                  refine RL.p rfl (RL.idxAt (j := 1) Tryz.runUnderlying27 Tryz.sizeOf9 rfl rfl rfl rfl rfl rfl (by omega) ?_)
                  refine RL.load Tryz.isAgg9 rfl rfl rfl rfl (slsRdQ (L := nm :: a :: x :: r) (j := 1) (by repeat (first | exact List.Mem.head _ | apply List.Mem.tail)) rfl) ?_
                  refine RL.callvq (rup_any a 255 (by decide)) Tryz.call23 rfl rfl rfl rfl ?_
                  refine RL.p rfl (RL.p rfl ?_)
                  refine RL.part (d := 70) rfl (fun q0 => ?_) (fun q0 => ?_)
                  · have hz : rightT (nm :: a :: x :: r) = allP (([115#8, 115#8, 115#8] : Tx).map kP) (x :: r) := by rw [hr, show uOk 255 a = true from q0]; rfl
                    refine RL.p rfl (RL.slice (lo := 2) (hi := n) Tryz.runUnderlying27 Tryz.sizeOf9 rfl rfl rfl rfl rfl rfl (by omega) hc ?_)
                    rw [hp]
                    refine RL.callvq (rall_any (some ⟨b, 2, none⟩) (n - 2) (c - 2) (x :: r) [115#8, 115#8, 115#8] (by simp only [List.length_cons] at hw ⊢; omega) (by omega) (by decide) (fun _ => ⟨b, 2, rfl⟩)) Tryz.call25 rfl rfl rfl rfl ?_
                    refine RL.p rfl (RL.p rfl (RL.nil (NQ.seq (CW.ok [2] rfl (CW.ret (RQ.block ?_))))))
                    exact RQ.post (res1 rfl rfl) (Split.none _) ⟨by rw [hz], rfl, rfl⟩
                  · have hz : rightT (nm :: a :: x :: r) = false := by rw [hr, show uOk 255 a = false from q0]; rfl
                    refine RL.p rfl (RL.p rfl (RL.p rfl (RL.p rfl (RL.p rfl (RL.nil (NQ.seq (CW.ok [2] rfl (CW.ret (RQ.block ?_)))))))))
                    exact RQ.post (res1 rfl rfl) (Split.none _) ⟨by rw [hz], rfl, rfl⟩
                · have hz := hb0.resolve_right hk2
                  refine CW.seq (CW.rg (RL.p rfl (RL.p rfl (RL.p rfl (RL.cast (d := 64) (v' := .bool false) rfl ((congrArg Value.bool ((hone 5).trans (decide_eq_false hk2)))) ?_)))))
                  refine RL.p rfl (RL.p rfl (RL.p rfl (RL.p rfl (RL.p rfl (RL.p rfl (RL.p rfl (RL.p rfl (RL.p rfl (RL.p rfl (RL.p rfl (RL.nil (NQ.seq (CW.ok [2] rfl ?_)))))))))))))
                  refine CW.ret (RQ.block ?_)
                  exact RQ.post (res1 rfl rfl) (Split.none _) ⟨by rw [hz], rfl, rfl⟩
              · have nFar : nm ≠ wFar := by simpa using gFar
                refine CW.seq (CW.seq (CW.rg (RL.cmp rfl rfl rfl rfl rfl (fun w' => eql_txt nm wKey w') ?_)))
                refine RL.p rfl (RL.nil (NQ.seq ?_))
                refine CW.cond rfl (fun gKey => ?_) (fun gKey => ?_)
                · have q9 := hn
                  have e : nm = wKey := by simpa using gKey
                  refine CW.skip (NQ.seq ?_)
                  have hr : rightT (nm :: w) = allP [] w := by rw [e]; rfl
                  refine CW.condT rfl (gKey) (CW.seq (CW.rg (RL.p rfl (RL.p rfl (RL.p rfl (RL.nil (NQ.seq (CW.ok [2] rfl (CW.ret (RQ.block ?_))))))))))
                  have hz : decide (n = 1) = allP [] w := by
                    cases w with
                    | nil => rw [← hw]; rfl
                    | cons a r => rw [← hw]; simp [allP]
                  exact RQ.post (res1 rfl rfl) (Split.none _) ⟨by rw [hr, ← hz]; exact congrArg Value.bool (hone 1), rfl, rfl⟩
                · have nKey : nm ≠ wKey := by simpa using gKey
                  refine CW.seq (CW.rg (RL.cmp rfl rfl rfl rfl rfl (fun w' => eql_txt nm wReset w') ?_))
                  refine RL.p rfl (RL.nil (NQ.seq ?_))
                  refine CW.cond rfl (fun gReset => ?_) (fun gReset => ?_)
                  · have q9 := hn
                    have e : nm = wReset := by simpa using gReset
                    refine CW.skip (NQ.seq ?_)
                    have hr : rightT (nm :: w) = allP [] w := by rw [e]; rfl
                    refine CW.condT rfl (gReset) (CW.seq (CW.rg (RL.p rfl (RL.p rfl (RL.p rfl (RL.nil (NQ.seq (CW.ok [2] rfl (CW.ret (RQ.block ?_))))))))))
                    have hz : decide (n = 1) = allP [] w := by
                      cases w with
                      | nil => rw [← hw]; rfl
                      | cons a r => rw [← hw]; simp [allP]
                    exact RQ.post (res1 rfl rfl) (Split.none _) ⟨by rw [hr, ← hz]; exact congrArg Value.bool (hone 1), rfl, rfl⟩
                  · have nReset : nm ≠ wReset := by simpa using gReset
                    refine CW.rg (RL.cmp rfl rfl rfl rfl rfl (fun w' => eql_txt nm wStatus w') ?_)
                    refine RL.p rfl (RL.nil (NQ.seq (CW.ok [0, 3, 12, 75] rfl ?_)))
                    refine CW.cond rfl (fun gStatus => ?_) (fun gStatus => ?_)
                    · have q9 := hn
                      have e : nm = wStatus := by simpa using gStatus
                      have hr : rightT (nm :: w) = allP [] w := by rw [e]; rfl
                      refine CW.seq (CW.rg (RL.p rfl (RL.p rfl (RL.p rfl (RL.nil (NQ.seq (CW.ok [2] rfl (CW.ret (RQ.block ?_)))))))))
                      have hz : decide (n = 1) = allP [] w := by
                        cases w with
                        | nil => rw [← hw]; rfl
                        | cons a r => rw [← hw]; simp [allP]
                      exact RQ.post (res1 rfl rfl) (Split.none _) ⟨by rw [hr, ← hz]; exact congrArg Value.bool (hone 1), rfl, rfl⟩
                    · have nStatus : nm ≠ wStatus := by simpa using gStatus
                      refine CW.seq (CW.rg (RL.cmp rfl rfl rfl rfl rfl (fun w' => eql_txt nm wAgain w') ?_))
                      refine RL.p rfl (RL.nil (NQ.seq ?_))
                      refine CW.cond rfl (fun gAgain => ?_) (fun gAgain => ?_)
                      · have q9 := hn
                        have e : nm = wAgain := by simpa using gAgain
                        have hr : rightT (nm :: w) = allP [uOk 9223372036854775807] w := by rw [e]; rfl
                        have hb0 : rightT (nm :: w) = false ∨ n = 2 := by
                          by_cases hk : n = 2
                          · exact .inr hk
                          · exact .inl (by rw [hr]; exact allP_ne _ _ (by simp; omega))
                        refine CW.seq (CW.rg (RL.p rfl (RL.p rfl (RL.p rfl ?_))))
                        refine RL.part (d := 85) rfl (fun hk => ?_) (fun hk => ?_)
                        · have hk2 : n = 2 := by have h := (hone 2).symm.trans hk; simpa using h
                          obtain ⟨a1, e1, f1⟩ := at1 (j := 0) hn (by omega)
                          rw [allP_a (by omega) e1] at hr
                          refine RL.p rfl (RL.idxAt (j := 1) Tryz.runUnderlying27 Tryz.sizeOf9 rfl rfl rfl rfl rfl rfl (by omega) ?_)
                          refine RL.load Tryz.isAgg9 rfl rfl rfl rfl (slsRdQ (L := nm :: w) (j := 1) (by repeat (first | exact List.Mem.head _ | apply List.Mem.tail)) f1) ?_
                          refine RL.callvq (rup_any a1 9223372036854775807 (by decide)) Tryz.call23 rfl rfl rfl rfl ?_
                          refine RL.p rfl (RL.p rfl (RL.nil (NQ.seq (CW.ok [2] rfl (CW.ret (RQ.block ?_))))))
                          exact RQ.post (res1 rfl rfl) (Split.none _) ⟨by rw [hr], rfl, rfl⟩
                        · have hk2 : n ≠ 2 := by have h := (hone 2).symm.trans hk; simpa using h
                          have hz := hb0.resolve_right hk2
                          refine RL.p rfl (RL.p rfl (RL.p rfl (RL.p rfl (RL.p rfl (RL.p rfl (RL.nil (NQ.seq (CW.ok [2] rfl (CW.ret (RQ.block ?_))))))))))
                          exact RQ.post (res1 rfl rfl) (Split.none _) ⟨by rw [hz], rfl, rfl⟩
                      · have nAgain : nm ≠ wAgain := by simpa using gAgain
                        refine CW.seq (CW.rg (RL.cmp rfl rfl rfl rfl rfl (fun w' => eql_txt nm wBytes w') ?_))
                        refine RL.p rfl (RL.nil (NQ.seq ?_))
                        refine CW.cond rfl (fun gBytes => ?_) (fun gBytes => ?_)
                        · have q9 := hn
                          have e : nm = wBytes := by simpa using gBytes
                          have hr : rightT (nm :: w) = allP [hxOk] w := by rw [e]; rfl
                          refine CW.seq (CW.seq (CW.rg (RL.p rfl (RL.p rfl (RL.nil (NQ.seq (CW.ok [0, 94] rfl ?_)))))))
                          refine CW.cond rfl (fun hk => ?_) (fun hk => ?_)
                          · have hk2 : n ≠ 2 := by have h := hone 2; intro h2; rw [h2] at hk; simp at hk
                            have hz : rightT (nm :: w) = false := by rw [hr]; exact allP_ne _ _ (by simp; omega)
                            refine CW.seq (CW.rg (RL.p rfl (RL.nil (NQ.seq (CW.ret (RQ.seq (RQ.block ?_)))))))
                            exact RQ.post (res1 rfl rfl) (Split.none _) ⟨by rw [hz], rfl, rfl⟩
                          · have hk2 : n = 2 := by simp at hk; omega
                            obtain ⟨a1, e1, f1⟩ := at1 (j := 0) hn (by omega)
                            rw [allP_a (by omega) e1] at hr
                            refine CW.skip (NQ.seq (CW.seq (CW.region (ef := [3]) (bk := [3]) (RL.p rfl (RL.idxAt (j := 1) Tryz.runUnderlying27 Tryz.sizeOf9 rfl rfl rfl rfl rfl rfl (by omega) ?_)))))
                            refine RL.load Tryz.isAgg9 rfl rfl rfl rfl (slsRdQ (L := nm :: w) (j := 1) (by repeat (first | exact List.Mem.head _ | apply List.Mem.tail)) f1) ?_
                            refine RL.callq (rhex_any a1) Tryz.call26 rfl rfl rfl rfl rfl (.inr rfl) ?_
                            rintro _ _ _ ⟨⟨hq, hm, hcc, rfl⟩, rfl, rfl⟩
                            refine RL.p rfl (RL.p rfl (RL.p rfl (RL.p rfl (RL.p rfl (RL.nil (NQ.seq (CW.ok [7] rfl (CW.seq (CW.rg (RL.p rfl (RL.p rfl (RL.nil (NQ.seq ?_)))))))))))))
                            refine CW.ret (RQ.block ?_)
                            exact RQ.post (res1 rfl rfl) (Split.none _) ⟨by rw [hr]; rfl, rfl, rfl⟩
                        · have nBytes : nm ≠ wBytes := by simpa using gBytes
                          refine CW.seq (CW.rg (RL.cmp rfl rfl rfl rfl rfl (fun w' => eql_txt nm wTick w') ?_))
                          refine RL.p rfl (RL.nil (NQ.seq (CW.ok [0, 3, 12, 103] rfl ?_)))
                          refine CW.cond rfl (fun gTick => ?_) (fun gTick => ?_)
                          · have q9 := hn
                            have e : nm = wTick := by simpa using gTick
                            have hr : rightT (nm :: w) = allP [tOk] w := by rw [e]; rfl
                            refine CW.seq (CW.rg (RL.p rfl (RL.p rfl (RL.p rfl ?_))))
                            refine RL.part (d := 107) rfl (fun hk => ?_) (fun hk => ?_)
                            · have hk2 : n = 2 := by have h := (hone 2).symm.trans hk; simpa using h
                              obtain ⟨a1, e1, f1⟩ := at1 (j := 0) hn (by omega)
                              rw [allP_a (by omega) e1] at hr
                              refine RL.p rfl (RL.idxAt (j := 1) Tryz.runUnderlying27 Tryz.sizeOf9 rfl rfl rfl rfl rfl rfl (by omega) ?_)
                              refine RL.load Tryz.isAgg9 rfl rfl rfl rfl (slsRdQ (L := nm :: w) (j := 1) (by repeat (first | exact List.Mem.head _ | apply List.Mem.tail)) f1) ?_
                              refine RL.callvq (rup_any a1 1000 (by decide)) Tryz.call23 rfl rfl rfl rfl ?_
                              refine RL.p rfl (RL.p rfl ?_)
                              refine RL.part (d := 113) rfl (fun q0 => ?_) (fun q0 => ?_)
                              · have hz : (!(a1 == [48#8])) = rightT (nm :: w) := by rw [hr]; exact tOk_ne q0
                                refine RL.p rfl (RL.idxAt (j := 1) Tryz.runUnderlying27 Tryz.sizeOf9 rfl rfl rfl rfl rfl rfl (by omega) ?_)
                                refine RL.load Tryz.isAgg9 rfl rfl rfl rfl (slsRdQ (L := nm :: w) (j := 1) (by repeat (first | exact List.Mem.head _ | apply List.Mem.tail)) f1) ?_
                                refine RL.cmp rfl rfl rfl rfl rfl (fun w' => neq_txt a1 [48#8] w') ?_
                                refine RL.p rfl (RL.p rfl (RL.nil (NQ.seq (CW.ok [2] rfl (CW.ret (RQ.block ?_))))))
                                exact RQ.post (res1 rfl rfl) (Split.none _) ⟨by rw [← hz], rfl, rfl⟩
                              · have hz : rightT (nm :: w) = false := by
                                  rw [hr, ← tOk_eq, show uOk 1000 a1 = false from q0]; rfl
                                refine RL.p rfl (RL.p rfl (RL.p rfl (RL.p rfl (RL.p rfl (RL.p rfl (RL.nil (NQ.seq (CW.ok [2] rfl (CW.ret (RQ.block ?_))))))))))
                                exact RQ.post (res1 rfl rfl) (Split.none _) ⟨by rw [hz], rfl, rfl⟩
                            · have hk2 : n ≠ 2 := by have h := (hone 2).symm.trans hk; simpa using h
                              have hz : rightT (nm :: w) = false := by rw [hr]; exact allP_ne _ _ (by simp; omega)
                              refine RL.p rfl (RL.p rfl (RL.p rfl (RL.p rfl (RL.p rfl (RL.p rfl (RL.p rfl (RL.p rfl (RL.p rfl (RL.p rfl (RL.p rfl (RL.p rfl (RL.nil (NQ.seq ?_)))))))))))))
                              refine CW.ok [2] rfl (CW.ret (RQ.block ?_))
                              exact RQ.post (res1 rfl rfl) (Split.none _) ⟨by rw [hz], rfl, rfl⟩
                          · have nTick : nm ≠ wTick := by simpa using gTick
                            refine CW.seq (CW.rg (RL.cmp rfl rfl rfl rfl rfl (fun w' => eql_txt nm wSpoil w') ?_))
                            refine RL.p rfl (RL.nil (NQ.seq ?_))
                            refine CW.cond rfl (fun gSpoil => ?_) (fun gSpoil => ?_)
                            · have q9 := hn
                              have e : nm = wSpoil := by simpa using gSpoil
                              have hr : rightT (nm :: w) = allP [uOk 1, uOk 9223372036854775807, uOk 255] w := by rw [e]; rfl
                              have hb0 : rightT (nm :: w) = false ∨ n = 4 := by
                                by_cases hk : n = 4
                                · exact .inr hk
                                · exact .inl (by rw [hr]; exact allP_ne _ _ (by simp; omega))
                              refine CW.seq (CW.rg (RL.p rfl (RL.p rfl (RL.p rfl ?_))))
                              refine RL.part (d := 123) rfl (fun hk => ?_) (fun hk => ?_)
                              · have hk2 : n = 4 := by have h := (hone 4).symm.trans hk; simpa using h
                                obtain ⟨a1, e1, f1⟩ := at1 (j := 0) hn (by omega)
                                obtain ⟨a2, e2, f2⟩ := at1 (j := 1) hn (by omega)
                                obtain ⟨a3, e3, f3⟩ := at1 (j := 2) hn (by omega)
                                rw [allP_c (by omega) e1 e2 e3] at hr
                                refine RL.p rfl (RL.idxAt (j := 1) Tryz.runUnderlying27 Tryz.sizeOf9 rfl rfl rfl rfl rfl rfl (by omega) ?_)
                                refine RL.load Tryz.isAgg9 rfl rfl rfl rfl (slsRdQ (L := nm :: w) (j := 1) (by repeat (first | exact List.Mem.head _ | apply List.Mem.tail)) f1) ?_
                                refine RL.callvq (rup_any a1 1 (by decide)) Tryz.call23 rfl rfl rfl rfl ?_
                                refine RL.p rfl (RL.p rfl ?_)
                                refine RL.part (d := 129) rfl (fun q0 => ?_) (fun q0 => ?_)
                                · have hq := hk2
                                  refine RL.p rfl (RL.idxAt (j := 2) Tryz.runUnderlying27 Tryz.sizeOf9 rfl rfl rfl rfl rfl rfl (by omega) ?_)
                                  refine RL.load Tryz.isAgg9 rfl rfl rfl rfl (slsRdQ (L := nm :: w) (j := 2) (by repeat (first | exact List.Mem.head _ | apply List.Mem.tail)) f2) ?_
                                  refine RL.callvq (rup_any a2 9223372036854775807 (by decide)) Tryz.call23 rfl rfl rfl rfl ?_
                                  refine RL.p rfl (RL.p rfl ?_)
                                  refine RL.part (d := 135) rfl (fun q1 => ?_) (fun q1 => ?_)
                                  · have hq := hk2
                                    refine RL.p rfl (RL.idxAt (j := 3) Tryz.runUnderlying27 Tryz.sizeOf9 rfl rfl rfl rfl rfl rfl (by omega) ?_)
                                    refine RL.load Tryz.isAgg9 rfl rfl rfl rfl (slsRdQ (L := nm :: w) (j := 3) (by repeat (first | exact List.Mem.head _ | apply List.Mem.tail)) f3) ?_
                                    refine RL.callvq (rup_any a3 255 (by decide)) Tryz.call23 rfl rfl rfl rfl ?_
                                    refine RL.p rfl (RL.p rfl (RL.nil (NQ.seq (CW.ok [2] rfl (CW.ret (RQ.block ?_))))))
                                    exact RQ.post (res1 rfl rfl) (Split.none _) ⟨by rw [hr, show uOk 1 a1 = true from q0, Bool.true_and, show uOk 9223372036854775807 a2 = true from q1, Bool.true_and], rfl, rfl⟩
                                  · have hz : rightT (nm :: w) = false := by rw [hr, show uOk 1 a1 = true from q0, Bool.true_and, show uOk 9223372036854775807 a2 = false from q1]; rfl
                                    refine RL.p rfl (RL.p rfl (RL.p rfl (RL.p rfl (RL.p rfl (RL.p rfl (RL.nil (NQ.seq (CW.ok [2] rfl (CW.ret (RQ.block ?_))))))))))
                                    exact RQ.post (res1 rfl rfl) (Split.none _) ⟨by rw [hz], rfl, rfl⟩
                                · have hz : rightT (nm :: w) = false := by rw [hr, show uOk 1 a1 = false from q0]; rfl
                                  refine RL.p rfl (RL.p rfl (RL.p rfl (RL.p rfl (RL.p rfl (RL.p rfl (RL.p rfl (RL.p rfl (RL.p rfl (RL.p rfl (RL.p rfl (RL.p rfl (RL.nil (NQ.seq ?_)))))))))))))
                                  refine CW.ok [2] rfl (CW.ret (RQ.block ?_))
                                  exact RQ.post (res1 rfl rfl) (Split.none _) ⟨by rw [hz], rfl, rfl⟩
                              · have hk2 : n ≠ 4 := by have h := (hone 4).symm.trans hk; simpa using h
                                have hz := hb0.resolve_right hk2
                                refine RL.p rfl (RL.p rfl (RL.p rfl (RL.p rfl (RL.p rfl (RL.p rfl (RL.p rfl (RL.p rfl (RL.p rfl (RL.p rfl (RL.p rfl (RL.p rfl (RL.p rfl (RL.p rfl ?_)))))))))))))
                                refine RL.p rfl (RL.p rfl (RL.p rfl (RL.p rfl (RL.nil (NQ.seq (CW.ok [2] rfl (CW.ret (RQ.block ?_))))))))
                                exact RQ.post (res1 rfl rfl) (Split.none _) ⟨by rw [hz], rfl, rfl⟩
                            · have nSpoil : nm ≠ wSpoil := by simpa using gSpoil
                              refine CW.seq (CW.rg (RL.p rfl (RL.nil (NQ.seq (CW.ok [2] rfl (CW.ret (RQ.block ?_)))))))
                              have hno : rightT (nm :: w) = false := right_none (by rintro (h | h); exact nSend h; exact nDrop h) (by rw [cmdP, if_neg (by rintro (h | h | h); exact nRoll h; exact nHealth h; exact nReserved h), if_neg nSkip, if_neg nFar, if_neg (by rintro (h | h | h); exact nKey h; exact nReset h; exact nStatus h), if_neg nAgain, if_neg nBytes, if_neg nTick, if_neg nSpoil])
                              exact RQ.post (res1 rfl rfl) (Split.none _) ⟨by rw [hno], rfl, rfl⟩
end Go.Proofs.YtpaemkemknfmfaaGreatDoor

namespace Go.Proofs.YtpaemkemknfmfaaGreatDoor
open Go.PK
theorem ownRd {I H : List It} {b cap n j : Nat} {e : TypeId} {L : List Tx} {s : Tx} (hm : own (some b) cap e 1 n (L.map strV) ∈ H) (h : L[j]? = some s) : Rd I H ⟨b, 0 + j * 1, none⟩ (strV s) := by
  have h2 := (Rds.own (I := I) hm).rd (j := j * 1) (v := strV s) (by rw [show j * 1 = j by omega, List.getElem?_map, h]; rfl)
  rwa [add_none] at h2
/-! ### The reference cuts a text -/
theorem spl_stay {c x : B8} (cur r : Tx) (h : x ≠ c) : preL cur (splL c (x :: r)) = preL (cur ++ [x]) (splL c r) := by
  rw [splL, if_neg h]
  have hne := splL_ne (c := c) r
  revert hne
  cases splL c r with
  | nil => intro h; exact absurd rfl h
  | cons a t => intro _; simp [preL]
theorem spl_cut {c : B8} (cur r : Tx) : preL cur (splL c (c :: r)) = cur :: splL c r := by rw [splL, if_pos rfl]; simp [preL]
theorem preL_nil {L : List Tx} (h : L ≠ []) : preL [] L = L := by
  cases L with
  | nil => exact absurd rfl h
  | cons a t => rfl
theorem RQ.factV {Q : Exit → Act → World → Prop} {N : Fm} {E : Env} {w0 : World} {S : List Nat} {I H : List It} {p : Prop} (hp : ∀ w, Cls w0 S I H w → p) (h : p → RQ Q N E w0 S I H) : RQ Q N E w0 S I H := fun a w ha hw => h (hp w hw) a w ha hw
def SpO (L : List Tx) : Value → List It → List It → Prop := fun v I' H' => ∃ b cap, L.length ≤ cap ∧ v = slO (some b) L.length cap ∧ I' = [] ∧ H' = [own (some b) cap 9 1 L.length (L.map strV)]
theorem rspl_any (c : B8) (s : Tx) (hs : s.length < 4294967281) : Spc Tryz.prog 13 #[strV s, U8 c] [] [] (SpO (splL c s)) := by
  refine Spc.enter Tryz.func13 rfl rfl rfl (fun w0 hw0 => ?_)
  refine CW.seq (CW.rg (RL.p rfl (RL.nil (NQ.seq (CW.seq (CW.region (ef := [0]) (bk := []) (RL.buildOwn [] Tryz.runUnderlying27 Tryz.sizeOf9 Tryz.zeroValue9 rfl rfl (by decide) (by decide) rfl (by decide) rfl rfl rfl rfl rfl rfl ?_)))))))
  intro b1
  refine RL.p rfl (RL.nil (NQ.seq (CW.seq (CW.rg (RL.p rfl (RL.nil (NQ.seq (CW.seq (CW.seq (CW.rg (RL.p rfl (RL.nil (NQ.seq ?_)))))))))))))
  refine CW.block (CW.loop (γ := Nat × Nat × List Tx × Option Nat × Nat) (fun g => (g.1 ≤ s.length ∧ g.2.1 ≤ g.1 ∧ g.2.2.1.length ≤ g.2.1) ∧ g.2.2.1 ++ preL ((s.drop g.2.1).take (g.1 - g.2.1)) (splL c (s.drop g.1)) = splL c s) (fun g => [(0, strV s), (1, U8 c), (5, slO g.2.2.2.1 g.2.2.1.length g.2.2.2.2), (6, .int .i64 (g.2.1 : Int)), (7, .int .i64 (g.1 : Int))]) (fun _ => []) (fun g => [own g.2.2.2.1 g.2.2.2.2 9 1 g.2.2.1.length (g.2.2.1.map strV)]) (fun g => s.length - g.1) (0, 0, [], some b1, 0) ⟨⟨Nat.zero_le _, Nat.le_refl _, Nat.le_refl _⟩, by simp [preL_nil (splL_ne s)]⟩ (.cons rfl (.cons rfl (.cons rfl (.cons rfl (.cons rfl .nil))))) (fun w h => h) ?_)
  rintro ⟨i, fr, out, ob, cp⟩ ⟨⟨hi, hf, hol⟩, hinv⟩
  dsimp only at hi hf hol hinv ⊢
  refine CW.seq (CW.seq (CW.rg (RL.p rfl (RL.p rfl (RL.lenTxt Tryz.runUnderlying9 rfl rfl rfl rfl (RL.p rfl (RL.nil (NQ.seq ?_))))))))
  refine CW.cond rfl (fun hlt => ?_) (fun hlt => ?_)
  ·
    have hlt : i < s.length := by simp at hlt; omega
    have hx := List.getElem?_eq_getElem hlt
    have hdr : s.drop i = s[i] :: s.drop (i + 1) := List.drop_eq_getElem_cons hlt
    generalize s[i] = x at hx hdr
    rw [hdr] at hinv
    refine CW.skip (NQ.seq (CW.seq (CW.block (CW.seq (CW.rg (RL.p rfl (RL.p rfl (RL.idxTxt (j := i) Tryz.runUnderlying9 rfl rfl rfl rfl rfl rfl hx (RL.p rfl (RL.p rfl (RL.nil (NQ.seq (CW.ok [0, 1, 5, 6, 7, 19] rfl ?_)))))))))))))
    refine CW.cond rfl (fun hc => ?_) (fun hc => ?_)
    · have hxc : x = c := BitVec.eq_of_toNat_eq (by simp [U8] at hc; omega)
      subst hxc
      rw [spl_cut] at hinv
      refine CW.seq (CW.region (ef := [5, 6]) (bk := [6]) (RL.p rfl (RL.p rfl (RL.p rfl (RL.p rfl (RL.sliceTxt (s := s) (lo := fr) (hi := i) Tryz.runUnderlying9 rfl rfl rfl rfl rfl rfl hf hi (RL.buildSlice [_] Tryz.runUnderlying27 Tryz.sizeOf9 Tryz.zeroValue9 rfl rfl (by decide) (by decide) rfl rfl rfl rfl rfl rfl ?_)))))))
      intro b2
      refine RL.appendq el_27 rfl rfl rfl rfl rfl rfl rfl ?_
      intro ob1 cap1 ho1
      refine RL.p rfl (RL.nil (NQ.seq (CW.ok [0, 1, 5, 7] rfl (CW.rg (RL.p rfl (RL.bx rfl (wrapV_i64 (by omega) (by omega)) ?_))))))
      refine RL.p rfl (RL.nil (NQ.block (NQ.seq (CW.rg (RL.p rfl (RL.bx rfl (wrapV_i64 (by omega) (by omega)) ?_))))))
      refine RL.p rfl (RL.nil ?_)
      refine NQ.round (g := (i, fr, out, ob, cp)) (i + 1, i + 1, out ++ [(s.drop fr).take (i - fr)], ob1, cap1) ⟨⟨hlt, Nat.le_refl _, by rw [List.length_append]; show out.length + 1 ≤ i + 1; omega⟩, by rw [Nat.sub_self, List.take_zero, preL_nil (splL_ne _), ← hinv]; simp⟩ (by show s.length - (i + 1) < s.length - i; omega) (.cons rfl (.cons rfl (.cons (k := 5) (by rw [List.length_append]; rfl) (.cons rfl (.cons rfl .nil))))) (fun w h => by
        dsimp only
        rw [List.length_append, List.map_append]
        exact h.rea (fun _ h => h) (by repeat (first | exact Rea.nil | (apply Rea.cons; (solve | (repeat (first | exact Del.here | apply Del.there)))))))
    · have hxc : x ≠ c := fun h => by subst h; simp at hc
      rw [spl_stay _ _ hxc] at hinv
      refine CW.skip (NQ.block (NQ.seq (CW.rg (RL.p rfl (RL.bx rfl (wrapV_i64 (by omega) (by omega)) ?_)))))
      refine RL.p rfl (RL.nil ?_)
      refine NQ.round (g := (i, fr, out, ob, cp)) (i + 1, fr, out, ob, cp) ⟨⟨hlt, by show fr ≤ i + 1; omega, hol⟩, by
        rw [← hinv]
        show out ++ preL ((s.drop fr).take (i + 1 - fr)) _ = _
        rw [show i + 1 - fr = (i - fr) + 1 by omega, List.take_add_one, List.getElem?_drop, show fr + (i - fr) = i by omega, hx]; rfl⟩ (by show s.length - (i + 1) < s.length - i; omega) (.cons rfl (.cons rfl (.cons rfl (.cons rfl (.cons rfl .nil))))) (fun w h => h)
  · have hin : i = s.length := by simp at hlt; omega
    subst hin
    rw [List.drop_length] at hinv
    have hfin : splL c s = out ++ [(s.drop fr).take (s.length - fr)] := by rw [← hinv]; simp [splL, preL]
    refine CW.exit (XQ.seq (XQ.seq (XQ.hit (NQ.seq (CW.ok [0, 5, 6] rfl (CW.seq (CW.region (ef := [4, 5]) (bk := [5]) (RL.p rfl (RL.p rfl (RL.p rfl (RL.sliceTxt (s := s) (lo := fr) (hi := s.length) Tryz.runUnderlying9 rfl rfl rfl rfl rfl rfl hf (Nat.le_refl _) (RL.buildSlice [_] Tryz.runUnderlying27 Tryz.sizeOf9 Tryz.zeroValue9 rfl rfl (by decide) (by decide) rfl rfl rfl rfl rfl rfl ?_))))))))))))
    intro b2
    refine RL.appendq el_27 rfl rfl rfl rfl rfl rfl rfl ?_
    intro ob1 cap1 ho1
    refine RL.p rfl (RL.nil (NQ.seq (CW.ok [4] rfl (CW.ret ?_))))
    rw [hfin]
    refine RQ.rea (fun _ h => h) (H' := [own ob1 cap1 9 1 (out.length + 1) (out.map strV ++ [strV ((s.drop fr).take (s.length - fr))])]) (by repeat (first | exact Rea.nil | (apply Rea.cons; (solve | (repeat (first | exact Del.here | apply Del.there)))))) ?_
    refine RQ.factV (p := ob1.isSome = true ∧ out.length + 1 ≤ cap1) (fun w hC => ?_) (fun ⟨hob, hcap⟩ => ?_)
    · have h := hC.s.h _ (List.Mem.head _)
      refine ⟨?_, own_cap h⟩
      cases ob1 with
      | none => have := own_none h; omega
      | some b => rfl
    obtain ⟨b2, rfl⟩ := Option.isSome_iff_exists.1 hob
    exact RQ.post (res1 rfl rfl) (.keep (Split.none _)) ⟨b2, cap1, by rw [List.length_append]; exact hcap, by rw [List.length_append]; rfl, rfl, by rw [List.length_append, List.map_append]; rfl⟩
def LnsR (L : List Tx) : Value → List It → List It → Prop := fun v I' H' => ∃ b cap c, v = .slice (some ⟨b, 0, none⟩) (linT L).length c ∧ I' = [] ∧ H' = [own (some b) cap 9 1 L.length (L.map strV)]
theorem rlines_any (t : Tx) (ht : t.length < 4294967281) : Spc Tryz.prog 11 #[strV t] [] [] (LnsR (splL 10#8 t)) := by
  have hne := splL_ne (c := 10#8) t
  have hlen := splL_len (c := 10#8) t
  have hct : t.count 10#8 ≤ t.length := List.count_le_length
  refine Spc.enter Tryz.func11 rfl rfl rfl (fun w0 hw0 => ?_)
  refine CW.seq (CW.rg (RL.p rfl (RL.nil (NQ.seq (CW.seq (CW.region (ef := [1]) (bk := [1]) (RL.p rfl (RL.callq (rspl_any 10#8 t ht) Tryz.call13 rfl rfl rfl rfl rfl (.inr rfl) ?_))))))))
  rintro _ _ _ ⟨b, cap, hcap, rfl, rfl, rfl⟩
  generalize splL 10#8 t = L at hne hlen hcap ⊢
  have hpos := List.length_pos_iff.2 hne
  obtain ⟨s, hs⟩ : ∃ s, L[L.length - 1]? = some s := ⟨_, List.getElem?_eq_getElem (by omega)⟩
  have hlast : L.getLast? = some s := by rw [List.getLast?_eq_getElem?, hs]
  refine RL.p rfl (RL.nil (NQ.seq (CW.seq (CW.seq (CW.rg (RL.p rfl (RL.p rfl (RL.lenS Tryz.runUnderlying27 rfl rfl rfl rfl (RL.bx rfl (wrapV_i64 (by omega) (by omega)) ?_)))))))))
  refine RL.idxAt (j := L.length - 1) Tryz.runUnderlying27 Tryz.sizeOf9 rfl rfl rfl rfl rfl (by omega) (by omega) ?_
  refine RL.load Tryz.isAgg9 rfl rfl rfl rfl (ownRd (by repeat (first | exact List.Mem.head _ | apply List.Mem.tail)) hs) ?_
  refine RL.cmp rfl rfl rfl rfl rfl (fun w => eql_txt s [] w) ?_
  refine RL.nil (NQ.seq (CW.ok [2, 3, 12] rfl ?_))
  refine CW.cond rfl (fun he => ?_) (fun he => ?_)
  · have he' : s = [] := by simpa using he
    subst he'
    have hl : linT L = L.dropLast := by rw [linT, if_pos hlast]
    have hll : (linT L).length = L.length - 1 := by rw [hl, List.length_dropLast]
    have hz : (if cap = 0 then some (⟨b, 0, none⟩ : Addr) else (some (⟨b, 0, none⟩ : Addr)).map (·.add (0 * 1))) = some ⟨b, 0, none⟩ := by split <;> rfl
    refine CW.rg (RL.p rfl (RL.p rfl (RL.lenS Tryz.runUnderlying27 rfl rfl rfl rfl (RL.bx rfl (wrapV_i64 (by omega) (by omega)) ?_))))
    refine RL.slice (lo := 0) (hi := L.length - 1) Tryz.runUnderlying27 Tryz.sizeOf9 rfl rfl rfl rfl rfl (by show some _ = some _; congr 1; omega) (by omega) (by omega) ?_
    refine RL.p rfl (RL.nil (NQ.seq (CW.ok [3] rfl (CW.seq (CW.rg (RL.p rfl (RL.p rfl (RL.nil (NQ.seq (CW.ret ?_))))))))))
    refine RQ.post (res1 rfl rfl) (.keep (Split.none _)) ⟨b, cap, cap, ?_, rfl, rfl⟩
    show Value.slice (if cap = 0 then some (⟨b, 0, none⟩ : Addr) else (some (⟨b, 0, none⟩ : Addr)).map (·.add (0 * 1))) (L.length - 1 - 0) (cap - 0) = _
    rw [hz, hll, Nat.sub_zero, Nat.sub_zero]
  · have he' : ¬ s = [] := by simpa using he
    have hl : linT L = L := by rw [linT, if_neg (by rw [hlast]; exact fun h => he' (Option.some.inj h))]
    refine CW.skip (NQ.seq (CW.seq (CW.rg (RL.p rfl (RL.p rfl (RL.nil (NQ.seq (CW.ret ?_))))))))
    exact RQ.post (res1 rfl rfl) (.keep (Split.none _)) ⟨b, cap, cap, by rw [hl]; rfl, rfl, rfl⟩
end Go.Proofs.YtpaemkemknfmfaaGreatDoor

namespace Go.Proofs.YtpaemkemknfmfaaGreatDoor
open Go.PK
/-! ### A text checked, as the reference has it -/
theorem tick_v {s nm : Tx} {w : List Tx} (hs : splL 32#8 s = nm :: w) (h : nm = wTick ∧ rightT (nm :: w) = true) : ∃ a, w = [a] ∧ tickT s = (rnT a).getD 0 := by
  obtain ⟨rfl, h2⟩ := h
  have h3 := tickT_eq s
  rw [hs] at h3
  rw [right_tk] at h2
  match w with
  | [] => cases h2
  | [a] =>
    refine ⟨a, rfl, ?_⟩
    have h2 : tOk a = true := h2
    rw [h3, if_pos ⟨by rw [right_tk]; exact h2, rfl⟩]
    show (bareT a).getD 0 = _
    refine bare_val (m := 1000) (by decide) ?_
    rw [← tOk_eq, Bool.and_eq_true] at h2
    exact h2.1
  | a :: b :: r => cases h2
theorem tick_0 {s nm : Tx} {w : List Tx} (hs : splL 32#8 s = nm :: w) (h : ¬ (nm = wTick ∧ rightT (nm :: w) = true)) : tickT s = 0 := by
  rw [tickT_eq, hs, if_neg]
  rintro ⟨h1, h2⟩
  exact h ⟨h2, h1⟩
theorem rcheck_any (t : Tx) : Spc Tryz.prog 5 #[strV t] [] [] (Is (chkV t)) := by
  refine Spc.enter Tryz.func5 rfl rfl rfl (fun w0 hw0 => ?_)
  refine CW.seq (CW.rg (RL.p rfl (RL.p rfl (RL.nil (NQ.seq (CW.seq (CW.seq (CW.rg (RL.p rfl (RL.lenTxt Tryz.runUnderlying9 rfl rfl rfl rfl (RL.p rfl (RL.nil (NQ.seq ?_)))))))))))))
  refine CW.cond rfl (fun h0 => ?_) (fun h0 => ?_)
  · have h0' : 65536 < t.length := by simp at h0; omega
    have e : chkT t = (0, 1) := by rw [chkT, if_pos h0']
    refine CW.seq (CW.rg (RL.p rfl (RL.p rfl (RL.nil (NQ.seq (CW.ret (RQ.seq ?_)))))))
    exact RQ.post (res2 rfl rfl rfl) (Split.none _) ⟨by rw [chkV, e]; rfl, rfl, rfl⟩
  · have h0' : ¬ 65536 < t.length := by simp at h0; omega
    have hll := lines_len t
    have hlm : ∀ s ∈ linesT t, s.length ≤ 70000 := fun s hs => by have := line_len hs; omega
    have hget : ∀ i, i < (linesT t).length → (splL 10#8 t)[i]? = (linesT t)[i]? := fun i hi => (linT_get hi).symm
    refine CW.skip (NQ.seq (CW.seq (CW.region (ef := [1]) (bk := [1]) (RL.p rfl (RL.callq (rlines_any t (by omega)) Tryz.call11 rfl rfl rfl rfl rfl (.inr rfl) ?_)))))
    rintro _ _ _ ⟨b, cap, c, rfl, rfl, rfl⟩
    rw [show (linT (splL 10#8 t)).length = (linesT t).length from rfl]
    generalize hN : (splL 10#8 t).length = N
    refine RL.p rfl (RL.nil (NQ.seq (CW.ok [4] rfl (CW.seq (CW.rg (RL.p rfl (RL.p rfl (RL.p rfl (RL.nil (NQ.seq (CW.seq (CW.seq (CW.rg ?_)))))))))))))
    refine RL.p rfl (RL.nil (NQ.seq (CW.block ?_)))
    refine CW.loop (γ := Nat) (fun i => i ≤ (linesT t).length) (fun i => [(4, .slice (some ⟨b, 0, none⟩) (linesT t).length c), (5, .int .i64 (cntT (linesT t) i : Int)), (6, .int .u64 (tkT (linesT t) i : Int)), (7, .bool (((linesT t).take i).any longB)), (8, .int .i64 (i : Int))])
      (fun _ => []) (fun _ => [own (some b) cap 9 1 N ((splL 10#8 t).map strV)]) (fun i => (linesT t).length - i) 0 (by omega) (.cons rfl (.cons rfl (.cons rfl (.cons rfl (.cons rfl .nil))))) (fun w h => h) ?_
    intro i hi
    have hcn : cntT (linesT t) i ≤ i := by
      have := List.countP_le_length (p := saysT) (l := (linesT t).take i)
      rw [List.length_take] at this
      unfold cntT; omega
    have htk := tkT_le (linesT t) i
    refine CW.seq (CW.seq (CW.rg (RL.p rfl (RL.p rfl (RL.lenS Tryz.runUnderlying27 rfl rfl rfl rfl (RL.p rfl (RL.nil (NQ.seq ?_))))))))
    refine CW.cond rfl (fun hlt => ?_) (fun hlt => ?_)
    · have hlt' : i < (linesT t).length := by simp at hlt; omega
      have hs : (linesT t)[i]? = some ((linesT t)[i]'hlt') := List.getElem?_eq_getElem hlt'
      have hmem := List.getElem_mem hlt'
      generalize (linesT t)[i]'hlt' = s at hs hmem
      have hs2 : (splL 10#8 t)[i]? = some s := by rw [hget i hlt', hs]
      have hsl := hlm s hmem
      refine CW.skip (NQ.seq (CW.seq (CW.block (CW.seq (CW.seq (CW.rg (RL.p rfl (RL.p rfl (RL.idxAt (j := i) Tryz.runUnderlying27 Tryz.sizeOf9 rfl rfl rfl rfl rfl rfl hlt' (RL.load Tryz.isAgg9 rfl rfl rfl rfl (ownRd (by repeat (first | exact List.Mem.head _ | apply List.Mem.tail)) hs2) ?_))))))))))
      refine RL.callvq (rsays_any s) Tryz.call12 rfl rfl rfl rfl ?_
      refine RL.p rfl (RL.nil (NQ.seq (CW.ok [4, 5, 6, 7, 8, 27] rfl ?_)))
      refine CW.cond rfl (fun hsay => ?_) (fun hsay => ?_)
      · have hs0 : saysT s = false := by simpa using hsay
        have e1 : cntT (linesT t) (i + 1) = cntT (linesT t) i := by rw [cntT_step hs, hs0]; rfl
        have e2 : tkT (linesT t) (i + 1) = tkT (linesT t) i := by rw [tkT_step hs, tickS, hs0]; rfl
        have e3 : ((linesT t).take (i + 1)).any longB = ((linesT t).take i).any longB := by rw [anyT_step hs, longB, hs0, Bool.false_and, Bool.or_false]
        refine CW.exit (XQ.seq (XQ.hit (NQ.seq (CW.rg (RL.p rfl (RL.bx rfl (wrapV_i64 (by omega) (by omega)) ?_))))))
        refine RL.p rfl (RL.nil ?_)
        exact NQ.round (g := i) (i + 1) hlt' (by show (linesT t).length - (i + 1) < (linesT t).length - i; omega) (.cons rfl (.cons (by rw [e1]; rfl) (.cons (by rw [e2]; rfl) (.cons (by rw [e3]; rfl) (.cons rfl .nil))))) (fun w h => h)
      · have hs1 : saysT s = true := by simpa using hsay
        have e1 : cntT (linesT t) (i + 1) = cntT (linesT t) i + 1 := by rw [cntT_step hs, hs1]; rfl
        have e3 : ((linesT t).take (i + 1)).any longB = (((linesT t).take i).any longB || decide ((s.length : Int) > 4000)) := by
          rw [anyT_step hs, longB, hs1, Bool.true_and]
          congr 1
          rw [Bool.eq_iff_iff, decide_eq_true_eq, decide_eq_true_eq]; omega
        have e2 : tkT (linesT t) (i + 1) = tkT (linesT t) i + (if s.length ≤ 4000 then tickT s else 0) := by
          rw [tkT_step hs, tickS, hs1]
          by_cases q : s.length ≤ 4000
          · rw [if_pos q, decide_eq_true q]; rfl
          · rw [if_neg q, decide_eq_false q]; rfl
        have htl := tickT_le s
        have hlen := splL_len (c := 32#8) s
        have hct : s.count 32#8 ≤ s.length := List.count_le_length
        obtain ⟨nm, w, hsp⟩ : ∃ nm w, splL 32#8 s = nm :: w := by
          cases h : splL 32#8 s with
          | nil => exact absurd h (splL_ne s)
          | cons nm w => exact ⟨nm, w, rfl⟩
        have hR := rspl_any 32#8 s (by omega)
        rw [hsp] at hR hlen
        generalize hn : (nm :: w).length = n at hR hlen
        have hn1 : w.length + 1 = n := hn
        refine CW.skip (NQ.seq (CW.seq (CW.rg (RL.p rfl (RL.bx rfl (wrapV_i64 (by omega) (by omega)) ?_)))))
        refine RL.p rfl (RL.nil (NQ.seq (CW.seq (CW.rg (RL.p rfl (RL.p rfl ?_))))))
        apply RL.orB (d := 31) (dp := 38) (l' := (Sq.of [9])) rfl (sK [4, 5, 6, 7, 8] rfl)
        ·
          intro hb2 K2
          refine RL.p rfl (RL.p rfl (RL.idxAt (j := i) Tryz.runUnderlying27 Tryz.sizeOf9 rfl rfl rfl rfl rfl rfl hlt' (RL.load Tryz.isAgg9 rfl rfl rfl rfl (ownRd (by repeat (first | exact List.Mem.head _ | apply List.Mem.tail)) hs2) ?_)))
          refine RL.lenTxt Tryz.runUnderlying9 rfl rfl rfl rfl (RL.p rfl (RL.p rfl ?_))
          exact K2 _ (.cons rfl (sK [4, 5, 6, 7, 8] rfl))
        ·
          intro hb2 K2
          refine RL.p rfl (RL.p rfl (RL.p rfl (RL.p rfl (RL.p rfl (RL.p rfl (RL.p rfl ?_))))))
          exact K2 _ (.cons rfl (sK [4, 5, 6, 7, 8] rfl))
        refine RL.p rfl (RL.nil (NQ.seq (CW.seq (CW.region (ef := [4]) (bk := [4]) (RL.p rfl (RL.p rfl (RL.idxAt (j := i) Tryz.runUnderlying27 Tryz.sizeOf9 rfl rfl rfl rfl rfl rfl hlt' (RL.load Tryz.isAgg9 rfl rfl rfl rfl (ownRd (by repeat (first | exact List.Mem.head _ | apply List.Mem.tail)) hs2) ?_))))))))
        refine RL.callq (hR) Tryz.call13 rfl rfl rfl rfl rfl (.inr rfl) ?_
        rintro _ _ _ ⟨bw, cw, hcap, rfl, rfl, rfl⟩
        rw [hn] at hcap ⊢
        refine RL.p rfl (RL.nil (NQ.seq (CW.ok [4, 5, 6, 7, 8, 9] rfl (CW.seq (CW.rg (RL.p rfl (RL.p rfl (RL.idxAt (j := i) Tryz.runUnderlying27 Tryz.sizeOf9 rfl rfl rfl rfl rfl rfl hlt' (RL.load Tryz.isAgg9 rfl rfl rfl rfl (ownRd (by repeat (first | exact List.Mem.head _ | apply List.Mem.tail)) hs2) ?_)))))))))
        refine RL.lenTxt Tryz.runUnderlying9 rfl rfl rfl rfl (RL.p rfl (RL.p rfl ?_))
        apply RL.andB (d := 50) (dp := 55) (l' := (Sq.of [12, 13, 14, 15])) rfl (sK [4, 5, 6, 7, 8, 9] rfl)
        ·
          intro hb7 K7
          refine RL.p rfl (RL.idxAt (j := 0) Tryz.runUnderlying27 Tryz.sizeOf9 rfl rfl rfl rfl rfl rfl (by omega) ?_)
          refine RL.load Tryz.isAgg9 rfl rfl rfl rfl (ownRd (L := nm :: w) (j := 0) (by repeat (first | exact List.Mem.head _ | apply List.Mem.tail)) rfl) ?_
          refine RL.cmp rfl rfl rfl rfl rfl (fun w' => eql_txt nm wTick w') ?_
          refine RL.p rfl ?_
          exact K7 _ (.cons rfl (sK [4, 5, 6, 7, 8, 9] rfl))
        ·
          intro hb7 K7
          refine RL.p rfl (RL.p rfl (RL.p rfl (RL.p rfl (RL.p rfl ?_))))
          exact K7 _ (.cons rfl (sK [4, 5, 6, 7, 8, 9] rfl))
        refine RL.p rfl ?_
        apply RL.andB (d := 56) (dp := 59) (l' := (Sq.of [])) rfl (sK [4, 5, 6, 7, 8, 9] rfl)
        ·
          intro hb13 K13
          refine RL.p rfl (RL.callv (rright_any bw n cw nm w hn hcap (by omega)) Tryz.call14 rfl rfl rfl rfl (Lend.ownE (ob := some bw) (cap := cw) (nn := n) (by repeat (first | exact List.Mem.head _ | apply List.Mem.tail)) rfl rfl .nil) ?_)
          refine RL.p rfl ?_
          exact K13 _ (.cons rfl (sK [4, 5, 6, 7, 8, 9] rfl))
        ·
          intro hb13 K13
          refine RL.p rfl (RL.p rfl (RL.p rfl ?_))
          exact K13 _ (.cons rfl (sK [4, 5, 6, 7, 8, 9] rfl))
        refine RL.nil (NQ.seq ?_)
        refine CW.cond rfl (fun htick => ?_) (fun htick => ?_)
        · have ht3 : s.length ≤ 4000 ∧ nm = wTick ∧ rightT (nm :: w) = true := by
            simp only [Bool.and_eq_true, decide_eq_true_eq, beq_iff_eq] at htick
            exact ⟨by omega, htick.1.2, htick.2⟩
          obtain ⟨a, rfl, htv⟩ := tick_v hsp ht3.2
          rw [if_pos ht3.1, htv] at e2
          rw [htv] at htl
          refine CW.rg (RL.p rfl (RL.p rfl (RL.idxAt (j := 1) Tryz.runUnderlying27 Tryz.sizeOf9 rfl rfl rfl rfl rfl rfl (by simp only [List.length_cons, List.length_nil] at hn1; omega) ?_)))
          refine RL.load Tryz.isAgg9 rfl rfl rfl rfl (ownRd (L := [nm, a]) (j := 1) (by repeat (first | exact List.Mem.head _ | apply List.Mem.tail)) rfl) ?_
          refine RL.callvq (rbare_any a) Tryz.call15 rfl rfl rfl rfl ?_
          refine RL.bx rfl (wrapV_u64 (by omega) (by omega)) ?_
          refine RL.p rfl (RL.nil (NQ.block (NQ.seq (CW.ok [4, 5, 6, 7, 8] rfl (CW.rg (RL.p rfl (RL.bx rfl (wrapV_i64 (by omega) (by omega)) ?_)))))))
          refine RL.p rfl (RL.nil ?_)
          exact NQ.round (g := i) (i + 1) hlt' (by show (linesT t).length - (i + 1) < (linesT t).length - i; omega) (.cons rfl (.cons (by rw [e1]; rfl) (.cons (by rw [e2]; rfl) (.cons (by rw [e3]; rfl) (.cons rfl .nil))))) (fun w h => h.rea (fun _ h => h) (by repeat (first | exact Rea.nil | (apply Rea.cons; (solve | (repeat (first | exact Del.here | apply Del.there)))))))
        · have e4 : (if s.length ≤ 4000 then tickT s else 0) = 0 := by
            by_cases q : s.length ≤ 4000
            · rw [if_pos q]
              refine tick_0 hsp (fun h => ?_)
              rw [h.2, h.1, decide_eq_true (show ((s.length : Int) ≤ 4000) by omega)] at htick
              simp at htick
            · rw [if_neg q]
          rw [e4] at e2
          refine CW.skip (NQ.block (NQ.seq (CW.rg (RL.p rfl (RL.bx rfl (wrapV_i64 (by omega) (by omega)) ?_)))))
          refine RL.p rfl (RL.nil ?_)
          exact NQ.round (g := i) (i + 1) hlt' (by show (linesT t).length - (i + 1) < (linesT t).length - i; omega) (.cons rfl (.cons (by rw [e1]; rfl) (.cons (by rw [e2]; rfl) (.cons (by rw [e3]; rfl) (.cons rfl .nil))))) (fun w h => h.rea (fun _ h => h) (by repeat (first | exact Rea.nil | (apply Rea.cons; (solve | (repeat (first | exact Del.here | apply Del.there)))))))
    · have hin : i = (linesT t).length := by simp at hlt; omega
      subst hin
      have e1 : cntT (linesT t) (linesT t).length = (linesT t).countP saysT := by rw [cntT, List.take_length]
      have e2 : tkT (linesT t) (linesT t).length = ((linesT t).map tickS).sum := by rw [tkT, List.take_length]
      have hmu : (decide ((cntT (linesT t) (linesT t).length : Int) > 300) || ((linesT t).take (linesT t).length).any longB || decide ((tkT (linesT t) (linesT t).length : Int) > 5000)) = muchT (linesT t) := by
        have q : ∀ (a b : Nat), decide ((a : Int) > (b : Int)) = decide (b < a) := fun a b => by
          rw [Bool.eq_iff_iff, decide_eq_true_eq, decide_eq_true_eq]; omega
        rw [muchT, e1, e2, List.take_length]
        rw [show decide (((linesT t).countP saysT : Int) > 300) = decide (300 < (linesT t).countP saysT) from q _ 300, show decide ((((linesT t).map tickS).sum : Int) > 5000) = decide (5000 < ((linesT t).map tickS).sum) from q _ 5000]
        rw [Bool.or_comm (decide _) (List.any _ _), Bool.or_assoc]
        rfl
      refine CW.exit (XQ.seq (XQ.seq (XQ.hit (NQ.seq (CW.seq (CW.seq (CW.rg (RL.p rfl (RL.p rfl (RL.p rfl ?_))))))))))
      apply RL.orB (d := 68) (dp := 70) (l' := (Sq.of [5, 6, 7, 8])) rfl (sK [4, 5, 6] rfl)
      ·
        intro hb3 K3
        refine RL.p rfl (RL.p rfl ?_)
        exact K3 _ (.cons rfl (sK [4, 5, 6] rfl))
      ·
        intro hb3 K3
        refine RL.p rfl (RL.p rfl ?_)
        exact K3 _ (.cons rfl (sK [4, 5, 6] rfl))
      refine RL.p rfl ?_
      apply RL.orB (d := 71) (dp := 74) (l' := (Sq.of [])) rfl (sK [4, 5] rfl)
      ·
        intro hb6 K6
        refine RL.p rfl (RL.p rfl (RL.p rfl ?_))
        exact K6 _ (.cons rfl (sK [4, 5] rfl))
      ·
        intro hb6 K6
        refine RL.p rfl (RL.p rfl (RL.p rfl ?_))
        exact K6 _ (.cons rfl (sK [4, 5] rfl))
      refine RL.nil (NQ.seq ?_)
      refine CW.cond rfl (fun hm => ?_) (fun hm => ?_)
      · have hmu' : muchT (linesT t) = true := by rw [← hmu]; exact hm
        have e : chkT t = (0, 1) := by rw [chkT, if_neg h0', hmu']; rfl
        refine CW.seq (CW.rg (RL.p rfl (RL.p rfl (RL.nil (NQ.seq (CW.ret (RQ.seq ?_)))))))
        exact RQ.post (res2 rfl rfl rfl) (.drop .nil) ⟨by rw [chkV, e]; rfl, rfl, rfl⟩
      · have hmu' : muchT (linesT t) = false := by rw [← hmu]; exact hm
        have e : chkT t = match firstB (linesT t) 0 with
          | some k => (k, 2)
          | none => ((linesT t).countP saysT, 0) := by rw [chkT, if_neg h0', hmu']; rfl
        refine CW.skip (NQ.seq (CW.seq (CW.seq (CW.rg (RL.p rfl (RL.nil (NQ.seq (CW.block ?_))))))))
        refine CW.loop (γ := Nat) (fun i => i ≤ (linesT t).length ∧ firstB ((linesT t).drop i) i = firstB (linesT t) 0) (fun i => [(4, .slice (some ⟨b, 0, none⟩) (linesT t).length c), (5, .int .i64 (cntT (linesT t) (linesT t).length : Int)), (10, .int .i64 (i : Int))])
          (fun _ => []) (fun _ => [own (some b) cap 9 1 N ((splL 10#8 t).map strV)]) (fun i => (linesT t).length - i) 0 ⟨by omega, rfl⟩ (.cons rfl (.cons rfl (.cons rfl .nil))) (fun w h => h) ?_
        rintro i ⟨hi2, hfb⟩
        refine CW.seq (CW.seq (CW.rg (RL.p rfl (RL.p rfl (RL.lenS Tryz.runUnderlying27 rfl rfl rfl rfl (RL.p rfl (RL.nil (NQ.seq ?_))))))))
        refine CW.cond rfl (fun hlt2 => ?_) (fun hlt2 => ?_)
        · have hlt' : i < (linesT t).length := by simp at hlt2; omega
          have hs : (linesT t)[i]? = some ((linesT t)[i]'hlt') := List.getElem?_eq_getElem hlt'
          have hdr : (linesT t).drop i = (linesT t)[i]'hlt' :: (linesT t).drop (i + 1) := List.drop_eq_getElem_cons hlt'
          have hmem := List.getElem_mem hlt'
          generalize (linesT t)[i]'hlt' = s at hs hmem hdr
          have hs2 : (splL 10#8 t)[i]? = some s := by rw [hget i hlt', hs]
          have hsl := hlm s hmem
          rw [hdr, firstB_cons] at hfb
          have hlen := splL_len (c := 32#8) s
          have hct : s.count 32#8 ≤ s.length := List.count_le_length
          obtain ⟨nm, w, hsp⟩ : ∃ nm w, splL 32#8 s = nm :: w := by
            cases h : splL 32#8 s with
            | nil => exact absurd h (splL_ne s)
            | cons nm w => exact ⟨nm, w, rfl⟩
          have hR := rspl_any 32#8 s (by omega)
          rw [hsp] at hR hlen
          generalize hn : (nm :: w).length = n at hR hlen
          have hn1 : w.length + 1 = n := hn
          refine CW.skip (NQ.seq (CW.seq (CW.block (CW.seq (CW.region (ef := [10]) (bk := [10]) (RL.p rfl (RL.p rfl (RL.idxAt (j := i) Tryz.runUnderlying27 Tryz.sizeOf9 rfl rfl rfl rfl rfl rfl hlt' (RL.load Tryz.isAgg9 rfl rfl rfl rfl (ownRd (by repeat (first | exact List.Mem.head _ | apply List.Mem.tail)) hs2) ?_)))))))))
          refine RL.callvq (rsays_any s) Tryz.call12 rfl rfl rfl rfl ?_
          refine RL.p rfl ?_
          refine RL.part (d := 86) rfl (fun hsay => ?_) (fun hsay => ?_)
          · have hs1 : saysT s = true := hsay
            have hbt : badT s = !rightT (nm :: w) := by rw [badT, hs1, hsp]; rfl
            rw [hbt] at hfb
            refine RL.p rfl (RL.p rfl (RL.idxAt (j := i) Tryz.runUnderlying27 Tryz.sizeOf9 rfl rfl rfl rfl rfl rfl hlt' (RL.load Tryz.isAgg9 rfl rfl rfl rfl (ownRd (by repeat (first | exact List.Mem.head _ | apply List.Mem.tail)) hs2) ?_)))
            refine RL.callq (hR) Tryz.call13 rfl rfl rfl rfl rfl (.inr rfl) ?_
            rintro _ _ _ ⟨bw, cw, hcap, rfl, rfl, rfl⟩
            rw [hn] at hcap ⊢
            refine RL.callv (rright_any bw n cw nm w hn hcap (by omega)) Tryz.call14 rfl rfl rfl rfl (Lend.ownE (ob := some bw) (cap := cw) (nn := n) (by repeat (first | exact List.Mem.head _ | apply List.Mem.tail)) rfl rfl .nil) ?_
            refine RL.p rfl (RL.p rfl (RL.nil (NQ.seq (CW.ok [4, 5, 10, 94] rfl ?_))))
            refine CW.cond rfl (fun hbad => ?_) (fun hbad => ?_)
            · have hb : (!rightT (nm :: w)) = true := hbad
              rw [hb] at hfb
              have e2 : chkT t = (i + 1, 2) := by rw [e, ← hfb]; rfl
              refine CW.seq (CW.rg (RL.p rfl (RL.bx rfl (wrapV_i64 (by omega) (by omega)) ?_)))
              refine RL.p rfl (RL.p rfl (RL.nil (NQ.seq (CW.ret (RQ.block (RQ.seq (RQ.seq (RQ.block (RQ.seq ?_)))))))))
              exact RQ.post (res2 rfl rfl rfl) (.drop (.drop .nil)) ⟨by rw [chkV, e2]; rfl, rfl, rfl⟩
            · have hb : (!rightT (nm :: w)) = false := hbad
              rw [hb] at hfb
              refine CW.skip (NQ.block (NQ.seq (CW.rg (RL.p rfl (RL.bx rfl (wrapV_i64 (by omega) (by omega)) ?_)))))
              refine RL.p rfl (RL.nil ?_)
              exact NQ.round (g := i) (i + 1) ⟨hlt', hfb⟩ (by show (linesT t).length - (i + 1) < (linesT t).length - i; omega) (.cons rfl (.cons rfl (.cons rfl .nil))) (fun w h => h.rea (fun _ h => h) (by repeat (first | exact Rea.nil | (apply Rea.cons; (solve | (repeat (first | exact Del.here | apply Del.there)))))))
          · have hs1 : saysT s = false := hsay
            have hbt : badT s = false := by rw [badT, hs1]; rfl
            rw [hbt] at hfb
            refine RL.p rfl (RL.p rfl (RL.p rfl (RL.p rfl (RL.p rfl (RL.p rfl (RL.p rfl (RL.p rfl (RL.nil (NQ.seq (CW.ok [4, 5, 10, 94] rfl (CW.condF rfl rfl (CW.skip (NQ.block ?_)))))))))))))
            refine NQ.seq (CW.rg (RL.p rfl (RL.bx rfl (wrapV_i64 (by omega) (by omega)) ?_)))
            refine RL.p rfl (RL.nil ?_)
            exact NQ.round (g := i) (i + 1) ⟨hlt', hfb⟩ (by show (linesT t).length - (i + 1) < (linesT t).length - i; omega) (.cons rfl (.cons rfl (.cons rfl .nil))) (fun w h => h.rea (fun _ h => h) (by repeat (first | exact Rea.nil | (apply Rea.cons; (solve | (repeat (first | exact Del.here | apply Del.there)))))))
        · have hin : i = (linesT t).length := by simp at hlt2; omega
          subst hin
          rw [List.drop_length] at hfb
          have e2 : chkT t = ((linesT t).countP saysT, 0) := by rw [e, ← hfb]; rfl
          refine CW.exit (XQ.seq (XQ.seq (XQ.hit (NQ.seq (CW.ok [5] rfl (CW.seq (CW.rg (RL.p rfl (RL.p rfl (RL.p rfl (RL.nil (NQ.seq (CW.ret ?_)))))))))))))
          exact RQ.post (res2 rfl rfl rfl) (.drop .nil) ⟨by rw [chkV, e2, ← e1]; rfl, rfl, rfl⟩
end Go.Proofs.YtpaemkemknfmfaaGreatDoor
